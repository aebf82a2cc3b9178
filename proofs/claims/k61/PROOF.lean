import PyProof.Rows.All
import PySem.Challenge.RW_drawnmore_k61_libraries_made_and_refused
import HandS.ForMost
import HandS.ForExc
import HandS.Wide
import HandS.Slots
import HandS.Lambda
import HandS.ExcCtx
import HandS.HotCalls
import KE.GoesEnum
import KE.GoesZip
import KE.GoesMore
import HandS.ExcOwn
import HandS.CallSlots
import HandS.Property
import HandS.WideBits
import HandS.WideMore
import HandS.TupAny
import HandS.TupMul
import HandS.Deep
import KE.KTupSum
import HandS.ExcInit
import KE.KExcInit
import PyProof.Rows.RaiseClass
import HandS.TryMany
import HandS.ExcField
import HandS.ExcIs
import HandS.Star
import HandS.Dict
import HandS.DictComp
import HandS.More
import PyProof.DictUpdate
import PyProof.DictDisplay
import KE.KOpsOwn
import HandS.SlotsOwn
import HandS.IsInst
import HandS.FStr
import HandS.Text
import HandS.RaiseMore
import PyProof.ReprRoads
import PyProof.ReprHeadsTuple
import HandS.Defaults
import HandS.Words
import HandS.HeadHook2
import HandS.HeadHook4
import PyProof.ExcBaseAll.ArithmeticError
import PyProof.ExcBaseAll.LookupError
import HandS.HeadNt
import HandS.Head0
import HandS.Head1
import HandS.Head2
import HandS.HeadEnd
import HandS.HeadWalk
import KE.KWithOwn
import KE.KCallOwn
import KE.DataFind
import HandS.Style
import HandS.SetFor
set_option Elab.async false
set_option linter.all false
set_option maxRecDepth 100000
set_option maxHeartbeats 0
set_option autoImplicit false
/-! what the head needs -/
namespace ML
open PySem PySem.Spec PyProof.Rows L2
open PySem.W (exmOne exmAny findIn specialIn takesIn subIn mroIn hasDictIn clsIn)
abbrev ExT := List (Str × Str × Bool)
def ExOk (K : PySem.W.Frag) (mg : Str → Option Value) (E : ExT) : Prop := ∀ p ∈ E, ∃ a b, mg p.1 = some (.ref a) ∧ mg p.2.1 = some (.ref b) ∧ exmOne K (.ref a) (.ref b) = some p.2.2 ∧ PySem.W.kitOne K (.ref a) (.ref b) = some p.2.2
structure XK1 (K : PySem.W.Frag) (C : Addr) : Prop where
  ga : findIn K (.ref C) "__getattribute__" = some (some (.builtin "BaseException.__getattribute__"))
  gg : findIn K (.ref C) "__getattr__" = some none
  be : subIn K (.ref C) (.type "BaseException") = some true
  dc : hasDictIn K C = true
  cl : findIn K (.ref C) "__class__" = some (some (.builtin "object.__class__"))
  gt : specialIn K (.builtin "object.__class__") "__get__" = some (some (.builtin "getset_descriptor.__get__"))
  tk : takesIn K (.builtin "object.__class__") = some true
  mo : mroIn K C (.type "object") = some true
inductive TD where
  | ty (n : String) | own (C : Str)
  deriving DecidableEq
def tdV (mg : Str → Option Value) : TD → Value → Prop
  | .ty n, u => u = .type n
  | .own C, u => ∃ a, mg C = some (.ref a) ∧ u = .ref a
abbrev IsT := List (TD × TD × Bool)
def IsOk (K : PySem.W.Frag) (mg : Str → Option Value) (E : IsT) : Prop := ∀ p ∈ E, ∃ a b, tdV mg p.1 a ∧ tdV mg p.2.1 b ∧ PySem.W.kitOne K a b = some p.2.2
structure IcOk (K : PySem.W.Frag) (C : Addr) : Prop where
  cl : Cls K C
  ha : PySem.W.findIn K (.ref C) "__class__" = some (some (.builtin "object.__class__"))
  hn : PySem.W.specialIn K (.builtin "object.__class__") "__get__" = some (some (.builtin "getset_descriptor.__get__"))
  ht : PySem.W.takesIn K (.builtin "object.__class__") = some true
  hm : PySem.W.mroIn K C (.type "object") = some true
end ML
/-! the text M42 -/
/-! M42: the head's facts, looked at. -/
namespace ML
open PySem PySem.Spec PyProof.Rows L2
open PySem.W (Frag findIn specialIn takesIn subIn mroIn hasDictIn clsIn typeIn keepIn isFn fnIn noSeq plainGet plainOver isClsIn recIn slotIn makesIn notFirst excIn kitOne exmOne nsIn)
section
variable {K : Frag} {C g p : Addr} {f m : Str}
theorem band {a b : Bool} (h : (a && b) = true) : a = true ∧ b = true := Bool.and_eq_true_iff.mp h
def qCls (K : Frag) (C : Addr) : Bool := plainGet K C Str.empty && (hasDictIn K C && (plainOver K C && decide (findIn K (.ref C) "__setattr__" = some (some (.builtin "object.__setattr__")))))
theorem qCls_ok (h : qCls K C = true) : Cls K C := by
  obtain ⟨h1, h⟩ := band h
  obtain ⟨h2, h⟩ := band h
  obtain ⟨h3, h4⟩ := band h
  exact ⟨h1, h2, h3, of_decide_eq_true h4⟩
def qSCls (K : Frag) (C : Addr) : Bool := plainGet K C Str.empty && (isClsIn K C && (plainOver K C && decide (findIn K (.ref C) "__setattr__" = some (some (.builtin "object.__setattr__")))))
theorem qSCls_ok (h : qSCls K C = true) : SlX.SCls K C := by
  obtain ⟨h1, h⟩ := band h
  obtain ⟨h2, h⟩ := band h
  obtain ⟨h3, h4⟩ := band h
  exact ⟨h1, h2, h3, of_decide_eq_true h4⟩
def qNo (K : Frag) (C : Addr) (f : Str) : Bool := decide (findIn K (.ref C) f = some none)
theorem qNo_ok (h : qNo K C f = true) : NoAttr K C f := (of_decide_eq_true h : findIn K (.ref C) f = some none)
def atA (K : Frag) (C : Addr) (f : Str) : Addr := match findIn K (.ref C) f with
  | some (some (.ref p)) => p
  | _ => 0
def qSlot (K : Frag) (C : Addr) (f : Str) (i : Nat) : Bool := decide (findIn K (.ref C) f = some (some (.ref (atA K C f)))) && (decide (specialIn K (.ref (atA K C f)) "__get__" = some (some (.builtin "member_descriptor.__get__"))) &&
  (decide (takesIn K (.ref (atA K C f)) = some true) && (decide (typeIn K (.ref (atA K C f)) = some (.type "member_descriptor")) && (decide (slotIn K (atA K C f) C = some i) && decide (i < 1000)))))
theorem qSlot_ok {i : Nat} (h : qSlot K C f i = true) : ∃ sp, SlX.Slot1 K C f sp i := by
  obtain ⟨h1, h⟩ := band h
  obtain ⟨h2, h⟩ := band h
  obtain ⟨h3, h⟩ := band h
  obtain ⟨h4, h⟩ := band h
  obtain ⟨h5, h6⟩ := band h
  exact ⟨_, of_decide_eq_true h1, of_decide_eq_true h2, of_decide_eq_true h3, of_decide_eq_true h4, of_decide_eq_true h5, of_decide_eq_true h6⟩
def qProp (K : Frag) (C : Addr) (f : Str) (g : Addr) : Bool := decide (findIn K (.ref C) f = some (some (.ref (atA K C f)))) && (decide (specialIn K (.ref (atA K C f)) "__get__" = some (some (.builtin "property.__get__"))) &&
  (decide (takesIn K (.ref (atA K C f)) = some true) && (match recIn K (atA K C f) "property" with
    | some (v :: _) => decide (v = .ref g)
    | _ => false)))
theorem qProp_ok (h : qProp K C f g = true) : ∃ pp, PropOf K C f pp g := by
  obtain ⟨h1, h⟩ := band h
  obtain ⟨h2, h⟩ := band h
  obtain ⟨h3, h4⟩ := band h
  refine ⟨_, of_decide_eq_true h1, of_decide_eq_true h2, of_decide_eq_true h3, ?_⟩
  split at h4
  · rename_i v rest e
    rw [of_decide_eq_true h4] at e
    exact ⟨rest, e⟩
  · cases h4
def qMeth (K : Frag) (C : Addr) (m : Str) (g : Addr) : Bool := decide (findIn K (.ref C) m = some (some (.ref g))) && (isFn K (.ref g) && keepIn K (.ref g))
theorem qMeth_ok (h : qMeth K C m g = true) : Meth K C m g := by
  obtain ⟨h1, h⟩ := band h
  obtain ⟨h2, h3⟩ := band h
  exact ⟨of_decide_eq_true h1, h2, h3⟩
def qDun (K : Frag) (C : Addr) (m : Str) (g : Addr) : Bool := decide (findIn K (.ref C) m = some (some (.ref g))) && (isFn K (.ref g) && (fnIn K g && noSeq K C))
theorem qDun_ok (h : qDun K C m g = true) : findIn K (.ref C) m = some (some (.ref g)) ∧ isFn K (.ref g) = true ∧ fnIn K g = true ∧ noSeq K C = true := by
  obtain ⟨h1, h⟩ := band h
  obtain ⟨h2, h⟩ := band h
  obtain ⟨h3, h4⟩ := band h
  exact ⟨of_decide_eq_true h1, h2, h3, h4⟩
def qMk (K : Frag) (C g : Addr) : Bool := makesIn K C && (decide (findIn K (.ref C) "__init__" = some (some (.ref g))) && (isFn K (.ref g) && keepIn K (.ref C)))
theorem qMk_ok (h : qMk K C g = true) : Mk K C g := by
  obtain ⟨h1, h⟩ := band h
  obtain ⟨h2, h⟩ := band h
  obtain ⟨h3, h4⟩ := band h
  exact ⟨h1, of_decide_eq_true h2, h3, h4⟩
def qOp (K : Frag) (C : Addr) (m : Str) (g : Addr) : Bool := decide (findIn K (.ref C) m = some (some (.ref g))) && isFn K (.ref g)
theorem qOp_ok (h : qOp K C m g = true) : findIn K (.ref C) m = some (some (.ref g)) ∧ isFn K (.ref g) = true := by
  obtain ⟨h1, h2⟩ := band h
  exact ⟨of_decide_eq_true h1, h2⟩
def qX0 (K : Frag) (C : Addr) (bm : List Value) (nw : String) : Bool := excIn K C bm nw && (decide (typeIn K (.ref C) = some (.type "type")) && (decide (subIn K (.ref C) (.ref C) = some true) && decide (subIn K (.ref C) (.type "BaseException") = some true)))
theorem qX0_ok {bm : List Value} {nw : String} (h : qX0 K C bm nw = true) : excIn K C bm nw = true ∧ typeIn K (.ref C) = some (.type "type") ∧ subIn K (.ref C) (.ref C) = some true ∧ subIn K (.ref C) (.type "BaseException") = some true := by
  obtain ⟨h1, h⟩ := band h
  obtain ⟨h2, h⟩ := band h
  obtain ⟨h3, h4⟩ := band h
  exact ⟨h1, of_decide_eq_true h2, of_decide_eq_true h3, of_decide_eq_true h4⟩
def qSIsi (K : Frag) (C : Addr) : Bool := decide (findIn K (.ref C) "__class__" = some (some (.builtin "object.__class__"))) && (decide (specialIn K (.builtin "object.__class__") "__get__" = some (some (.builtin "getset_descriptor.__get__"))) && (decide (takesIn K (.builtin "object.__class__") = some true) && decide (mroIn K C (.type "object") = some true)))
theorem qSIsi_ok (h : qSIsi K C = true) : SlX.SIsi K C := by
  obtain ⟨h1, h⟩ := band h
  obtain ⟨h2, h⟩ := band h
  obtain ⟨h3, h4⟩ := band h
  exact ⟨of_decide_eq_true h1, of_decide_eq_true h2, of_decide_eq_true h3, of_decide_eq_true h4⟩
theorem qIcOk_ok (c : Cls K C) (h : qSIsi K C = true) : IcOk K C := by
  obtain ⟨h1, h⟩ := band h
  obtain ⟨h2, h⟩ := band h
  obtain ⟨h3, h4⟩ := band h
  exact ⟨c, of_decide_eq_true h1, of_decide_eq_true h2, of_decide_eq_true h3, of_decide_eq_true h4⟩
def qXk (K : Frag) (C : Addr) (f : Str) : Bool := decide (findIn K (.ref C) "__getattribute__" = some (some (.builtin "BaseException.__getattribute__"))) && (decide (findIn K (.ref C) "__getattr__" = some none) && (decide (subIn K (.ref C) (.type "BaseException") = some true) && (hasDictIn K C && (qSIsi K C && decide (findIn K (.ref C) f = some none)))))
theorem qXk_ok (h : qXk K C f = true) : XfC K C ∧ findIn K (.ref C) f = some none ∧ XK1 K C := by
  obtain ⟨h1, h⟩ := band h
  obtain ⟨h2, h⟩ := band h
  obtain ⟨h3, h⟩ := band h
  obtain ⟨h4, h⟩ := band h
  obtain ⟨h5, h6⟩ := band h
  obtain ⟨a1, h5⟩ := band h5
  obtain ⟨a2, h5⟩ := band h5
  obtain ⟨a3, a4⟩ := band h5
  exact ⟨⟨of_decide_eq_true h1, of_decide_eq_true h2, of_decide_eq_true h3, h4⟩, of_decide_eq_true h6, ⟨of_decide_eq_true h1, of_decide_eq_true h2, of_decide_eq_true h3, h4, of_decide_eq_true a1, of_decide_eq_true a2, of_decide_eq_true a3, of_decide_eq_true a4⟩⟩
end
section
variable {K : Frag} {h : Heap} {mg : Str → Option Value}
def qGlo (K : Frag) (x : Str) : Bool := decide (nsIn K mainGlobals x = some (some (.ref (He.ga K x))))
theorem qGlo_ok (X : K.In h) (G : h.Ns mainGlobals mg) {x : Str} (q : qGlo K x = true) : mg x = some (.ref (He.ga K x)) := PySem.W.mg_of X G (of_decide_eq_true q)
def qFree (K : Frag) (x : Str) : Bool := decide (nsIn K mainGlobals x = some none)
theorem qFree_ok (X : K.In h) (G : h.Ns mainGlobals mg) {x : Str} (q : qFree K x = true) : mg x = none := PySem.W.mg_none_of X G (of_decide_eq_true q)
def qAll (l : List Bool) : Bool := l.all id
theorem qAll_at {l : List Bool} (h : qAll l = true) (i : Nat) {b : Bool} (e : l[i]? = some b := by rfl) : b = true := List.all_eq_true.mp h b (List.mem_of_getElem? e)
def tdA (K : Frag) : TD → Value
  | .ty n => .type n
  | .own C => .ref (He.ga K C)
def tdB (K : Frag) : TD → Bool
  | .ty _ => true
  | .own C => qGlo K C
theorem tdB_ok (X : K.In h) (G : h.Ns mainGlobals mg) {t : TD} (q : tdB K t = true) : tdV mg t (tdA K t) := by
  cases t with
  | ty n => rfl
  | own C => exact ⟨_, qGlo_ok X G q, rfl⟩
def qIs (K : Frag) (E : IsT) : Bool := E.all fun p => tdB K p.1 && (tdB K p.2.1 && decide (kitOne K (tdA K p.1) (tdA K p.2.1) = some p.2.2))
theorem qIs_ok (X : K.In h) (G : h.Ns mainGlobals mg) {E : IsT} (q : qIs K E = true) : IsOk K mg E := fun p hp => by
  obtain ⟨h1, h2⟩ := band (List.all_eq_true.mp q p hp)
  obtain ⟨h2, h3⟩ := band h2
  exact ⟨_, _, tdB_ok X G h1, tdB_ok X G h2, of_decide_eq_true h3⟩
def qEx (K : Frag) (E : ExT) : Bool := E.all fun p => qGlo K p.1 && (qGlo K p.2.1 && (decide (exmOne K (.ref (He.ga K p.1)) (.ref (He.ga K p.2.1)) = some p.2.2) && decide (kitOne K (.ref (He.ga K p.1)) (.ref (He.ga K p.2.1)) = some p.2.2)))
theorem qEx_ok (X : K.In h) (G : h.Ns mainGlobals mg) {E : ExT} (q : qEx K E = true) : ExOk K mg E := fun p hp => by
  obtain ⟨h1, h2⟩ := band (List.all_eq_true.mp q p hp)
  obtain ⟨h2, h3⟩ := band h2
  obtain ⟨h3, h4⟩ := band h3
  exact ⟨_, _, qGlo_ok X G h1, qGlo_ok X G h2, of_decide_eq_true h3, of_decide_eq_true h4⟩
def qCi (K : Frag) (l : List Str) : Bool := l.all fun C => qGlo K C && (qCls K (He.ga K C) && qSIsi K (He.ga K C))
theorem qCi_ok (X : K.In h) (G : h.Ns mainGlobals mg) {l : List Str} (q : qCi K l = true) : ∀ C ∈ l, ∃ Ca, mg C = some (.ref Ca) ∧ IcOk K Ca := fun C hC => by
  obtain ⟨h1, h2⟩ := band (List.all_eq_true.mp q C hC)
  obtain ⟨h2, h3⟩ := band h2
  exact ⟨_, qGlo_ok X G h1, qIcOk_ok (qCls_ok h2) h3⟩
def qCs (K : Frag) (l : List Str) : Bool := l.all fun C => qGlo K C && (qSCls K (He.ga K C) && qSIsi K (He.ga K C))
theorem qCs_ok (X : K.In h) (G : h.Ns mainGlobals mg) {l : List Str} (q : qCs K l = true) : ∀ C ∈ l, ∃ Ca, mg C = some (.ref Ca) ∧ SlX.SCls K Ca ∧ SlX.SIsi K Ca := fun C hC => by
  obtain ⟨h1, h2⟩ := band (List.all_eq_true.mp q C hC)
  obtain ⟨h2, h3⟩ := band h2
  exact ⟨_, qGlo_ok X G h1, qSCls_ok h2, qSIsi_ok h3⟩
def qTupI (K : Frag) (x : Str) (ns : List Int) : Bool := He.tupB K x (ns.map He.Dv.int)
theorem qTupI_ok {x : Str} {ns : List Int} (q : qTupI K x ns = true) (H : Hp) : SqT K H (He.ga K x) (ns.map V.int) := by
  have := He.tupB_ok q H
  rw [List.map_map] at this
  exact this
def qInt (K : Frag) (x : Str) (i : Int) : Bool := (He.Fa.int x i).ok K
theorem qInt_ok (X : K.In h) (G : h.Ns mainGlobals mg) {x : Str} {i : Int} (q : qInt K x i = true) : ∃ t, mg x = some (.int i t) := He.int_ok X G q
def qStr (K : Frag) (x z : Str) : Bool := (He.Fa.str x z).ok K
theorem qStr_ok (X : K.In h) (G : h.Ns mainGlobals mg) {x z : Str} (q : qStr K x z = true) : ∃ t, mg x = some (.str z t) := He.str_ok X G q
end
end ML
/-! the text M43 -/
/-! M43: the Hook: defs by their addresses, one Bool, tables. -/
namespace ML
open PySem PySem.Spec PyProof.Rows L2
open PySem.W (Frag)
/-- the getter of a property -/
def prA (K : Frag) (C f : Str) : Addr := match PySem.W.recIn K (atA K (He.ga K C) f) "property" with
  | some (.ref g :: _) => g
  | _ => 0
structure SaysZ (fn : List He5.DefA) (tf : List He.Defn) (ex : Frag → Bool) (h : Heap) (K : Frag) : Prop where
  says : He5.SaysA [] fn K
  more : ex K = true
  hd : ∀ p ∈ tf, PySem.W.codeHdIn K (He.cT K p).1 (He.cT K p).2 = true
  out : ∀ p ∈ tf, K.lookup (He.cT K p).2 = none
  empty : ∀ p ∈ tf, h.get? (He.cT K p).2 = some { cls := .none, data := .fields #[] }
abbrev AlZ : Type := He.AlD × Bool
def obsZ (as : List Addr) (fn : List He5.DefA) (tf : List He.Defn) (ex : Frag → Bool) (g : Addr → Option Obj) : AlZ := (He5.obsA [] fn (He.frT g as), ex (He.frT g as) && He.tabsB g tf (He.frT g as))
def valZ (fn : List He5.DefA) : AlZ := (He5.valA fn, true)
theorem saysZ_of {as : List Addr} {fn : List He5.DefA} {tf : List He.Defn} {ex : Frag → Bool} {h : Heap} (e : obsZ as fn tf ex h.get? = valZ fn) : SaysZ fn tf ex h (He.frT h.get? as) := by
  have e1 : He5.obsA [] fn (He.frT h.get? as) = He5.valA fn := congrArg (fun z : AlZ => z.1) e
  have e2 : (ex (He.frT h.get? as) && He.tabsB h.get? tf (He.frT h.get? as)) = true := congrArg (fun z : AlZ => z.2) e
  obtain ⟨h1, h2⟩ := band e2
  have key : ∀ p ∈ tf, PySem.W.codeHdIn (He.frT h.get? as) (He.cT (He.frT h.get? as) p).1 (He.cT (He.frT h.get? as) p).2 = true ∧ ∃ o, h.get? (He.cT (He.frT h.get? as) p).2 = some o ∧ He.emptyTab o = true := fun p hp => by
    obtain ⟨h3, h4⟩ := band (List.all_eq_true.mp h2 p hp)
    refine ⟨h3, ?_⟩
    cases q : h.get? (He.cT (He.frT h.get? as) p).2 with
    | none =>
      rw [q] at h4
      cases h4
    | some o =>
      rw [q] at h4
      exact ⟨o, rfl, h4⟩
  exact ⟨e1, h1, fun p hp => (key p hp).1, fun p hp => by
    obtain ⟨_, o, q, z⟩ := key p hp
    exact He.frT_none q z, fun p hp => by
    obtain ⟨_, o, q, z⟩ := key p hp
    rw [q, He.emptyTab_eq z]⟩
def hookZ (as : List Addr) (fn : List He5.DefA) (tf : List He.Defn) (ex : Frag → Bool) : PySem.W.Hook where
  α := AlZ
  obs := fun s => obsZ as fn tf ex s.heap.get?
  val := fun _ => valZ fn
  says := fun _ h => ∃ K : Frag, K.In h ∧ SaysZ fn tf ex h K
  of := fun _ _ e => ⟨_, He.frT_in, saysZ_of e⟩
  keeps := fun _ _ _ ⟨K, hK, c⟩ k => ⟨K, PySem.W.Frag.In.keeps hK k, ⟨c.says, c.more, c.hd, c.out, fun p hp => k _ _ (c.empty p hp)⟩⟩
theorem obsZ_eq {as : List Addr} {fn : List He5.DefA} {tf : List He.Defn} {ex : Frag → Bool} {g : Addr → Option Obj} {s : Shared} (h : ∀ a, g a = s.heap.get? a) : obsZ as fn tf ex g = (hookZ as fn tf ex).obs s := by
  have e : g = s.heap.get? := funext h
  rw [e] <;> rfl
/-! ### the head's run, its facts looked at in several runs -/
section
open PySem.W HandSHeadRun
noncomputable def kOf (as : List Addr) (s : SharedT) : Frag := He.frT (getT s) as
noncomputable abbrev endsAs (r : OpenRow) (M : Nat) (w : World) (os : OsState) : Option SharedT := endF (stepQ (denQ tabQ) r.prog w) M r.prog w os
theorem runZ_and {r : OpenRow} {q : Program} {as : List Addr} {fn : List He5.DefA} {tf : List He.Defn} {ex c : Frag → Bool} {M : Nat} {loose : List PySem.Str} {w : World}
    (h0 : RunEq r q (hookZ as fn tf ex) (fun s => obsZ as fn tf ex (getT s)) M loose w) (h1 : ∀ os, (endsAs r M w os).map (fun s => c (kOf as s)) = some true) :
    RunEq r q (hookZ as fn tf fun K => c K && ex K) (fun s => obsZ as fn tf (fun K => c K && ex K) (getT s)) M loose w := by
  intro os
  have e0 := h0 os
  have e1 := h1 os
  unfold endsAs at e1
  cases e : endF (stepQ (denQ tabQ) r.prog w) M r.prog w os with
  | none => rw [e] at e1; cases e1
  | some s =>
    rw [e] at e0 e1
    rw [Option.map_some] at e0 e1 ⊢
    have z := Option.some.inj e0
    have z1 := Option.some.inj e1
    refine congrArg some (Prod.ext (congrArg (fun y => y.1) z) (Prod.ext (congrArg (fun y => y.2.1) z) ?_))
    have d : obsZ as fn tf ex (getT s) = valZ fn := congrArg (fun y => y.2.2) z
    have d1 : He5.obsA [] fn (He.frT (getT s) as) = He5.valA fn := congrArg (fun z : AlZ => z.1) d
    have d2 : (ex (He.frT (getT s) as) && He.tabsB (getT s) tf (He.frT (getT s) as)) = true := congrArg (fun z : AlZ => z.2) d
    have e2 : c (He.frT (getT s) as) = true := z1
    show obsZ as fn tf (fun K => c K && ex K) (getT s) = valZ fn
    refine Prod.ext d1 ?_
    show ((c (He.frT (getT s) as) && ex (He.frT (getT s) as)) && He.tabsB (getT s) tf (He.frT (getT s) as)) = true
    rw [e2, Bool.true_and, d2]
end
end ML
namespace ML
open PySem PySem.Spec PyProof.Rows L2
open PySem.W (exmOne exmAny findIn specialIn takesIn subIn mroIn hasDictIn clsIn)
section
open PySem.W
variable {K : Frag} {C : Addr}
structure ExK (K : PySem.W.Frag) (C : Addr) (B newId initId : String) (bmB : List Value) (f : Str) (fI : Addr) : Prop where
  ini : PySem.W.excInitIn K C bmB newId = true
  ovr : PySem.W.excOver K C bmB = true
  dct : PySem.W.hasDictIn K C = true
  noat : PySem.W.findIn K (.ref C) f = some none
  sa : PySem.W.findIn K (.ref C) "__setattr__" = some (some (.builtin "object.__setattr__"))
  exC : PySem.W.subIn K (.ref C) (.type "BaseException") = some true
  tyC : PySem.W.typeIn K (.ref C) = some (.type "type")
  kC : PySem.W.keepIn K (.ref C) = true
  iC : PySem.W.findIn K (.ref C) "__init__" = some (some (.ref fI))
  tI : PySem.W.typeIn K (.ref fI) = some (.type "function")
def qIdn (K : Frag) (C : Addr) : Bool := decide (mroIn K C (.type "object") = some true) && (decide (findIn K (.ref C) "__eq__" = some (some (.builtin "object.__eq__"))) && decide (findIn K (.ref C) "__ne__" = some (some (.builtin "object.__ne__"))))
theorem qIdn_ok (h : qIdn K C = true) : mroIn K C (.type "object") = some true ∧ findIn K (.ref C) "__eq__" = some (some (.builtin "object.__eq__")) ∧ findIn K (.ref C) "__ne__" = some (some (.builtin "object.__ne__")) := by
  obtain ⟨h1, h⟩ := band h
  obtain ⟨h2, h3⟩ := band h
  exact ⟨of_decide_eq_true h1, of_decide_eq_true h2, of_decide_eq_true h3⟩
def qXf (K : Frag) (C fI : Addr) (bm : List Value) (nw : String) (f : Str) : Bool :=
  PySem.W.excInitIn K C bm nw && (PySem.W.excOver K C bm && (hasDictIn K C && (decide (findIn K (.ref C) f = some none) && (decide (findIn K (.ref C) "__setattr__" = some (some (.builtin "object.__setattr__"))) && (decide (subIn K (.ref C) (.type "BaseException") = some true) &&
    (decide (typeIn K (.ref C) = some (.type "type")) && (keepIn K (.ref C) && (decide (findIn K (.ref C) "__init__" = some (some (.ref fI))) && decide (typeIn K (.ref fI) = some (.type "function"))))))))))
theorem qXf_ok {K : Frag} {C fI : Addr} {B nw ini : String} {bm : List Value} {f : Str} (h : qXf K C fI bm nw f = true) : ExK K C B nw ini bm f fI := by
  obtain ⟨h1, h⟩ := band h
  obtain ⟨h2, h⟩ := band h
  obtain ⟨h3, h⟩ := band h
  obtain ⟨h4, h⟩ := band h
  obtain ⟨h5, h⟩ := band h
  obtain ⟨h6, h⟩ := band h
  obtain ⟨h7, h⟩ := band h
  obtain ⟨h8, h⟩ := band h
  obtain ⟨h9, h10⟩ := band h
  exact ⟨h1, h2, h3, of_decide_eq_true h4, of_decide_eq_true h5, of_decide_eq_true h6, of_decide_eq_true h7, h8, of_decide_eq_true h9, of_decide_eq_true h10⟩
def qXks (K : Frag) (l : List Str) (f : Str) : Bool := l.all fun C => qGlo K C && qXk K (He.ga K C) f
theorem qXks_ok {K : Frag} {h : Heap} {mg : Str → Option Value} (X : K.In h) (G : h.Ns mainGlobals mg) {l : List Str} {f : Str} (q : qXks K l f = true) : ∀ C ∈ l, ∃ Ca, mg C = some (.ref Ca) ∧ XfC K Ca ∧ findIn K (.ref Ca) f = some none ∧ XK1 K Ca := fun C hC => by
  obtain ⟨h1, h2⟩ := band (List.all_eq_true.mp q C hC)
  exact ⟨_, qGlo_ok X G h1, (qXk_ok h2).1, (qXk_ok h2).2.1, (qXk_ok h2).2.2⟩
def ciL : List Str := []
def csL : List Str := ["Row"]
def isL : IsT := [(.ty "NoneType", .ty "int", false), (.ty "NoneType", .ty "bool", false), (.ty "NoneType", .ty "str", false), (.ty "NoneType", .ty "tuple", false), (.ty "NoneType", .own "Row", false), (.ty "bool", .ty "int", true), (.ty "bool", .ty "bool", true), (.ty "bool", .ty "str", false), (.ty "bool", .ty "tuple", false), (.ty "bool", .own "Row", false), (.ty "int", .ty "int", true), (.ty "int", .ty "bool", false), (.ty "int", .ty "str", false), (.ty "int", .ty "tuple", false), (.ty "int", .own "Row", false), (.ty "str", .ty "int", false), (.ty "str", .ty "bool", false), (.ty "str", .ty "str", true), (.ty "str", .ty "tuple", false), (.ty "str", .own "Row", false), (.ty "tuple", .ty "int", false), (.ty "tuple", .ty "bool", false), (.ty "tuple", .ty "str", false), (.ty "tuple", .ty "tuple", true), (.ty "tuple", .own "Row", false), (.ty "list", .ty "int", false), (.ty "list", .ty "bool", false), (.ty "list", .ty "str", false), (.ty "list", .ty "tuple", false), (.ty "list", .own "Row", false), (.ty "dict", .ty "int", false), (.ty "dict", .ty "bool", false), (.ty "dict", .ty "str", false), (.ty "dict", .ty "tuple", false), (.ty "dict", .own "Row", false), (.own "Row", .ty "int", false), (.own "Row", .ty "bool", false), (.own "Row", .ty "str", false), (.own "Row", .ty "tuple", false), (.own "Row", .own "Row", true)]
def exL : ExT := ([("InvalidName", "InvalidName", true), ("InvalidName", "InvalidWish", false), ("InvalidName", "InvalidIndex", false), ("InvalidName", "NotRow", false), ("InvalidName", "UnknownName", false), ("InvalidName", "InUse", false), ("InvalidName", "Broken", false), ("InvalidName", "NothingToUndo", false), ("InvalidName", "WrongValue", true), ("InvalidName", "WrongName", false), ("InvalidName", "NotPossible", false), ("InvalidWish", "InvalidName", false), ("InvalidWish", "InvalidWish", true), ("InvalidWish", "InvalidIndex", false), ("InvalidWish", "NotRow", false), ("InvalidWish", "UnknownName", false)] : ExT) ++ ([("InvalidWish", "InUse", false), ("InvalidWish", "Broken", false), ("InvalidWish", "NothingToUndo", false), ("InvalidWish", "WrongValue", true), ("InvalidWish", "WrongName", false), ("InvalidWish", "NotPossible", false), ("InvalidIndex", "InvalidName", false), ("InvalidIndex", "InvalidWish", false), ("InvalidIndex", "InvalidIndex", true), ("InvalidIndex", "NotRow", false), ("InvalidIndex", "UnknownName", false), ("InvalidIndex", "InUse", false), ("InvalidIndex", "Broken", false), ("InvalidIndex", "NothingToUndo", false), ("InvalidIndex", "WrongValue", true), ("InvalidIndex", "WrongName", false)] : ExT) ++ ([("InvalidIndex", "NotPossible", false), ("NotRow", "InvalidName", false), ("NotRow", "InvalidWish", false), ("NotRow", "InvalidIndex", false), ("NotRow", "NotRow", true), ("NotRow", "UnknownName", false), ("NotRow", "InUse", false), ("NotRow", "Broken", false), ("NotRow", "NothingToUndo", false), ("NotRow", "WrongValue", true), ("NotRow", "WrongName", false), ("NotRow", "NotPossible", false), ("UnknownName", "InvalidName", false), ("UnknownName", "InvalidWish", false), ("UnknownName", "InvalidIndex", false), ("UnknownName", "NotRow", false)] : ExT) ++ ([("UnknownName", "UnknownName", true), ("UnknownName", "InUse", false), ("UnknownName", "Broken", false), ("UnknownName", "NothingToUndo", false), ("UnknownName", "WrongValue", false), ("UnknownName", "WrongName", true), ("UnknownName", "NotPossible", false), ("InUse", "InvalidName", false), ("InUse", "InvalidWish", false), ("InUse", "InvalidIndex", false), ("InUse", "NotRow", false), ("InUse", "UnknownName", false), ("InUse", "InUse", true), ("InUse", "Broken", false), ("InUse", "NothingToUndo", false), ("InUse", "WrongValue", false)] : ExT) ++ ([("InUse", "WrongName", true), ("InUse", "NotPossible", false), ("Broken", "InvalidName", false), ("Broken", "InvalidWish", false), ("Broken", "InvalidIndex", false), ("Broken", "NotRow", false), ("Broken", "UnknownName", false), ("Broken", "InUse", false), ("Broken", "Broken", true), ("Broken", "NothingToUndo", false), ("Broken", "WrongValue", false), ("Broken", "WrongName", false), ("Broken", "NotPossible", true), ("NothingToUndo", "InvalidName", false), ("NothingToUndo", "InvalidWish", false), ("NothingToUndo", "InvalidIndex", false)] : ExT) ++ ([("NothingToUndo", "NotRow", false), ("NothingToUndo", "UnknownName", false), ("NothingToUndo", "InUse", false), ("NothingToUndo", "Broken", false), ("NothingToUndo", "NothingToUndo", true), ("NothingToUndo", "WrongValue", false), ("NothingToUndo", "WrongName", false), ("NothingToUndo", "NotPossible", true)] : ExT)
def xaL : List Str := ["InvalidName", "InvalidWish", "InvalidIndex", "NotRow", "UnknownName", "InUse", "Broken", "NothingToUndo"]
def xf_given_L : List Str := ["InvalidName", "InvalidWish", "InvalidIndex", "NotRow", "UnknownName"]
def xf_index_L : List Str := ["InUse", "Broken"]
end
end ML
/-! the text W1Txt -/
/-! the law's text: facts that the head tells. Printed by gen.py. -/
namespace ML
open PySem PySem.Spec PyProof.Rows L2
def topS (i : Nat) : Stmt := PySem.Challenge.pw_drawnmore_k61_libraries_made_and_refused.main.body.getD i (.Pass ⟨0, 0, 0, 0⟩)
def clsS (i j : Nat) : Stmt := match topS i with
  | .ClassDef _ _ _ b _ _ _ _ _ _ _ => b.getD j (.Pass ⟨0, 0, 0, 0⟩)
  | _ => .Pass ⟨0, 0, 0, 0⟩
structure Txt (K : PySem.W.Frag) (mg : Str → Option Value) : Prop where
  n_bool : mg "bool" = none
  ci_ok : ∀ C ∈ ciL, ∃ Ca, mg C = some (.ref Ca) ∧ IcOk K Ca
  cs_ok : ∀ C ∈ csL, ∃ Ca, mg C = some (.ref Ca) ∧ SlX.SCls K Ca ∧ SlX.SIsi K Ca
  is_ok : IsOk K mg isL
  n_isinstance : mg "isinstance" = none
  n_int : mg "int" = none
  f_is_integer : ∃ fd, FunD K "is_integer" "is_integer" (defArgs (topS 18)) (defBody (topS 18)) (defScope (topS 18)) [] [] (He.fAd K ("is_integer", none)) fd
  g_is_integer : mg "is_integer" = some (.ref (He.ga K "is_integer"))
  k_is_integer : PySem.W.keepIn K (.ref (He.ga K "is_integer")) = true
  f_is_count : ∃ fd, FunD K "is_count" "is_count" (defArgs (topS 19)) (defBody (topS 19)) (defScope (topS 19)) [] [] (He.fAd K ("is_count", none)) fd
  s_LETTERS : ∃ t, mg "LETTERS" = some (.str "abcdefghijklmnopqrstuvwxyz" t)
  n_len : mg "len" = none
  n_str : mg "str" = none
  s_DIGITS : ∃ t, mg "DIGITS" = some (.str "0123456789" t)
  n_all : mg "all" = none
  f_is_name : ∃ fd, FunD K "is_name" "is_name" (defArgs (topS 20)) (defBody (topS 20)) (defScope (topS 20)) [] [] (He.fAd K ("is_name", none)) fd
  n_abs : mg "abs" = none
  f_shared : ∃ fd, FunD K "shared" "shared" (defArgs (topS 23)) (defBody (topS 23)) (defScope (topS 23)) [] [] (He.fAd K ("shared", none)) fd
  n_tuple : mg "tuple" = none
  g_shared : mg "shared" = some (.ref (He.ga K "shared"))
  k_shared : PySem.W.keepIn K (.ref (He.ga K "shared")) = true
  f_is_fraction : ∃ fd, FunD K "is_fraction" "is_fraction" (defArgs (topS 22)) (defBody (topS 22)) (defScope (topS 22)) [] [] (He.fAd K ("is_fraction", none)) fd
  g_is_count : mg "is_count" = some (.ref (He.ga K "is_count"))
  k_is_count : PySem.W.keepIn K (.ref (He.ga K "is_count")) = true
  n_sum : mg "sum" = none
  f_is_counts : ∃ fd, FunD K "is_counts" "is_counts" (defArgs (topS 24)) (defBody (topS 24)) (defScope (topS 24)) [] [] (He.fAd K ("is_counts", none)) fd
  f_lowest : ∃ fd, FunD K "lowest" "lowest" (defArgs (topS 27)) (defBody (topS 27)) (defScope (topS 27)) [] [] (He.fAd K ("lowest", none)) fd
  f_is_below : ∃ fd, FunD K "is_below" "is_below" (defArgs (topS 28)) (defBody (topS 28)) (defScope (topS 28)) [] [] (He.fAd K ("is_below", none)) fd
  f_plain : ∃ fd, FunD K "plain" "plain" (defArgs (topS 29)) (defBody (topS 29)) (defScope (topS 29)) [] [] (He.fAd K ("plain", none)) fd
  n_enumerate : mg "enumerate" = none
  i_MOST_DRAWS : ∃ t, mg "MOST_DRAWS" = some (.int 5 t)
  g_is_counts : mg "is_counts" = some (.ref (He.ga K "is_counts"))
  k_is_counts : PySem.W.keepIn K (.ref (He.ga K "is_counts")) = true
  f_wrong_count : ∃ fd, FunD K "wrong_count" "wrong_count" (defArgs (topS 32)) (defBody (topS 32)) (defScope (topS 32)) [] [] (He.fAd K ("wrong_count", none)) fd
  g_wrong_count : mg "wrong_count" = some (.ref (He.ga K "wrong_count"))
  k_wrong_count : PySem.W.keepIn K (.ref (He.ga K "wrong_count")) = true
  g_plain : mg "plain" = some (.ref (He.ga K "plain"))
  k_plain : PySem.W.keepIn K (.ref (He.ga K "plain")) = true
  sl_Row_own_counts : ∃ sp, SlX.Slot1 K (He.ga K "Row") "own_counts" sp 0
  g_Row : mg "Row" = some (.ref (He.ga K "Row"))
  c_Row : SlX.SCls K (He.ga K "Row")
  f_Row___init__ : ∃ fd, FunD K "__init__" "Row.__init__" (defArgs (clsS 33 1)) (defBody (clsS 33 1)) (defScope (clsS 33 1)) [] [] (He.fAd K ("Row", some "__init__")) fd
  f_Row_counts : ∃ fd, FunD K "counts" "Row.counts" (defArgs (clsS 33 3)) (defBody (clsS 33 3)) (defScope (clsS 33 3)) [] [] (prA K "Row" "counts") fd
  g_lowest : mg "lowest" = some (.ref (He.ga K "lowest"))
  k_lowest : PySem.W.keepIn K (.ref (He.ga K "lowest")) = true
  f_Row_rates : ∃ fd, FunD K "rates" "Row.rates" (defArgs (clsS 33 4)) (defBody (clsS 33 4)) (defScope (clsS 33 4)) [] [] (prA K "Row" "rates") fd
  f_row_lines : ∃ fd, FunD K "row_lines" "row_lines" (defArgs (topS 34)) (defBody (topS 34)) (defScope (topS 34)) [] [] (He.fAd K ("row_lines", none)) fd
  g_row_lines : mg "row_lines" = some (.ref (He.ga K "row_lines"))
  k_row_lines : PySem.W.keepIn K (.ref (He.ga K "row_lines")) = true
  f_Row___str__ : ∃ fd, FunD K "__str__" "Row.__str__" (defArgs (clsS 33 10)) (defBody (clsS 33 10)) (defScope (clsS 33 10)) [] [] (He.fAd K ("Row", some "__str__")) fd
  d_Row___str__ : PySem.W.findIn K (.ref (He.ga K "Row")) "__str__" = some (some (.ref (He.fAd K ("Row", some "__str__")))) ∧ PySem.W.isFn K (.ref (He.fAd K ("Row", some "__str__"))) = true ∧ PySem.W.fnIn K (He.fAd K ("Row", some "__str__")) = true ∧ PySem.W.noSeq K (He.ga K "Row") = true
  f_Row_text : ∃ fd, FunD K "text" "Row.text" (defArgs (clsS 33 6)) (defBody (clsS 33 6)) (defScope (clsS 33 6)) [] [] (prA K "Row" "text") fd
  f_Row___len__ : ∃ fd, FunD K "__len__" "Row.__len__" (defArgs (clsS 33 8)) (defBody (clsS 33 8)) (defScope (clsS 33 8)) [] [] (He.fAd K ("Row", some "__len__")) fd
  f_Row___repr__ : ∃ fd, FunD K "__repr__" "Row.__repr__" (defArgs (clsS 33 11)) (defBody (clsS 33 11)) (defScope (clsS 33 11)) [] [] (He.fAd K ("Row", some "__repr__")) fd
  f_check_row : ∃ fd, FunD K "check_row" "check_row" (defArgs (topS 36)) (defBody (topS 36)) (defScope (topS 36)) [] [] (He.fAd K ("check_row", none)) fd
  g_is_fraction : mg "is_fraction" = some (.ref (He.ga K "is_fraction"))
  k_is_fraction : PySem.W.keepIn K (.ref (He.ga K "is_fraction")) = true
  f_is_wish : ∃ fd, FunD K "is_wish" "is_wish" (defArgs (topS 76)) (defBody (topS 76)) (defScope (topS 76)) [] [] (He.fAd K ("is_wish", none)) fd
  d_Row___len__ : PySem.W.findIn K (.ref (He.ga K "Row")) "__len__" = some (some (.ref (He.fAd K ("Row", some "__len__")))) ∧ PySem.W.isFn K (.ref (He.fAd K ("Row", some "__len__"))) = true ∧ PySem.W.fnIn K (He.fAd K ("Row", some "__len__")) = true ∧ PySem.W.noSeq K (He.ga K "Row") = true
  p_Row_rates : ∃ pp, PropOf K (He.ga K "Row") "rates" pp (prA K "Row" "rates")
  ic_Row : (PySem.W.clsIn K (He.ga K "Row")).isSome = true
  t_NONE : ∀ H, SqT K H (He.ga K "NONE") (([0, 1] : List Int).map V.int)
  g_NONE : mg "NONE" = some (.ref (He.ga K "NONE"))
  g_is_below : mg "is_below" = some (.ref (He.ga K "is_below"))
  k_is_below : PySem.W.keepIn K (.ref (He.ga K "is_below")) = true
  f_keeps : ∃ fd, FunD K "keeps" "keeps" (defArgs (topS 77)) (defBody (topS 77)) (defScope (topS 77)) [] [] (He.fAd K ("keeps", none)) fd
  na_Shelf_rows : NoAttr K (He.ga K "Shelf") "rows"
  g_Shelf : mg "Shelf" = some (.ref (He.ga K "Shelf"))
  c_Shelf : Cls K (He.ga K "Shelf")
  na_Shelf_pairs : NoAttr K (He.ga K "Shelf") "pairs"
  na_Shelf_ahead : NoAttr K (He.ga K "Shelf") "ahead"
  na_Shelf_many : NoAttr K (He.ga K "Shelf") "many"
  f_Shelf___init__ : ∃ fd, FunD K "__init__" "Shelf.__init__" (defArgs (clsS 79 0)) (defBody (clsS 79 0)) (defScope (clsS 79 0)) [] [] (He.fAd K ("Shelf", some "__init__")) fd
  g_keeps : mg "keeps" = some (.ref (He.ga K "keeps"))
  k_keeps : PySem.W.keepIn K (.ref (He.ga K "keeps")) = true
  f_check_kept : ∃ fd, FunD K "check_kept" "check_kept" (defArgs (topS 80)) (defBody (topS 80)) (defScope (topS 80)) [] [] (He.fAd K ("check_kept", none)) fd
  mk_Shelf : Mk K (He.ga K "Shelf") (He.fAd K ("Shelf", some "__init__"))
  na_Library_shelf : NoAttr K (He.ga K "Library") "shelf"
  g_Library : mg "Library" = some (.ref (He.ga K "Library"))
  c_Library : Cls K (He.ga K "Library")
  f_Library___init__ : ∃ fd, FunD K "__init__" "Library.__init__" (defArgs (clsS 81 0)) (defBody (clsS 81 0)) (defScope (clsS 81 0)) [] [] (He.fAd K ("Library", some "__init__")) fd
  n_sorted : mg "sorted" = none
  f_Library_names : ∃ fd, FunD K "names" "Library.names" (defArgs (clsS 81 1)) (defBody (clsS 81 1)) (defScope (clsS 81 1)) [] [] (prA K "Library" "names") fd
  f_Library_wishes : ∃ fd, FunD K "wishes" "Library.wishes" (defArgs (clsS 81 2)) (defBody (clsS 81 2)) (defScope (clsS 81 2)) [] [] (prA K "Library" "wishes") fd
  f_Library_changes : ∃ fd, FunD K "changes" "Library.changes" (defArgs (clsS 81 3)) (defBody (clsS 81 3)) (defScope (clsS 81 3)) [] [] (prA K "Library" "changes") fd
  f_Library_become : ∃ fd, FunD K "become" "Library.become" (defArgs (clsS 81 4)) (defBody (clsS 81 4)) (defScope (clsS 81 4)) [] [] (He.fAd K ("Library", some "become")) fd
  f_Library___contains__ : ∃ fd, FunD K "__contains__" "Library.__contains__" (defArgs (clsS 81 13)) (defBody (clsS 81 13)) (defScope (clsS 81 13)) [] [] (He.fAd K ("Library", some "__contains__")) fd
  d_Library___contains__ : PySem.W.findIn K (.ref (He.ga K "Library")) "__contains__" = some (some (.ref (He.fAd K ("Library", some "__contains__")))) ∧ PySem.W.isFn K (.ref (He.fAd K ("Library", some "__contains__"))) = true ∧ PySem.W.fnIn K (He.fAd K ("Library", some "__contains__")) = true ∧ PySem.W.noSeq K (He.ga K "Library") = true
  m_Library_become : Meth K (He.ga K "Library") "become" (He.fAd K ("Library", some "become"))
  f_Library_remove : ∃ fd, FunD K "remove" "Library.remove" (defArgs (clsS 81 5)) (defBody (clsS 81 5)) (defScope (clsS 81 5)) [] [] (He.fAd K ("Library", some "remove")) fd
  g_is_wish : mg "is_wish" = some (.ref (He.ga K "is_wish"))
  k_is_wish : PySem.W.keepIn K (.ref (He.ga K "is_wish")) = true
  g_check_kept : mg "check_kept" = some (.ref (He.ga K "check_kept"))
  k_check_kept : PySem.W.keepIn K (.ref (He.ga K "check_kept")) = true
  f_Library_wish : ∃ fd, FunD K "wish" "Library.wish" (defArgs (clsS 81 6)) (defBody (clsS 81 6)) (defScope (clsS 81 6)) [] [] (He.fAd K ("Library", some "wish")) fd
  f_Library_lift : ∃ fd, FunD K "lift" "Library.lift" (defArgs (clsS 81 7)) (defBody (clsS 81 7)) (defScope (clsS 81 7)) [] [] (He.fAd K ("Library", some "lift")) fd
  g_NothingToUndo : mg "NothingToUndo" = some (.ref (He.ga K "NothingToUndo"))
  x0_NothingToUndo : PySem.W.excIn K (He.ga K "NothingToUndo") [.type "ArithmeticError", .type "Exception", .type "BaseException", .type "object"] "ArithmeticError.__new__" = true ∧ PySem.W.typeIn K (.ref (He.ga K "NothingToUndo")) = some (.type "type") ∧ PySem.W.subIn K (.ref (He.ga K "NothingToUndo")) (.ref (He.ga K "NothingToUndo")) = some true ∧ PySem.W.subIn K (.ref (He.ga K "NothingToUndo")) (.type "BaseException") = some true
  f_Library_undo : ∃ fd, FunD K "undo" "Library.undo" (defArgs (clsS 81 8)) (defBody (clsS 81 8)) (defScope (clsS 81 8)) [] [] (He.fAd K ("Library", some "undo")) fd
  f_Library___getitem__ : ∃ fd, FunD K "__getitem__" "Library.__getitem__" (defArgs (clsS 81 11)) (defBody (clsS 81 11)) (defScope (clsS 81 11)) [] [] (He.fAd K ("Library", some "__getitem__")) fd
  g_is_name : mg "is_name" = some (.ref (He.ga K "is_name"))
  k_is_name : PySem.W.keepIn K (.ref (He.ga K "is_name")) = true
  g_check_row : mg "check_row" = some (.ref (He.ga K "check_row"))
  k_check_row : PySem.W.keepIn K (.ref (He.ga K "check_row")) = true
  f_Library___setitem__ : ∃ fd, FunD K "__setitem__" "Library.__setitem__" (defArgs (clsS 81 12)) (defBody (clsS 81 12)) (defScope (clsS 81 12)) [] [] (He.fAd K ("Library", some "__setitem__")) fd
  f_Library___len__ : ∃ fd, FunD K "__len__" "Library.__len__" (defArgs (clsS 81 15)) (defBody (clsS 81 15)) (defScope (clsS 81 15)) [] [] (He.fAd K ("Library", some "__len__")) fd
  f_Library___bool__ : ∃ fd, FunD K "__bool__" "Library.__bool__" (defArgs (clsS 81 16)) (defBody (clsS 81 16)) (defScope (clsS 81 16)) [] [] (He.fAd K ("Library", some "__bool__")) fd
  f__law_vat : ∃ fd, FunD K "_law_vat" "_law_vat" (defArgs (topS 83)) (defBody (topS 83)) (defScope (topS 83)) [] [] (He.fAd K ("_law_vat", none)) fd
  n_divmod : mg "divmod" = none
  f__law_dip : ∃ fd, FunD K "_law_dip" "_law_dip" (defArgs (topS 84)) (defBody (topS 84)) (defScope (topS 84)) [] [] (He.fAd K ("_law_dip", none)) fd
  g__law_dip : mg "_law_dip" = some (.ref (He.ga K "_law_dip"))
  k__law_dip : PySem.W.keepIn K (.ref (He.ga K "_law_dip")) = true
  n_range : mg "range" = none
  f__law_counts : ∃ fd, FunD K "_law_counts" "_law_counts" (defArgs (topS 85)) (defBody (topS 85)) (defScope (topS 85)) [] [] (He.fAd K ("_law_counts", none)) fd
  ex_ok : ExOk K mg exL
  g_InUse : mg "InUse" = some (.ref (He.ga K "InUse"))
  g_Broken : mg "Broken" = some (.ref (He.ga K "Broken"))
  xf_ok_index : ∀ C ∈ xf_index_L, ∃ Ca, mg C = some (.ref Ca) ∧ XfC K Ca ∧ PySem.W.findIn K (.ref Ca) "index" = some none
  n_repr : mg "repr" = none
  xi_ok : ∀ C ∈ xaL, ∃ Ca, mg C = some (.ref Ca) ∧ XK1 K Ca
  g_InvalidName : mg "InvalidName" = some (.ref (He.ga K "InvalidName"))
  g_InvalidWish : mg "InvalidWish" = some (.ref (He.ga K "InvalidWish"))
  g_InvalidIndex : mg "InvalidIndex" = some (.ref (He.ga K "InvalidIndex"))
  g_NotRow : mg "NotRow" = some (.ref (He.ga K "NotRow"))
  g_UnknownName : mg "UnknownName" = some (.ref (He.ga K "UnknownName"))
  d_Row___repr__ : PySem.W.findIn K (.ref (He.ga K "Row")) "__repr__" = some (some (.ref (He.fAd K ("Row", some "__repr__")))) ∧ PySem.W.isFn K (.ref (He.fAd K ("Row", some "__repr__"))) = true ∧ PySem.W.fnIn K (He.fAd K ("Row", some "__repr__")) = true ∧ PySem.W.noSeq K (He.ga K "Row") = true
  xf_ok_given : ∀ C ∈ xf_given_L, ∃ Ca, mg C = some (.ref Ca) ∧ XfC K Ca ∧ PySem.W.findIn K (.ref Ca) "given" = some none
  d_Library___setitem__ : PySem.W.findIn K (.ref (He.ga K "Library")) "__setitem__" = some (some (.ref (He.fAd K ("Library", some "__setitem__")))) ∧ PySem.W.isFn K (.ref (He.fAd K ("Library", some "__setitem__"))) = true ∧ PySem.W.fnIn K (He.fAd K ("Library", some "__setitem__")) = true ∧ PySem.W.noSeq K (He.ga K "Library") = true
  f__law_store : ∃ fd, FunD K "_law_store" "_law_store" (defArgs (topS 87)) (defBody (topS 87)) (defScope (topS 87)) [] [] (He.fAd K ("_law_store", none)) fd
  mk_Library : Mk K (He.ga K "Library") (He.fAd K ("Library", some "__init__"))
  id_Library : PySem.W.mroIn K (He.ga K "Library") (.type "object") = some true ∧ PySem.W.findIn K (.ref (He.ga K "Library")) "__eq__" = some (some (.builtin "object.__eq__")) ∧ PySem.W.findIn K (.ref (He.ga K "Library")) "__ne__" = some (some (.builtin "object.__ne__"))
  d_Library___bool__ : PySem.W.findIn K (.ref (He.ga K "Library")) "__bool__" = some (some (.ref (He.fAd K ("Library", some "__bool__")))) ∧ PySem.W.isFn K (.ref (He.fAd K ("Library", some "__bool__"))) = true ∧ PySem.W.fnIn K (He.fAd K ("Library", some "__bool__")) = true ∧ PySem.W.noSeq K (He.ga K "Library") = true
  d_Library___len__ : PySem.W.findIn K (.ref (He.ga K "Library")) "__len__" = some (some (.ref (He.fAd K ("Library", some "__len__")))) ∧ PySem.W.isFn K (.ref (He.fAd K ("Library", some "__len__"))) = true ∧ PySem.W.fnIn K (He.fAd K ("Library", some "__len__")) = true ∧ PySem.W.noSeq K (He.ga K "Library") = true
  p_Library_changes : ∃ pp, PropOf K (He.ga K "Library") "changes" pp (prA K "Library" "changes")
  p_Library_wishes : ∃ pp, PropOf K (He.ga K "Library") "wishes" pp (prA K "Library" "wishes")
  p_Library_names : ∃ pp, PropOf K (He.ga K "Library") "names" pp (prA K "Library" "names")
  m_Library_undo : Meth K (He.ga K "Library") "undo" (He.fAd K ("Library", some "undo"))
  x__law_outcome : ∃ fd, FunD K "_law_outcome" "_law_outcome" (defArgs (topS 86)) (defBody (topS 86)) (defScope (topS 86)) [] [] (He.ga K "_law_outcome") fd
  g__law_outcome : mg "_law_outcome" = some (.ref (He.ga K "_law_outcome"))
  mk_Row : Mk K (He.ga K "Row") (He.fAd K ("Row", some "__init__"))
  g__law_counts : mg "_law_counts" = some (.ref (He.ga K "_law_counts"))
  k__law_counts : PySem.W.keepIn K (.ref (He.ga K "_law_counts")) = true
  g__law_store : mg "_law_store" = some (.ref (He.ga K "_law_store"))
  k__law_store : PySem.W.keepIn K (.ref (He.ga K "_law_store")) = true
  m_Library_wish : Meth K (He.ga K "Library") "wish" (He.fAd K ("Library", some "wish"))
  p_Row_counts : ∃ pp, PropOf K (He.ga K "Row") "counts" pp (prA K "Row" "counts")
  p_Row_text : ∃ pp, PropOf K (He.ga K "Row") "text" pp (prA K "Row" "text")
  d_Library___getitem__ : PySem.W.findIn K (.ref (He.ga K "Library")) "__getitem__" = some (some (.ref (He.fAd K ("Library", some "__getitem__")))) ∧ PySem.W.isFn K (.ref (He.fAd K ("Library", some "__getitem__"))) = true ∧ PySem.W.fnIn K (He.fAd K ("Library", some "__getitem__")) = true ∧ PySem.W.noSeq K (He.ga K "Library") = true
  m_Library_remove : Meth K (He.ga K "Library") "remove" (He.fAd K ("Library", some "remove"))
  m_Library_lift : Meth K (He.ga K "Library") "lift" (He.fAd K ("Library", some "lift"))
  f__law_right : ∃ fd, FunD K "_law_right" "_law_right" (defArgs (topS 88)) (defBody (topS 88)) (defScope (topS 88)) [] [] (He.fAd K ("_law_right", none)) fd
  g_WrongValue : mg "WrongValue" = some (.ref (He.ga K "WrongValue"))
  g_WrongName : mg "WrongName" = some (.ref (He.ga K "WrongName"))
  g_NotPossible : mg "NotPossible" = some (.ref (He.ga K "NotPossible"))
  g__law_right : mg "_law_right" = some (.ref (He.ga K "_law_right"))
  k__law_right : PySem.W.keepIn K (.ref (He.ga K "_law_right")) = true
  f__law_quiet : ∃ fd, FunD K "_law_quiet" "_law_quiet" (defArgs (topS 89)) (defBody (topS 89)) (defScope (topS 89)) [] [] (He.fAd K ("_law_quiet", none)) fd
  n_min : mg "min" = none
  n_max : mg "max" = none
  g__law_vat : mg "_law_vat" = some (.ref (He.ga K "_law_vat"))
  k__law_vat : PySem.W.keepIn K (.ref (He.ga K "_law_vat")) = true
  g__law_quiet : mg "_law_quiet" = some (.ref (He.ga K "_law_quiet"))
  k__law_quiet : PySem.W.keepIn K (.ref (He.ga K "_law_quiet")) = true
  f_law : ∃ fd, FunD K "law" "law" (defArgs (topS 90)) (defBody (topS 90)) (defScope (topS 90)) [] [] (He.fAd K ("law", none)) fd
  f_NotRow___init__ : ∃ fd, FunD K "__init__" "NotRow.__init__" (defArgs (clsS 7 0)) (defBody (clsS 7 0)) (defScope (clsS 7 0)) [] [] (He.fAd K ("NotRow", some "__init__")) fd
  xk_NotRow : ExK K (He.ga K "NotRow") "ValueError" "ValueError.__new__" "ValueError.__init__" [.type "ValueError", .type "Exception", .type "BaseException", .type "object"] "given" (He.fAd K ("NotRow", some "__init__"))
  f_Broken___init__ : ∃ fd, FunD K "__init__" "Broken.__init__" (defArgs (clsS 14 0)) (defBody (clsS 14 0)) (defScope (clsS 14 0)) [] [] (He.fAd K ("Broken", some "__init__")) fd
  xk_Broken : ExK K (He.ga K "Broken") "ArithmeticError" "ArithmeticError.__new__" "ArithmeticError.__init__" [.type "ArithmeticError", .type "Exception", .type "BaseException", .type "object"] "index" (He.fAd K ("Broken", some "__init__"))
  f_UnknownName___init__ : ∃ fd, FunD K "__init__" "UnknownName.__init__" (defArgs (clsS 10 0)) (defBody (clsS 10 0)) (defScope (clsS 10 0)) [] [] (He.fAd K ("UnknownName", some "__init__")) fd
  xk_UnknownName : ExK K (He.ga K "UnknownName") "LookupError" "LookupError.__new__" "LookupError.__init__" [.type "LookupError", .type "Exception", .type "BaseException", .type "object"] "given" (He.fAd K ("UnknownName", some "__init__"))
  f_InUse___init__ : ∃ fd, FunD K "__init__" "InUse.__init__" (defArgs (clsS 11 0)) (defBody (clsS 11 0)) (defScope (clsS 11 0)) [] [] (He.fAd K ("InUse", some "__init__")) fd
  xk_InUse : ExK K (He.ga K "InUse") "LookupError" "LookupError.__new__" "LookupError.__init__" [.type "LookupError", .type "Exception", .type "BaseException", .type "object"] "index" (He.fAd K ("InUse", some "__init__"))
  f_InvalidWish___init__ : ∃ fd, FunD K "__init__" "InvalidWish.__init__" (defArgs (clsS 6 0)) (defBody (clsS 6 0)) (defScope (clsS 6 0)) [] [] (He.fAd K ("InvalidWish", some "__init__")) fd
  xk_InvalidWish : ExK K (He.ga K "InvalidWish") "ValueError" "ValueError.__new__" "ValueError.__init__" [.type "ValueError", .type "Exception", .type "BaseException", .type "object"] "given" (He.fAd K ("InvalidWish", some "__init__"))
  f_InvalidIndex___init__ : ∃ fd, FunD K "__init__" "InvalidIndex.__init__" (defArgs (clsS 5 0)) (defBody (clsS 5 0)) (defScope (clsS 5 0)) [] [] (He.fAd K ("InvalidIndex", some "__init__")) fd
  xk_InvalidIndex : ExK K (He.ga K "InvalidIndex") "ValueError" "ValueError.__new__" "ValueError.__init__" [.type "ValueError", .type "Exception", .type "BaseException", .type "object"] "given" (He.fAd K ("InvalidIndex", some "__init__"))
  f_InvalidName___init__ : ∃ fd, FunD K "__init__" "InvalidName.__init__" (defArgs (clsS 4 0)) (defBody (clsS 4 0)) (defScope (clsS 4 0)) [] [] (He.fAd K ("InvalidName", some "__init__")) fd
  xk_InvalidName : ExK K (He.ga K "InvalidName") "ValueError" "ValueError.__new__" "ValueError.__init__" [.type "ValueError", .type "Exception", .type "BaseException", .type "object"] "given" (He.fAd K ("InvalidName", some "__init__"))
  g_law : mg "law" = some (.ref (He.ga K "law"))
def tabL (K : PySem.W.Frag) : List (Addr × Str) := [((He.cT K ("_law_right", none)).2, (("_law_right" : Str) ++ ".<locals>.") ++ "<lambda>")]
theorem tabL_one (K : PySem.W.Frag) {P : Addr} {q : Str} (e : tabL K = [(P, q)] := by rfl) : ∀ p ∈ tabL K, p.1 = P → p.2 = q := fun p hp _ => by rw [e] at hp; rw [List.mem_singleton.mp hp]
end ML
/-! the text W1Head -/
/-! the head: facts by names, the run of the top. Printed by gen.py. -/
namespace ML
open PySem PySem.Spec PyProof.Rows L2
def chk0 (K : PySem.W.Frag) : List Bool := [qFree K "bool",
  qCi K ciL,
  qCs K csL,
  qIs K isL,
  qFree K "isinstance",
  qFree K "int",
  qGlo K "is_integer",
  PySem.W.keepIn K (.ref (He.ga K "is_integer")),
  qStr K "LETTERS" "abcdefghijklmnopqrstuvwxyz",
  qFree K "len",
  qFree K "str",
  qStr K "DIGITS" "0123456789",
  qFree K "all",
  qFree K "abs",
  qFree K "tuple",
  qGlo K "shared",
  PySem.W.keepIn K (.ref (He.ga K "shared")),
  qGlo K "is_count",
  PySem.W.keepIn K (.ref (He.ga K "is_count")),
  qFree K "sum",
  qFree K "enumerate",
  qInt K "MOST_DRAWS" 5,
  qGlo K "is_counts",
  PySem.W.keepIn K (.ref (He.ga K "is_counts")),
  qGlo K "wrong_count",
  PySem.W.keepIn K (.ref (He.ga K "wrong_count")),
  qGlo K "plain",
  PySem.W.keepIn K (.ref (He.ga K "plain")),
  qSlot K (He.ga K "Row") "own_counts" 0,
  qGlo K "Row"]
def chk1 (K : PySem.W.Frag) : List Bool := [qSCls K (He.ga K "Row"),
  qGlo K "lowest",
  PySem.W.keepIn K (.ref (He.ga K "lowest")),
  qGlo K "row_lines",
  PySem.W.keepIn K (.ref (He.ga K "row_lines")),
  qDun K (He.ga K "Row") "__str__" (He.fAd K ("Row", some "__str__")),
  qGlo K "is_fraction",
  PySem.W.keepIn K (.ref (He.ga K "is_fraction")),
  qDun K (He.ga K "Row") "__len__" (He.fAd K ("Row", some "__len__")),
  qProp K (He.ga K "Row") "rates" (prA K "Row" "rates"),
  (PySem.W.clsIn K (He.ga K "Row")).isSome,
  qTupI K "NONE" [0, 1],
  qGlo K "NONE",
  qGlo K "is_below",
  PySem.W.keepIn K (.ref (He.ga K "is_below")),
  qNo K (He.ga K "Shelf") "rows",
  qGlo K "Shelf",
  qCls K (He.ga K "Shelf"),
  qNo K (He.ga K "Shelf") "pairs",
  qNo K (He.ga K "Shelf") "ahead",
  qNo K (He.ga K "Shelf") "many",
  qGlo K "keeps",
  PySem.W.keepIn K (.ref (He.ga K "keeps")),
  qMk K (He.ga K "Shelf") (He.fAd K ("Shelf", some "__init__")),
  qNo K (He.ga K "Library") "shelf",
  qGlo K "Library",
  qCls K (He.ga K "Library"),
  qFree K "sorted",
  qDun K (He.ga K "Library") "__contains__" (He.fAd K ("Library", some "__contains__")),
  qMeth K (He.ga K "Library") "become" (He.fAd K ("Library", some "become"))]
def chk2 (K : PySem.W.Frag) : List Bool := [qGlo K "is_wish",
  PySem.W.keepIn K (.ref (He.ga K "is_wish")),
  qGlo K "check_kept",
  PySem.W.keepIn K (.ref (He.ga K "check_kept")),
  qGlo K "NothingToUndo",
  qX0 K (He.ga K "NothingToUndo") [.type "ArithmeticError", .type "Exception", .type "BaseException", .type "object"] "ArithmeticError.__new__",
  qGlo K "is_name",
  PySem.W.keepIn K (.ref (He.ga K "is_name")),
  qGlo K "check_row",
  PySem.W.keepIn K (.ref (He.ga K "check_row")),
  qFree K "divmod",
  qGlo K "_law_dip",
  PySem.W.keepIn K (.ref (He.ga K "_law_dip")),
  qFree K "range",
  qEx K exL,
  qGlo K "InUse",
  qGlo K "Broken",
  qXks K xf_index_L "index",
  qFree K "repr",
  qXks K xaL "__nowhere",
  qGlo K "InvalidName",
  qGlo K "InvalidWish",
  qGlo K "InvalidIndex",
  qGlo K "NotRow",
  qGlo K "UnknownName",
  qDun K (He.ga K "Row") "__repr__" (He.fAd K ("Row", some "__repr__")),
  qXks K xf_given_L "given",
  qDun K (He.ga K "Library") "__setitem__" (He.fAd K ("Library", some "__setitem__")),
  qMk K (He.ga K "Library") (He.fAd K ("Library", some "__init__")),
  qIdn K (He.ga K "Library")]
def chk3 (K : PySem.W.Frag) : List Bool := [qDun K (He.ga K "Library") "__bool__" (He.fAd K ("Library", some "__bool__")),
  qDun K (He.ga K "Library") "__len__" (He.fAd K ("Library", some "__len__")),
  qProp K (He.ga K "Library") "changes" (prA K "Library" "changes"),
  qProp K (He.ga K "Library") "wishes" (prA K "Library" "wishes"),
  qProp K (He.ga K "Library") "names" (prA K "Library" "names"),
  qMeth K (He.ga K "Library") "undo" (He.fAd K ("Library", some "undo")),
  qGlo K "_law_outcome",
  qMk K (He.ga K "Row") (He.fAd K ("Row", some "__init__")),
  qGlo K "_law_counts",
  PySem.W.keepIn K (.ref (He.ga K "_law_counts")),
  qGlo K "_law_store",
  PySem.W.keepIn K (.ref (He.ga K "_law_store")),
  qMeth K (He.ga K "Library") "wish" (He.fAd K ("Library", some "wish")),
  qProp K (He.ga K "Row") "counts" (prA K "Row" "counts"),
  qProp K (He.ga K "Row") "text" (prA K "Row" "text"),
  qDun K (He.ga K "Library") "__getitem__" (He.fAd K ("Library", some "__getitem__")),
  qMeth K (He.ga K "Library") "remove" (He.fAd K ("Library", some "remove")),
  qMeth K (He.ga K "Library") "lift" (He.fAd K ("Library", some "lift")),
  qGlo K "WrongValue",
  qGlo K "WrongName",
  qGlo K "NotPossible",
  qGlo K "_law_right",
  PySem.W.keepIn K (.ref (He.ga K "_law_right")),
  qFree K "min",
  qFree K "max",
  qGlo K "_law_vat",
  PySem.W.keepIn K (.ref (He.ga K "_law_vat")),
  qGlo K "_law_quiet",
  PySem.W.keepIn K (.ref (He.ga K "_law_quiet")),
  qXf K (He.ga K "NotRow") (He.fAd K ("NotRow", some "__init__")) [.type "ValueError", .type "Exception", .type "BaseException", .type "object"] "ValueError.__new__" "given"]
def chk4 (K : PySem.W.Frag) : List Bool := [qXf K (He.ga K "Broken") (He.fAd K ("Broken", some "__init__")) [.type "ArithmeticError", .type "Exception", .type "BaseException", .type "object"] "ArithmeticError.__new__" "index",
  qXf K (He.ga K "UnknownName") (He.fAd K ("UnknownName", some "__init__")) [.type "LookupError", .type "Exception", .type "BaseException", .type "object"] "LookupError.__new__" "given",
  qXf K (He.ga K "InUse") (He.fAd K ("InUse", some "__init__")) [.type "LookupError", .type "Exception", .type "BaseException", .type "object"] "LookupError.__new__" "index",
  qXf K (He.ga K "InvalidWish") (He.fAd K ("InvalidWish", some "__init__")) [.type "ValueError", .type "Exception", .type "BaseException", .type "object"] "ValueError.__new__" "given",
  qXf K (He.ga K "InvalidIndex") (He.fAd K ("InvalidIndex", some "__init__")) [.type "ValueError", .type "Exception", .type "BaseException", .type "object"] "ValueError.__new__" "given",
  qXf K (He.ga K "InvalidName") (He.fAd K ("InvalidName", some "__init__")) [.type "ValueError", .type "Exception", .type "BaseException", .type "object"] "ValueError.__new__" "given",
  qGlo K "law"]
def chkAll (K : PySem.W.Frag) : Bool := qAll (chk0 K) && (qAll (chk1 K) && (qAll (chk2 K) && (qAll (chk3 K) && (qAll (chk4 K)))))
def fnl0 : List He5.DefA := [⟨fun K => (He.fAd K ("is_integer", none)), "is_integer", "is_integer", defArgs (topS 18), defBody (topS 18), defScope (topS 18), [], []⟩,
  ⟨fun K => (He.fAd K ("is_count", none)), "is_count", "is_count", defArgs (topS 19), defBody (topS 19), defScope (topS 19), [], []⟩,
  ⟨fun K => (He.fAd K ("is_name", none)), "is_name", "is_name", defArgs (topS 20), defBody (topS 20), defScope (topS 20), [], []⟩,
  ⟨fun K => (He.fAd K ("shared", none)), "shared", "shared", defArgs (topS 23), defBody (topS 23), defScope (topS 23), [], []⟩,
  ⟨fun K => (He.fAd K ("is_fraction", none)), "is_fraction", "is_fraction", defArgs (topS 22), defBody (topS 22), defScope (topS 22), [], []⟩,
  ⟨fun K => (He.fAd K ("is_counts", none)), "is_counts", "is_counts", defArgs (topS 24), defBody (topS 24), defScope (topS 24), [], []⟩,
  ⟨fun K => (He.fAd K ("lowest", none)), "lowest", "lowest", defArgs (topS 27), defBody (topS 27), defScope (topS 27), [], []⟩,
  ⟨fun K => (He.fAd K ("is_below", none)), "is_below", "is_below", defArgs (topS 28), defBody (topS 28), defScope (topS 28), [], []⟩,
  ⟨fun K => (He.fAd K ("plain", none)), "plain", "plain", defArgs (topS 29), defBody (topS 29), defScope (topS 29), [], []⟩,
  ⟨fun K => (He.fAd K ("wrong_count", none)), "wrong_count", "wrong_count", defArgs (topS 32), defBody (topS 32), defScope (topS 32), [], []⟩,
  ⟨fun K => (He.fAd K ("Row", some "__init__")), "__init__", "Row.__init__", defArgs (clsS 33 1), defBody (clsS 33 1), defScope (clsS 33 1), [], []⟩,
  ⟨fun K => (prA K "Row" "counts"), "counts", "Row.counts", defArgs (clsS 33 3), defBody (clsS 33 3), defScope (clsS 33 3), [], []⟩,
  ⟨fun K => (prA K "Row" "rates"), "rates", "Row.rates", defArgs (clsS 33 4), defBody (clsS 33 4), defScope (clsS 33 4), [], []⟩,
  ⟨fun K => (He.fAd K ("row_lines", none)), "row_lines", "row_lines", defArgs (topS 34), defBody (topS 34), defScope (topS 34), [], []⟩,
  ⟨fun K => (He.fAd K ("Row", some "__str__")), "__str__", "Row.__str__", defArgs (clsS 33 10), defBody (clsS 33 10), defScope (clsS 33 10), [], []⟩,
  ⟨fun K => (prA K "Row" "text"), "text", "Row.text", defArgs (clsS 33 6), defBody (clsS 33 6), defScope (clsS 33 6), [], []⟩,
  ⟨fun K => (He.fAd K ("Row", some "__len__")), "__len__", "Row.__len__", defArgs (clsS 33 8), defBody (clsS 33 8), defScope (clsS 33 8), [], []⟩,
  ⟨fun K => (He.fAd K ("Row", some "__repr__")), "__repr__", "Row.__repr__", defArgs (clsS 33 11), defBody (clsS 33 11), defScope (clsS 33 11), [], []⟩,
  ⟨fun K => (He.fAd K ("check_row", none)), "check_row", "check_row", defArgs (topS 36), defBody (topS 36), defScope (topS 36), [], []⟩,
  ⟨fun K => (He.fAd K ("is_wish", none)), "is_wish", "is_wish", defArgs (topS 76), defBody (topS 76), defScope (topS 76), [], []⟩]
def fnl1 : List He5.DefA := [⟨fun K => (He.fAd K ("keeps", none)), "keeps", "keeps", defArgs (topS 77), defBody (topS 77), defScope (topS 77), [], []⟩,
  ⟨fun K => (He.fAd K ("Shelf", some "__init__")), "__init__", "Shelf.__init__", defArgs (clsS 79 0), defBody (clsS 79 0), defScope (clsS 79 0), [], []⟩,
  ⟨fun K => (He.fAd K ("check_kept", none)), "check_kept", "check_kept", defArgs (topS 80), defBody (topS 80), defScope (topS 80), [], []⟩,
  ⟨fun K => (He.fAd K ("Library", some "__init__")), "__init__", "Library.__init__", defArgs (clsS 81 0), defBody (clsS 81 0), defScope (clsS 81 0), [], []⟩,
  ⟨fun K => (prA K "Library" "names"), "names", "Library.names", defArgs (clsS 81 1), defBody (clsS 81 1), defScope (clsS 81 1), [], []⟩,
  ⟨fun K => (prA K "Library" "wishes"), "wishes", "Library.wishes", defArgs (clsS 81 2), defBody (clsS 81 2), defScope (clsS 81 2), [], []⟩,
  ⟨fun K => (prA K "Library" "changes"), "changes", "Library.changes", defArgs (clsS 81 3), defBody (clsS 81 3), defScope (clsS 81 3), [], []⟩,
  ⟨fun K => (He.fAd K ("Library", some "become")), "become", "Library.become", defArgs (clsS 81 4), defBody (clsS 81 4), defScope (clsS 81 4), [], []⟩,
  ⟨fun K => (He.fAd K ("Library", some "__contains__")), "__contains__", "Library.__contains__", defArgs (clsS 81 13), defBody (clsS 81 13), defScope (clsS 81 13), [], []⟩,
  ⟨fun K => (He.fAd K ("Library", some "remove")), "remove", "Library.remove", defArgs (clsS 81 5), defBody (clsS 81 5), defScope (clsS 81 5), [], []⟩,
  ⟨fun K => (He.fAd K ("Library", some "wish")), "wish", "Library.wish", defArgs (clsS 81 6), defBody (clsS 81 6), defScope (clsS 81 6), [], []⟩,
  ⟨fun K => (He.fAd K ("Library", some "lift")), "lift", "Library.lift", defArgs (clsS 81 7), defBody (clsS 81 7), defScope (clsS 81 7), [], []⟩,
  ⟨fun K => (He.fAd K ("Library", some "undo")), "undo", "Library.undo", defArgs (clsS 81 8), defBody (clsS 81 8), defScope (clsS 81 8), [], []⟩,
  ⟨fun K => (He.fAd K ("Library", some "__getitem__")), "__getitem__", "Library.__getitem__", defArgs (clsS 81 11), defBody (clsS 81 11), defScope (clsS 81 11), [], []⟩,
  ⟨fun K => (He.fAd K ("Library", some "__setitem__")), "__setitem__", "Library.__setitem__", defArgs (clsS 81 12), defBody (clsS 81 12), defScope (clsS 81 12), [], []⟩,
  ⟨fun K => (He.fAd K ("Library", some "__len__")), "__len__", "Library.__len__", defArgs (clsS 81 15), defBody (clsS 81 15), defScope (clsS 81 15), [], []⟩,
  ⟨fun K => (He.fAd K ("Library", some "__bool__")), "__bool__", "Library.__bool__", defArgs (clsS 81 16), defBody (clsS 81 16), defScope (clsS 81 16), [], []⟩,
  ⟨fun K => (He.fAd K ("_law_vat", none)), "_law_vat", "_law_vat", defArgs (topS 83), defBody (topS 83), defScope (topS 83), [], []⟩,
  ⟨fun K => (He.fAd K ("_law_dip", none)), "_law_dip", "_law_dip", defArgs (topS 84), defBody (topS 84), defScope (topS 84), [], []⟩,
  ⟨fun K => (He.fAd K ("_law_counts", none)), "_law_counts", "_law_counts", defArgs (topS 85), defBody (topS 85), defScope (topS 85), [], []⟩]
def fnl2 : List He5.DefA := [⟨fun K => (He.fAd K ("_law_store", none)), "_law_store", "_law_store", defArgs (topS 87), defBody (topS 87), defScope (topS 87), [], []⟩,
  ⟨fun K => (He.fAd K ("_law_outcome", none)), "_law_outcome", "_law_outcome", defArgs (topS 86), defBody (topS 86), defScope (topS 86), [], []⟩,
  ⟨fun K => (He.fAd K ("_law_right", none)), "_law_right", "_law_right", defArgs (topS 88), defBody (topS 88), defScope (topS 88), [], []⟩,
  ⟨fun K => (He.fAd K ("_law_quiet", none)), "_law_quiet", "_law_quiet", defArgs (topS 89), defBody (topS 89), defScope (topS 89), [], []⟩,
  ⟨fun K => (He.fAd K ("law", none)), "law", "law", defArgs (topS 90), defBody (topS 90), defScope (topS 90), [], []⟩,
  ⟨fun K => (He.fAd K ("NotRow", some "__init__")), "__init__", "NotRow.__init__", defArgs (clsS 7 0), defBody (clsS 7 0), defScope (clsS 7 0), [], []⟩,
  ⟨fun K => (He.fAd K ("Broken", some "__init__")), "__init__", "Broken.__init__", defArgs (clsS 14 0), defBody (clsS 14 0), defScope (clsS 14 0), [], []⟩,
  ⟨fun K => (He.fAd K ("UnknownName", some "__init__")), "__init__", "UnknownName.__init__", defArgs (clsS 10 0), defBody (clsS 10 0), defScope (clsS 10 0), [], []⟩,
  ⟨fun K => (He.fAd K ("InUse", some "__init__")), "__init__", "InUse.__init__", defArgs (clsS 11 0), defBody (clsS 11 0), defScope (clsS 11 0), [], []⟩,
  ⟨fun K => (He.fAd K ("InvalidWish", some "__init__")), "__init__", "InvalidWish.__init__", defArgs (clsS 6 0), defBody (clsS 6 0), defScope (clsS 6 0), [], []⟩,
  ⟨fun K => (He.fAd K ("InvalidIndex", some "__init__")), "__init__", "InvalidIndex.__init__", defArgs (clsS 5 0), defBody (clsS 5 0), defScope (clsS 5 0), [], []⟩,
  ⟨fun K => (He.fAd K ("InvalidName", some "__init__")), "__init__", "InvalidName.__init__", defArgs (clsS 4 0), defBody (clsS 4 0), defScope (clsS 4 0), [], []⟩]
def fnAll : List He5.DefA := fnl0 ++ (fnl1 ++ (fnl2))
def nms0 : List Str := ["_wall", "WrongValue", "InvalidText", "InvalidName", "InvalidIndex", "InvalidWish", "NotRow", "InvalidCounts", "WrongName", "UnknownName", "InUse", "NotPossible", "NothingToUndo", "Broken", "DIGITS", "LETTERS", "is_integer", "is_count", "is_name", "written_integer", "is_fraction", "shared", "is_counts", "NONE", "lowest"]
def nms1 : List Str := ["is_below", "plain", "MOST_DRAWS", "wrong_count", "Row", "row_lines", "text_row", "check_row", "PASCAL", "STIRLING", "WHOLE", "falling", "all_yes_tops", "powers_of", "product", "mean_of", "value_at", "weight_at", "aim", "determinant", "weighted", "middle_numbers", "value_of", "between_at", "turned_between"]
def nms2 : List Str := ["turns_of", "roots_about", "pairs_at", "start_set", "way_of", "run_from", "room_for", "moved", "is_negative", "is_of_use", "far_of", "moved_on", "negatives", "search", "found_points", "comes_of", "lots_of", "is_never_below", "always_of", "is_wish", "keeps", "Shelf", "check_kept", "Library", "_law_vat"]
def nms3 : List Str := ["_law_dip", "_law_counts", "_law_outcome", "_law_store", "_law_right", "_law_quiet"]
def nmsAll : List Str := nms0 ++ (nms1 ++ (nms2 ++ (nms3)))
def tfAll : List He.Defn := [("_law_right", none)]
def asL0 : List Addr := [3, 6, 4, 21, 31, 51, 70, 89, 108, 127, 146, 158, 178, 197, 209, 222, 241, 250, 257, 262, 267, 274, 281, 286, 287, 294, 301, 306, 313, 407, 415, 422, 429, 436, 443, 450, 455, 460, 467, 472, 479, 486, 493, 498, 503, 508, 515, 522, 529, 534]
def asL1 : List Addr := [539, 546, 553, 560, 567, 574, 579, 586, 593, 600, 607, 612, 619, 626, 633, 638, 643, 648, 655, 662, 679, 690, 820, 831, 838, 845, 850, 857, 864, 871, 876, 0, 20, 30, 50, 69, 88, 107, 126, 145, 157, 177, 196, 208, 221, 240, 249, 256, 261, 266]
def asL2 : List Addr := [273, 280, 285, 293, 300, 305, 312, 406, 414, 421, 428, 430, 431, 432, 433, 434, 435, 437, 438, 439, 440, 441, 442, 449, 454, 459, 466, 471, 478, 485, 492, 497, 502, 507, 514, 521, 528, 533, 538, 545, 552, 559, 566, 573, 578, 585, 592, 599, 606, 611]
def asL3 : List Addr := [618, 625, 632, 637, 642, 647, 654, 661, 678, 689, 819, 830, 837, 844, 849, 856, 863, 870, 875, 15, 16, 17, 18, 19, 29, 32, 48, 49, 67, 68, 86, 87, 105, 106, 124, 125, 143, 144, 156, 159, 175, 176, 194, 195, 207, 210, 220, 238, 239, 244]
def asL4 : List Addr := [245, 246, 247, 248, 251, 252, 253, 254, 255, 258, 259, 260, 263, 264, 265, 268, 269, 270, 271, 272, 275, 276, 277, 278, 279, 282, 283, 284, 288, 289, 290, 291, 292, 295, 296, 297, 298, 299, 302, 303, 304, 307, 308, 309, 310, 311, 321, 328, 337, 346]
def asL5 : List Addr := [352, 360, 368, 375, 382, 389, 396, 403, 404, 408, 411, 412, 413, 416, 417, 418, 419, 420, 423, 424, 425, 426, 427, 444, 445, 446, 447, 448, 451, 452, 453, 456, 457, 458, 461, 462, 463, 464, 465, 468, 469, 470, 473, 474, 475, 476, 477, 480, 481, 482]
def asL6 : List Addr := [483, 484, 487, 488, 489, 490, 491, 494, 495, 496, 499, 500, 501, 504, 505, 506, 509, 510, 511, 512, 513, 516, 517, 518, 519, 520, 523, 524, 525, 526, 527, 530, 531, 532, 535, 536, 537, 540, 541, 542, 543, 544, 547, 548, 549, 550, 551, 554, 555, 556]
def asL7 : List Addr := [557, 558, 561, 562, 563, 564, 565, 568, 569, 570, 571, 572, 575, 576, 577, 580, 581, 582, 583, 584, 587, 588, 589, 590, 591, 594, 595, 596, 597, 598, 601, 602, 603, 604, 605, 608, 609, 610, 613, 614, 615, 616, 617, 620, 621, 622, 623, 624, 627, 628]
def asL8 : List Addr := [629, 630, 631, 634, 635, 636, 639, 640, 641, 644, 645, 646, 649, 650, 651, 652, 653, 656, 657, 658, 659, 660, 676, 677, 680, 681, 684, 685, 686, 687, 688, 704, 712, 720, 728, 735, 740, 747, 754, 761, 768, 775, 782, 789, 796, 803, 810, 817, 818, 821]
def asL9 : List Addr := [822, 825, 826, 827, 828, 829, 832, 833, 834, 835, 836, 839, 840, 841, 842, 843, 846, 847, 848, 851, 852, 853, 854, 855, 858, 859, 860, 861, 862, 865, 866, 867, 868, 869, 872, 873, 874, 47, 66, 85, 104, 123, 142, 174, 193, 237, 327, 335, 336, 345]
def asL10 : List Addr := [351, 359, 367, 374, 381, 388, 395, 402, 675, 703, 711, 719, 727, 734, 739, 746, 753, 760, 767, 774, 781, 788, 795, 802, 809, 816, 42, 43, 44, 45, 46, 61, 62, 63, 64, 65, 80, 81, 82, 83, 84, 99, 100, 101, 102, 103, 118, 119, 120, 121]
def asL11 : List Addr := [122, 137, 138, 139, 140, 141, 169, 170, 171, 172, 173, 188, 189, 190, 191, 192, 232, 233, 234, 235, 236, 322, 323, 324, 325, 326, 334, 338, 344, 350, 358, 366, 369, 370, 371, 372, 373, 376, 377, 378, 379, 380, 383, 384, 385, 386, 387, 390, 391, 392]
def asL12 : List Addr := [393, 394, 397, 398, 399, 400, 401, 670, 671, 672, 673, 674, 698, 699, 700, 701, 702, 710, 718, 726, 729, 730, 731, 732, 733, 736, 737, 738, 741, 742, 743, 744, 745, 748, 749, 750, 751, 752, 755, 756, 757, 758, 759, 762, 763, 764, 765, 766, 769, 770]
def asL13 : List Addr := [771, 772, 773, 776, 777, 778, 779, 780, 783, 784, 785, 786, 787, 790, 791, 792, 793, 794, 797, 798, 799, 800, 801, 804, 805, 806, 807, 808, 811, 812, 813, 814, 815, 329, 330, 331, 332, 333, 339, 340, 341, 342, 343, 347, 348, 349, 353, 354, 355, 356]
def asL14 : List Addr := [357, 361, 362, 363, 364, 365, 705, 706, 707, 708, 709, 713, 714, 715, 716, 717, 721, 722, 723, 724, 725]
def asAll : List Addr := asL0 ++ (asL1 ++ (asL2 ++ (asL3 ++ (asL4 ++ (asL5 ++ (asL6 ++ (asL7 ++ (asL8 ++ (asL9 ++ (asL10 ++ (asL11 ++ (asL12 ++ (asL13 ++ (asL14))))))))))))))
abbrev RL : PySem.W.OpenRow := PySem.W.OpenLaw.row PySem.Challenge.rw_drawnmore_k61_libraries_made_and_refused
abbrev qv : Program := PySem.W.view RL.prog [90]
abbrev hk : PySem.W.Hook := hookZ asAll fnAll tfAll chkAll
def ob (s : PySem.W.SharedT) : AlZ := obsZ asAll fnAll tfAll chkAll (HandSHeadRun.getT s)
theorem ob_eq (s : PySem.W.SharedT) : ob s = hk.obs s.abs := obsZ_eq (HandSHeadRun.getT_eq s)
theorem run_last (w : World) : HandSHeadRun.RunEq RL qv (hookZ asAll fnAll tfAll (fun K => qAll (chk0 K) && (qAll (chk1 K) && (qAll (chk2 K) && (qAll (chk3 K) && (qAll (chk4 K))))))) (fun s => obsZ asAll fnAll tfAll (fun K => qAll (chk0 K) && (qAll (chk1 K) && (qAll (chk2 K) && (qAll (chk3 K) && (qAll (chk4 K)))))) (HandSHeadRun.getT s)) 60000 nmsAll w := by
  intro os
  kernel_rfl
theorem run (w : World) : HandSHeadRun.RunEq RL qv hk ob 60000 nmsAll w := run_last w
theorem txt_of {h : Heap} {K : PySem.W.Frag} {mg : Str → Option Value} (X : K.In h) (G : h.Ns mainGlobals mg) (c : SaysZ fnAll tfAll chkAll h K) : Txt K mg := by
  have e := c.more
  have d := c.says
  obtain ⟨e0, e⟩ := band (a := qAll (chk0 K)) e
  obtain ⟨e1, e⟩ := band (a := qAll (chk1 K)) e
  obtain ⟨e2, e⟩ := band (a := qAll (chk2 K)) e
  obtain ⟨e3, e⟩ := band (a := qAll (chk3 K)) e
  have e4 : qAll (chk4 K) = true := e
  exact ⟨(have q := qAll_at e0 0 (b := qFree K "bool"); qFree_ok X G q),
    (have q := qAll_at e0 1 (b := qCi K ciL); qCi_ok X G q),
    (have q := qAll_at e0 2 (b := qCs K csL); qCs_ok X G q),
    (have q := qAll_at e0 3 (b := qIs K isL); qIs_ok X G q),
    (have q := qAll_at e0 4 (b := qFree K "isinstance"); qFree_ok X G q),
    (have q := qAll_at e0 5 (b := qFree K "int"); qFree_ok X G q),
    (d.def_ 0 rfl),
    (have q := qAll_at e0 6 (b := qGlo K "is_integer"); qGlo_ok X G q),
    (have q := qAll_at e0 7 (b := PySem.W.keepIn K (.ref (He.ga K "is_integer"))); q),
    (d.def_ 1 rfl),
    (have q := qAll_at e0 8 (b := qStr K "LETTERS" "abcdefghijklmnopqrstuvwxyz"); qStr_ok X G q),
    (have q := qAll_at e0 9 (b := qFree K "len"); qFree_ok X G q),
    (have q := qAll_at e0 10 (b := qFree K "str"); qFree_ok X G q),
    (have q := qAll_at e0 11 (b := qStr K "DIGITS" "0123456789"); qStr_ok X G q),
    (have q := qAll_at e0 12 (b := qFree K "all"); qFree_ok X G q),
    (d.def_ 2 rfl),
    (have q := qAll_at e0 13 (b := qFree K "abs"); qFree_ok X G q),
    (d.def_ 3 rfl),
    (have q := qAll_at e0 14 (b := qFree K "tuple"); qFree_ok X G q),
    (have q := qAll_at e0 15 (b := qGlo K "shared"); qGlo_ok X G q),
    (have q := qAll_at e0 16 (b := PySem.W.keepIn K (.ref (He.ga K "shared"))); q),
    (d.def_ 4 rfl),
    (have q := qAll_at e0 17 (b := qGlo K "is_count"); qGlo_ok X G q),
    (have q := qAll_at e0 18 (b := PySem.W.keepIn K (.ref (He.ga K "is_count"))); q),
    (have q := qAll_at e0 19 (b := qFree K "sum"); qFree_ok X G q),
    (d.def_ 5 rfl),
    (d.def_ 6 rfl),
    (d.def_ 7 rfl),
    (d.def_ 8 rfl),
    (have q := qAll_at e0 20 (b := qFree K "enumerate"); qFree_ok X G q),
    (have q := qAll_at e0 21 (b := qInt K "MOST_DRAWS" 5); qInt_ok X G q),
    (have q := qAll_at e0 22 (b := qGlo K "is_counts"); qGlo_ok X G q),
    (have q := qAll_at e0 23 (b := PySem.W.keepIn K (.ref (He.ga K "is_counts"))); q),
    (d.def_ 9 rfl),
    (have q := qAll_at e0 24 (b := qGlo K "wrong_count"); qGlo_ok X G q),
    (have q := qAll_at e0 25 (b := PySem.W.keepIn K (.ref (He.ga K "wrong_count"))); q),
    (have q := qAll_at e0 26 (b := qGlo K "plain"); qGlo_ok X G q),
    (have q := qAll_at e0 27 (b := PySem.W.keepIn K (.ref (He.ga K "plain"))); q),
    (have q := qAll_at e0 28 (b := qSlot K (He.ga K "Row") "own_counts" 0); qSlot_ok q),
    (have q := qAll_at e0 29 (b := qGlo K "Row"); qGlo_ok X G q),
    (have q := qAll_at e1 0 (b := qSCls K (He.ga K "Row")); qSCls_ok q),
    (d.def_ 10 rfl),
    (d.def_ 11 rfl),
    (have q := qAll_at e1 1 (b := qGlo K "lowest"); qGlo_ok X G q),
    (have q := qAll_at e1 2 (b := PySem.W.keepIn K (.ref (He.ga K "lowest"))); q),
    (d.def_ 12 rfl),
    (d.def_ 13 rfl),
    (have q := qAll_at e1 3 (b := qGlo K "row_lines"); qGlo_ok X G q),
    (have q := qAll_at e1 4 (b := PySem.W.keepIn K (.ref (He.ga K "row_lines"))); q),
    (d.def_ 14 rfl),
    (have q := qAll_at e1 5 (b := qDun K (He.ga K "Row") "__str__" (He.fAd K ("Row", some "__str__"))); qDun_ok q),
    (d.def_ 15 rfl),
    (d.def_ 16 rfl),
    (d.def_ 17 rfl),
    (d.def_ 18 rfl),
    (have q := qAll_at e1 6 (b := qGlo K "is_fraction"); qGlo_ok X G q),
    (have q := qAll_at e1 7 (b := PySem.W.keepIn K (.ref (He.ga K "is_fraction"))); q),
    (d.def_ 19 rfl),
    (have q := qAll_at e1 8 (b := qDun K (He.ga K "Row") "__len__" (He.fAd K ("Row", some "__len__"))); qDun_ok q),
    (have q := qAll_at e1 9 (b := qProp K (He.ga K "Row") "rates" (prA K "Row" "rates")); qProp_ok q),
    (have q := qAll_at e1 10 (b := (PySem.W.clsIn K (He.ga K "Row")).isSome); q),
    (have q := qAll_at e1 11 (b := qTupI K "NONE" [0, 1]); fun H => qTupI_ok q H),
    (have q := qAll_at e1 12 (b := qGlo K "NONE"); qGlo_ok X G q),
    (have q := qAll_at e1 13 (b := qGlo K "is_below"); qGlo_ok X G q),
    (have q := qAll_at e1 14 (b := PySem.W.keepIn K (.ref (He.ga K "is_below"))); q),
    (d.def_ 20 rfl),
    (have q := qAll_at e1 15 (b := qNo K (He.ga K "Shelf") "rows"); qNo_ok q),
    (have q := qAll_at e1 16 (b := qGlo K "Shelf"); qGlo_ok X G q),
    (have q := qAll_at e1 17 (b := qCls K (He.ga K "Shelf")); qCls_ok q),
    (have q := qAll_at e1 18 (b := qNo K (He.ga K "Shelf") "pairs"); qNo_ok q),
    (have q := qAll_at e1 19 (b := qNo K (He.ga K "Shelf") "ahead"); qNo_ok q),
    (have q := qAll_at e1 20 (b := qNo K (He.ga K "Shelf") "many"); qNo_ok q),
    (d.def_ 21 rfl),
    (have q := qAll_at e1 21 (b := qGlo K "keeps"); qGlo_ok X G q),
    (have q := qAll_at e1 22 (b := PySem.W.keepIn K (.ref (He.ga K "keeps"))); q),
    (d.def_ 22 rfl),
    (have q := qAll_at e1 23 (b := qMk K (He.ga K "Shelf") (He.fAd K ("Shelf", some "__init__"))); qMk_ok q),
    (have q := qAll_at e1 24 (b := qNo K (He.ga K "Library") "shelf"); qNo_ok q),
    (have q := qAll_at e1 25 (b := qGlo K "Library"); qGlo_ok X G q),
    (have q := qAll_at e1 26 (b := qCls K (He.ga K "Library")); qCls_ok q),
    (d.def_ 23 rfl),
    (have q := qAll_at e1 27 (b := qFree K "sorted"); qFree_ok X G q),
    (d.def_ 24 rfl),
    (d.def_ 25 rfl),
    (d.def_ 26 rfl),
    (d.def_ 27 rfl),
    (d.def_ 28 rfl),
    (have q := qAll_at e1 28 (b := qDun K (He.ga K "Library") "__contains__" (He.fAd K ("Library", some "__contains__"))); qDun_ok q),
    (have q := qAll_at e1 29 (b := qMeth K (He.ga K "Library") "become" (He.fAd K ("Library", some "become"))); qMeth_ok q),
    (d.def_ 29 rfl),
    (have q := qAll_at e2 0 (b := qGlo K "is_wish"); qGlo_ok X G q),
    (have q := qAll_at e2 1 (b := PySem.W.keepIn K (.ref (He.ga K "is_wish"))); q),
    (have q := qAll_at e2 2 (b := qGlo K "check_kept"); qGlo_ok X G q),
    (have q := qAll_at e2 3 (b := PySem.W.keepIn K (.ref (He.ga K "check_kept"))); q),
    (d.def_ 30 rfl),
    (d.def_ 31 rfl),
    (have q := qAll_at e2 4 (b := qGlo K "NothingToUndo"); qGlo_ok X G q),
    (have q := qAll_at e2 5 (b := qX0 K (He.ga K "NothingToUndo") [.type "ArithmeticError", .type "Exception", .type "BaseException", .type "object"] "ArithmeticError.__new__"); qX0_ok q),
    (d.def_ 32 rfl),
    (d.def_ 33 rfl),
    (have q := qAll_at e2 6 (b := qGlo K "is_name"); qGlo_ok X G q),
    (have q := qAll_at e2 7 (b := PySem.W.keepIn K (.ref (He.ga K "is_name"))); q),
    (have q := qAll_at e2 8 (b := qGlo K "check_row"); qGlo_ok X G q),
    (have q := qAll_at e2 9 (b := PySem.W.keepIn K (.ref (He.ga K "check_row"))); q),
    (d.def_ 34 rfl),
    (d.def_ 35 rfl),
    (d.def_ 36 rfl),
    (d.def_ 37 rfl),
    (have q := qAll_at e2 10 (b := qFree K "divmod"); qFree_ok X G q),
    (d.def_ 38 rfl),
    (have q := qAll_at e2 11 (b := qGlo K "_law_dip"); qGlo_ok X G q),
    (have q := qAll_at e2 12 (b := PySem.W.keepIn K (.ref (He.ga K "_law_dip"))); q),
    (have q := qAll_at e2 13 (b := qFree K "range"); qFree_ok X G q),
    (d.def_ 39 rfl),
    (have q := qAll_at e2 14 (b := qEx K exL); qEx_ok X G q),
    (have q := qAll_at e2 15 (b := qGlo K "InUse"); qGlo_ok X G q),
    (have q := qAll_at e2 16 (b := qGlo K "Broken"); qGlo_ok X G q),
    (have q := qAll_at e2 17 (b := qXks K xf_index_L "index"); fun C hC => let ⟨Ca, a, b, c, _⟩ := qXks_ok X G q C hC; ⟨Ca, a, b, c⟩),
    (have q := qAll_at e2 18 (b := qFree K "repr"); qFree_ok X G q),
    (have q := qAll_at e2 19 (b := qXks K xaL "__nowhere"); fun C hC => let ⟨Ca, a, _, _, d⟩ := qXks_ok X G q C hC; ⟨Ca, a, d⟩),
    (have q := qAll_at e2 20 (b := qGlo K "InvalidName"); qGlo_ok X G q),
    (have q := qAll_at e2 21 (b := qGlo K "InvalidWish"); qGlo_ok X G q),
    (have q := qAll_at e2 22 (b := qGlo K "InvalidIndex"); qGlo_ok X G q),
    (have q := qAll_at e2 23 (b := qGlo K "NotRow"); qGlo_ok X G q),
    (have q := qAll_at e2 24 (b := qGlo K "UnknownName"); qGlo_ok X G q),
    (have q := qAll_at e2 25 (b := qDun K (He.ga K "Row") "__repr__" (He.fAd K ("Row", some "__repr__"))); qDun_ok q),
    (have q := qAll_at e2 26 (b := qXks K xf_given_L "given"); fun C hC => let ⟨Ca, a, b, c, _⟩ := qXks_ok X G q C hC; ⟨Ca, a, b, c⟩),
    (have q := qAll_at e2 27 (b := qDun K (He.ga K "Library") "__setitem__" (He.fAd K ("Library", some "__setitem__"))); qDun_ok q),
    (d.def_ 40 rfl),
    (have q := qAll_at e2 28 (b := qMk K (He.ga K "Library") (He.fAd K ("Library", some "__init__"))); qMk_ok q),
    (have q := qAll_at e2 29 (b := qIdn K (He.ga K "Library")); qIdn_ok q),
    (have q := qAll_at e3 0 (b := qDun K (He.ga K "Library") "__bool__" (He.fAd K ("Library", some "__bool__"))); qDun_ok q),
    (have q := qAll_at e3 1 (b := qDun K (He.ga K "Library") "__len__" (He.fAd K ("Library", some "__len__"))); qDun_ok q),
    (have q := qAll_at e3 2 (b := qProp K (He.ga K "Library") "changes" (prA K "Library" "changes")); qProp_ok q),
    (have q := qAll_at e3 3 (b := qProp K (He.ga K "Library") "wishes" (prA K "Library" "wishes")); qProp_ok q),
    (have q := qAll_at e3 4 (b := qProp K (He.ga K "Library") "names" (prA K "Library" "names")); qProp_ok q),
    (have q := qAll_at e3 5 (b := qMeth K (He.ga K "Library") "undo" (He.fAd K ("Library", some "undo"))); qMeth_ok q),
    (d.def_ 41 rfl),
    (have q := qAll_at e3 6 (b := qGlo K "_law_outcome"); qGlo_ok X G q),
    (have q := qAll_at e3 7 (b := qMk K (He.ga K "Row") (He.fAd K ("Row", some "__init__"))); qMk_ok q),
    (have q := qAll_at e3 8 (b := qGlo K "_law_counts"); qGlo_ok X G q),
    (have q := qAll_at e3 9 (b := PySem.W.keepIn K (.ref (He.ga K "_law_counts"))); q),
    (have q := qAll_at e3 10 (b := qGlo K "_law_store"); qGlo_ok X G q),
    (have q := qAll_at e3 11 (b := PySem.W.keepIn K (.ref (He.ga K "_law_store"))); q),
    (have q := qAll_at e3 12 (b := qMeth K (He.ga K "Library") "wish" (He.fAd K ("Library", some "wish"))); qMeth_ok q),
    (have q := qAll_at e3 13 (b := qProp K (He.ga K "Row") "counts" (prA K "Row" "counts")); qProp_ok q),
    (have q := qAll_at e3 14 (b := qProp K (He.ga K "Row") "text" (prA K "Row" "text")); qProp_ok q),
    (have q := qAll_at e3 15 (b := qDun K (He.ga K "Library") "__getitem__" (He.fAd K ("Library", some "__getitem__"))); qDun_ok q),
    (have q := qAll_at e3 16 (b := qMeth K (He.ga K "Library") "remove" (He.fAd K ("Library", some "remove"))); qMeth_ok q),
    (have q := qAll_at e3 17 (b := qMeth K (He.ga K "Library") "lift" (He.fAd K ("Library", some "lift"))); qMeth_ok q),
    (d.def_ 42 rfl),
    (have q := qAll_at e3 18 (b := qGlo K "WrongValue"); qGlo_ok X G q),
    (have q := qAll_at e3 19 (b := qGlo K "WrongName"); qGlo_ok X G q),
    (have q := qAll_at e3 20 (b := qGlo K "NotPossible"); qGlo_ok X G q),
    (have q := qAll_at e3 21 (b := qGlo K "_law_right"); qGlo_ok X G q),
    (have q := qAll_at e3 22 (b := PySem.W.keepIn K (.ref (He.ga K "_law_right"))); q),
    (d.def_ 43 rfl),
    (have q := qAll_at e3 23 (b := qFree K "min"); qFree_ok X G q),
    (have q := qAll_at e3 24 (b := qFree K "max"); qFree_ok X G q),
    (have q := qAll_at e3 25 (b := qGlo K "_law_vat"); qGlo_ok X G q),
    (have q := qAll_at e3 26 (b := PySem.W.keepIn K (.ref (He.ga K "_law_vat"))); q),
    (have q := qAll_at e3 27 (b := qGlo K "_law_quiet"); qGlo_ok X G q),
    (have q := qAll_at e3 28 (b := PySem.W.keepIn K (.ref (He.ga K "_law_quiet"))); q),
    (d.def_ 44 rfl),
    (d.def_ 45 rfl),
    (have q := qAll_at e3 29 (b := qXf K (He.ga K "NotRow") (He.fAd K ("NotRow", some "__init__")) [.type "ValueError", .type "Exception", .type "BaseException", .type "object"] "ValueError.__new__" "given"); qXf_ok q),
    (d.def_ 46 rfl),
    (have q := qAll_at e4 0 (b := qXf K (He.ga K "Broken") (He.fAd K ("Broken", some "__init__")) [.type "ArithmeticError", .type "Exception", .type "BaseException", .type "object"] "ArithmeticError.__new__" "index"); qXf_ok q),
    (d.def_ 47 rfl),
    (have q := qAll_at e4 1 (b := qXf K (He.ga K "UnknownName") (He.fAd K ("UnknownName", some "__init__")) [.type "LookupError", .type "Exception", .type "BaseException", .type "object"] "LookupError.__new__" "given"); qXf_ok q),
    (d.def_ 48 rfl),
    (have q := qAll_at e4 2 (b := qXf K (He.ga K "InUse") (He.fAd K ("InUse", some "__init__")) [.type "LookupError", .type "Exception", .type "BaseException", .type "object"] "LookupError.__new__" "index"); qXf_ok q),
    (d.def_ 49 rfl),
    (have q := qAll_at e4 3 (b := qXf K (He.ga K "InvalidWish") (He.fAd K ("InvalidWish", some "__init__")) [.type "ValueError", .type "Exception", .type "BaseException", .type "object"] "ValueError.__new__" "given"); qXf_ok q),
    (d.def_ 50 rfl),
    (have q := qAll_at e4 4 (b := qXf K (He.ga K "InvalidIndex") (He.fAd K ("InvalidIndex", some "__init__")) [.type "ValueError", .type "Exception", .type "BaseException", .type "object"] "ValueError.__new__" "given"); qXf_ok q),
    (d.def_ 51 rfl),
    (have q := qAll_at e4 5 (b := qXf K (He.ga K "InvalidName") (He.fAd K ("InvalidName", some "__init__")) [.type "ValueError", .type "Exception", .type "BaseException", .type "object"] "ValueError.__new__" "given"); qXf_ok q),
    (have q := qAll_at e4 6 (b := qGlo K "law"); qGlo_ok X G q)⟩
end ML
/-! the text M1 -/
/-! M1: deep values, the virtual heap, how they lie in the hand layer's heap; the shapes of the readings. -/
namespace ML
/-! errors whose context is None throughout -/
open PySem PySem.Spec PyProof.Rows L2

/-- a deep value -/
inductive D where
  | non | bl (b : Bool) | int (i : Int) | str (x : Str) | ty (n : String)
  | glo (x : Str)
  | tup (xs : List D) | lst (xs : List D) | bls (xs : List D)
  | slt (C : Str) (xs : List D)
  | ins (C : Str) (ks : List Str) (xs : List D)
  | dic (ks : List Key) (xs : List D)
  | obj (a : Nat)
  deriving Inhabited

/-- an object that may change -/
inductive O where
  | lst (xs : List D)
  | ins (C : Str) (ks : List Str) (xs : List D)
  | dic (ks : List Key) (xs : List D)
  | slt (C : Str) (xs : List D)
  deriving Inhabited

abbrev VH := List O
/-- where our objects lie; addresses that nothing of ours may hold -/
structure Adr where
  f : Nat → Option Addr
  hid : Addr → Prop
instance : CoeFun Adr (fun _ => Nat → Option Addr) := ⟨Adr.f⟩
structure Xc where
  C : Str
  ks : List Str := []
  xs : List D := []

structure Gx where
  K : PySem.W.Frag
  mg : Str → Option Value
  T : List (Addr × Str) := []

def Off (ι : Adr) (p : Addr) : Prop := (∀ a, ι a ≠ some p) ∧ ¬ ι.hid p

section
variable (c : Gx) (ι : Adr) (H : Hp)
mutual
def RV : D → V → Prop
  | .non, v => v = .non
  | .bl b, v => v = .bl b
  | .int i, v => v = .int i
  | .str x, v => v = .str x
  | .ty n, v => v = .ty n
  | .glo x, v => ∃ f, c.mg x = some (.ref f) ∧ v = .ref f
  | .tup xs, v => ∃ p vs, v = .ref p ∧ RVL xs vs ∧ SqT c.K H p vs ∧ (Off ι p ∨ ∀ H', SqT c.K H' p vs)
  | .lst xs, v => ∃ p vs, v = .ref p ∧ RVL xs vs ∧ H p = some (.lst vs) ∧ Off ι p
  | .bls xs, v => ∃ p vs, v = .ref p ∧ RVL xs vs ∧ SqL c.K H p vs ∧ (Off ι p ∨ ∀ H', SqL c.K H' p vs)
  | .slt C xs, v => ∃ p Ca dx vs, v = .ref p ∧ RVL xs vs ∧ c.mg C = some (.ref Ca) ∧ H p = some (SlX.SlO p Ca dx (vs.map some)) ∧ H dx = some (.xd []) ∧ Off ι p ∧ Off ι dx
  | .ins C ks xs, v => ∃ p Ca dx vs, v = .ref p ∧ RVL xs vs ∧ vs.length = ks.length ∧ c.mg C = some (.ref Ca) ∧ H p = some (.ins Ca dx (ks.zip vs)) ∧ Off ι p
  | .dic ks xs, v => ∃ p od vs, v = .ref p ∧ RVL xs vs ∧ vs.length = ks.length ∧ H p = some (.frz od (.dK (ks.zip vs))) ∧ Off ι p
  | .obj a, v => ∃ p, v = .ref p ∧ ι a = some p
def RVL : List D → List V → Prop
  | [], vs => vs = []
  | d :: ds, vs => ∃ v vr, vs = v :: vr ∧ RV d v ∧ RVL ds vr
end
def RO : O → Addr → Prop
  | .lst xs, p => ∃ vs, H p = some (.lst vs) ∧ RVL c ι H xs vs
  | .ins C ks xs, p => ∃ Ca dx vs, H p = some (.ins Ca dx (ks.zip vs)) ∧ vs.length = ks.length ∧ c.mg C = some (.ref Ca) ∧ RVL c ι H xs vs
  | .dic ks xs, p => ∃ vs, H p = some (.dK (ks.zip vs)) ∧ vs.length = ks.length ∧ RVL c ι H xs vs
  | .slt C xs, p => ∃ Ca dx vs, c.mg C = some (.ref Ca) ∧ H p = some (SlX.SlO p Ca dx (vs.map some)) ∧ H dx = some (.xd []) ∧ RVL c ι H xs vs ∧ Off ι dx
end

structure RH (c : Gx) (ι : Adr) (h : VH) (H : Hp) : Prop where
  obj : ∀ a o, h[a]? = some o → ∃ p, ι a = some p ∧ RO c ι H o p
  dom : ∀ a p, ι a = some p → a < h.length
  inj : ∀ a b p, ι a = some p → ι b = some p → a = b
  hdn : ∀ p, ι.hid p → ∃ u, H p = some u ∧ ∀ x, u ≠ .own x
  dis : ∀ a p, ι a = some p → ¬ ι.hid p
  tab : LamX.Tabs c.T H

def noTbl (o : HO) : Prop := (∀ ps, o ≠ .tbl ps) ∧ ∀ x, o ≠ .own x
structure Stp (ι : Adr) (H : Hp) (ι' : Adr) (H' : Hp) : Prop where
  ext : ∀ a p, ι a = some p → ι' a = some p
  keep : ∀ p o, H p = some o → noTbl o → Off ι p → H' p = some o ∧ Off ι' p
  hid : ∀ p o, ι.hid p → H p = some o → noTbl o → H' p = some o ∧ ι'.hid p

theorem Stp.refl (ι : Adr) (H : Hp) : Stp ι H ι H := ⟨fun _ _ e => e, fun _ _ e _ f => ⟨e, f⟩, fun _ _ e f _ => ⟨f, e⟩⟩
theorem Stp.trans {ι : Adr} {H : Hp} {ι1 : Adr} {H1 : Hp} {ι2 : Adr} {H2 : Hp} (a : Stp ι H ι1 H1) (b : Stp ι1 H1 ι2 H2) : Stp ι H ι2 H2 :=
  ⟨fun x p e => b.ext x p (a.ext x p e), fun p o e n f => let ⟨e1, f1⟩ := a.keep p o e n f; b.keep p o e1 n f1,
    fun p o h e n => let ⟨e1, h1⟩ := a.hid p o h e n; b.hid p o h1 e1 n⟩

section
variable {c : Gx} {ι ι' : Adr} {H H' : Hp}
theorem rd_noTbl {p : Addr} {o : HO} (n : noTbl o) (st : Stp ι H ι' H') (f : Off ι p) (r : Rd H p o) : Rd H' p o ∧ Off ι' p := by
  rcases r with r | ⟨b, r⟩
  · exact ⟨.inl (st.keep p o r n f).1, (st.keep p o r n f).2⟩
  · have q := st.keep p _ r ⟨fun ps z => (by cases z), fun ps z => (by cases z)⟩ f
    exact ⟨.inr ⟨b, q.1⟩, q.2⟩
theorem sqT_step {p : Addr} {vs : List V} (st : Stp ι H ι' H') (r : SqT c.K H p vs) (f : Off ι p ∨ ∀ H', SqT c.K H' p vs) : SqT c.K H' p vs ∧ (Off ι' p ∨ ∀ H', SqT c.K H' p vs) := by
  rcases f with f | f
  · rcases r with r | r
    · obtain ⟨q, f'⟩ := rd_noTbl ⟨fun ps z => (by cases z), fun ps z => (by cases z)⟩ st f r
      exact ⟨.inl q, .inl f'⟩
    · exact ⟨.inr r, .inr fun _ => .inr r⟩
  · exact ⟨f _, .inr f⟩
theorem sqL_step {p : Addr} {vs : List V} (st : Stp ι H ι' H') (r : SqL c.K H p vs) (f : Off ι p ∨ ∀ H', SqL c.K H' p vs) : SqL c.K H' p vs ∧ (Off ι' p ∨ ∀ H', SqL c.K H' p vs) := by
  rcases f with f | f
  · rcases r with r | r
    · obtain ⟨q, f'⟩ := rd_noTbl ⟨fun ps z => (by cases z), fun ps z => (by cases z)⟩ st f r
      exact ⟨.inl q, .inl f'⟩
    · exact ⟨.inr r, .inr fun _ => .inr r⟩
  · exact ⟨f _, .inr f⟩
theorem slO_noTbl {p Ca dx : Addr} {vs : List (Option V)} : noTbl (SlX.SlO p Ca dx vs) := ⟨fun ps z => (by unfold SlX.SlO at z; cases z), fun ps z => (by unfold SlX.SlO at z; cases z)⟩
mutual
theorem RV.step (st : Stp ι H ι' H') : ∀ (d : D) (v : V), RV c ι H d v → RV c ι' H' d v
  | .non, v, r => by simp only [RV] at r ⊢; exact r
  | .bl b, v, r => by simp only [RV] at r ⊢; exact r
  | .int b, v, r => by simp only [RV] at r ⊢; exact r
  | .str b, v, r => by simp only [RV] at r ⊢; exact r
  | .ty b, v, r => by simp only [RV] at r ⊢; exact r
  | .glo b, v, r => by simp only [RV] at r ⊢; exact r
  | .tup xs, v, r => by
    simp only [RV] at r ⊢
    obtain ⟨p, vs, e, rl, q, f⟩ := r
    have q' := sqT_step st q f
    exact ⟨p, vs, e, RVL.step st xs vs rl, q'.1, q'.2⟩
  | .lst xs, v, r => by
    simp only [RV] at r ⊢
    obtain ⟨p, vs, e, rl, q, f⟩ := r
    have q' := st.keep p _ q ⟨fun ps z => (by cases z), fun ps z => (by cases z)⟩ f
    exact ⟨p, vs, e, RVL.step st xs vs rl, q'.1, q'.2⟩
  | .bls xs, v, r => by
    simp only [RV] at r ⊢
    obtain ⟨p, vs, e, rl, q, f⟩ := r
    have q' := sqL_step st q f
    exact ⟨p, vs, e, RVL.step st xs vs rl, q'.1, q'.2⟩
  | .slt C xs, v, r => by
    simp only [RV] at r ⊢
    obtain ⟨p, Ca, dx, vs, e, rl, q1, q2, q3, f1, f2⟩ := r
    obtain ⟨a1, a2⟩ := st.keep p _ q2 slO_noTbl f1
    obtain ⟨b1, b2⟩ := st.keep dx _ q3 ⟨fun ps z => (by cases z), fun ps z => (by cases z)⟩ f2
    exact ⟨p, Ca, dx, vs, e, RVL.step st xs vs rl, q1, a1, b1, a2, b2⟩
  | .ins C ks xs, v, r => by
    simp only [RV] at r ⊢
    obtain ⟨p, Ca, dx, vs, e, rl, l, q1, q2, f1⟩ := r
    obtain ⟨a1, a2⟩ := st.keep p _ q2 ⟨fun ps z => (by cases z), fun ps z => (by cases z)⟩ f1
    exact ⟨p, Ca, dx, vs, e, RVL.step st xs vs rl, l, q1, a1, a2⟩
  | .dic ks xs, v, r => by
    simp only [RV] at r ⊢
    obtain ⟨p, od, vs, e, rl, l, q2, f1⟩ := r
    obtain ⟨a1, a2⟩ := st.keep p _ q2 ⟨fun ps z => (by cases z), fun ps z => (by cases z)⟩ f1
    exact ⟨p, od, vs, e, RVL.step st xs vs rl, l, a1, a2⟩
  | .obj a, v, r => by
    simp only [RV] at r ⊢
    obtain ⟨p, e, q⟩ := r
    exact ⟨p, e, st.ext a p q⟩
theorem RVL.step (st : Stp ι H ι' H') : ∀ (ds : List D) (vs : List V), RVL c ι H ds vs → RVL c ι' H' ds vs
  | [], vs, r => by simp only [RVL] at r ⊢; exact r
  | d :: ds, vs, r => by
    simp only [RVL] at r ⊢
    obtain ⟨v, vr, e, r1, r2⟩ := r
    exact ⟨v, vr, e, RV.step st d v r1, RVL.step st ds vr r2⟩
end
end
end ML
/-! the text M2 -/
/-! M2: the heap's steps; readings of expressions, arguments, tests, statements as functions over deep values. -/
namespace ML
open PySem PySem.Spec PyProof.Rows L2

section
variable {c : Gx} {ι ι' : Adr} {H H' : Hp} {h : VH}
theorem RVL.len : ∀ {ds : List D} {vs : List V}, RVL c ι H ds vs → vs.length = ds.length
  | [], vs, r => by simp only [RVL] at r; subst r; rfl
  | d :: ds, vs, r => by
    simp only [RVL] at r
    obtain ⟨v, vr, e, _, r2⟩ := r
    subst e
    simp [RVL.len r2]
theorem RVL.get : ∀ {ds : List D} {vs : List V} {i : Nat} {d : D}, RVL c ι H ds vs → ds[i]? = some d → ∃ v, vs[i]? = some v ∧ RV c ι H d v
  | [], vs, i, d, _, e => by simp at e
  | x :: ds, vs, i, d, r, e => by
    simp only [RVL] at r
    obtain ⟨v, vr, e1, r1, r2⟩ := r
    subst e1
    cases i with
    | zero => simp at e; subst e; exact ⟨v, rfl, r1⟩
    | succ i => simpa using RVL.get (i := i) r2 (by simpa using e)
theorem RVL.nil : RVL c ι H [] [] := by simp only [RVL]
theorem RVL.cons {d : D} {v : V} {ds : List D} {vs : List V} (r : RV c ι H d v) (s : RVL c ι H ds vs) : RVL c ι H (d :: ds) (v :: vs) := by
  simp only [RVL]
  exact ⟨v, vs, rfl, r, s⟩
theorem RVL.inv_cons {d : D} {ds : List D} {vs : List V} (r : RVL c ι H (d :: ds) vs) : ∃ v vr, vs = v :: vr ∧ RV c ι H d v ∧ RVL c ι H ds vr := by
  simpa only [RVL] using r
theorem RVL.inv_nil {vs : List V} (r : RVL c ι H [] vs) : vs = [] := by simpa only [RVL] using r
theorem RVL.append : ∀ {ds es : List D} {vs ws : List V}, RVL c ι H ds vs → RVL c ι H es ws → RVL c ι H (ds ++ es) (vs ++ ws)
  | [], es, vs, ws, r, s => by rw [r.inv_nil]; exact s
  | d :: ds, es, vs, ws, r, s => by
    obtain ⟨v, vr, e, r1, r2⟩ := r.inv_cons
    subst e
    exact .cons r1 (RVL.append r2 s)
theorem RVL.take : ∀ {ds : List D} {vs : List V} (n : Nat), RVL c ι H ds vs → RVL c ι H (ds.take n) (vs.take n)
  | _, _, 0, _ => .nil
  | [], vs, n + 1, r => by rw [r.inv_nil]; exact .nil
  | d :: ds, vs, n + 1, r => by
    obtain ⟨v, vr, e, r1, r2⟩ := r.inv_cons
    subst e
    exact .cons r1 (RVL.take n r2)
theorem RVL.drop : ∀ {ds : List D} {vs : List V} (n : Nat), RVL c ι H ds vs → RVL c ι H (ds.drop n) (vs.drop n)
  | _, _, 0, r => r
  | [], vs, n + 1, r => by rw [r.inv_nil]; exact .nil
  | d :: ds, vs, n + 1, r => by
    obtain ⟨v, vr, e, r1, r2⟩ := r.inv_cons
    subst e
    exact RVL.drop n r2
theorem RVL.set : ∀ {ds : List D} {vs : List V} (i : Nat) {d : D} {v : V}, RVL c ι H ds vs → RV c ι H d v → RVL c ι H (ds.set i d) (vs.set i v)
  | [], vs, i, d, v, r, _ => by rw [r.inv_nil]; exact .nil
  | x :: ds, vs, 0, d, v, r, q => by
    obtain ⟨w, vr, e, r1, r2⟩ := r.inv_cons
    subst e
    exact .cons q r2
  | x :: ds, vs, i + 1, d, v, r, q => by
    obtain ⟨w, vr, e, r1, r2⟩ := r.inv_cons
    subst e
    exact .cons r1 (RVL.set i r2 q)

/-! ### the heap -/
theorem RO.at {o : O} {p : Addr} (r : RO c ι H o p) : ∃ u, H p = some u := by
  cases o with
  | lst xs => simp only [RO] at r; obtain ⟨vs, e, _⟩ := r; exact ⟨_, e⟩
  | ins C ks xs => simp only [RO] at r; obtain ⟨_, _, vs, e, _⟩ := r; exact ⟨_, e⟩
  | dic ks xs => simp only [RO] at r; obtain ⟨vs, e, _⟩ := r; exact ⟨_, e⟩
  | slt C xs => simp only [RO] at r; obtain ⟨_, _, vs, _, e, _⟩ := r; exact ⟨_, e⟩
theorem RH.off (r : RH c ι h H) {p : Addr} (n : H p = none) : Off ι p := by
  refine ⟨fun a e => ?_, fun e => ?_⟩
  · have l := r.dom a p e
    obtain ⟨q, e2, ro⟩ := r.obj a _ (List.getElem?_eq_getElem l)
    rw [e] at e2
    cases e2
    obtain ⟨u, hu⟩ := ro.at
    rw [n] at hu
    cases hu
  · obtain ⟨u, hu, _⟩ := r.hdn p e
    rw [n] at hu
    cases hu
/-- what may be written -/
def Wr (H : Hp) (p : Addr) : Prop := ∃ u, H p = some u ∧ (∀ ps, u ≠ .tbl ps) ∧ ∀ φ, u ≠ .ext φ
theorem wr_lst {p : Addr} {vs : List V} (e : H p = some (.lst vs)) : Wr H p := ⟨_, e, fun _ z => (by cases z), fun _ z => (by cases z)⟩
theorem wr_ins {p Ca dx : Addr} {fs : List (Str × V)} (e : H p = some (.ins Ca dx fs)) : Wr H p := ⟨_, e, fun _ z => (by cases z), fun _ z => (by cases z)⟩
theorem wr_dic {p : Addr} {fs : List (Key × V)} (e : H p = some (.dK fs)) : Wr H p := ⟨_, e, fun _ z => (by cases z), fun _ z => (by cases z)⟩
theorem tabs_keep {T : List (Addr × Str)} (t : LamX.Tabs T H) (k : ∀ b o, H b = some o → ((∃ ps, o = .tbl ps) ∨ ∃ φ, o = .ext φ) → H' b = some o) : LamX.Tabs T H' := fun p hp => by
  obtain ⟨ps, h1, h2, h3⟩ := t p hp
  refine ⟨ps, k _ _ h1 (.inl ⟨_, rfl⟩), h2, fun pos cv hc => ?_⟩
  obtain ⟨c, e1, e2⟩ := h3 pos cv hc
  exact ⟨c, e1, k _ _ e2 (.inr ⟨_, rfl⟩)⟩
/-- what is stored does not lean on the changed object -/
theorem RO.moved {o : O} {p : Addr} (r : RO c ι H o p) (st : Stp ι H ι' H') (e : H' p = H p) : RO c ι' H' o p := by
  cases o with
  | lst xs =>
    simp only [RO] at r ⊢
    obtain ⟨vs, a, b⟩ := r
    exact ⟨vs, e.trans a, RVL.step st _ _ b⟩
  | ins C ks xs =>
    simp only [RO] at r ⊢
    obtain ⟨Ca, dx, vs, a, b, d, f⟩ := r
    exact ⟨Ca, dx, vs, e.trans a, b, d, RVL.step st _ _ f⟩
  | dic ks xs =>
    simp only [RO] at r ⊢
    obtain ⟨vs, a, b, f⟩ := r
    exact ⟨vs, e.trans a, b, RVL.step st _ _ f⟩
  | slt C xs =>
    simp only [RO] at r ⊢
    obtain ⟨Ca, dx, vs, m, a, b, d, f⟩ := r
    obtain ⟨b', f'⟩ := st.keep dx _ b ⟨fun ps z => (by cases z), fun ps z => (by cases z)⟩ f
    exact ⟨Ca, dx, vs, m, e.trans a, b', RVL.step st _ _ d, f'⟩
/-- a new object that is not to change (or is not ours) -/
theorem RH.newStp (r : RH c ι h H) {p : Addr} {o : HO} (n : H p = none) : Stp ι H ι (upd H p o) :=
  ⟨fun _ _ e => e, fun q u e _ f => ⟨by rw [upd_ne (ne_of_none e n)]; exact e, f⟩, fun q u f e _ => ⟨by rw [upd_ne (ne_of_none e n)]; exact e, f⟩⟩
theorem RH.new (r : RH c ι h H) {p : Addr} {o : HO} (n : H p = none) : RH c ι h (upd H p o) := by
  have st := r.newStp (o := o) n
  refine ⟨fun a u e => ?_, r.dom, r.inj, fun q hq => ?_, r.dis, tabs_keep r.tab fun b o e _ => by rw [upd_ne (ne_of_none e n)]; exact e⟩
  · obtain ⟨q, e1, ro⟩ := r.obj a u e
    obtain ⟨w, hw⟩ := ro.at
    exact ⟨q, e1, ro.moved st (upd_ne (ne_of_none hw n))⟩
  · obtain ⟨u, hu, no⟩ := r.hdn q hq
    exact ⟨u, by rw [upd_ne (ne_of_none hu n)]; exact hu, no⟩
/-- a new object of ours -/
def put (ι : Adr) (n : Nat) (p : Addr) : Adr := ⟨fun a => if a = n then some p else ι a, ι.hid⟩
theorem put_same {n : Nat} {p : Addr} : put ι n p n = some p := if_pos rfl
theorem put_ne {n a : Nat} {p : Addr} (e : a ≠ n) : put ι n p a = ι a := if_neg e
theorem RH.pushStp (r : RH c ι h H) {p : Addr} {u : HO} (n : H p = none) : Stp ι H (put ι h.length p) (upd H p u) := by
  refine ⟨fun a q e => ?_, fun q o e _ f => ⟨by rw [upd_ne (ne_of_none e n)]; exact e, fun a z => ?_, f.2⟩, fun q o f e _ => ⟨by rw [upd_ne (ne_of_none e n)]; exact e, f⟩⟩
  · have := r.dom a q e
    rw [put_ne (by omega)]
    exact e
  · by_cases ha : a = h.length
    · subst ha
      rw [put_same] at z
      cases z
      rw [n] at e
      cases e
    · rw [put_ne ha] at z
      exact f.1 a z
theorem RH.push (r : RH c ι h H) {p : Addr} {u : HO} {o : O} (n : H p = none) (ro : RO c (put ι h.length p) (upd H p u) o p) : RH c (put ι h.length p) (h ++ [o]) (upd H p u) := by
  have st := r.pushStp (u := u) n
  have key : ∀ {a : Nat} {q : Addr}, put ι h.length p a = some q → (a = h.length ∧ q = p) ∨ (a ≠ h.length ∧ ι a = some q) := fun {a q} e => by
    by_cases ha : a = h.length
    · subst ha; rw [put_same] at e; cases e; exact .inl ⟨rfl, rfl⟩
    · rw [put_ne ha] at e; exact .inr ⟨ha, e⟩
  have off := r.off n
  refine ⟨fun a w e => ?_, fun a q e => ?_, fun a b q e1 e2 => ?_, fun q hq => ?_, fun a q e hq => ?_, tabs_keep r.tab fun b o e _ => by rw [upd_ne (ne_of_none e n)]; exact e⟩
  · by_cases ha : a = h.length
    · subst ha
      simp at e
      subst e
      exact ⟨p, put_same, ro⟩
    · have hl : a < h.length := by
        have := (List.getElem?_eq_some_iff.mp e).1
        simp at this
        omega
      rw [List.getElem?_append_left hl] at e
      obtain ⟨q, e1, r1⟩ := r.obj a w e
      obtain ⟨v, hv⟩ := r1.at
      exact ⟨q, by rw [put_ne ha]; exact e1, r1.moved st (upd_ne (ne_of_none hv n))⟩
  · by_cases ha : a = h.length
    · simp [ha]
    · rw [put_ne ha] at e
      have := r.dom a q e
      simp
      omega
  · rcases key e1 with ⟨x1, x2⟩ | ⟨x1, x2⟩ <;> rcases key e2 with ⟨y1, y2⟩ | ⟨y1, y2⟩
    · rw [x1, y1]
    · subst x2; exact absurd y2 (off.1 b)
    · subst y2; exact absurd x2 (off.1 a)
    · exact r.inj a b q x2 y2
  · obtain ⟨u, hu, no⟩ := r.hdn q hq
    exact ⟨u, by rw [upd_ne (ne_of_none hu n)]; exact hu, no⟩
  · rcases key e with ⟨x1, x2⟩ | ⟨x1, x2⟩
    · subst x2; exact off.2 hq
    · exact r.dis a q x2 hq
/-- an object of ours is changed -/
theorem RH.setStp (r : RH c ι h H) {a : Nat} {p : Addr} {u : HO} (e : ι a = some p) : Stp ι H ι (upd H p u) :=
  ⟨fun _ _ e => e, fun q o e2 _ f => ⟨by rw [upd_ne (fun z => by subst z; exact f.1 a e)]; exact e2, f⟩, fun q o f e2 _ => ⟨by rw [upd_ne (fun z => by subst z; exact r.dis a _ e f)]; exact e2, f⟩⟩
theorem RH.setO (r : RH c ι h H) {a : Nat} {p : Addr} {u : HO} {o : O} (e : ι a = some p) (old : Wr H p) (ro : RO c ι (upd H p u) o p) : RH c ι (h.set a o) (upd H p u) := by
  have st := r.setStp (u := u) e
  obtain ⟨w, hw, n1, n2⟩ := old
  refine ⟨fun b w e1 => ?_, fun b q e1 => by simpa using r.dom b q e1, r.inj, fun q hq => ?_, r.dis, tabs_keep r.tab fun b o e1 k => ?_⟩
  · by_cases hb : b = a
    · subst hb
      rw [List.getElem?_set_self (r.dom b p e)] at e1
      cases e1
      exact ⟨p, e, ro⟩
    · rw [List.getElem?_set_ne (Ne.symm hb)] at e1
      obtain ⟨q, e2, r1⟩ := r.obj b w e1
      refine ⟨q, e2, r1.moved st (upd_ne fun z => ?_)⟩
      subst z
      exact hb (r.inj b a q e2 e)
  · obtain ⟨u, hu, no⟩ := r.hdn q hq
    exact ⟨u, by rw [upd_ne (fun z => by subst z; exact r.dis a _ e hq)]; exact hu, no⟩
  · rw [upd_ne (fun z => ?_)]
    · exact e1
    · subst z
      rw [hw] at e1
      cases e1
      rcases k with ⟨ps, k⟩ | ⟨φ, k⟩
      · exact n1 _ k
      · exact n2 _ k
/-! ### an object that nothing holds, for a while -/
def hide (ι : Adr) (p : Addr) : Adr := ⟨ι.f, fun q => ι.hid q ∨ q = p⟩
def bare (ι : Adr) (p : Addr) : Adr := ⟨ι.f, fun q => ι.hid q ∧ q ≠ p⟩
theorem RH.hideStp (r : RH c ι h H) {p : Addr} {o : HO} (n : H p = none) : Stp ι H (hide ι p) (upd H p o) :=
  ⟨fun _ _ e => e, fun q u e _ f => ⟨by rw [upd_ne (ne_of_none e n)]; exact e, f.1, fun z => z.elim f.2 fun z => ne_of_none e n z⟩, fun q u f e _ => ⟨by rw [upd_ne (ne_of_none e n)]; exact e, .inl f⟩⟩
theorem RH.hide (r : RH c ι h H) {p : Addr} {o : HO} (n : H p = none) (no : ∀ x, o ≠ .own x) : RH c (hide ι p) h (upd H p o) := by
  have st := r.hideStp (o := o) n
  have off := r.off n
  refine ⟨fun a u e => ?_, r.dom, r.inj, fun q hq => ?_, fun a q e hq => ?_, tabs_keep r.tab fun b o e _ => by rw [upd_ne (ne_of_none e n)]; exact e⟩
  · obtain ⟨q, e1, ro⟩ := r.obj a u e
    obtain ⟨w, hw⟩ := ro.at
    exact ⟨q, e1, ro.moved st (upd_ne (ne_of_none hw n))⟩
  · rcases hq with hq | hq
    · obtain ⟨u, hu, no⟩ := r.hdn q hq
      exact ⟨u, by rw [upd_ne (ne_of_none hu n)]; exact hu, no⟩
    · subst hq; exact ⟨o, upd_same, no⟩
  · rcases hq with hq | hq
    · exact r.dis a q e hq
    · subst hq; exact off.1 a e
/-- what is hidden is written -/
theorem hidStp {p : Addr} {u w : HO} (hp : ι.hid p) (e0 : H p = some w) (n : ∀ ps, w ≠ .tbl ps) : ∀ b o, Off ι b → H b = some o → upd H p u b = some o := fun b o f e => by
  rw [upd_ne (fun z => by subst z; exact f.2 hp)]
  exact e
mutual
theorem RV.under {p : Addr} {u : HO} (hp : ι.hid p) : ∀ (d : D) (v : V), RV c ι H d v → RV c ι (upd H p u) d v
  | .non, v, r => by simp only [RV] at r ⊢; exact r
  | .bl b, v, r => by simp only [RV] at r ⊢; exact r
  | .int b, v, r => by simp only [RV] at r ⊢; exact r
  | .str b, v, r => by simp only [RV] at r ⊢; exact r
  | .ty b, v, r => by simp only [RV] at r ⊢; exact r
  | .glo b, v, r => by simp only [RV] at r ⊢; exact r
  | .tup xs, v, r => by
    simp only [RV] at r ⊢
    obtain ⟨q, vs, e, rl, s, f⟩ := r
    refine ⟨q, vs, e, RVL.under hp xs vs rl, ?_, f⟩
    rcases f with f | f
    · have k : upd H p u q = H q := upd_ne (fun z => by subst z; exact f.2 hp)
      rcases s with (s | ⟨b, s⟩) | s
      · exact .inl (.inl (k.trans s))
      · exact .inl (.inr ⟨b, k.trans s⟩)
      · exact .inr s
    · exact f _
  | .lst xs, v, r => by
    simp only [RV] at r ⊢
    obtain ⟨q, vs, e, rl, s, f⟩ := r
    exact ⟨q, vs, e, RVL.under hp xs vs rl, by rw [upd_ne (fun z => by subst z; exact f.2 hp)]; exact s, f⟩
  | .bls xs, v, r => by
    simp only [RV] at r ⊢
    obtain ⟨q, vs, e, rl, s, f⟩ := r
    refine ⟨q, vs, e, RVL.under hp xs vs rl, ?_, f⟩
    rcases f with f | f
    · have k : upd H p u q = H q := upd_ne (fun z => by subst z; exact f.2 hp)
      rcases s with (s | ⟨b, s⟩) | s
      · exact .inl (.inl (k.trans s))
      · exact .inl (.inr ⟨b, k.trans s⟩)
      · exact .inr s
    · exact f _
  | .slt C xs, v, r => by
    simp only [RV] at r ⊢
    obtain ⟨q, Ca, dx, vs, e, rl, q1, q2, q3, f1, f2⟩ := r
    exact ⟨q, Ca, dx, vs, e, RVL.under hp xs vs rl, q1, by rw [upd_ne (fun z => by subst z; exact f1.2 hp)]; exact q2, by rw [upd_ne (fun z => by subst z; exact f2.2 hp)]; exact q3, f1, f2⟩
  | .ins C ks xs, v, r => by
    simp only [RV] at r ⊢
    obtain ⟨q, Ca, dx, vs, e, rl, l, q1, q2, f1⟩ := r
    exact ⟨q, Ca, dx, vs, e, RVL.under hp xs vs rl, l, q1, by rw [upd_ne (fun z => by subst z; exact f1.2 hp)]; exact q2, f1⟩
  | .dic ks xs, v, r => by
    simp only [RV] at r ⊢
    obtain ⟨q, od, vs, e, rl, l, q2, f1⟩ := r
    exact ⟨q, od, vs, e, RVL.under hp xs vs rl, l, by rw [upd_ne (fun z => by subst z; exact f1.2 hp)]; exact q2, f1⟩
  | .obj a, v, r => by
    simp only [RV] at r ⊢
    exact r
theorem RVL.under {p : Addr} {u : HO} (hp : ι.hid p) : ∀ (ds : List D) (vs : List V), RVL c ι H ds vs → RVL c ι (upd H p u) ds vs
  | [], vs, r => by simp only [RVL] at r ⊢; exact r
  | d :: ds, vs, r => by
    simp only [RVL] at r ⊢
    obtain ⟨v, vr, e, r1, r2⟩ := r
    exact ⟨v, vr, e, RV.under hp d v r1, RVL.under hp ds vr r2⟩
end
mutual
theorem RV.bared {p : Addr} : ∀ (d : D) (v : V), RV c ι H d v → RV c (bare ι p) H d v
  | .non, v, r => by simp only [RV] at r ⊢; exact r
  | .bl b, v, r => by simp only [RV] at r ⊢; exact r
  | .int b, v, r => by simp only [RV] at r ⊢; exact r
  | .str b, v, r => by simp only [RV] at r ⊢; exact r
  | .ty b, v, r => by simp only [RV] at r ⊢; exact r
  | .glo b, v, r => by simp only [RV] at r ⊢; exact r
  | .tup xs, v, r => by
    simp only [RV] at r ⊢
    obtain ⟨q, vs, e, rl, s, f⟩ := r
    exact ⟨q, vs, e, RVL.bared xs vs rl, s, f.imp (fun f => ⟨f.1, fun z => f.2 z.1⟩) id⟩
  | .lst xs, v, r => by
    simp only [RV] at r ⊢
    obtain ⟨q, vs, e, rl, s, f⟩ := r
    exact ⟨q, vs, e, RVL.bared xs vs rl, s, f.1, fun z => f.2 z.1⟩
  | .bls xs, v, r => by
    simp only [RV] at r ⊢
    obtain ⟨q, vs, e, rl, s, f⟩ := r
    exact ⟨q, vs, e, RVL.bared xs vs rl, s, f.imp (fun f => ⟨f.1, fun z => f.2 z.1⟩) id⟩
  | .slt C xs, v, r => by
    simp only [RV] at r ⊢
    obtain ⟨q, Ca, dx, vs, e, rl, q1, q2, q3, f1, f2⟩ := r
    exact ⟨q, Ca, dx, vs, e, RVL.bared xs vs rl, q1, q2, q3, ⟨f1.1, fun z => f1.2 z.1⟩, ⟨f2.1, fun z => f2.2 z.1⟩⟩
  | .ins C ks xs, v, r => by
    simp only [RV] at r ⊢
    obtain ⟨q, Ca, dx, vs, e, rl, l, q1, q2, f1⟩ := r
    exact ⟨q, Ca, dx, vs, e, RVL.bared xs vs rl, l, q1, q2, ⟨f1.1, fun z => f1.2 z.1⟩⟩
  | .dic ks xs, v, r => by
    simp only [RV] at r ⊢
    obtain ⟨q, od, vs, e, rl, l, q2, f1⟩ := r
    exact ⟨q, od, vs, e, RVL.bared xs vs rl, l, q2, ⟨f1.1, fun z => f1.2 z.1⟩⟩
  | .obj a, v, r => by
    simp only [RV] at r ⊢
    exact r
theorem RVL.bared {p : Addr} : ∀ (ds : List D) (vs : List V), RVL c ι H ds vs → RVL c (bare ι p) H ds vs
  | [], vs, r => by simp only [RVL] at r ⊢; exact r
  | d :: ds, vs, r => by
    simp only [RVL] at r ⊢
    obtain ⟨v, vr, e, r1, r2⟩ := r
    exact ⟨v, vr, e, RV.bared d v r1, RVL.bared ds vr r2⟩
end
theorem RO.under {p : Addr} {u : HO} {o : O} {q : Addr} (hp : ι.hid p) (hq : q ≠ p) (r : RO c ι H o q) : RO c ι (upd H p u) o q := by
  cases o with
  | lst xs => simp only [RO] at r ⊢; obtain ⟨vs, a, b⟩ := r; exact ⟨vs, (upd_ne hq).trans a, RVL.under hp _ _ b⟩
  | ins C ks xs => simp only [RO] at r ⊢; obtain ⟨Ca, dx, vs, a, b, d, f⟩ := r; exact ⟨Ca, dx, vs, (upd_ne hq).trans a, b, d, RVL.under hp _ _ f⟩
  | dic ks xs => simp only [RO] at r ⊢; obtain ⟨vs, a, b, f⟩ := r; exact ⟨vs, (upd_ne hq).trans a, b, RVL.under hp _ _ f⟩
  | slt C xs => simp only [RO] at r ⊢; obtain ⟨Ca, dx, vs, m, a, b, d, f⟩ := r; exact ⟨Ca, dx, vs, m, (upd_ne hq).trans a, (upd_ne (fun z => by subst z; exact f.2 hp)).trans b, RVL.under hp _ _ d, f⟩
theorem RO.bared {p : Addr} {o : O} {q : Addr} (r : RO c ι H o q) : RO c (bare ι p) H o q := by
  cases o with
  | lst xs => simp only [RO] at r ⊢; obtain ⟨vs, a, b⟩ := r; exact ⟨vs, a, RVL.bared _ _ b⟩
  | ins C ks xs => simp only [RO] at r ⊢; obtain ⟨Ca, dx, vs, a, b, d, f⟩ := r; exact ⟨Ca, dx, vs, a, b, d, RVL.bared _ _ f⟩
  | dic ks xs => simp only [RO] at r ⊢; obtain ⟨vs, a, b, f⟩ := r; exact ⟨vs, a, b, RVL.bared _ _ f⟩
  | slt C xs => simp only [RO] at r ⊢; obtain ⟨Ca, dx, vs, m, a, b, d, f⟩ := r; exact ⟨Ca, dx, vs, m, a, b, RVL.bared _ _ d, ⟨f.1, fun z => f.2 z.1⟩⟩
theorem RH.under (r : RH c ι h H) {p : Addr} {u w : HO} (hp : ι.hid p) (e0 : H p = some w) (n1 : ∀ ps, w ≠ .tbl ps) (n2 : ∀ φ, w ≠ .ext φ) (no : ∀ x, u ≠ .own x) : RH c ι h (upd H p u) := by
  refine ⟨fun a o e => ?_, r.dom, r.inj, fun q hq => ?_, r.dis, tabs_keep r.tab fun b o e k => ?_⟩
  · obtain ⟨q, e1, ro⟩ := r.obj a o e
    exact ⟨q, e1, ro.under hp fun z => by subst z; exact r.dis a _ e1 hp⟩
  · by_cases z : q = p
    · subst z; exact ⟨u, upd_same, no⟩
    · obtain ⟨x, hx, nx⟩ := r.hdn q hq
      exact ⟨x, (upd_ne z).trans hx, nx⟩
  · rw [upd_ne (fun z => ?_)]
    · exact e
    · subst z
      rw [e0] at e
      cases e
      rcases k with ⟨ps, k⟩ | ⟨φ, k⟩
      · exact n1 _ k
      · exact n2 _ k
theorem RH.bared (r : RH c ι h H) {p : Addr} : RH c (bare ι p) h H :=
  ⟨fun a o e => let ⟨q, e1, ro⟩ := r.obj a o e; ⟨q, e1, ro.bared⟩, r.dom, r.inj, fun q hq => r.hdn q hq.1, fun a q e hq => r.dis a q e hq.1, r.tab⟩
theorem off_bare (r : RH c ι h H) {p : Addr} (hp : ι.hid p) : Off (bare ι p) p := ⟨fun a e => r.dis a p e hp, fun z => z.2 rfl⟩
/-! ### the objects above a line forgotten -/
mutual
def D.sc (n : Nat) : D → Bool
  | .obj a => decide (a < n)
  | .tup xs => D.scs n xs
  | .lst xs => D.scs n xs
  | .bls xs => D.scs n xs
  | .slt _ xs => D.scs n xs
  | .ins _ _ xs => D.scs n xs
  | .dic _ xs => D.scs n xs
  | _ => true
def D.scs (n : Nat) : List D → Bool
  | [] => true
  | d :: ds => d.sc n && D.scs n ds
end
def cut (ι : Adr) (n : Nat) : Adr := ⟨fun a => if a < n then ι a else none, ι.hid⟩
theorem Off.cut {p : Addr} {n : Nat} (f : Off ι p) : Off (cut ι n) p := by
  refine ⟨fun a e => ?_, f.2⟩
  have e' : (if a < n then ι a else none) = some p := e
  split at e'
  · exact f.1 a e'
  · cases e'
mutual
theorem RV.cut {n : Nat} : ∀ (d : D) (v : V), RV c ι H d v → d.sc n = true → RV c (ML.cut ι n) H d v
  | .non, v, r, _ => by simp only [RV] at r ⊢; exact r
  | .bl b, v, r, _ => by simp only [RV] at r ⊢; exact r
  | .int b, v, r, _ => by simp only [RV] at r ⊢; exact r
  | .str b, v, r, _ => by simp only [RV] at r ⊢; exact r
  | .ty b, v, r, _ => by simp only [RV] at r ⊢; exact r
  | .glo b, v, r, _ => by simp only [RV] at r ⊢; exact r
  | .tup xs, v, r, s => by
    simp only [RV] at r ⊢
    simp only [D.sc] at s
    obtain ⟨q, vs, e, rl, sq, f⟩ := r
    exact ⟨q, vs, e, RVL.cut xs vs rl s, sq, f.imp Off.cut id⟩
  | .lst xs, v, r, s => by
    simp only [RV] at r ⊢
    simp only [D.sc] at s
    obtain ⟨q, vs, e, rl, sq, f⟩ := r
    exact ⟨q, vs, e, RVL.cut xs vs rl s, sq, f.cut⟩
  | .bls xs, v, r, s => by
    simp only [RV] at r ⊢
    simp only [D.sc] at s
    obtain ⟨q, vs, e, rl, sq, f⟩ := r
    exact ⟨q, vs, e, RVL.cut xs vs rl s, sq, f.imp Off.cut id⟩
  | .slt C xs, v, r, s => by
    simp only [RV] at r ⊢
    simp only [D.sc] at s
    obtain ⟨q, Ca, dx, vs, e, rl, q1, q2, q3, f1, f2⟩ := r
    exact ⟨q, Ca, dx, vs, e, RVL.cut xs vs rl s, q1, q2, q3, f1.cut, f2.cut⟩
  | .ins C ks xs, v, r, s => by
    simp only [RV] at r ⊢
    simp only [D.sc] at s
    obtain ⟨q, Ca, dx, vs, e, rl, l, q1, q2, f1⟩ := r
    exact ⟨q, Ca, dx, vs, e, RVL.cut xs vs rl s, l, q1, q2, f1.cut⟩
  | .dic ks xs, v, r, s => by
    simp only [RV] at r ⊢
    simp only [D.sc] at s
    obtain ⟨q, od, vs, e, rl, l, q2, f1⟩ := r
    exact ⟨q, od, vs, e, RVL.cut xs vs rl s, l, q2, f1.cut⟩
  | .obj a, v, r, s => by
    simp only [RV] at r ⊢
    simp only [D.sc, decide_eq_true_eq] at s
    obtain ⟨p, e, q⟩ := r
    exact ⟨p, e, (if_pos s).trans q⟩
theorem RVL.cut {n : Nat} : ∀ (ds : List D) (vs : List V), RVL c ι H ds vs → D.scs n ds = true → RVL c (ML.cut ι n) H ds vs
  | [], vs, r, _ => by simp only [RVL] at r ⊢; exact r
  | d :: ds, vs, r, s => by
    simp only [RVL] at r ⊢
    simp only [D.scs, Bool.and_eq_true] at s
    obtain ⟨v, vr, e, r1, r2⟩ := r
    exact ⟨v, vr, e, RV.cut d v r1 s.1, RVL.cut ds vr r2 s.2⟩
end
mutual
theorem RV.scd {n : Nat} (b : ∀ a p, ι a = some p → a < n) : ∀ (d : D) (v : V), RV c ι H d v → d.sc n = true
  | .non, v, r => rfl
  | .bl b, v, r => rfl
  | .int b, v, r => rfl
  | .str b, v, r => rfl
  | .ty b, v, r => rfl
  | .glo b, v, r => rfl
  | .tup xs, v, r => by
    simp only [RV] at r
    obtain ⟨q, vs, e, rl, sq, f⟩ := r
    simp only [D.sc]; exact RVL.scd b xs vs rl
  | .lst xs, v, r => by
    simp only [RV] at r
    obtain ⟨q, vs, e, rl, sq, f⟩ := r
    simp only [D.sc]; exact RVL.scd b xs vs rl
  | .bls xs, v, r => by
    simp only [RV] at r
    obtain ⟨q, vs, e, rl, sq, f⟩ := r
    simp only [D.sc]; exact RVL.scd b xs vs rl
  | .slt C xs, v, r => by
    simp only [RV] at r
    obtain ⟨q, Ca, dx, vs, e, rl, _⟩ := r
    simp only [D.sc]; exact RVL.scd b xs vs rl
  | .ins C ks xs, v, r => by
    simp only [RV] at r
    obtain ⟨q, Ca, dx, vs, e, rl, _⟩ := r
    simp only [D.sc]; exact RVL.scd b xs vs rl
  | .dic ks xs, v, r => by
    simp only [RV] at r
    obtain ⟨q, od, vs, e, rl, _⟩ := r
    simp only [D.sc]; exact RVL.scd b xs vs rl
  | .obj a, v, r => by
    simp only [RV] at r
    obtain ⟨p, e, q⟩ := r
    simp only [D.sc, decide_eq_true_eq]
    exact b a p q
theorem RVL.scd {n : Nat} (b : ∀ a p, ι a = some p → a < n) : ∀ (ds : List D) (vs : List V), RVL c ι H ds vs → D.scs n ds = true
  | [], vs, r => rfl
  | d :: ds, vs, r => by
    simp only [RVL] at r
    obtain ⟨v, vr, e, r1, r2⟩ := r
    simp only [D.scs, Bool.and_eq_true]
    exact ⟨RV.scd b d v r1, RVL.scd b ds vr r2⟩
end
def O.sc (n : Nat) : O → Bool
  | .lst xs => D.scs n xs
  | .ins _ _ xs => D.scs n xs
  | .dic _ xs => D.scs n xs
  | .slt _ xs => D.scs n xs
theorem RO.scd {n : Nat} (b : ∀ a p, ι a = some p → a < n) {o : O} {p : Addr} (r : RO c ι H o p) : o.sc n = true := by
  cases o with
  | lst xs => simp only [RO] at r; obtain ⟨vs, _, e⟩ := r; exact RVL.scd b _ _ e
  | ins C ks xs => simp only [RO] at r; obtain ⟨_, _, vs, _, _, _, e⟩ := r; exact RVL.scd b _ _ e
  | dic ks xs => simp only [RO] at r; obtain ⟨vs, _, _, e⟩ := r; exact RVL.scd b _ _ e
  | slt C xs => simp only [RO] at r; obtain ⟨_, _, vs, _, _, _, e, _⟩ := r; exact RVL.scd b _ _ e
theorem RO.cut {n : Nat} {o : O} {p : Addr} (r : RO c ι H o p) (s : o.sc n = true) : RO c (ML.cut ι n) H o p := by
  cases o with
  | lst xs => simp only [RO] at r ⊢; obtain ⟨vs, a, e⟩ := r; exact ⟨vs, a, RVL.cut _ _ e s⟩
  | ins C ks xs => simp only [RO] at r ⊢; obtain ⟨Ca, dx, vs, a, b, d, e⟩ := r; exact ⟨Ca, dx, vs, a, b, d, RVL.cut _ _ e s⟩
  | dic ks xs => simp only [RO] at r ⊢; obtain ⟨vs, a, b, e⟩ := r; exact ⟨vs, a, b, RVL.cut _ _ e s⟩
  | slt C xs => simp only [RO] at r ⊢; obtain ⟨Ca, dx, vs, m, a, b, e, f⟩ := r; exact ⟨Ca, dx, vs, m, a, b, RVL.cut _ _ e s, f.cut⟩
theorem Stp.cut {n : Nat} (r : RH c ι h H) (hn : h.length ≤ n) (st : Stp ι H ι' H') : Stp ι H (ML.cut ι' n) H' :=
  ⟨fun a p e => (if_pos (Nat.lt_of_lt_of_le (r.dom a p e) hn)).trans (st.ext a p e), fun p o e n f => let ⟨a, b⟩ := st.keep p o e n f; ⟨a, b.cut⟩, st.hid⟩
theorem RH.cut {h1 g : VH} (r' : RH c ι' (h1 ++ g) H') (s : ∀ o ∈ h1, o.sc h1.length = true) : RH c (ML.cut ι' h1.length) h1 H' := by
  refine ⟨fun a o e => ?_, fun a p e => ?_, fun a b p e1 e2 => ?_, r'.hdn, fun a p e => ?_, r'.tab⟩
  · have hl := (List.getElem?_eq_some_iff.mp e).1
    obtain ⟨p, ep, ro⟩ := r'.obj a o (by rw [List.getElem?_append_left hl]; exact e)
    exact ⟨p, (if_pos hl).trans ep, ro.cut (s o (List.mem_of_getElem? e))⟩
  · have e' : (if a < h1.length then ι' a else none) = some p := e
    split at e'
    · assumption
    · cases e'
  · have e1' : (if a < h1.length then ι' a else none) = some p := e1
    have e2' : (if b < h1.length then ι' b else none) = some p := e2
    split at e1'
    · split at e2'
      · exact r'.inj a b p e1' e2'
      · cases e2'
    · cases e1'
  · have e' : (if a < h1.length then ι' a else none) = some p := e
    split at e'
    · exact r'.dis a p e'
    · cases e'
theorem RH.scd (r : RH c ι h H) : ∀ o ∈ h, o.sc h.length = true := fun o ho => by
  obtain ⟨a, ha⟩ := List.mem_iff_getElem?.mp ho
  obtain ⟨p, _, ro⟩ := r.obj a o ha
  exact ro.scd r.dom
end

/-! ### what functions give -/
abbrev Env := List (Option D)
abbrev R (α : Type) := Option (Except Xc α × VH)
abbrev ME := Env → VH → R D
abbrev MA := Env → VH → R (List D)
inductive Out where
  | nx | rt (d : D) | bk | ct | ex (x : Xc)
abbrev MS := Env → VH → Option (Out × Env × VH)

def bnd {α β : Type} (m : R α) (k : α → VH → R β) : R β :=
  match m with
  | some (.ok d, h1) => k d h1
  | some (.error x, h1) => some (.error x, h1)
  | none => none
def ok {α : Type} (d : α) (h : VH) : R α := some (.ok d, h)
/-- a value or nothing -/
def got {α : Type} (o : Option α) (h : VH) : R α := match o with
  | some d => some (.ok d, h)
  | none => none
@[simp] theorem bnd_ok {α β : Type} (d : α) (h : VH) (k : α → VH → R β) : bnd (some (.ok d, h)) k = k d h := rfl
@[simp] theorem bnd_ok' {α β : Type} (d : α) (h : VH) (k : α → VH → R β) : bnd (ok d h) k = k d h := rfl
@[simp] theorem bnd_er {α β : Type} (x : Xc) (h : VH) (k : α → VH → R β) : bnd (some (.error x, h)) k = some (.error x, h) := rfl
@[simp] theorem bnd_no {α β : Type} (k : α → VH → R β) : bnd none k = none := rfl
@[simp] theorem got_some {α : Type} (d : α) (h : VH) : got (some d) h = ok d h := rfl
@[simp] theorem got_none {α : Type} (h : VH) : got (none : Option α) h = none := rfl

/-- what is known beside the slots' values; the slots that may be written -/
structure Fx where
  ok : Adr → Hp → L2.St → Prop
  free : Nat → Prop
  step : ∀ {ι ι' : Adr} {H H' : Hp} {σ : L2.St}, Stp ι H ι' H' → ok ι H σ → ok ι' H' σ
  put : ∀ {ι : Adr} {H : Hp} {σ : L2.St} {j : Nat} {v : Option V}, free j → ok ι H σ → ok ι H (σ.set j v)
def Fx.no : Fx := ⟨fun _ _ _ => True, fun _ => True, fun _ z => z, fun _ z => z⟩
/-- what is wished of an error; what is known -/
structure WW where
  w : WX
  fx : Fx := Fx.no
instance : CoeFun WW (fun _ => Value → Option Addr → L2.St → Hp → Prop) := ⟨WW.w⟩
structure RS (c : Gx) (W : WW) (ι : Adr) (H : Hp) (ρ : Env) (σ : L2.St) : Prop where
  len : σ.length = ρ.length
  at_ : ∀ (i : Nat) (d : D), ρ[i]? = some (some d) → ∃ v, σ[i]? = some (some v) ∧ RV c ι H d v
  fx : W.fx.ok ι H σ
theorem RS.step {c : Gx} {W : WW} {ι ι' : Adr} {H H' : Hp} {ρ : Env} {σ : L2.St} (r : RS c W ι H ρ σ) (st : Stp ι H ι' H') : RS c W ι' H' ρ σ :=
  ⟨r.len, fun i d e => let ⟨v, a, b⟩ := r.at_ i d e; ⟨v, a, RV.step st d v b⟩, W.fx.step st r.fx⟩
theorem RS.set {c : Gx} {W : WW} {ι : Adr} {H : Hp} {ρ : Env} {σ : L2.St} (r : RS c W ι H ρ σ) (i : Nat) {d : D} {v : V} (q : RV c ι H d v) (fr : W.fx.free i) : RS c W ι H (ρ.set i (some d)) (σ.set i (some v)) := by
  refine ⟨by simp [r.len], fun j x e => ?_, W.fx.put fr r.fx⟩
  by_cases hj : j = i
  · subst hj
    have hl : j < ρ.length := by
      have := (List.getElem?_eq_some_iff.mp e).1
      simpa using this
    rw [List.getElem?_set_self hl] at e
    cases e
    exact ⟨v, List.getElem?_set_self (by rw [r.len]; exact hl), q⟩
  · rw [List.getElem?_set_ne (Ne.symm hj)] at e
    obtain ⟨w, a, b⟩ := r.at_ j x e
    exact ⟨w, by rw [List.getElem?_set_ne (Ne.symm hj)]; exact a, b⟩
def RX (c : Gx) (ι : Adr) (H : Hp) (x : Xc) (cls : Value) (d : Option Addr) : Prop :=
  c.mg x.C = some cls ∧ ((x.ks = [] ∧ d = none) ∨ ∃ a vs, d = some a ∧ vs.length = x.ks.length ∧ H a = some (.xd (x.ks.zip vs)) ∧ RVL c ι H x.xs vs ∧ Off ι a)

section
variable (c : Gx) (W : WW)
def KE (ι : Adr) (H : Hp) (σ : L2.St) (Q : VK) (h' : VH) : Except Xc D → Prop
  | .ok d => ∀ ι' H' v, Stp ι H ι' H' → RH c ι' h' H' → RV c ι' H' d v → Q v H'
  | .error x => ∀ ι' H' cls dd, Stp ι H ι' H' → RH c ι' h' H' → RX c ι' H' x cls dd → W cls dd σ H'
def tE (m : ME) : TE := fun σ H Q => ∃ ι ρ h r h', RS c W ι H ρ σ ∧ RH c ι h H ∧ m ρ h = some (r, h') ∧ KE c W ι H σ Q h' r
def KA (ι : Adr) (H : Hp) (σ : L2.St) (Q : List V → Hp → Prop) (h' : VH) : Except Xc (List D) → Prop
  | .ok ds => ∀ ι' H' vs, Stp ι H ι' H' → RH c ι' h' H' → RVL c ι' H' ds vs → Q vs H'
  | .error x => ∀ ι' H' cls dd, Stp ι H ι' H' → RH c ι' h' H' → RX c ι' H' x cls dd → W cls dd σ H'
def tA (m : MA) : TA := fun σ H Q => ∃ ι ρ h r h', RS c W ι H ρ σ ∧ RH c ι h H ∧ m ρ h = some (r, h') ∧ KA c W ι H σ Q h' r
def KT (ι : Adr) (H : Hp) (σ : L2.St) (Q : Bool → Hp → Prop) (h' : VH) : Except Xc D → Prop
  | .ok (.bl b) => ∀ ι' H', Stp ι H ι' H' → RH c ι' h' H' → Q b H'
  | .ok _ => False
  | .error x => ∀ ι' H' cls dd, Stp ι H ι' H' → RH c ι' h' H' → RX c ι' H' x cls dd → W cls dd σ H'
def tT (m : ME) : TT := fun σ H Q => ∃ ι ρ h r h', RS c W ι H ρ σ ∧ RH c ι h H ∧ m ρ h = some (r, h') ∧ KT c W ι H σ Q h' r
def KS (ι : Adr) (H : Hp) (D' : Ends) (ρ' : Env) (h' : VH) : Out → Prop
  | .nx => ∀ ι' H' σ', Stp ι H ι' H' → RS c W ι' H' ρ' σ' → RH c ι' h' H' → D'.nx σ' H'
  | .bk => ∀ ι' H' σ', Stp ι H ι' H' → RS c W ι' H' ρ' σ' → RH c ι' h' H' → D'.bk σ' H'
  | .ct => ∀ ι' H' σ', Stp ι H ι' H' → RS c W ι' H' ρ' σ' → RH c ι' h' H' → D'.ct σ' H'
  | .rt d => ∀ ι' H' v, Stp ι H ι' H' → RH c ι' h' H' → RV c ι' H' d v → D'.rt v H'
  | .ex x => ∀ ι' H' σ' cls dd, Stp ι H ι' H' → RS c W ι' H' ρ' σ' → RH c ι' h' H' → RX c ι' H' x cls dd → W cls dd σ' H'
def tS (m : MS) : TS := fun D' σ H => ∃ ι ρ h o ρ' h', RS c W ι H ρ σ ∧ RH c ι h H ∧ m ρ h = some (o, ρ', h') ∧ KS c W ι H D' ρ' h' o
end

section
variable {c : Gx} {W : WW} {ι ι1 : Adr} {H H1 : Hp} {h h1 h' : VH} {ρ ρ' : Env} {σ : L2.St}
theorem KE.on {Q : VK} {r : Except Xc D} (k : KE c W ι H σ Q h' r) (st : Stp ι H ι1 H1) : KE c W ι1 H1 σ Q h' r := by
  cases r with
  | ok d => exact fun ι' H' v s a b => k ι' H' v (st.trans s) a b
  | error x => exact fun ι' H' cls dd s a b => k ι' H' cls dd (st.trans s) a b
theorem KA.on {Q : List V → Hp → Prop} {r : Except Xc (List D)} (k : KA c W ι H σ Q h' r) (st : Stp ι H ι1 H1) : KA c W ι1 H1 σ Q h' r := by
  cases r with
  | ok d => exact fun ι' H' v s a b => k ι' H' v (st.trans s) a b
  | error x => exact fun ι' H' cls dd s a b => k ι' H' cls dd (st.trans s) a b
theorem KT.on {Q : Bool → Hp → Prop} {r : Except Xc D} (k : KT c W ι H σ Q h' r) (st : Stp ι H ι1 H1) : KT c W ι1 H1 σ Q h' r := by
  cases r with
  | ok d => cases d with
    | bl b => exact fun ι' H' s a => k ι' H' (st.trans s) a
    | _ => exact k
  | error x => exact fun ι' H' cls dd s a b => k ι' H' cls dd (st.trans s) a b
theorem KS.on {D' : Ends} {o : Out} (k : KS c W ι H D' ρ' h' o) (st : Stp ι H ι1 H1) : KS c W ι1 H1 D' ρ' h' o := by
  cases o with
  | nx => exact fun ι' H' v s a b => k ι' H' v (st.trans s) a b
  | bk => exact fun ι' H' v s a b => k ι' H' v (st.trans s) a b
  | ct => exact fun ι' H' v s a b => k ι' H' v (st.trans s) a b
  | rt d => exact fun ι' H' v s a b => k ι' H' v (st.trans s) a b
  | ex x => exact fun ι' H' σ' cls dd s a b q => k ι' H' σ' cls dd (st.trans s) a b q
/-- an error of a part is an error of the whole -/
def Bad (c : Gx) (W : WW) (ι : Adr) (H : Hp) (σ : L2.St) (h' : VH) (x : Xc) : Prop := ∀ ι' H' cls dd, Stp ι H ι' H' → RH c ι' h' H' → RX c ι' H' x cls dd → W cls dd σ H'

/-- a part that gives a value, then the rest: in any shape of result -/
theorem part {β : Type} {m : ME} {k : D → VH → R β} {r : Except Xc β} {Q : VK} {P : Adr → Hp → Except Xc β → Prop} (rs : RS c W ι H ρ σ) (rh : RH c ι h H) (e : bnd (m ρ h) k = some (r, h')) (pe : P ι H r)
    (hP : ∀ x ι H, P ι H (.error x) → Bad c W ι H σ h' x) (on : ∀ ι1 H1, Stp ι H ι1 H1 → P ι1 H1 r)
    (f : ∀ ι1 H1 v h1 d, Stp ι H ι1 H1 → RS c W ι1 H1 ρ σ → RH c ι1 h1 H1 → RV c ι1 H1 d v → k d h1 = some (r, h') → P ι1 H1 r → Q v H1) : tE c W m σ H Q := by
  cases em : m ρ h with
  | none => rw [em] at e; cases e
  | some q =>
    obtain ⟨q, h1⟩ := q
    rw [em] at e
    cases q with
    | ok d => exact ⟨ι, ρ, h, .ok d, h1, rs, rh, em, fun ι' H' v st rh' rv => f ι' H' v h1 d st (rs.step st) rh' rv e (on ι' H' st)⟩
    | error x =>
      have e' : some ((Except.error x : Except Xc β), h1) = some (r, h') := e
      injection e' with e'
      injection e' with e1 e2
      subst e1; subst e2
      exact ⟨ι, ρ, h, .error x, h1, rs, rh, em, hP x ι H pe⟩
theorem partE {m : ME} {k : D → VH → R D} {r : Except Xc D} {Q Q' : VK} (rs : RS c W ι H ρ σ) (rh : RH c ι h H) (e : bnd (m ρ h) k = some (r, h')) (ke : KE c W ι H σ Q h' r)
    (f : ∀ ι1 H1 v h1 d, Stp ι H ι1 H1 → RS c W ι1 H1 ρ σ → RH c ι1 h1 H1 → RV c ι1 H1 d v → k d h1 = some (r, h') → KE c W ι1 H1 σ Q h' r → Q' v H1) : tE c W m σ H Q' :=
  part (P := fun ι H r => KE c W ι H σ Q h' r) rs rh e ke (fun _ _ _ z => z) (fun _ _ st => ke.on st) f
theorem partA {m : ME} {k : D → VH → R (List D)} {r : Except Xc (List D)} {Q : List V → Hp → Prop} {Q' : VK} (rs : RS c W ι H ρ σ) (rh : RH c ι h H) (e : bnd (m ρ h) k = some (r, h')) (ke : KA c W ι H σ Q h' r)
    (f : ∀ ι1 H1 v h1 d, Stp ι H ι1 H1 → RS c W ι1 H1 ρ σ → RH c ι1 h1 H1 → RV c ι1 H1 d v → k d h1 = some (r, h') → KA c W ι1 H1 σ Q h' r → Q' v H1) : tE c W m σ H Q' :=
  part (P := fun ι H r => KA c W ι H σ Q h' r) rs rh e ke (fun _ _ _ z => z) (fun _ _ st => ke.on st) f
theorem partT {m : ME} {k : D → VH → R D} {r : Except Xc D} {Q : Bool → Hp → Prop} {Q' : VK} (rs : RS c W ι H ρ σ) (rh : RH c ι h H) (e : bnd (m ρ h) k = some (r, h')) (ke : KT c W ι H σ Q h' r)
    (f : ∀ ι1 H1 v h1 d, Stp ι H ι1 H1 → RS c W ι1 H1 ρ σ → RH c ι1 h1 H1 → RV c ι1 H1 d v → k d h1 = some (r, h') → KT c W ι1 H1 σ Q h' r → Q' v H1) : tE c W m σ H Q' :=
  part (P := fun ι H r => KT c W ι H σ Q h' r) rs rh e ke (fun _ _ _ z => z) (fun _ _ st => ke.on st) f
/-- the same where the part is a list of arguments -/
theorem args {β : Type} {m : MA} {k : List D → VH → R β} {r : Except Xc β} {Q : List V → Hp → Prop} {P : Adr → Hp → Except Xc β → Prop} (rs : RS c W ι H ρ σ) (rh : RH c ι h H) (e : bnd (m ρ h) k = some (r, h')) (pe : P ι H r)
    (hP : ∀ x ι H, P ι H (.error x) → Bad c W ι H σ h' x) (on : ∀ ι1 H1, Stp ι H ι1 H1 → P ι1 H1 r)
    (f : ∀ ι1 H1 vs h1 ds, Stp ι H ι1 H1 → RS c W ι1 H1 ρ σ → RH c ι1 h1 H1 → RVL c ι1 H1 ds vs → k ds h1 = some (r, h') → P ι1 H1 r → Q vs H1) : tA c W m σ H Q := by
  cases em : m ρ h with
  | none => rw [em] at e; cases e
  | some q =>
    obtain ⟨q, h1⟩ := q
    rw [em] at e
    cases q with
    | ok d => exact ⟨ι, ρ, h, .ok d, h1, rs, rh, em, fun ι' H' v st rh' rv => f ι' H' v h1 d st (rs.step st) rh' rv e (on ι' H' st)⟩
    | error x =>
      have e' : some ((Except.error x : Except Xc β), h1) = some (r, h') := e
      injection e' with e'
      injection e' with e1 e2
      subst e1; subst e2
      exact ⟨ι, ρ, h, .error x, h1, rs, rh, em, hP x ι H pe⟩
theorem argsE {m : MA} {k : List D → VH → R D} {r : Except Xc D} {Q : VK} {Q' : List V → Hp → Prop} (rs : RS c W ι H ρ σ) (rh : RH c ι h H) (e : bnd (m ρ h) k = some (r, h')) (ke : KE c W ι H σ Q h' r)
    (f : ∀ ι1 H1 vs h1 ds, Stp ι H ι1 H1 → RS c W ι1 H1 ρ σ → RH c ι1 h1 H1 → RVL c ι1 H1 ds vs → k ds h1 = some (r, h') → KE c W ι1 H1 σ Q h' r → Q' vs H1) : tA c W m σ H Q' :=
  args (P := fun ι H r => KE c W ι H σ Q h' r) rs rh e ke (fun _ _ _ z => z) (fun _ _ st => ke.on st) f
theorem argsA {m : MA} {k : List D → VH → R (List D)} {r : Except Xc (List D)} {Q : List V → Hp → Prop} {Q' : List V → Hp → Prop} (rs : RS c W ι H ρ σ) (rh : RH c ι h H) (e : bnd (m ρ h) k = some (r, h')) (ke : KA c W ι H σ Q h' r)
    (f : ∀ ι1 H1 vs h1 ds, Stp ι H ι1 H1 → RS c W ι1 H1 ρ σ → RH c ι1 h1 H1 → RVL c ι1 H1 ds vs → k ds h1 = some (r, h') → KA c W ι1 H1 σ Q h' r → Q' vs H1) : tA c W m σ H Q' :=
  args (P := fun ι H r => KA c W ι H σ Q h' r) rs rh e ke (fun _ _ _ z => z) (fun _ _ st => ke.on st) f
end

/-! ### readings give way -/
theorem peI {X : Cx} {e : Expr} {t t' : TE} (h : PE X e t) (i : ∀ σ H Q, t' σ H Q → t σ H Q) : PE X e t' := ⟨fun pins s σ H Q I q => h.run pins s σ H Q I (i σ H Q q)⟩
theorem ptI {X : Cx} {e : Expr} {t t' : TT} (h : PT X e t) (i : ∀ σ H Q, t' σ H Q → t σ H Q) : PT X e t' := ⟨fun pins s σ H Q I q => h.run pins s σ H Q I (i σ H Q q)⟩
theorem pwI {X : Cx} {e : Expr} {t t' : TT} (h : PW X e t) (i : ∀ σ H Q, t' σ H Q → t σ H Q) : PW X e t' := ⟨fun wh pins s σ H Q I q => h.run wh pins s σ H Q I (i σ H Q q)⟩
theorem paI {X : Cx} {es : List Expr} {t t' : TA} (h : PA X es t) (i : ∀ σ H Q, t' σ H Q → t σ H Q) : PA X es t' := ⟨fun pos pins s σ H Q I q => h.run pos pins s σ H Q I (i σ H Q q)⟩
theorem psI {X : Cx} {st : Stmt} {t t' : TS} (h : PS X st t) (i : ∀ D σ H, t' D σ H → t D σ H) : PS X st t' := ⟨fun pins s σ H D I q => h.run pins s σ H D I (i D σ H q)⟩
theorem pssI {X : Cx} {st : List Stmt} {t t' : TS} (h : PSs X st t) (i : ∀ D σ H, t' D σ H → t D σ H) : PSs X st t' := ⟨fun pins s σ H D I q => h.run pins s σ H D I (i D σ H q)⟩
end ML
/-! the text M3 -/
/-! M3: names, constants, operators, comparisons, tests. -/
namespace ML
open PySem PySem.Spec PyProof.Rows L2
abbrev gx (T : List (Addr × Str)) (X : Cx) : Gx := ⟨X.K, X.mg, T⟩
def Static (c : Gx) (d : D) (v : V) : Prop := ∀ ι H, RV c ι H d v

def mVar (i : Nat) : ME := fun ρ h => match ρ[i]? with
  | some (some d) => ok d h
  | _ => none
def mC (d : D) : ME := fun _ h => ok d h
def mOp2 (f : D → D → VH → Option D) (a b : ME) : ME := fun ρ h => bnd (a ρ h) fun x h1 => bnd (b ρ h1) fun y h2 => got (f x y h2) h2
def mOp1 (f : D → VH → Option D) (a : ME) : ME := fun ρ h => bnd (a ρ h) fun x h1 => got (f x h1) h1
def mCB (f : List D → VH → Option D) (a : MA) : ME := fun ρ h => bnd (a ρ h) fun xs h1 => got (f xs h1) h1
def maNil : MA := fun _ h => ok [] h
def maCons (a : ME) (b : MA) : MA := fun ρ h => bnd (a ρ h) fun x h1 => bnd (b ρ h1) fun xs h2 => ok (x :: xs) h2

/-- the way out that a value of the functions gives -/
def Fin (c : Gx) (ι : Adr) (H : Hp) (h : VH) (d : D) (Q : VK) : Prop := ∀ ι' H' v, Stp ι H ι' H' → RH c ι' h H' → RV c ι' H' d v → Q v H'
def Sem2 (c : Gx) (r : R2) (f : D → D → VH → Option D) : Prop := ∀ ι H h x y v w z Q, RH c ι h H → RV c ι H x v → RV c ι H y w → f x y h = some z → Fin c ι H h z Q → r v w H Q
def Sem1 (c : Gx) (r : V → Hp → VK → Prop) (f : D → VH → Option D) : Prop := ∀ ι H h x v z Q, RH c ι h H → RV c ι H x v → f x h = some z → Fin c ι H h z Q → r v H Q
def SemC (c : Gx) (r : List V → Hp → VK → Prop) (f : List D → VH → Option D) : Prop := ∀ ι H h xs vs z Q, RH c ι h H → RVL c ι H xs vs → f xs h = some z → Fin c ι H h z Q → r vs H Q

theorem got_eq {α : Type} {o : Option α} {h h' : VH} {r : Except Xc α} (e : got o h = some (r, h')) : ∃ z, o = some z ∧ r = .ok z ∧ h' = h := by
  cases o with
  | none => cases e
  | some z =>
    have e' : some (Except.ok z, h) = some (r, h') := e
    injection e' with e'
    injection e' with e1 e2
    exact ⟨z, rfl, e1.symm, e2.symm⟩
theorem ok_eq {α : Type} {z : α} {h h' : VH} {r : Except Xc α} (e : ok z h = some (r, h')) : r = .ok z ∧ h' = h := by
  have e' : some (Except.ok z, h) = some (r, h') := e
  injection e' with e'
  injection e' with e1 e2
  exact ⟨e1.symm, e2.symm⟩

section
variable {T : List (Addr × Str)} {X : Cx} {W : WW} {a b e : Expr} {es : List Expr} {ma mb : ME} {mas : MA} {pos : Pos}
theorem m_var {i : Nat} {x : Str} (hN : X.N[i]? = some x) (hv : Vis X.env.scope x) (hd : (x == ("__debug__" : Str)) = false := by decide) (hcd : (x == ("__classdict__" : Str)) = false := by decide) : PE X (.Name x pos) (tE (gx T X) W (mVar i)) := by
  refine peI (pe_var hN hv hd hcd) fun σ H Q ⟨ι, ρ, h, r, h', rs, rh, e, ke⟩ => ?_
  unfold mVar at e
  cases q : ρ[i]? with
  | none => rw [q] at e; cases e
  | some o =>
    rw [q] at e
    cases o with
    | none => cases e
    | some d =>
      obtain ⟨e1, e2⟩ := ok_eq e
      subst e1; subst e2
      obtain ⟨v, s1, s2⟩ := rs.at_ i d q
      exact ⟨v, s1, ke ι H v (Stp.refl _ _) rh s2⟩
theorem m_c {d : D} {v : V} (he : PE X e (tC v)) (s : Static (gx T X) d v) : PE X e (tE (gx T X) W (mC d)) := by
  refine peI he fun σ H Q ⟨ι, ρ, h, r, h', rs, rh, e, ke⟩ => ?_
  obtain ⟨e1, e2⟩ := ok_eq e
  subst e1; subst e2
  exact ke ι H v (Stp.refl _ _) rh (s ι H)
theorem st_int {c : Gx} {i : Int} : Static c (.int i) (.int i) := fun _ _ => by simp only [RV]
theorem st_bl {c : Gx} {i : Bool} : Static c (.bl i) (.bl i) := fun _ _ => by simp only [RV]
theorem st_str {c : Gx} {i : Str} : Static c (.str i) (.str i) := fun _ _ => by simp only [RV]
theorem st_non {c : Gx} : Static c .non .non := fun _ _ => by simp only [RV]
theorem st_ty {c : Gx} {n : String} : Static c (.ty n) (.ty n) := fun _ _ => by simp only [RV]
theorem st_glo {c : Gx} {x : Str} {f : Addr} (h : c.mg x = some (.ref f)) : Static c (.glo x) (.ref f) := fun _ _ => by simp only [RV]; exact ⟨f, h, rfl⟩
theorem m_int {i : Int} {j pos} : PE X (.Constant (.int i) j pos) (tE (gx T X) W (mC (.int i))) := m_c pe_int st_int
theorem m_bl {i : Bool} {j pos} : PE X (.Constant (.bool i) j pos) (tE (gx T X) W (mC (.bl i))) := m_c pe_bl st_bl
theorem m_str {i : Str} {j pos} : PE X (.Constant (.str i) j pos) (tE (gx T X) W (mC (.str i))) := m_c pe_str st_str
theorem m_non {j pos} : PE X (.Constant .none j pos) (tE (gx T X) W (mC .non)) := m_c pe_non st_non
/-- a module's int, a module's text, a class or a def as a value -/
theorem m_gint {x : Str} {i : Int} (hg : Gl X x) (hm : ∃ t, X.mg x = some (.int i t)) (hd : (x == ("__debug__" : Str)) = false := by decide) : PE X (.Name x pos) (tE (gx T X) W (mC (.int i))) :=
  let ⟨t, hm⟩ := hm
  m_c (pe_glob (v := .int i) hg hm ⟨t, rfl⟩ hd) st_int
theorem m_gstr {x z : Str} (hg : Gl X x) (hm : ∃ t, X.mg x = some (.str z t)) (hd : (x == ("__debug__" : Str)) = false := by decide) : PE X (.Name x pos) (tE (gx T X) W (mC (.str z))) :=
  let ⟨t, hm⟩ := hm
  m_c (pe_glob (v := .str z) hg hm ⟨t, rfl⟩ hd) st_str
theorem m_gref {x : Str} {d : D} {f : Addr} (hg : Gl X x) (hm : X.mg x = some (.ref f)) (s : Static (gx T X) d (.ref f)) (hd : (x == ("__debug__" : Str)) = false := by decide) : PE X (.Name x pos) (tE (gx T X) W (mC d)) :=
  m_c (pe_glob (v := .ref f) hg hm rfl hd) s
theorem m_glo {x : Str} {f : Addr} (hg : Gl X x) (hm : X.mg x = some (.ref f)) (hd : (x == ("__debug__" : Str)) = false := by decide) : PE X (.Name x pos) (tE (gx T X) W (mC (.glo x))) := m_gref hg hm (st_glo hm) hd
theorem m_ty {x : Str} {n : String} (hg : Gl X x) (hm : X.mg x = none) (hv : bootBuiltins x = some (.type n)) (hn : x ≠ "__name__" := by decide) (hd : (x == ("__debug__" : Str)) = false := by decide) : PE X (.Name x pos) (tE (gx T X) W (mC (.ty n))) :=
  m_c (pe_bltn (v := .ty n) hg hm hv rfl hn hd) st_ty

/-- a two-place reading -/
theorem imp_op {r : R2} {f : D → D → VH → Option D} (s : Sem2 (gx T X) r f) : ∀ σ H Q, tE (gx T X) W (mOp2 f ma mb) σ H Q → tOp r (tE (gx T X) W ma) (tE (gx T X) W mb) σ H Q := by
  rintro σ H Q ⟨ι, ρ, h, r, h', rs, rh, e, ke⟩
  refine partE rs rh e ke fun ι1 H1 v h1 x st1 rs1 rh1 rv1 e1 ke1 => partE rs1 rh1 e1 ke1 fun ι2 H2 w h2 y st2 rs2 rh2 rv2 e2 ke2 => ?_
  obtain ⟨z, ez, er, eh⟩ := got_eq e2
  subst er; subst eh
  exact s ι2 H2 _ x y v w z Q rh2 (RV.step st2 x v rv1) rv2 ez ke2
theorem m_op {op : Operator} {r : R2} {f : D → D → VH → Option D} (ho : OpR X (binaryOp op) r) (s : Sem2 (gx T X) r f) (ha : PE X a (tE (gx T X) W ma)) (hb : PE X b (tE (gx T X) W mb)) : PE X (.BinOp a op b pos) (tE (gx T X) W (mOp2 f ma mb)) :=
  peI (pe_op ho ha hb) (imp_op s)
theorem m_cmp {op : CmpOp} {r : R2} {f : D → D → VH → Option D} (ho : OpR X (compareOp op) r) (s : Sem2 (gx T X) r f) (ha : PE X a (tE (gx T X) W ma)) (hb : PE X b (tE (gx T X) W mb)) (hm : behindInMarks op b = false) : PE X (.Compare a [op] [b] pos) (tE (gx T X) W (mOp2 f ma mb)) :=
  peI (pe_cmpR ho ha hb hm) (imp_op s)
theorem m_un {op : UnaryOp} {r : V → Hp → VK → Prop} {f : D → VH → Option D} (ho : UnR X (unaryOp op) r) (s : Sem1 (gx T X) r f) (ha : PE X a (tE (gx T X) W ma)) : PE X (.UnaryOp op a pos) (tE (gx T X) W (mOp1 f ma)) := by
  refine peI (pe_un ho ha) fun σ H Q ⟨ι, ρ, h, r, h', rs, rh, e, ke⟩ => ?_
  refine partE rs rh e ke fun ι1 H1 v h1 x st1 rs1 rh1 rv1 e1 ke1 => ?_
  obtain ⟨z, ez, er, eh⟩ := got_eq e1
  subst er; subst eh
  exact s ι1 H1 _ x v z Q rh1 rv1 ez ke1
theorem m_ix {r : R2} {f : D → D → VH → Option D} (ho : IxR X r) (s : Sem2 (gx T X) r f) (ha : PE X a (tE (gx T X) W ma)) (hb : PE X b (tE (gx T X) W mb)) (hs : PlainIx b) : PE X (.Subscript a b pos) (tE (gx T X) W (mOp2 f ma mb)) :=
  peI (pe_ix ho ha hb hs) (imp_op s)

/-! ### arguments -/
theorem a_nil : PA X [] (tA (gx T X) W maNil) := by
  refine paI pa_nil fun σ H Q ⟨ι, ρ, h, r, h', rs, rh, e, ke⟩ => ?_
  obtain ⟨e1, e2⟩ := ok_eq e
  subst e1; subst e2
  exact ke ι H [] (Stp.refl _ _) rh .nil
theorem a_cons (ha : PE X e (tE (gx T X) W ma)) (hr : PA X es (tA (gx T X) W mas)) (hs : starEach (e :: es) X.env = (false, eval e X.env) :: starEach es X.env := by rfl) : PA X (e :: es) (tA (gx T X) W (maCons ma mas)) := by
  refine paI (pa_cons ha hr hs) fun σ H Q ⟨ι, ρ, h, r, h', rs, rh, e, ke⟩ => ?_
  refine partA rs rh e ke fun ι1 H1 v h1 x st1 rs1 rh1 rv1 e1 ke1 => argsA rs1 rh1 e1 ke1 fun ι2 H2 vs h2 xs st2 rs2 rh2 rv2 e2 ke2 => ?_
  obtain ⟨er, eh⟩ := ok_eq e2
  subst er; subst eh
  exact ke2 ι2 H2 _ (Stp.refl _ _) rh2 (.cons (RV.step st2 x v rv1) rv2)
/-- a built-in function, a built-in class called -/
theorem imp_cb {r : List V → Hp → VK → Prop} {f : List D → VH → Option D} (s : SemC (gx T X) r f) : ∀ σ H Q, tE (gx T X) W (mCB f mas) σ H Q → tCB r (tA (gx T X) W mas) σ H Q := by
  rintro σ H Q ⟨ι, ρ, h, r, h', rs, rh, e, ke⟩
  refine argsE rs rh e ke fun ι1 H1 vs h1 xs st1 rs1 rh1 rv1 e1 ke1 => ?_
  obtain ⟨z, ez, er, eh⟩ := got_eq e1
  subst er; subst eh
  exact s ι1 H1 _ xs vs z Q rh1 rv1 ez ke1
theorem m_callB {x : Str} {p : Pos} {id : String} {r : List V → Hp → VK → Prop} {f : List D → VH → Option D} (hc : CallR X (.builtin id) r) (s : SemC (gx T X) r f) (hg : Gl X x) (hm : X.mg x = none) (hv : bootBuiltins x = some (.builtin id)) (ha : PA X (e :: es) (tA (gx T X) W mas)) (hn : x ≠ "__name__" := by decide) (hdb : (x == ("__debug__" : Str)) = false := by decide)
    (he : starEach (e :: es) X.env = (false, eval e X.env) :: starEach es X.env := by rfl) (hpl : (backTo pos (starEach es X.env)).any (·.1) = false := by rfl) : PE X (.Call (.Name x p) (e :: es) [] pos) (tE (gx T X) W (mCB f mas)) :=
  peI (pe_callB hc hg hm hv ha hn hdb he hpl) (imp_cb s)
theorem m_callTy {x : Str} {p : Pos} {Ty : String} {r : List V → Hp → VK → Prop} {f : List D → VH → Option D} (hc : CallR X (.type Ty) r) (s : SemC (gx T X) r f) (hg : Gl X x) (hm : X.mg x = none) (hv : bootBuiltins x = some (.type Ty)) (ha : PA X (e :: es) (tA (gx T X) W mas)) (hn : x ≠ "__name__" := by decide) (hdb : (x == ("__debug__" : Str)) = false := by decide)
    (he : starEach (e :: es) X.env = (false, eval e X.env) :: starEach es X.env := by rfl) (hpl : (backTo pos (starEach es X.env)).any (·.1) = false := by rfl) : PE X (.Call (.Name x p) (e :: es) [] pos) (tE (gx T X) W (mCB f mas)) :=
  peI (pe_callTy hc hg hm hv ha hn hdb he hpl) (imp_cb s)

/-! ### displays: a tuple; a list that is not changed; a list that may be -/
def mTup (a : MA) : ME := fun ρ h => bnd (a ρ h) fun xs h1 => if xs.length ≤ 10000000 then ok (.tup xs) h1 else none
def mLst (a : MA) : ME := fun ρ h => bnd (a ρ h) fun xs h1 => if xs.length ≤ 10000000 then ok (.lst xs) h1 else none
def mNew (a : MA) : ME := fun ρ h => bnd (a ρ h) fun xs h1 => if xs.length ≤ 10000000 then ok (.obj h1.length) (h1 ++ [.lst xs]) else none
theorem ten_line {n : Nat} (h : n ≤ 10000000) : n ≤ sizeLine := by rw [sizeLine_eq]; omega
theorem rv_tup {c : Gx} {ι : Adr} {h : VH} {H : Hp} {p : Addr} {ds : List D} {vs : List V} (rh : RH c ι h H) (n : H p = none) (r : RVL c ι H ds vs) : RV c ι (upd H p (.tup vs)) (.tup ds) (.ref p) := by
  simp only [RV]
  exact ⟨p, vs, rfl, RVL.step (rh.newStp n) _ _ r, SqT.of upd_same, .inl (rh.off n)⟩
theorem rv_lst {c : Gx} {ι : Adr} {h : VH} {H : Hp} {p : Addr} {ds : List D} {vs : List V} (rh : RH c ι h H) (n : H p = none) (r : RVL c ι H ds vs) : RV c ι (upd H p (.lst vs)) (.lst ds) (.ref p) := by
  simp only [RV]
  exact ⟨p, vs, rfl, RVL.step (rh.newStp n) _ _ r, upd_same, rh.off n⟩
theorem ifok_eq {α : Type} {C : Prop} [Decidable C] {z : α} {h h' : VH} {r : Except Xc α} (e : (if C then ok z h else none) = some (r, h')) : C ∧ r = .ok z ∧ h' = h := by
  by_cases q : C
  · rw [if_pos q] at e
    obtain ⟨a, b⟩ := ok_eq e
    exact ⟨q, a, b⟩
  · rw [if_neg q] at e
    cases e
theorem m_tup {k : Nat} (h : PA X es (tA (gx T X) W mas)) : PE X (.Tuple es k pos) (tE (gx T X) W (mTup mas)) := by
  refine peI (pe_tup h) fun σ H Q ⟨ι, ρ, h, r, h', rs, rh, e, ke⟩ => ?_
  refine argsE rs rh e ke fun ι1 H1 vs h1 xs st1 rs1 rh1 rv1 e1 ke1 => ?_
  obtain ⟨q, er, eh⟩ := ifok_eq e1
  subst er; subst eh
  exact ⟨ten_line (by rw [rv1.len]; exact q), fun p n => ke1 _ _ _ (rh1.newStp n) (rh1.new n) (rv_tup rh1 n rv1)⟩
theorem m_lst (h : PA X es (tA (gx T X) W mas)) : PE X (.List es pos) (tE (gx T X) W (mLst mas)) := by
  refine peI (pe_lst h) fun σ H Q ⟨ι, ρ, h, r, h', rs, rh, e, ke⟩ => ?_
  refine argsE rs rh e ke fun ι1 H1 vs h1 xs st1 rs1 rh1 rv1 e1 ke1 => ?_
  obtain ⟨q, er, eh⟩ := ifok_eq e1
  subst er; subst eh
  exact ⟨ten_line (by rw [rv1.len]; exact q), fun p n => ke1 _ _ _ (rh1.newStp n) (rh1.new n) (rv_lst rh1 n rv1)⟩
theorem rv_obj {c : Gx} {ι : Adr} {H : Hp} {n : Nat} {p : Addr} : RV c (put ι n p) H (.obj n) (.ref p) := by
  simp only [RV]
  exact ⟨p, rfl, put_same⟩
theorem m_new (h : PA X es (tA (gx T X) W mas)) : PE X (.List es pos) (tE (gx T X) W (mNew mas)) := by
  refine peI (pe_lst h) fun σ H Q ⟨ι, ρ, h, r, h', rs, rh, e, ke⟩ => ?_
  refine argsE rs rh e ke fun ι1 H1 vs h1 xs st1 rs1 rh1 rv1 e1 ke1 => ?_
  obtain ⟨q, er, eh⟩ := ifok_eq e1
  subst er; subst eh
  exact ⟨ten_line (by rw [rv1.len]; exact q), fun p n => ke1 _ _ _ (rh1.pushStp n) (rh1.push n (by simp only [RO]; exact ⟨vs, upd_same, RVL.step (rh1.pushStp n) _ _ rv1⟩)) rv_obj⟩

/-! ### tests -/
def mNot (a : ME) : ME := mOp1 (fun x _ => match x with | .bl b => some (.bl !b) | _ => none) a
def mAnd (a b : ME) : ME := fun ρ h => bnd (a ρ h) fun x h1 => match x with
  | .bl true => b ρ h1
  | .bl false => ok (.bl false) h1
  | _ => none
def mOr (a b : ME) : ME := fun ρ h => bnd (a ρ h) fun x h1 => match x with
  | .bl true => ok (.bl true) h1
  | .bl false => b ρ h1
  | _ => none
def mIf (t a b : ME) : ME := fun ρ h => bnd (t ρ h) fun x h1 => match x with
  | .bl true => a ρ h1
  | .bl false => b ρ h1
  | _ => none
theorem imp_test {σ : L2.St} {H : Hp} {Q : Bool → Hp → Prop} (q : tT (gx T X) W ma σ H Q) : tTest (tE (gx T X) W ma) σ H Q := by
  obtain ⟨ι, ρ, h, r, h', rs, rh, e, ke⟩ := q
  refine ⟨ι, ρ, h, r, h', rs, rh, e, ?_⟩
  cases r with
  | error x => exact ke
  | ok d => cases d with
    | bl b =>
      intro ι' H' v st rh' rv
      simp only [RV] at rv
      subst rv
      exact ⟨b, rfl, ke ι' H' st rh'⟩
    | _ => exact (show False from ke).elim
theorem t_val (h : PE X e (tE (gx T X) W ma)) (he : ∀ whole, isTrue e X.env whole = (do let v ← whole; standAt e.pos; holding [v] (truthy v)) := by intro _; rfl) : PT X e (tT (gx T X) W ma) :=
  ptI (pt_val h he) fun σ H Q q => imp_test q
theorem t_cmp {op : CmpOp} {r : R2} {f : D → D → VH → Option D} (ho : OpR X (compareOp op) r) (s : Sem2 (gx T X) r f) (ha : PE X a (tE (gx T X) W ma)) (hb : PE X b (tE (gx T X) W mb)) (hm : behindInMarks op b = false) : PT X (.Compare a [op] [b] pos) (tT (gx T X) W (mOp2 f ma mb)) := by
  refine ptI (pt_cmpR ho ha hb hm) fun σ H Q q => ?_
  exact imp_op s σ H _ (imp_test q)
theorem partTT {c : Gx} {ι : Adr} {H : Hp} {h h' : VH} {ρ : Env} {σ : L2.St} {m : ME} {k : D → VH → R D} {r : Except Xc D} {Q Q' : Bool → Hp → Prop} (rs : RS c W ι H ρ σ) (rh : RH c ι h H) (e : bnd (m ρ h) k = some (r, h')) (ke : KT c W ι H σ Q h' r) (hk : ∀ d h1 r, k d h1 = some r → ∃ b, d = .bl b)
    (f : ∀ ι1 H1 h1 b, Stp ι H ι1 H1 → RS c W ι1 H1 ρ σ → RH c ι1 h1 H1 → k (.bl b) h1 = some (r, h') → KT c W ι1 H1 σ Q h' r → Q' b H1) : tT c W m σ H Q' := by
  cases em : m ρ h with
  | none => rw [em] at e; cases e
  | some q =>
    obtain ⟨q, h1⟩ := q
    rw [em] at e
    cases q with
    | ok d =>
      obtain ⟨b, eb⟩ := hk d h1 _ e
      subst eb
      exact ⟨ι, ρ, h, .ok (.bl b), h1, rs, rh, em, fun ι' H' st rh' => f ι' H' h1 b st (rs.step st) rh' e (ke.on st)⟩
    | error x =>
      have e' : some ((Except.error x : Except Xc D), h1) = some (r, h') := e
      injection e' with e'
      injection e' with e1 e2
      subst e1; subst e2
      exact ⟨ι, ρ, h, .error x, h1, rs, rh, em, ke⟩
theorem t_not (ha : PT X a (tT (gx T X) W ma)) : PT X (.UnaryOp .Not a pos) (tT (gx T X) W (mNot ma)) := by
  refine ptI (pt_not ha) fun σ H Q ⟨ι, ρ, h, r, h', rs, rh, e, ke⟩ => ?_
  refine partTT rs rh e ke (fun d h1 r er => ?_) fun ι1 H1 h1 b st1 rs1 rh1 e1 ke1 => ?_
  · cases d <;> first | exact ⟨_, rfl⟩ | cases er
  · obtain ⟨z, ez, er, eh⟩ := got_eq e1
    cases ez
    subst er; subst eh
    exact ke1 ι1 H1 (Stp.refl _ _) rh1
theorem t_and1 (ha : PT X a (tT (gx T X) W ma)) : PW X (.BoolOp .And [a] pos) (tT (gx T X) W ma) := pw_and1 ha
theorem t_or1 (ha : PT X a (tT (gx T X) W ma)) : PW X (.BoolOp .Or [a] pos) (tT (gx T X) W ma) := pw_or1 ha
theorem t_and {rest : List Expr} (ha : PT X a (tT (gx T X) W ma)) (hb : PW X (.BoolOp .And (b :: rest) pos) (tT (gx T X) W mb)) : PW X (.BoolOp .And (a :: b :: rest) pos) (tT (gx T X) W (mAnd ma mb)) := by
  refine pwI (pw_and ha hb) fun σ H Q ⟨ι, ρ, h, r, h', rs, rh, e, ke⟩ => ?_
  refine partTT rs rh e ke (fun d h1 r er => ?_) fun ι1 H1 h1 b st1 rs1 rh1 e1 ke1 => ?_
  · cases d <;> first | exact ⟨_, rfl⟩ | cases er
  · cases b with
    | true => exact ⟨ι1, ρ, h1, r, h', rs1, rh1, e1, ke1⟩
    | false =>
      obtain ⟨er, eh⟩ := ok_eq (show ok (D.bl false) h1 = _ from e1)
      subst er; subst eh
      exact ke1 ι1 H1 (Stp.refl _ _) rh1
theorem t_or {rest : List Expr} (ha : PT X a (tT (gx T X) W ma)) (hb : PW X (.BoolOp .Or (b :: rest) pos) (tT (gx T X) W mb)) : PW X (.BoolOp .Or (a :: b :: rest) pos) (tT (gx T X) W (mOr ma mb)) := by
  refine pwI (pw_or ha hb) fun σ H Q ⟨ι, ρ, h, r, h', rs, rh, e, ke⟩ => ?_
  refine partTT rs rh e ke (fun d h1 r er => ?_) fun ι1 H1 h1 b st1 rs1 rh1 e1 ke1 => ?_
  · cases d <;> first | exact ⟨_, rfl⟩ | cases er
  · cases b with
    | false => exact ⟨ι1, ρ, h1, r, h', rs1, rh1, e1, ke1⟩
    | true =>
      obtain ⟨er, eh⟩ := ok_eq (show ok (D.bl true) h1 = _ from e1)
      subst er; subst eh
      exact ke1 ι1 H1 (Stp.refl _ _) rh1
/-- a if t else b -/
theorem m_if {t : Expr} {mt : ME} (ht : PT X t (tT (gx T X) W mt)) (ha : PE X a (tE (gx T X) W ma)) (hb : PE X b (tE (gx T X) W mb)) : PE X (.IfExp t a b pos) (tE (gx T X) W (mIf mt ma mb)) := by
  refine peI (pe_ifExp ht ha hb) fun σ H Q ⟨ι, ρ, h, r, h', rs, rh, e, ke⟩ => ?_
  cases em : mt ρ h with
  | none => unfold mIf at e; rw [em] at e; cases e
  | some q =>
    obtain ⟨q, h1⟩ := q
    unfold mIf at e
    rw [em] at e
    cases q with
    | ok d => cases d with
      | bl b => cases b with
        | true => exact ⟨ι, ρ, h, .ok (.bl true), h1, rs, rh, em, fun ι' H' st rh' => ⟨ι', ρ, h1, r, h', rs.step st, rh', e, ke.on st⟩⟩
        | false => exact ⟨ι, ρ, h, .ok (.bl false), h1, rs, rh, em, fun ι' H' st rh' => ⟨ι', ρ, h1, r, h', rs.step st, rh', e, ke.on st⟩⟩
      | _ => cases e
    | error x =>
      have e' : some ((Except.error x : Except Xc D), h1) = some (r, h') := e
      injection e' with e'
      injection e' with e1 e2
      subst e1; subst e2
      exact ⟨ι, ρ, h, .error x, h1, rs, rh, em, ke⟩
/-- and, or as values: the last part may be anything -/
def mAndV := mAnd
def mOrV := mOr
theorem m_one {op : BoolOp} (h : PE X a (tE (gx T X) W ma)) : PE X (.BoolOp op [a] pos) (tE (gx T X) W ma) := pe_one h
theorem m_and {rest : List Expr} (ha : PE X a (tE (gx T X) W ma)) (hb : PE X (.BoolOp .And (b :: rest) pos) (tE (gx T X) W mb)) : PE X (.BoolOp .And (a :: b :: rest) pos) (tE (gx T X) W (mAnd ma mb)) := by
  refine peI (pe_and ha hb) fun σ H Q ⟨ι, ρ, h, r, h', rs, rh, e, ke⟩ => ?_
  refine partE rs rh e ke fun ι1 H1 v h1 x st1 rs1 rh1 rv1 e1 ke1 => ?_
  cases x with
  | bl b =>
    simp only [RV] at rv1
    subst rv1
    refine ⟨b, rfl, ?_⟩
    cases b with
    | true => exact ⟨ι1, ρ, h1, r, h', rs1, rh1, e1, ke1⟩
    | false =>
      obtain ⟨er, eh⟩ := ok_eq (show ok (D.bl false) h1 = _ from e1)
      subst er; subst eh
      exact ke1 ι1 H1 _ (Stp.refl _ _) rh1 (st_bl _ _)
  | _ => cases e1
theorem m_or {rest : List Expr} (ha : PE X a (tE (gx T X) W ma)) (hb : PE X (.BoolOp .Or (b :: rest) pos) (tE (gx T X) W mb)) : PE X (.BoolOp .Or (a :: b :: rest) pos) (tE (gx T X) W (mOr ma mb)) := by
  refine peI (pe_or ha hb) fun σ H Q ⟨ι, ρ, h, r, h', rs, rh, e, ke⟩ => ?_
  refine partE rs rh e ke fun ι1 H1 v h1 x st1 rs1 rh1 rv1 e1 ke1 => ?_
  cases x with
  | bl b =>
    simp only [RV] at rv1
    subst rv1
    refine ⟨b, rfl, ?_⟩
    cases b with
    | false => exact ⟨ι1, ρ, h1, r, h', rs1, rh1, e1, ke1⟩
    | true =>
      obtain ⟨er, eh⟩ := ok_eq (show ok (D.bl true) h1 = _ from e1)
      subst er; subst eh
      exact ke1 ι1 H1 _ (Stp.refl _ _) rh1 (st_bl _ _)
  | _ => cases e1
theorem m_not (ha : PE X a (tE (gx T X) W ma)) : PE X (.UnaryOp .Not a pos) (tE (gx T X) W (mNot ma)) := by
  refine peI (pe_not ha) fun σ H Q ⟨ι, ρ, h, r, h', rs, rh, e, ke⟩ => ?_
  refine partE rs rh e ke fun ι1 H1 v h1 x st1 rs1 rh1 rv1 e1 ke1 => ?_
  obtain ⟨z, ez, er, eh⟩ := got_eq e1
  cases x with
  | bl b =>
    cases ez
    subst er; subst eh
    simp only [RV] at rv1
    subst rv1
    exact ⟨b, rfl, ke1 ι1 H1 _ (Stp.refl _ _) rh1 (st_bl _ _)⟩
  | _ => cases ez
/-- a op b op' c -/
def mChain (f f' : D → D → VH → Option D) (a b c : ME) : ME := fun ρ h => bnd (a ρ h) fun x h1 => bnd (b ρ h1) fun y h2 => match f x y h2 with
  | some (.bl true) => bnd (c ρ h2) fun z h3 => got (f' y z h3) h3
  | some (.bl false) => ok (.bl false) h2
  | _ => none
theorem imp_chain {d : Expr} {r r' : R2} {f f' : D → D → VH → Option D} {mc : ME} (s : Sem2 (gx T X) r f) (s' : Sem2 (gx T X) r' f') : ∀ σ H Q, tE (gx T X) W (mChain f f' ma mb mc) σ H Q → tChain r r' (tE (gx T X) W ma) (tE (gx T X) W mb) (tE (gx T X) W mc) σ H Q := by
  rintro σ H Q ⟨ι, ρ, h, r, h', rs, rh, e, ke⟩
  refine partE rs rh e ke fun ι1 H1 v h1 x st1 rs1 rh1 rv1 e1 ke1 => partE rs1 rh1 e1 ke1 fun ι2 H2 w h2 y st2 rs2 rh2 rv2 e2 ke2 => ?_
  cases q : f x y h2 with
  | none => rw [q] at e2; cases e2
  | some z =>
    rw [q] at e2
    refine s ι2 H2 h2 x y v w z _ rh2 (RV.step st2 x v rv1) rv2 q fun ι3 H3 u st3 rh3 rv3 => ?_
    cases z with
    | bl k =>
      simp only [RV] at rv3
      subst rv3
      refine ⟨k, rfl, ?_⟩
      cases k with
      | true =>
        refine partE (rs2.step st3) rh3 e2 (ke2.on st3) fun ι4 H4 t h4 z' st4 rs4 rh4 rv4 e4 ke4 => ?_
        obtain ⟨z2, ez, er, eh⟩ := got_eq e4
        subst er; subst eh
        exact s' ι4 H4 _ y z' w t z2 Q rh4 (RV.step (st3.trans st4) y w rv2) rv4 ez ke4
      | false =>
        obtain ⟨er, eh⟩ := ok_eq (show ok (D.bl false) h2 = _ from e2)
        subst er; subst eh
        exact (ke2.on st3) ι3 H3 _ (Stp.refl _ _) rh3 (st_bl _ _)
    | _ => cases e2
theorem m_chain {d : Expr} {op op' : CmpOp} {r r' : R2} {f f' : D → D → VH → Option D} {mc : ME} (ho : OpR X (compareOp op) r) (s : Sem2 (gx T X) r f) (ho' : OpR X (compareOp op') r') (s' : Sem2 (gx T X) r' f') (ha : PE X a (tE (gx T X) W ma)) (hb : PE X b (tE (gx T X) W mb)) (hc : PE X d (tE (gx T X) W mc))
    (hm : lastMarks [op, op'] [b, d] = false := by with_unfolding_all rfl) : PE X (.Compare a [op, op'] [b, d] pos) (tE (gx T X) W (mChain f f' ma mb mc)) := peI (pe_chain ho ho' ha hb hc hm) (imp_chain (d := d) s s')
theorem t_chain {d : Expr} {op op' : CmpOp} {r r' : R2} {f f' : D → D → VH → Option D} {mc : ME} (ho : OpR X (compareOp op) r) (s : Sem2 (gx T X) r f) (ho' : OpR X (compareOp op') r') (s' : Sem2 (gx T X) r' f') (ha : PE X a (tE (gx T X) W ma)) (hb : PE X b (tE (gx T X) W mb)) (hc : PE X d (tE (gx T X) W mc))
    (hm : lastMarks [op, op'] [b, d] = false := by with_unfolding_all rfl) : PT X (.Compare a [op, op'] [b, d] pos) (tT (gx T X) W (mChain f f' ma mb mc)) := by
  refine ptI (pt_chain ho ho' ha hb hc hm) fun σ H Q q => ?_
  exact imp_chain (d := d) s s' σ H _ (imp_test q)
end
end ML
/-! the text M4 -/
/-! M4: targets, statements, loops. -/
namespace ML
open PySem PySem.Spec PyProof.Rows L2

/-! ### targets -/
abbrev MG := D → Env → VH → Option (Env × VH)
abbrev MGs := List D → Env → VH → Option (Env × VH)
def tG (c : Gx) (W : WW) (g : MG) : TG := fun v σ H Q => ∃ ι ρ h d ρ' h', RS c W ι H ρ σ ∧ RH c ι h H ∧ RV c ι H d v ∧ g d ρ h = some (ρ', h') ∧ ∀ ι' H' σ', Stp ι H ι' H' → RS c W ι' H' ρ' σ' → RH c ι' h' H' → Q σ' H'
def tGs (c : Gx) (W : WW) (g : MGs) : TGs := fun vs σ H Q => ∃ ι ρ h ds ρ' h', RS c W ι H ρ σ ∧ RH c ι h H ∧ RVL c ι H ds vs ∧ g ds ρ h = some (ρ', h') ∧ ∀ ι' H' σ', Stp ι H ι' H' → RS c W ι' H' ρ' σ' → RH c ι' h' H' → Q σ' H'
def gName (i : Nat) : MG := fun d ρ h => some (ρ.set i (some d), h)
def gNil : MGs := fun ds ρ h => match ds with
  | [] => some (ρ, h)
  | _ => none
def gCons (g : MG) (gs : MGs) : MGs := fun ds ρ h => match ds with
  | d :: ds => (match g d ρ h with
    | some (ρ1, h1) => gs ds ρ1 h1
    | none => none)
  | [] => none
def gTup (n : Nat) (gs : MGs) : MG := fun d ρ h => match d with
  | .tup xs => if xs.length = n then gs xs ρ h else none
  | _ => none
/-- o[i] = v of a list that changes -/
def setAt (o i v : D) (h : VH) : Option VH := match o, i with
  | .obj a, .int k => (match h[a]? with
    | some (.lst xs) => (match ixN xs.length k with
      | some j => some (h.set a (.lst (xs.set j v)))
      | none => none)
    | _ => none)
  | _, _ => none
def gSub (mo mi : ME) : MG := fun d ρ h => match mo ρ h with
  | some (.ok o, h1) => (match mi ρ h1 with
    | some (.ok i, h2) => (match setAt o i d h2 with
      | some h3 => some (ρ, h3)
      | none => none)
    | _ => none)
  | _ => none

theorem pgI {X : Cx} {e : Expr} {t t' : TG} (h : PG X e t) (i : ∀ v σ H Q, t' v σ H Q → t v σ H Q) : PG X e t' := ⟨fun pins s σ H v u Q I r q => h.run pins s σ H v u Q I r (i v σ H Q q)⟩
theorem pgsI {X : Cx} {e : List Expr} {t t' : TGs} (h : PGs X e t) (i : ∀ v σ H Q, t' v σ H Q → t v σ H Q) : PGs X e t' := ⟨fun pins s σ H v u Q I r q => h.run pins s σ H v u Q I r (i v σ H Q q)⟩
section
variable {T : List (Addr × Str)} {X : Cx} {W : WW} {e : Expr} {es : List Expr} {pos : Pos}
theorem g_name {i : Nat} {x : Str} (hN : X.N.Nodup) (hi : X.N[i]? = some x) (hx : Loc X.env.scope x) (hf : X.fn x = true ∨ X.env.scope.names.lookup x = some .local := by first | exact .inl rfl | exact .inr rfl | assumption) (fr : W.fx.free i := by first | exact True.intro | decide) : PG X (.Name x pos) (tG (gx T X) W (gName i)) := by
  refine pgI (pg_name hN hi hx hf) fun v σ H Q ⟨ι, ρ, h, d, ρ', h', rs, rh, rv, e, k⟩ => ?_
  cases e
  exact k ι H _ (Stp.refl _ _) (rs.set i rv fr) rh
theorem g_nil : PGs X [] (tGs (gx T X) W gNil) := by
  refine pgsI pgs_nil fun vs σ H Q ⟨ι, ρ, h, ds, ρ', h', rs, rh, rv, e, k⟩ => ?_
  cases ds with
  | nil =>
    cases e
    exact ⟨rv.inv_nil, k ι H σ (Stp.refl _ _) rs rh⟩
  | cons _ _ => cases e
theorem g_cons {g : MG} {gs : MGs} (h1 : PG X e (tG (gx T X) W g)) (h2 : PGs X es (tGs (gx T X) W gs)) (hs : (assignEach (e :: es) X.env).map (·.2) = assign e X.env :: (assignEach es X.env).map (·.2) := by rfl) : PGs X (e :: es) (tGs (gx T X) W (gCons g gs)) := by
  refine pgsI (pgs_cons h1 h2 hs) fun vs σ H Q ⟨ι, ρ, h, ds, ρ', h', rs, rh, rv, e, k⟩ => ?_
  cases ds with
  | nil => cases e
  | cons d ds =>
    obtain ⟨v, vr, ev, r1, r2⟩ := rv.inv_cons
    refine ⟨v, vr, ev, ?_⟩
    cases q : g d ρ h with
    | none => unfold gCons at e; simp only [q] at e; cases e
    | some p =>
      obtain ⟨ρ1, hh1⟩ := p
      unfold gCons at e
      simp only [q] at e
      exact ⟨ι, ρ, h, d, ρ1, hh1, rs, rh, r1, q, fun ι' H' σ' st rs' rh' => ⟨ι', ρ1, hh1, ds, ρ', h', rs', rh', RVL.step st _ _ r2, e, fun ι2 H2 σ2 st2 rs2 rh2 => k ι2 H2 σ2 (st.trans st2) rs2 rh2⟩⟩
theorem g_tup {k n : Nat} {gs : MGs} (hc : X.calm = true) (h : PGs X es (tGs (gx T X) W gs)) (hn : (assignEach es X.env).length = n := by rfl) (hst : (assignEach es X.env).findIdx? (·.1) = none := by rfl) : PG X (.Tuple es k pos) (tG (gx T X) W (gTup n gs)) := by
  refine pgI (pg_tup hc h hn hst) fun v σ H Q ⟨ι, ρ, h, d, ρ', h', rs, rh, rv, e, k⟩ => ?_
  cases d with
  | tup xs =>
    unfold gTup at e
    simp only [] at e
    by_cases hl : xs.length = n
    · rw [if_pos hl] at e
      simp only [RV] at rv
      obtain ⟨p, vs, ev, rl, sq, _⟩ := rv
      exact ⟨p, vs, ev, sq, by rw [rl.len]; exact hl, ι, ρ, h, xs, ρ', h', rs, rh, rl, e, k⟩
    · rw [if_neg hl] at e; cases e
  | _ => cases e
theorem g_sub {o i : Expr} {mo mi : ME} (ho : PE X o (tE (gx T X) W mo)) (hi : PE X i (tE (gx T X) W mi))
    (ha : ∀ v, assign (.Subscript o i pos) X.env v = (do
      let ov ← holding [v] (eval o X.env)
      let iv ← holding [v, ov] (eval i X.env)
      standAt pos
      holding [v, ov, iv] (setItem ov iv v)
      release [v, ov, iv] []) := by intro _; rfl) : PG X (.Subscript o i pos) (tG (gx T X) W (gSub mo mi)) := by
  refine pgI (pg_sub ho hi set_list ha) fun v σ H Q ⟨ι, ρ, h, d, ρ', h', rs, rh, rv, e, k⟩ => ?_
  unfold gSub at e
  cases q1 : mo ρ h with
  | none => simp only [q1] at e; cases e
  | some p1 =>
    obtain ⟨p1, h1⟩ := p1
    cases p1 with
    | error x => simp only [q1] at e; cases e
    | ok od =>
      simp only [q1] at e
      refine ⟨ι, ρ, h, .ok od, h1, rs, rh, q1, fun ι1 H1 ov st1 rh1 rv1 => ?_⟩
      cases q2 : mi ρ h1 with
      | none => simp only [q2] at e; cases e
      | some p2 =>
        obtain ⟨p2, h2⟩ := p2
        cases p2 with
        | error x => simp only [q2] at e; cases e
        | ok id =>
          simp only [q2] at e
          refine ⟨ι1, ρ, h1, .ok id, h2, rs.step st1, rh1, q2, fun ι2 H2 iv st2 rh2 rv2 => ?_⟩
          cases q3 : setAt od id d h2 with
          | none => simp only [q3] at e; cases e
          | some h3 =>
            simp only [q3] at e
            cases e
            unfold setAt at q3
            cases od with
            | obj a =>
              cases id with
              | int kk =>
                simp only [] at q3
                cases q4 : h2[a]? with
                | none => simp only [q4] at q3; cases q3
                | some ob =>
                  cases ob with
                  | lst xs =>
                    simp only [q4] at q3
                    cases q5 : ixN xs.length kk with
                    | none => simp only [q5] at q3; cases q3
                    | some j =>
                      simp only [q5] at q3
                      cases q3
                      have rv1' := RV.step st2 _ _ rv1
                      simp only [RV] at rv1' rv2
                      obtain ⟨p, ep, ip⟩ := rv1'
                      obtain ⟨p', ip', ro⟩ := rh2.obj a _ q4
                      rw [ip] at ip'
                      cases ip'
                      simp only [RO] at ro
                      obtain ⟨vs, hp, rl⟩ := ro
                      subst ep; subst rv2
                      refine ⟨p, vs, kk, j, rfl, rfl, hp, by rw [rl.len]; exact q5, ?_⟩
                      have rvd := RV.step (st1.trans st2) d v rv
                      have stp := rh2.setStp (u := .lst (vs.set j v)) ip
                      exact k ι2 _ σ ((st1.trans st2).trans stp) ((rs.step (st1.trans st2)).step stp) (rh2.setO ip (wr_lst hp) (by simp only [RO]; exact ⟨_, upd_same, RVL.step stp _ _ (rl.set j rvd)⟩))
                  | _ => simp only [q4] at q3; cases q3
              | _ => cases q3
            | _ => cases q3
end

/-! ### statements -/
def mAsg (m : ME) (g : MG) : MS := fun ρ h => match m ρ h with
  | some (.ok d, h1) => (match g d ρ h1 with
    | some (ρ1, h2) => some (.nx, ρ1, h2)
    | none => none)
  | some (.error x, h1) => some (.ex x, ρ, h1)
  | none => none
def mSet (i : Nat) (m : ME) : MS := mAsg m (gName i)
def mPar (i j : Nat) (m : MA) : MS := fun ρ h => match m ρ h with
  | some (.ok [d, e], h1) => some (.nx, (ρ.set i (some d)).set j (some e), h1)
  | some (.ok _, _) => none
  | some (.error x, h1) => some (.ex x, ρ, h1)
  | none => none
def mExpr (m : ME) : MS := fun ρ h => match m ρ h with
  | some (.ok _, h1) => some (.nx, ρ, h1)
  | some (.error x, h1) => some (.ex x, ρ, h1)
  | none => none
def mRet (m : ME) : MS := fun ρ h => match m ρ h with
  | some (.ok d, h1) => some (.rt d, ρ, h1)
  | some (.error x, h1) => some (.ex x, ρ, h1)
  | none => none
def mNext : MS := fun ρ h => some (.nx, ρ, h)
def mSeq (a b : MS) : MS := fun ρ h => match a ρ h with
  | some (.nx, ρ1, h1) => b ρ1 h1
  | some (o, ρ1, h1) => some (o, ρ1, h1)
  | none => none
def mIfS (t : ME) (a b : MS) : MS := fun ρ h => match t ρ h with
  | some (.ok (.bl true), h1) => a ρ h1
  | some (.ok (.bl false), h1) => b ρ h1
  | some (.error x, h1) => some (.ex x, ρ, h1)
  | _ => none
def mWhile (t : ME) (b : MS) : Nat → MS
  | 0 => fun _ _ => none
  | n + 1 => fun ρ h => match t ρ h with
    | some (.ok (.bl true), h1) => (match b ρ h1 with
      | some (.nx, ρ2, h2) => mWhile t b n ρ2 h2
      | some (.ct, ρ2, h2) => mWhile t b n ρ2 h2
      | some (.bk, ρ2, h2) => some (.nx, ρ2, h2)
      | some (o, ρ2, h2) => some (o, ρ2, h2)
      | none => none)
    | some (.ok (.bl false), h1) => some (.nx, ρ, h1)
    | some (.error x, h1) => some (.ex x, ρ, h1)
    | _ => none

section
variable {T : List (Addr × Str)} {X : Cx} {W : WW} {e : Expr} {es : List Expr} {pos : Pos} {m t : ME} {ma : MA} {a b : MS}
/-- an expression's value in a statement -/
theorem partS {c : Gx} {ι : Adr} {H : Hp} {h h' : VH} {ρ ρ' : Env} {σ : L2.St} {D' : Ends} {o : Out} {Q : VK} (rs : RS c W ι H ρ σ) (rh : RH c ι h H) {r : Except Xc D} {h1 : VH} (em : m ρ h = some (r, h1)) (ks : KS c W ι H D' ρ' h' o) (hx : ∀ x, r = .error x → o = .ex x ∧ ρ' = ρ ∧ h' = h1)
    (f : ∀ ι1 H1 v d, r = .ok d → Stp ι H ι1 H1 → RS c W ι1 H1 ρ σ → RH c ι1 h1 H1 → RV c ι1 H1 d v → KS c W ι1 H1 D' ρ' h' o → Q v H1) : tE c W m σ H Q := by
  refine ⟨ι, ρ, h, r, h1, rs, rh, em, ?_⟩
  cases r with
  | ok d => exact fun ι' H' v st rh' rv => f ι' H' v d rfl st (rs.step st) rh' rv (ks.on st)
  | error x =>
    obtain ⟨e1, e2, e3⟩ := hx x rfl
    subst e1; subst e2; subst e3
    exact fun ι' H' cls dd st rh' rx => ks ι' H' σ cls dd st (rs.step st) rh' rx
theorem s_asg {tg : Expr} {g : MG} (he : PE X e (tE (gx T X) W m)) (hg : PG X tg (tG (gx T X) W g)) (hs : swapsWithSole [tg] e pos.line X.env = pure false := by rfl) (hw : swappedStores [tg] e X.env = pure none := by rfl)
    (h1 : (assignEach [tg] X.env).map (·.2) = [assign tg X.env] := by rfl) : PS X (.Assign [tg] e pos) (tS (gx T X) W (mAsg m g)) := by
  refine psI (ps_asg he hg hs hw h1) fun D' σ H ⟨ι, ρ, h, o, ρ', h', rs, rh, em, ks⟩ => ?_
  unfold mAsg at em
  cases q : m ρ h with
  | none => simp only [q] at em; cases em
  | some p =>
    obtain ⟨r, h1⟩ := p
    refine partS rs rh q ks (fun x er => by subst er; simp only [q] at em; cases em; exact ⟨rfl, rfl, rfl⟩) fun ι1 H1 v d er st1 rs1 rh1 rv1 ks1 => ?_
    subst er
    simp only [q] at em
    cases q2 : g d ρ h1 with
    | none => simp only [q2] at em; cases em
    | some p2 =>
      obtain ⟨ρ2, h2⟩ := p2
      simp only [q2] at em
      cases em
      exact ⟨ι1, ρ, h1, d, _, _, rs1, rh1, rv1, q2, ks1⟩
theorem s_set {i : Nat} {x : Str} {pos' : Pos} (hN : X.N.Nodup) (hi : X.N[i]? = some x) (hx : Loc X.env.scope x) (he : PE X e (tE (gx T X) W m)) (hs : swapsWith e (some (.Name x pos')) pos.line X.env = pure false := by rfl) (hf : X.fn x = true ∨ X.env.scope.names.lookup x = some .local := by first | exact .inl rfl | exact .inr rfl | assumption) (fr : W.fx.free i := by first | exact True.intro | decide) :
    PS X (.Assign [.Name x pos'] e pos) (tS (gx T X) W (mSet i m)) := by
  refine psI (ps_set hN hi hx he hs hf) fun D' σ H ⟨ι, ρ, h, o, ρ', h', rs, rh, em, ks⟩ => ?_
  unfold mSet mAsg at em
  cases q : m ρ h with
  | none => simp only [q] at em; cases em
  | some p =>
    obtain ⟨r, h1⟩ := p
    refine partS rs rh q ks (fun x er => by subst er; simp only [q] at em; cases em; exact ⟨rfl, rfl, rfl⟩) fun ι1 H1 v d er st1 rs1 rh1 rv1 ks1 => ?_
    subst er
    simp only [q, gName] at em
    cases em
    exact ks1 ι1 H1 _ (Stp.refl _ _) (rs1.set i rv1 fr) rh1
theorem s_par {i j : Nat} {x y : Str} {p q : Expr} {px py pt : Pos} {kt k2 pt2} (hc : X.calm = true) (hN : X.N.Nodup) (hi : X.N[i]? = some x) (hj : X.N[j]? = some y) (hij : i ≠ j)
    (hx : X.env.scope.names.lookup x = some .local) (hy : X.env.scope.names.lookup y = some .local) (ha : PA X [p, q] (tA (gx T X) W ma))
    (hw : swappedStores [.Tuple [.Name x px, .Name y py] kt pt] (.Tuple [p, q] k2 pt2) X.env = pure (some [x, y]))
    (hs : swapsWithSole [.Tuple [.Name x px, .Name y py] kt pt] (.Tuple [p, q] k2 pt2) pos.line X.env = pure false := by rfl) (fr : W.fx.free i := by first | exact True.intro | decide) (fr2 : W.fx.free j := by first | exact True.intro | decide) :
    PS X (.Assign [.Tuple [.Name x px, .Name y py] kt pt] (.Tuple [p, q] k2 pt2) pos) (tS (gx T X) W (mPar i j ma)) := by
  refine psI (ps_par hc hN hi hj hij hx hy ha hw hs) fun D' σ H ⟨ι, ρ, h, o, ρ', h', rs, rh, em, ks⟩ => ?_
  unfold mPar at em
  cases q : ma ρ h with
  | none => simp only [q] at em; cases em
  | some p =>
    obtain ⟨r, h1⟩ := p
    refine ⟨ι, ρ, h, r, h1, rs, rh, q, ?_⟩
    cases r with
    | error x => simp only [q] at em; cases em; exact fun ι' H' cls dd st rh' rx => ks ι' H' σ cls dd st (rs.step st) rh' rx
    | ok ds =>
      intro ι1 H1 vs st1 rh1 rv1
      match ds, rv1, em with
      | [d, e], rv1, em =>
        simp only [q] at em
        cases em
        obtain ⟨v, vr, ev, r1, r2⟩ := rv1.inv_cons
        obtain ⟨w, vr2, ew, r3, r4⟩ := r2.inv_cons
        have r5 := r4.inv_nil
        subst r5; subst ew; subst ev
        exact ⟨v, w, rfl, ks ι1 H1 _ st1 (((rs.step st1).set i r1 fr).set j r3 fr2) rh1⟩
      | [], _, em => simp only [q] at em; cases em
      | [_], _, em => simp only [q] at em; cases em
      | _ :: _ :: _ :: _, _, em => simp only [q] at em; cases em
theorem s_expr (he : PE X e (tE (gx T X) W m)) (hs : swapsWith e none pos.line X.env = pure false := by rfl) : PS X (.Expr e pos) (tS (gx T X) W (mExpr m)) := by
  refine psI (ps_expr he hs) fun D' σ H ⟨ι, ρ, h, o, ρ', h', rs, rh, em, ks⟩ => ?_
  unfold mExpr at em
  cases q : m ρ h with
  | none => simp only [q] at em; cases em
  | some p =>
    obtain ⟨r, h1⟩ := p
    refine partS rs rh q ks (fun x er => by subst er; simp only [q] at em; cases em; exact ⟨rfl, rfl, rfl⟩) fun ι1 H1 v d er st1 rs1 rh1 rv1 ks1 => ?_
    subst er
    simp only [q] at em
    cases em
    exact ks1 ι1 H1 _ (Stp.refl _ _) rs1 rh1
theorem s_ret (he : PE X e (tE (gx T X) W m)) : PS X (.Return (some e) pos) (tS (gx T X) W (mRet m)) := by
  refine psI (ps_ret he) fun D' σ H ⟨ι, ρ, h, o, ρ', h', rs, rh, em, ks⟩ => ?_
  unfold mRet at em
  cases q : m ρ h with
  | none => simp only [q] at em; cases em
  | some p =>
    obtain ⟨r, h1⟩ := p
    refine partS rs rh q ks (fun x er => by subst er; simp only [q] at em; cases em; exact ⟨rfl, rfl, rfl⟩) fun ι1 H1 v d er st1 rs1 rh1 rv1 ks1 => ?_
    subst er
    simp only [q] at em
    cases em
    exact ks1 ι1 H1 _ (Stp.refl _ _) rh1 rv1
theorem s_pass : PS X (.Pass pos) (tS (gx T X) W mNext) := psI ps_pass fun D' σ H ⟨ι, ρ, h, o, ρ', h', rs, rh, em, ks⟩ => by
  cases em
  exact ks ι H σ (Stp.refl _ _) rs rh
def mBreak : MS := fun ρ h => some (.bk, ρ, h)
theorem s_break : PS X (.Break pos) (tS (gx T X) W mBreak) := psI ps_break fun D' σ H ⟨ι, ρ, h, o, ρ', h', rs, rh, em, ks⟩ => by
  cases em
  exact ks ι H σ (Stp.refl _ _) rs rh
theorem s_doc {x : Str} {j pos pos'} : PS X (.Expr (.Constant (.str x) j pos) pos') (tS (gx T X) W mNext) := psI ps_doc fun D' σ H ⟨ι, ρ, h, o, ρ', h', rs, rh, em, ks⟩ => by
  cases em
  exact ks ι H σ (Stp.refl _ _) rs rh
theorem ss_nil : PSs X [] (tS (gx T X) W mNext) := pssI pss_nil fun D' σ H ⟨ι, ρ, h, o, ρ', h', rs, rh, em, ks⟩ => by
  cases em
  exact ks ι H σ (Stp.refl _ _) rs rh
theorem ss_one {st : Stmt} (h : PS X st (tS (gx T X) W a)) : PSs X [st] (tS (gx T X) W a) := pss_one h
theorem ss_cons {st : Stmt} {rest : List Stmt} (h1 : PS X st (tS (gx T X) W a)) (h2 : PSs X rest (tS (gx T X) W b)) : PSs X (st :: rest) (tS (gx T X) W (mSeq a b)) := by
  refine pssI (pss_cons h1 h2) fun D' σ H ⟨ι, ρ, h, o, ρ', h', rs, rh, em, ks⟩ => ?_
  unfold mSeq at em
  cases q : a ρ h with
  | none => simp only [q] at em; cases em
  | some p =>
    obtain ⟨o1, ρ1, h1⟩ := p
    refine ⟨ι, ρ, h, o1, ρ1, h1, rs, rh, q, ?_⟩
    cases o1 with
    | nx => simp only [q] at em; exact fun ι' H' σ' st rs' rh' => ⟨ι', ρ1, h1, o, ρ', h', rs', rh', em, ks.on st⟩
    | bk => simp only [q] at em; cases em; exact ks
    | ct => simp only [q] at em; cases em; exact ks
    | rt d => simp only [q] at em; cases em; exact ks
    | ex x => simp only [q] at em; cases em; exact ks
theorem s_if {c : Expr} {sa sb : List Stmt} (hc : PT X c (tT (gx T X) W t)) (ha : PSs X sa (tS (gx T X) W a)) (hb : PSs X sb (tS (gx T X) W b)) : PS X (.If c sa sb pos) (tS (gx T X) W (mIfS t a b)) := by
  refine psI (ps_if hc ha hb) fun D' σ H ⟨ι, ρ, h, o, ρ', h', rs, rh, em, ks⟩ => ?_
  unfold mIfS at em
  cases q : t ρ h with
  | none => simp only [q] at em; cases em
  | some p =>
    obtain ⟨r, h1⟩ := p
    refine ⟨ι, ρ, h, r, h1, rs, rh, q, ?_⟩
    cases r with
    | error x => simp only [q] at em; cases em; exact fun ι' H' cls dd st rh' rx => ks ι' H' σ cls dd st (rs.step st) rh' rx
    | ok d =>
      cases d with
      | bl k =>
        cases k with
        | true => simp only [q] at em; exact fun ι' H' st rh' => ⟨ι', ρ, h1, o, ρ', h', rs.step st, rh', em, ks.on st⟩
        | false => simp only [q] at em; exact fun ι' H' st rh' => ⟨ι', ρ, h1, o, ρ', h', rs.step st, rh', em, ks.on st⟩
      | _ => simp only [q] at em; cases em
theorem s_while {c : Expr} {body : List Stmt} {n : Nat} (hp : PassesOwn (model X.prog X.w) X.A X.env X.xe) (hc : PT X c (tT (gx T X) W t)) (hb : PSs X body (tS (gx T X) W b)) : PS X (.While c body [] pos) (tS (gx T X) W (mWhile t b n)) := by
  refine psI (ps_while hp hc hb) fun D' σ H ⟨ι, ρ, h, o, ρ', h', rs, rh, em, ks⟩ => ?_
  refine ⟨fun n σ H => ∃ ι ρ h, RS (gx T X) W ι H ρ σ ∧ RH (gx T X) ι h H ∧ mWhile t b n ρ h = some (o, ρ', h') ∧ KS (gx T X) W ι H D' ρ' h' o, ⟨n, ι, ρ, h, rs, rh, em, ks⟩, ?_⟩
  rintro m σ H ⟨ι, ρ, h, rs, rh, em, ks⟩
  cases m with
  | zero => cases em
  | succ n =>
    unfold mWhile at em
    cases q : t ρ h with
    | none => simp only [q] at em; cases em
    | some p =>
      obtain ⟨r, h1⟩ := p
      refine ⟨ι, ρ, h, r, h1, rs, rh, q, ?_⟩
      cases r with
      | error x => simp only [q] at em; cases em; exact fun ι' H' cls dd st rh' rx => ks ι' H' σ cls dd st (rs.step st) rh' rx
      | ok d =>
        cases d with
        | bl k =>
          cases k with
          | false => simp only [q] at em; cases em; exact fun ι' H' st rh' => ks ι' H' σ st (rs.step st) rh'
          | true =>
            simp only [q] at em
            intro ι1 H1 st1 rh1
            refine ⟨fun σ' H' => ∃ ι ρ h, RS (gx T X) W ι H' ρ σ' ∧ RH (gx T X) ι h H' ∧ mWhile t b n ρ h = some (o, ρ', h') ∧ KS (gx T X) W ι H' D' ρ' h' o, fun σ' H' w => ⟨n, Nat.lt_succ_self n, w⟩, ?_⟩
            cases q2 : b ρ h1 with
            | none => simp only [q2] at em; cases em
            | some p2 =>
              obtain ⟨o2, ρ2, h2⟩ := p2
              refine ⟨ι1, ρ, h1, o2, ρ2, h2, rs.step st1, rh1, q2, ?_⟩
              have ks1 := ks.on st1
              cases o2 with
              | nx => simp only [q2] at em; exact fun ι' H' σ' st rs' rh' => ⟨ι', ρ2, h2, rs', rh', em, ks1.on st⟩
              | ct => simp only [q2] at em; exact fun ι' H' σ' st rs' rh' => ⟨ι', ρ2, h2, rs', rh', em, ks1.on st⟩
              | bk => simp only [q2] at em; cases em; exact ks1
              | rt d => simp only [q2] at em; cases em; exact ks1
              | ex x => simp only [q2] at em; cases em; exact ks1
        | _ => simp only [q] at em; cases em
end

/-! ### targets that are names -/
inductive Tg where
  | nm (i : Nat)
  | tp (ts : List Tg)
mutual
def Tg.set : Tg → D → Env → Option Env
  | .nm i, d, ρ => some (ρ.set i (some d))
  | .tp ts, .tup xs, ρ => if xs.length = ts.length then Tg.sets ts xs ρ else none
  | .tp _, _, _ => none
def Tg.sets : List Tg → List D → Env → Option Env
  | [], [], ρ => some ρ
  | t :: ts, d :: ds, ρ => (match t.set d ρ with
    | some ρ1 => Tg.sets ts ds ρ1
    | none => none)
  | _, _, _ => none
end
mutual
def Tg.tg (K : PySem.W.Frag) : Tg → TG
  | .nm i => L2.gName i
  | .tp ts => L2.gTup K ts.length (Tg.tgs K ts)
def Tg.tgs (K : PySem.W.Frag) : List Tg → TGs
  | [] => L2.gNil
  | t :: ts => L2.gCons (t.tg K) (Tg.tgs K ts)
end
mutual
def Tg.ix : Tg → List Nat
  | .nm i => [i]
  | .tp ts => Tg.ixs ts
def Tg.ixs : List Tg → List Nat
  | [] => []
  | t :: ts => t.ix ++ Tg.ixs ts
end
/-- some slots forgotten -/
def wipeD (ρ : Env) : List Nat → Env
  | [] => ρ
  | v :: vs => (wipeD ρ vs).set v none
theorem wipeD_length (ρ : Env) : ∀ vs : List Nat, (wipeD ρ vs).length = ρ.length
  | [] => rfl
  | v :: vs => by unfold wipeD; rw [List.length_set, wipeD_length ρ vs]
theorem wipeD_some {ρ : Env} {i : Nat} {x : D} : ∀ {vs : List Nat}, (wipeD ρ vs)[i]? = some (some x) → ρ[i]? = some (some x) ∧ i ∉ vs
  | [], h => ⟨h, by simp⟩
  | v :: vs, h => by
    unfold wipeD at h
    by_cases hi : v = i
    · subst hi
      by_cases hv : v < (wipeD ρ vs).length
      · rw [List.getElem?_set_self hv] at h; cases h
      · rw [List.getElem?_eq_none (by simpa using hv)] at h; cases h
    · rw [List.getElem?_set_ne hi] at h
      obtain ⟨h1, h2⟩ := wipeD_some h
      exact ⟨h1, by simp only [List.mem_cons, not_or]; exact ⟨fun e => hi e.symm, h2⟩⟩
theorem RS.wipe {c : Gx} {W : WW} {w : WX} {ι : Adr} {H : Hp} {ρ : Env} {σ : L2.St} (r : RS c W ι H ρ σ) (vs : List Nat) : RS c ⟨w, Fx.no⟩ ι H (wipeD ρ vs) (wipe σ vs) := by
  refine ⟨by rw [wipe_length, wipeD_length]; exact r.len, fun i d e => ?_, True.intro⟩
  obtain ⟨e1, e2⟩ := wipeD_some e
  obtain ⟨v, h1, h2⟩ := r.at_ i d e1
  exact ⟨v, by rw [wipe_out e2]; exact h1, h2⟩
theorem wipe_eq_set {σ : L2.St} {i : Nat} {x : Option V} : ∀ {vs : List Nat}, i ∈ vs → wipe (σ.set i x) vs = wipe σ vs
  | v :: vs, h => by
    unfold wipe
    by_cases hm : i ∈ vs
    · rw [wipe_eq_set hm]
    · have e : i = v := (List.mem_cons.mp h).elim id fun z => absurd z hm
      subst e
      have key : ∀ us : List Nat, (wipe (σ.set i x) us).set i none = (wipe σ us).set i none := fun us => by
        induction us with
        | nil => simp [wipe, List.set_set]
        | cons u us ih =>
          by_cases hu : u = i
          · subst hu
            simp only [wipe, List.set_set]
            exact ih
          · simp only [wipe]
            rw [List.set_comm none none hu, List.set_comm none none hu, ih]
      exact key vs
theorem wipe_idem {σ : L2.St} {vs : List Nat} : wipe (wipe σ vs) vs = wipe σ vs := by
  have key : ∀ us : List Nat, (∀ u ∈ us, u ∈ vs) → wipe (wipe σ us) vs = wipe σ vs := fun us => by
    induction us with
    | nil => intro _; rfl
    | cons u us ih =>
      intro h
      show wipe ((wipe σ us).set u none) vs = _
      rw [wipe_eq_set (h u (by simp))]
      exact ih fun w hw => h w (by simp [hw])
  exact key vs fun _ h => h
section
variable {c : Gx} {W : WW} {ι : Adr} {H : Hp} {vs : List Nat}
mutual
theorem Tg.does : ∀ (t : Tg) (d : D) (v : V) (ρ ρ' : Env) (σ : L2.St) (Q : L2.St → Hp → Prop), RS c W ι H ρ σ → RV c ι H d v → t.set d ρ = some ρ' → (∀ i ∈ t.ix, i ∈ vs) → (∀ i ∈ t.ix, W.fx.free i) → (∀ σ', RS c W ι H ρ' σ' → L2.wipe σ' vs = L2.wipe σ vs → Q σ' H) → t.tg c.K v σ H Q
  | .nm i, d, v, ρ, ρ', σ, Q, rs, rv, e, hi, hf, k => by
    simp only [Tg.set] at e
    cases e
    exact k _ (rs.set i rv (hf i (by simp [Tg.ix]))) (wipe_eq_set (hi i (by simp [Tg.ix])))
  | .tp ts, .tup xs, v, ρ, ρ', σ, Q, rs, rv, e, hi, hf, k => by
    simp only [Tg.set] at e
    by_cases hl : xs.length = ts.length
    · rw [if_pos hl] at e
      simp only [RV] at rv
      obtain ⟨p, ws, ev, rl, sq, _⟩ := rv
      exact ⟨p, ws, ev, sq, by rw [rl.len]; exact hl, Tg.doess ts xs ws ρ ρ' σ Q rs rl e (fun i h => hi i (by simp only [Tg.ix]; exact h)) (fun i h => hf i (by simp only [Tg.ix]; exact h)) k⟩
    · rw [if_neg hl] at e; cases e
  | .tp ts, .non, v, ρ, ρ', σ, Q, rs, rv, e, hi, hf, k => by simp only [Tg.set] at e; cases e
  | .tp ts, .bl _, v, ρ, ρ', σ, Q, rs, rv, e, hi, hf, k => by simp only [Tg.set] at e; cases e
  | .tp ts, .int _, v, ρ, ρ', σ, Q, rs, rv, e, hi, hf, k => by simp only [Tg.set] at e; cases e
  | .tp ts, .str _, v, ρ, ρ', σ, Q, rs, rv, e, hi, hf, k => by simp only [Tg.set] at e; cases e
  | .tp ts, .ty _, v, ρ, ρ', σ, Q, rs, rv, e, hi, hf, k => by simp only [Tg.set] at e; cases e
  | .tp ts, .glo _, v, ρ, ρ', σ, Q, rs, rv, e, hi, hf, k => by simp only [Tg.set] at e; cases e
  | .tp ts, .bls _, v, ρ, ρ', σ, Q, rs, rv, e, hi, hf, k => by simp only [Tg.set] at e; cases e
  | .tp ts, .lst _, v, ρ, ρ', σ, Q, rs, rv, e, hi, hf, k => by simp only [Tg.set] at e; cases e
  | .tp ts, .slt _ _, v, ρ, ρ', σ, Q, rs, rv, e, hi, hf, k => by simp only [Tg.set] at e; cases e
  | .tp ts, .ins _ _ _, v, ρ, ρ', σ, Q, rs, rv, e, hi, hf, k => by simp only [Tg.set] at e; cases e
  | .tp ts, .dic _ _, v, ρ, ρ', σ, Q, rs, rv, e, hi, hf, k => by simp only [Tg.set] at e; cases e
  | .tp ts, .obj _, v, ρ, ρ', σ, Q, rs, rv, e, hi, hf, k => by simp only [Tg.set] at e; cases e
theorem Tg.doess : ∀ (ts : List Tg) (ds : List D) (ws : List V) (ρ ρ' : Env) (σ : L2.St) (Q : L2.St → Hp → Prop), RS c W ι H ρ σ → RVL c ι H ds ws → Tg.sets ts ds ρ = some ρ' → (∀ i ∈ Tg.ixs ts, i ∈ vs) → (∀ i ∈ Tg.ixs ts, W.fx.free i) → (∀ σ', RS c W ι H ρ' σ' → L2.wipe σ' vs = L2.wipe σ vs → Q σ' H) → Tg.tgs c.K ts ws σ H Q
  | [], [], ws, ρ, ρ', σ, Q, rs, rv, e, hi, hf, k => by
    simp only [Tg.sets] at e
    cases e
    exact ⟨rv.inv_nil, k σ rs rfl⟩
  | [], _ :: _, ws, ρ, ρ', σ, Q, rs, rv, e, hi, hf, k => by simp only [Tg.sets] at e; cases e
  | _ :: _, [], ws, ρ, ρ', σ, Q, rs, rv, e, hi, hf, k => by simp only [Tg.sets] at e; cases e
  | t :: ts, d :: ds, ws, ρ, ρ', σ, Q, rs, rv, e, hi, hf, k => by
    simp only [Tg.sets] at e
    obtain ⟨v, vr, ev, r1, r2⟩ := rv.inv_cons
    refine ⟨v, vr, ev, ?_⟩
    cases q : t.set d ρ with
    | none => rw [q] at e; cases e
    | some ρ1 =>
      rw [q] at e
      exact Tg.does t d v ρ ρ1 σ _ rs r1 q (fun i h => hi i (by simp only [Tg.ixs]; exact List.mem_append_left _ h)) (fun i h => hf i (by simp only [Tg.ixs]; exact List.mem_append_left _ h)) fun σ1 rs1 hw1 =>
        Tg.doess ts ds vr ρ1 ρ' σ1 Q rs1 r2 e (fun i h => hi i (by simp only [Tg.ixs]; exact List.mem_append_right _ h)) (fun i h => hf i (by simp only [Tg.ixs]; exact List.mem_append_right _ h)) fun σ2 rs2 hw2 => k σ2 rs2 (hw2.trans hw1)
end
end
def gT (t : Tg) : MG := fun d ρ h => match t.set d ρ with
  | some ρ' => some (ρ', h)
  | none => none
section
variable {T : List (Addr × Str)} {X : Cx} {pos : Pos} {es : List Expr}
theorem q_nm {i : Nat} {x : Str} (hN : X.N.Nodup) (hi : X.N[i]? = some x) (hx : Loc X.env.scope x) (hf : X.fn x = true ∨ X.env.scope.names.lookup x = some .local := by first | exact .inl rfl | exact .inr rfl | assumption) : PG X (.Name x pos) ((Tg.nm i).tg X.K) := by
  simp only [Tg.tg]; exact pg_name hN hi hx hf
theorem q_nil : PGs X [] (Tg.tgs X.K []) := by simp only [Tg.tgs]; exact pgs_nil
theorem q_cons {e : Expr} {t : Tg} {ts : List Tg} (h1 : PG X e (t.tg X.K)) (h2 : PGs X es (Tg.tgs X.K ts)) (hs : (assignEach (e :: es) X.env).map (·.2) = assign e X.env :: (assignEach es X.env).map (·.2) := by rfl) : PGs X (e :: es) (Tg.tgs X.K (t :: ts)) := by
  simp only [Tg.tgs]; exact pgs_cons h1 h2 hs
theorem q_tup {k : Nat} {ts : List Tg} (hc : X.calm = true) (h : PGs X es (Tg.tgs X.K ts)) (hn : (assignEach es X.env).length = ts.length := by rfl) (hst : (assignEach es X.env).findIdx? (·.1) = none := by rfl) : PG X (.Tuple es k pos) ((Tg.tp ts).tg X.K) := by
  simp only [Tg.tg]; exact pg_tup hc h hn hst
theorem g_t {W : WW} {e : Expr} {t : Tg} (h : PG X e (t.tg X.K)) (fr : ∀ i ∈ t.ix, W.fx.free i := by first | exact fun _ _ => True.intro | decide) : PG X e (tG (gx T X) W (gT t)) := by
  refine pgI h fun v σ H Q ⟨ι, ρ, hh, d, ρ', h', rs, rh, rv, e, k⟩ => ?_
  unfold gT at e
  cases q : t.set d ρ with
  | none => rw [q] at e; cases e
  | some ρ1 =>
    rw [q] at e
    cases e
    exact Tg.does (c := gx T X) (vs := t.ix) t d v ρ _ σ _ rs rv q (fun _ h => h) fr fun σ' rs' _ => k ι H σ' (Stp.refl _ _) rs' rh
end

/-! ### for -/
/-- what a loop walks, turn by turn -/
abbrev Nx := Nat → VH → Option (Option D)
abbrev MI := Env → VH → R (Nat × Nx)
def Steady (c : Gx) (J : It) (nx : Nx) (ι : Adr) (H : Hp) : Prop := ∀ ι2 H2 h, Stp ι H ι2 H2 → RH c ι2 h H2 → ∀ i, (∀ d, nx i h = some (some d) → J.go i H2 ∧ ∀ x H3, J.yld i H2 x H3 → Stp ι2 H2 ι2 H3 ∧ RH c ι2 h H3 ∧ RV c ι2 H3 d x) ∧ (nx i h = some none → J.stop i H2)
def KI (c : Gx) (W : WW) (ι : Adr) (H : Hp) (σ : L2.St) (R : It → Hp → Prop) (h' : VH) : Except Xc (Nat × Nx) → Prop
  | .ok (_, nx) => ∀ ι' H' J, Stp ι H ι' H' → RH c ι' h' H' → Steady c J nx ι' H' → R J H'
  | .error x => ∀ ι' H' cls dd, Stp ι H ι' H' → RH c ι' h' H' → RX c ι' H' x cls dd → W cls dd σ H'
def tI (c : Gx) (W : WW) (m : MI) : TI := fun σ H R => ∃ ι ρ h r h', RS c W ι H ρ σ ∧ RH c ι h H ∧ m ρ h = some (r, h') ∧ KI c W ι H σ R h' r
def mForX (nx : Nx) (g : MG) (b : MS) : Nat → Nat → MS
  | 0, _ => fun _ _ => none
  | k + 1, i => fun ρ h => match nx i h with
    | some (some d) => (match g d ρ h with
      | some (ρ1, h1) => (match b ρ1 h1 with
        | some (.nx, ρ2, h2) => mForX nx g b k (i + 1) ρ2 h2
        | some (.ct, ρ2, h2) => mForX nx g b k (i + 1) ρ2 h2
        | some (.bk, ρ2, h2) => some (.nx, ρ2, h2)
        | some (o, ρ2, h2) => some (o, ρ2, h2)
        | none => none)
      | none => none)
    | some none => some (.nx, ρ, h)
    | none => none
def mFor (m : MI) (g : MG) (b : MS) : MS := fun ρ h => match m ρ h with
  | some (.ok (n, nx), h1) => mForX nx g b n 0 ρ h1
  | some (.error x, h1) => some (.ex x, ρ, h1)
  | none => none
theorem piI {X : Cx} {tg e : Expr} {t t' : TI} (h : PI X tg e t) (i : ∀ σ H R, t' σ H R → t σ H R) : PI X tg e t' := ⟨fun pins s σ H R I q => h.run pins s σ H R I (i σ H R q)⟩
section
variable {T : List (Addr × Str)} {X : Cx} {W : WW} {pos : Pos}
theorem s_for {tg iter : Expr} {body : List Stmt} {m : MI} {g : MG} {b : MS} (hp : PassesOwn (model X.prog X.w) X.A X.env X.xe) (hc : X.calm = true) (hi : PI X tg iter (tI (gx T X) W m)) (hg : PG X tg (tG (gx T X) W g)) (hb : PSs X body (tS (gx T X) W b))
    (hs : ∀ x, foldedSetIterable iter X.env x = pure x := by intro _; rfl) : PS X (.For tg iter body [] pos) (tS (gx T X) W (mFor m g b)) := by
  refine psI (ps_for hp hc hi hg hb hs) fun D' σ H ⟨ι, ρ, h, o, ρ', h', rs, rh, em, ks⟩ => ?_
  unfold mFor at em
  cases q : m ρ h with
  | none => simp only [q] at em; cases em
  | some p =>
    obtain ⟨r, h1⟩ := p
    refine ⟨ι, ρ, h, r, h1, rs, rh, q, ?_⟩
    cases r with
    | error x => simp only [q] at em; cases em; exact fun ι' H' cls dd st rh' rx => ks ι' H' σ cls dd st (rs.step st) rh' rx
    | ok p =>
      obtain ⟨n, nx⟩ := p
      simp only [q] at em
      intro ι1 H1 J st1 rh1 steady
      refine ⟨fun i k σ H => ∃ ι ρ h, Stp ι1 H1 ι H ∧ RS (gx T X) W ι H ρ σ ∧ RH (gx T X) ι h H ∧ mForX nx g b k i ρ h = some (o, ρ', h') ∧ KS (gx T X) W ι H D' ρ' h' o,
        ⟨n, ι1, ρ, h1, Stp.refl _ _, rs.step st1, rh1, em, ks.on st1⟩, ?_⟩
      rintro i k σ2 H2 ⟨ι2, ρ2, h2, st2, rs2, rh2, em2, ks2⟩
      have sd := steady ι2 H2 h2 st2 rh2 i
      cases k with
      | zero => unfold mForX at em2; cases em2
      | succ k =>
        unfold mForX at em2
        cases q2 : nx i h2 with
        | none => simp only [q2] at em2; cases em2
        | some od =>
          cases od with
          | none =>
            simp only [q2] at em2
            cases em2
            exact .inl ⟨sd.2 q2, ks2 ι2 H2 σ2 (Stp.refl _ _) rs2 rh2⟩
          | some d =>
            simp only [q2] at em2
            obtain ⟨go, yl⟩ := sd.1 d q2
            cases q3 : g d ρ2 h2 with
            | none => simp only [q3] at em2; cases em2
            | some p3 =>
              obtain ⟨ρ3, h3⟩ := p3
              simp only [q3] at em2
              refine .inr ⟨go, fun σ H => ∃ ι ρ h, Stp ι1 H1 ι H ∧ RS (gx T X) W ι H ρ σ ∧ RH (gx T X) ι h H ∧ mForX nx g b k (i + 1) ρ h = some (o, ρ', h') ∧ KS (gx T X) W ι H D' ρ' h' o, fun σ' H' w => ⟨k, Nat.lt_succ_self k, w⟩, fun x H3 yy => ?_⟩
              obtain ⟨st3, rh3, rv3⟩ := yl x H3 yy
              refine ⟨ι2, ρ2, h2, d, ρ3, h3, rs2.step st3, rh3, rv3, q3, fun ι4 H4 σ4 st4 rs4 rh4 => ?_⟩
              have ks4 := ks2.on (st3.trans st4)
              have st14 := st2.trans (st3.trans st4)
              cases q5 : b ρ3 h3 with
              | none => simp only [q5] at em2; cases em2
              | some p5 =>
                obtain ⟨o5, ρ5, h5⟩ := p5
                refine ⟨ι4, ρ3, h3, o5, ρ5, h5, rs4, rh4, q5, ?_⟩
                cases o5 with
                | nx => simp only [q5] at em2; exact fun ι' H' σ' st rs' rh' => ⟨ι', ρ5, h5, st14.trans st, rs', rh', em2, ks4.on st⟩
                | ct => simp only [q5] at em2; exact fun ι' H' σ' st rs' rh' => ⟨ι', ρ5, h5, st14.trans st, rs', rh', em2, ks4.on st⟩
                | bk => simp only [q5] at em2; cases em2; exact ks4
                | rt d => simp only [q5] at em2; cases em2; exact ks4
                | ex x => simp only [q5] at em2; cases em2; exact ks4
end

/-! ### what a value holds in order -/
/-- true: a list -/
def seqOf (h : VH) : D → Option (Bool × List D)
  | .tup xs => some (false, xs)
  | .lst xs => some (true, xs)
  | .bls xs => some (true, xs)
  | .obj a => (match h[a]? with
    | some (.lst xs) => some (true, xs)
    | _ => none)
  | _ => none
end ML
/-! the text M5 -/
/-! M5: what a loop walks: lists, tuples, ranges, enumerate and zip of lists and tuples in any mix. -/
namespace ML
open PySem PySem.Spec PyProof.Rows L2

/-! ### a list (true) or a tuple (false) -/
def SqK (b : Bool) (K : PySem.W.Frag) (H : Hp) (a : Addr) (xs : List V) : Prop := match b with
  | true => SqL K H a xs
  | false => SqT K H a xs
def ItK (b : Bool) (h : Heap) (it a : Addr) (i : Nat) : Prop := match b with
  | true => h.IsListIter it a i
  | false => h.IsTupleIter it a i
def IsK (b : Bool) (h : Heap) (a : Addr) (items : Array Value) : Prop := match b with
  | true => h.IsList a items
  | false => h.IsTuple a items
def itO (b : Bool) (a : Addr) : Obj := match b with
  | true => { cls := .type "list_iterator", data := .fields #[.ref a, .int 0 0] }
  | false => { cls := .type "tuple_iterator", data := .fields #[.ref a, .int 0 0] }
theorem beginsK (b : Bool) (a : Addr) (items : Array Value) : PySem.Begins (.ref a) (itO b a) fun h => IsK b h a items := by
  cases b with
  | true => exact begins_list a items
  | false => exact begins_tuple a items
theorem itK_new {b : Bool} {h : Heap} {it a : Addr} (e : h.get? it = some (itO b a)) : ItK b h it a 0 := by
  cases b with
  | true => exact ⟨_, e, rfl, rfl⟩
  | false => exact ⟨_, e, rfl, rfl⟩
theorem ItK.obj {b : Bool} {h : Heap} {it a : Addr} {i : Nat} (x : ItK b h it a i) : ∃ o, h.get? it = some o ∧ ∀ v, o.data ≠ .cell v := by
  cases b with
  | true => obtain ⟨o, e, c, d⟩ := x; exact ⟨o, e, fun v z => by rw [d] at z; cases z⟩
  | false => obtain ⟨o, e, c, d⟩ := x; exact ⟨o, e, fun v z => by rw [d] at z; cases z⟩
theorem ItK.over {b : Bool} {h h' : Heap} {it a : Addr} {i : Nat} (x : ItK b h it a i) (k : ∀ o, h.get? it = some o → h'.get? it = some o) : ItK b h' it a i := by
  cases b with
  | true => exact Heap.IsListIter.at x k
  | false => exact Heap.IsTupleIter.at x k
theorem drawsK {prog : Program} {w : World} {A : Around} (hh : A.handled = none) (b : Bool) (it a : Addr) (hne : a ≠ it) (items : Array Value) :
    Draws prog w A it [it, a] items.size (fun i v => items[i]? = some v) (fun i h => ItK b h it a i ∧ IsK b h a items) := by
  cases b with
  | true => exact Draws.list hh it a hne items
  | false => exact Draws.tuple hh it a hne items
section
variable {T : List (Addr × Str)} {X : Cx} {pins : List (Addr × Obj)} {σ : L2.St} {H : Hp} {s : Shared} {a : Addr} {xs ys : List V} {b : Bool}
theorem seqK (I : Inv X pins σ H s) (h : SqK b X.K H a xs) : ∃ its : List Value, Vals xs its ∧ IsK b s.heap a its.toArray ∧ xs.length ≤ sizeLine := by
  cases b with
  | true => obtain ⟨its, r, p, z⟩ := I.list h; exact ⟨its, r, p.isList, z⟩
  | false => obtain ⟨its, r, p, z⟩ := I.tuple h; exact ⟨its, r, p, z⟩
theorem seqK_inj (I : Inv X pins σ H s) (h : SqK b X.K H a xs) (h' : SqK b X.K H a ys) : xs = ys := by
  cases b with
  | true => exact I.list_inj h h'
  | false => exact I.tuple_inj h h'
theorem IsK.lt {h : Heap} {items : Array Value} (x : IsK b h a items) : a < h.objs.size := by
  cases b with
  | true => obtain ⟨o, e, _⟩ := x; exact Heap.lt_size e
  | false => obtain ⟨o, e, _⟩ := x; exact Heap.lt_size e
end

/-! ### enumerate(v) -/
theorem meets_enum1 {v : Value} {o : Obj} {G : Heap → Prop} (B : PySem.Begins v o G) :
    Meets (Builtin.«enumerate.__new__» ⟨[.type "enumerate", v], []⟩) (fun _ R s => G s.heap ∧
      R (.ok (.ret (.ref (s.heap.push o).objs.size))) { s with heap := (s.heap.push o).push { cls := .type "enumerate", data := .fields #[.none, .bool false, .ref s.heap.objs.size, rawInt 0, .none, .none] } }) :=
  .of_wp fun prog w A R s h => by
    obtain ⟨hp, g, d, tk, os⟩ := s
    obtain ⟨hG, hR⟩ := h
    have sub1 := sub_enumerate
    have walk : ∀ {A' : Around} {E : Value → Shared → Prop} {Q : Value → Shared → Prop}, Q (.ref hp.objs.size) ⟨hp.push o, g, d, tk, os⟩ → wpAny (model prog w) A' (pyIter v) Q E ⟨hp, g, d, tk, os⟩ :=
      fun q => B.iter prog w _ _ ⟨hp, g, d, tk, os⟩ _ hG q
    wp_walk using walk
    refine wpAny_stack_any fun st => wpAny_pure ?_
    split
    · rename_i c _ _ _ _ _
      cases (c == Value.type "enumerate") <;> (wp_walk using walk; exact ⟨_, rfl, hR⟩)
    · wp_walk using walk
      exact ⟨_, rfl, hR⟩
theorem call_enum1 {prog : Program} {w : World} {A : Around} {E : Value → Shared → Prop} {s : Shared} {v : Value} {o : Obj} {G : Heap → Prop} {Q : Value → Shared → Prop} (B : PySem.Begins v o G) (hG : G s.heap)
    (k : ∀ h', IsEnum h' (s.heap.objs.size + 1) s.heap.objs.size 0 .none → h'.get? s.heap.objs.size = some o → (∀ c u, s.heap.get? c = some u → h'.get? c = some u) → Q (.ref (s.heap.objs.size + 1)) { s with heap := h' }) :
    wpAny (model prog w) A (call (.type "enumerate") [v]) Q E s := by
  refine callType_new F.called_enumerate (by decide) (F.typeCall_enumerate_1 _) (F.newCall_enumerate_1 _) (fun obj => F.args_object_init_2 obj _) F.entry_enumerate_new (meets_enum1 B) ⟨hG, ?_⟩
  have sz : (s.heap.push o).objs.size = s.heap.objs.size + 1 := Heap.size_push ..
  have top := Heap.get?_push_size (s.heap.push o) (o := { cls := .type "enumerate", data := .fields #[.none, .bool false, .ref s.heap.objs.size, rawInt 0, .none, .none] }) rfl
  rw [sz] at top
  show _ ∧ _
  rw [sz]
  exact ⟨⟨_, top, rfl⟩, k _ top (Heap.get?_push_of_some _ (Heap.get?_push_size _ B.free)) fun c u e => Heap.get?_push_of_some _ (Heap.get?_push_of_some _ e)⟩
/-- each item in a new pair, with its place -/
def ItE (b : Bool) (K : PySem.W.Frag) (a : Addr) : It :=
  ⟨fun i H => ∃ (xs : List V) (x : V), SqK b K H a xs ∧ xs[i]? = some x, fun i H v H' => ∃ T x, v = .ref T ∧ H T = none ∧ H' = upd H T (.tup [.int (i : Nat), x]) ∧ ∀ xs, SqK b K H a xs → xs[i]? = some x, fun i H => ∃ xs : List V, SqK b K H a xs ∧ xs.length = i⟩
theorem turnE {P : Program} {w : World} {K : PySem.W.Frag} {elts : List Expr} {kk : Nat} {tpos : Pos} (b : Bool) (a e it : Addr) :
    Turn P w K (.Tuple elts kk tpos) (ItE b K a) [e, it] e (fun i h => (∃ old, IsEnum h e it ((i : Nat) : Int) old) ∧ ItK b h it a i ∧ e ≠ it ∧ a ≠ it ∧ a ≠ e) where
  mem := by simp
  obj := fun i h st c hc => by
    obtain ⟨⟨old, he⟩, hi, _⟩ := st
    rcases (by simpa using hc : c = e ∨ c = it) with z | z
    · subst z; exact ⟨_, he, fun v q => nomatch q⟩
    · subst z; exact hi.obj
  keep := fun i h h' st k => ⟨st.1.imp fun old he => k e (by simp) _ he, st.2.1.over (k it (by simp)), st.2.2⟩
  item := by
    intro X hP hw hK hc i pins s σ H E I hf st hg
    subst hP hw hK
    obtain ⟨⟨old, he⟩, hit, hne, ha1, ha2⟩ := st
    obtain ⟨xs, x, hq, hx⟩ := hg
    obtain ⟨its, rv, p, hz⟩ := seqK I hq
    obtain ⟨u, hu, ru⟩ := rv.get hx
    have el : e < s.heap.objs.size := Heap.lt_size he
    have il : it < s.heap.objs.size := by obtain ⟨o, eo, _⟩ := hit.obj; exact Heap.lt_size eo
    have hlen := rv.length
    have hi : i < its.length := (List.getElem?_eq_some_iff.mp hu).1
    refine wpAny_pyNext_enum_itemC (drawsK (A := X.A.in1) (I.ok.hd hc) b it a ha1 its.toArray) he ⟨hit, p⟩ (by simpa using hi) hne (by simp [hne, Ne.symm ha2]) fun y h' tk hy ho st' hT hsz hk => ?_
    have ey : y = u := by
      have : its.toArray[i]? = some y := hy
      rw [List.getElem?_toArray, hu] at this
      exact (Option.some.inj this).symm
    subst ey
    refine ⟨_, rfl, wpAny_letOwnedTupleGo_enum (s := { s with heap := h', toks := tk + 1 }) ho fun h2 he2 sb => ?_⟩
    have hT2 : h2.get? s.heap.objs.size = some { cls := .type "tuple", data := .seq #[.int i tk, y] } := (sb.2 _ (Nat.ne_of_gt el)).trans hT
    have new : ObjOk X.prog X.w (upd H s.heap.objs.size (.tup [.int (i : Nat), x])) h2 s.heap.objs.size (.tup [.int (i : Nat), x]) :=
      ⟨by show 2 ≤ sizeLine; decide, [.int i tk, y], .cons ⟨_, rfl⟩ (.cons ru .nil), ⟨_, hT2, rfl, _, rfl⟩⟩
    have I1 : Inv X pins σ (upd H s.heap.objs.size (.tup [.int (i : Nat), x])) { s with heap := h2, toks := tk + 1 } :=
      I.turnedNew (ch := [e, it]) (fun c ob hb q => (sb.2 c (fun z => hb (by simp [z]))).trans (hk c ob (fun z => hb (by simp [z])) (fun z => hb (by simp [z])) q)) hf (Nat.le_refl _) new
    refine ⟨.ref s.heap.objs.size, _, I1, rfl, ⟨_, x, rfl, I.hok.fresh (Nat.le_refl _), rfl, fun ys hy => by rw [seqK_inj I hy hq]; exact hx⟩, ⟨⟨y, ?_⟩, st'.1.over fun o q => (sb.2 it (Ne.symm hne)).trans q, hne, ha1, ha2⟩, fun c hb => ?_⟩
    · rw [show ((i + 1 : Nat) : Int) = (i : Int) + 1 by omega]
      exact he2
    · have hb' : c < s.heap.objs.size := by
        rcases (by simpa using hb : c = e ∨ c = it) with z | z
        · rw [z]; exact el
        · rw [z]; exact il
      rw [upd_ne (Nat.ne_of_lt hb')]
      exact (hf c hb).1
  done := by
    intro X hP hw hK hc i pins s σ H E I hf st hg
    subst hP hw hK
    obtain ⟨⟨old, he⟩, hit, hne, ha1, ha2⟩ := st
    obtain ⟨xs, hq, hx⟩ := hg
    obtain ⟨its, rv, p, hz⟩ := seqK I hq
    obtain ⟨f0, f1, f2, f3, f4, f5⟩ := hf it (by simp)
    have hlen := rv.length
    have hi : i = its.toArray.size := by simp; omega
    refine wpAny_pyNext_enum_endD (drawsK (A := X.A.in1) (I.ok.hd hc) b it a ha1 its.toArray) he ⟨by rw [← hi]; exact hit, p⟩ fun h' eb => ⟨rfl, I.turned (t' := s.toks) (fun c o hb q => eb c o hb q) f0 f1 f3 f4 f5⟩
  self := fun A i s Q E st h => let ⟨⟨_, he⟩, _⟩ := st; wpAny_pyIter_enum he h
def iEnumK (K : PySem.W.Frag) (ta : TA) : TI := fun σ H R => ta σ H fun vs H1 => ∃ b a xs, vs = [.ref a] ∧ SqK b K H1 a xs ∧ R (ItE b K a) H1
theorem pi_enumK {X : Cx} {e : Expr} {ta : TA} {p pos tpos : Pos} {elts : List Expr} {kk : Nat} (hg : Gl X "enumerate") (hm : X.mg "enumerate" = none) (ha : PA X [e] ta) (hs : starEach [e] X.env = [(false, eval e X.env)] := by rfl) :
    PI X (.Tuple elts kk tpos) (.Call (.Name "enumerate" p) [e] [] pos) (iEnumK X.K ta) := by
  refine ⟨fun pins s σ H R I h => ?_⟩
  refine Call_ (ld_blt I hg hm boot_enumerate (PyProof.Rows.callWith_type1 (thn (ha.run pos pins s σ H _ I h) fun us s1 ⟨vs, H1, I1, r1, q1⟩ => ?_) hs rfl))
  obtain ⟨b, a, xs, ex, hq, q⟩ := q1
  subst ex
  have eu := r1.ref1
  subst eu
  obtain ⟨its, rv, p', hz⟩ := seqK I1 hq
  refine call_enum1 (beginsK b a its.toArray) p' fun h' he hit hk => wpAny_pyIter_enum he ?_
  have I2 : Inv X pins σ H1 { s1 with heap := h' } := I1.kept (t' := s1.toks) hk
  have al := p'.lt
  refine ⟨s1.heap.objs.size + 1, [s1.heap.objs.size + 1, s1.heap.objs.size], _, _, H1, rfl, I2, turnE b a (s1.heap.objs.size + 1) s1.heap.objs.size, ⟨⟨.none, he⟩, itK_new hit, Nat.succ_ne_self _, Nat.ne_of_lt al, Nat.ne_of_lt (Nat.lt_succ_of_lt al)⟩, fun c hb => ?_, q⟩
  have hle : s1.heap.objs.size ≤ c := by
    rcases (by simpa using hb : c = s1.heap.objs.size + 1 ∨ c = s1.heap.objs.size) with z | z
    · rw [z]; exact Nat.le_succ _
    · rw [z]; exact Nat.le_refl _
  exact I1.fpOk hle (I1.hok.fresh hle)

/-! ### zip(u, v) -/
def ItZ (b c : Bool) (K : PySem.W.Frag) (l r : Addr) : It :=
  ⟨fun i H => ∃ (xs ys : List V) (x y : V), SqK b K H l xs ∧ SqK c K H r ys ∧ xs[i]? = some x ∧ ys[i]? = some y,
    fun i H v H' => ∃ T x y, v = .ref T ∧ H T = none ∧ H' = upd H T (.tup [x, y]) ∧ (∀ xs, SqK b K H l xs → xs[i]? = some x) ∧ ∀ ys, SqK c K H r ys → ys[i]? = some y,
    fun i H => ∃ xs ys : List V, SqK b K H l xs ∧ SqK c K H r ys ∧ i ≤ xs.length ∧ i ≤ ys.length ∧ (xs.length = i ∨ ys.length = i)⟩
theorem turnZ {P : Program} {w : World} {K : PySem.W.Frag} {elts : List Expr} {kk : Nat} {tpos : Pos} (b c : Bool) {l r z TI TO i1 i2 : Addr} (S : ZipSep2 z TI TO i1 i2 [i1, l] [i2, r]) :
    Turn P w K (.Tuple elts kk tpos) (ItZ b c K l r) [z, TI, TO, i1, i2] z (fun i h => IsZip h z TI TO .none ∧ IsTupOf2 h TI (.ref i1) (.ref i2) ∧ (∃ x y, IsTupOf2 h TO x y) ∧ ItK b h i1 l i ∧ ItK c h i2 r i ∧ l ≠ i1 ∧ r ≠ i2) where
  mem := by simp
  obj := fun i h st d hd => by
    obtain ⟨hz, hTI, ⟨x, y, hTO⟩, h1, h2, _⟩ := st
    rcases (by simpa using hd : d = z ∨ d = TI ∨ d = TO ∨ d = i1 ∨ d = i2) with q | q | q | q | q <;> subst q
    · exact ⟨_, hz, fun v q => nomatch q⟩
    · exact ⟨_, hTI, fun v q => nomatch q⟩
    · exact ⟨_, hTO, fun v q => nomatch q⟩
    · exact h1.obj
    · exact h2.obj
  keep := fun i h h' st k => by
    obtain ⟨hz, hTI, ⟨x, y, hTO⟩, h1, h2, ne⟩ := st
    exact ⟨k z (by simp) _ hz, k TI (by simp) _ hTI, ⟨x, y, k TO (by simp) _ hTO⟩, h1.over (k i1 (by simp)), h2.over (k i2 (by simp)), ne⟩
  item := by
    intro X hP hw hK hc i pins s σ H E I hf st hg
    subst hP hw hK
    obtain ⟨hz, hTI, ⟨x0, y0, hTO⟩, h1, h2, ne1, ne2⟩ := st
    obtain ⟨xs, ys, x, y, hqx, hqy, hx, hy⟩ := hg
    obtain ⟨its, rv, p, _⟩ := seqK I hqx
    obtain ⟨its2, rv2, p2, _⟩ := seqK I hqy
    obtain ⟨u, hu, ru⟩ := rv.get hx
    obtain ⟨u2, hu2, ru2⟩ := rv2.get hy
    have zl : z < s.heap.objs.size := Heap.lt_size hz
    refine wpAny_pyNext_zipD2_item S (drawsK (A := X.A.in1) (I.ok.hd hc) b i1 l ne1 its.toArray) (drawsK (A := X.A.in1) (I.ok.hd hc) c i2 r ne2 its2.toArray) hz hTI hTO ⟨h1, p⟩ ⟨h2, p2⟩
      (by simpa using (List.getElem?_eq_some_iff.mp hu).1) (by simpa using (List.getElem?_eq_some_iff.mp hu2).1) fun v1 v2 h' tk e1 e2 z' TO' st1' st2' hT hsz hk => ?_
    have q1 : v1 = u := by rw [List.getElem?_toArray, hu] at e1; exact (Option.some.inj e1).symm
    have q2 : v2 = u2 := by rw [List.getElem?_toArray, hu2] at e2; exact (Option.some.inj e2).symm
    subst q1 q2
    refine ⟨_, rfl, wpAny_letOwnedTupleGo_zip (s := { s with heap := h', toks := tk }) z' fun h2' z2 sb => ?_⟩
    have hT2 : h2'.get? s.heap.objs.size = some { cls := .type "tuple", data := .seq #[v1, v2] } := (sb.2 _ (Nat.ne_of_gt zl)).trans hT
    have new : ObjOk X.prog X.w (upd H s.heap.objs.size (.tup [x, y])) h2' s.heap.objs.size (.tup [x, y]) :=
      ⟨by show 2 ≤ sizeLine; decide, [v1, v2], .cons ru (.cons ru2 .nil), ⟨_, hT2, rfl, _, rfl⟩⟩
    have I1 : Inv X pins σ (upd H s.heap.objs.size (.tup [x, y])) { s with heap := h2', toks := tk } :=
      I.turnedNew (ch := [z, TI, TO, i1, i2]) (fun d o hb q => (sb.2 d (fun q' => hb (by simp [q']))).trans (hk d o (fun q' => hb (by simp [q'])) (fun q' => hb (by simp [q'])) (fun q' => hb (by simp [q'])) (fun q' => hb (by simp [q'])) q)) hf (Nat.le_refl _) new
    have i1z : i1 ≠ z := fun q => S.zf1 (by rw [← q]; exact List.mem_cons_self)
    have i2z : i2 ≠ z := fun q => S.zf2 (by rw [← q]; exact List.mem_cons_self)
    refine ⟨.ref s.heap.objs.size, _, I1, rfl, ⟨_, x, y, rfl, I.hok.fresh (Nat.le_refl _), rfl, fun m hm => by rw [seqK_inj I hm hqx]; exact hx, fun m hm => by rw [seqK_inj I hm hqy]; exact hy⟩, ⟨z2, ?_, ⟨v1, v2, ?_⟩, ?_, ?_, ne1, ne2⟩, fun d hd => ?_⟩
    · exact (sb.2 _ S.TIz).trans (hk _ _ S.TIz S.TITO S.TIi1 S.TIi2 hTI)
    · exact (sb.2 _ S.TOz).trans TO'
    · exact st1'.1.over fun o q => (sb.2 _ i1z).trans q
    · exact st2'.1.over fun o q => (sb.2 _ i2z).trans q
    · have lt : d < s.heap.objs.size := by
        rcases (by simpa using hd : d = z ∨ d = TI ∨ d = TO ∨ d = i1 ∨ d = i2) with q | q | q | q | q
        · rw [q]; exact zl
        · rw [q]; exact Heap.lt_size hTI
        · rw [q]; exact Heap.lt_size hTO
        · rw [q]; obtain ⟨_, e1, _⟩ := h1.obj; exact Heap.lt_size e1
        · rw [q]; obtain ⟨_, e2, _⟩ := h2.obj; exact Heap.lt_size e2
      rw [upd_ne (Nat.ne_of_lt lt)]
      exact (hf d hd).1
  done := by
    intro X hP hw hK hc i pins s σ H E I hf st hg
    subst hP hw hK
    obtain ⟨hz, hTI, ⟨x0, y0, hTO⟩, h1, h2, ne1, ne2⟩ := st
    obtain ⟨xs, ys, hqx, hqy, l1, l2, hend⟩ := hg
    obtain ⟨its, rv, p, _⟩ := seqK I hqx
    obtain ⟨its2, rv2, p2, _⟩ := seqK I hqy
    have e1 := rv.length
    have e2 := rv2.length
    refine wpAny_pyNext_zipD2_end S (drawsK (A := X.A.in1) (I.ok.hd hc) b i1 l ne1 its.toArray) (drawsK (A := X.A.in1) (I.ok.hd hc) c i2 r ne2 its2.toArray) hz hTI hTO ⟨h1, p⟩ ⟨h2, p2⟩ (by simp; omega) (by simp; omega) (by simp; omega) fun h' tk hk => ⟨rfl, I.turnedL (ch := [z, TI, TO, i1, i2]) (fun d o hb q =>
      hk d o (fun q' => hb (by simp [q'])) (fun q' => hb (by simp [q'])) (fun q' => hb (by simp [q'])) (fun q' => hb (by simp [q'])) q) hf⟩
  self := fun A i s Q E st h => wpAny_pyIter_zip st.1 h
def iZipK (K : PySem.W.Frag) (ta : TA) : TI := fun σ H R => ta σ H fun vs H1 => ∃ b c l r xs ys, vs = [.ref l, .ref r] ∧ SqK b K H1 l xs ∧ SqK c K H1 r ys ∧ R (ItZ b c K l r) H1
theorem pi_zipK {X : Cx} {e e2 : Expr} {ta : TA} {p pos tpos : Pos} {elts : List Expr} {kk : Nat} (hg : Gl X "zip") (hm : X.mg "zip" = none) (ha : PA X [e, e2] ta)
    (hs : starEach [e, e2] X.env = (false, eval e X.env) :: starEach [e2] X.env := by rfl) (hpl : (backTo pos (starEach [e2] X.env)).any (·.1) = false := by rfl) :
    PI X (.Tuple elts kk tpos) (.Call (.Name "zip" p) [e, e2] [] pos) (iZipK X.K ta) := by
  refine ⟨fun pins s σ H R I h => ?_⟩
  refine Call_ (ld_blt I hg hm PyProof.Rows.boot_zip (PyProof.Rows.callWith_type1 (thn (ha.run pos pins s σ H _ I h) fun us s1 ⟨vs, H1, I1, r1, q1⟩ => ?_) hs hpl))
  obtain ⟨b, c, l, r, xs, ys, ex, hqx, hqy, q⟩ := q1
  subst ex
  obtain ⟨u1, u2, eu, k1, k2⟩ := r1.two
  subst eu
  cases k1
  cases k2
  obtain ⟨its, rv, p1, _⟩ := seqK I1 hqx
  obtain ⟨its2, rv2, p2, _⟩ := seqK I1 hqy
  have ll := p1.lt
  have lr := p2.lt
  refine zip_begins2 (beginsK b l its.toArray) (beginsK c r its2.toArray) p1 p2 fun h' hz hTI hTO h1 h2 hsz hk => wpAny_pyIter_zip hz ?_
  have I2 : Inv X pins σ H1 { s1 with heap := h' } := I1.kept (t' := s1.toks) hk
  have f1 : ∀ d ∈ [l], d < s1.heap.objs.size := by
    intro d hd
    have e : d = l := by simpa using hd
    rw [e]; exact ll
  have f2 : ∀ d ∈ [r], d < s1.heap.objs.size := by
    intro d hd
    have e : d = r := by simpa using hd
    rw [e]; exact lr
  have S : ZipSep2 (s1.heap.objs.size + 4) (s1.heap.objs.size + 2) (s1.heap.objs.size + 3) s1.heap.objs.size (s1.heap.objs.size + 1) [s1.heap.objs.size, l] [s1.heap.objs.size + 1, r] :=
    zip_sep2 (N := s1.heap.objs.size) f1 f2
  refine ⟨s1.heap.objs.size + 4, [s1.heap.objs.size + 4, s1.heap.objs.size + 2, s1.heap.objs.size + 3, s1.heap.objs.size, s1.heap.objs.size + 1], _, _, H1, rfl, I2, turnZ b c S, ⟨hz, hTI, ⟨_, _, hTO⟩, itK_new h1, itK_new h2, Nat.ne_of_lt ll, Nat.ne_of_lt (Nat.lt_succ_of_lt lr)⟩, fun d hd => ?_, q⟩
  have hle : s1.heap.objs.size ≤ d := by
    rcases (by simpa using hd : d = s1.heap.objs.size + 4 ∨ d = s1.heap.objs.size + 2 ∨ d = s1.heap.objs.size + 3 ∨ d = s1.heap.objs.size ∨ d = s1.heap.objs.size + 1) with z | z | z | z | z <;> rw [z]
    · exact Nat.le_add_right _ _
    · exact Nat.le_add_right _ _
    · exact Nat.le_add_right _ _
    · exact Nat.le_refl _
    · exact Nat.le_add_right _ _
  exact I1.fpOk hle (I1.hok.fresh hle)

/-! ### the readings -/
def nxSeq (d : D) : Nx := fun i h => match seqOf h d with
  | some (_, xs) => some xs[i]?
  | none => none
def nxEnum (d : D) : Nx := fun i h => match seqOf h d with
  | some (_, xs) => (match xs[i]? with
    | some x => some (some (.tup [.int (i : Nat), x]))
    | none => if xs.length = i then some none else none)
  | none => none
def nxZip (d e : D) : Nx := fun i h => match seqOf h d, seqOf h e with
  | some (_, xs), some (_, ys) => (match xs[i]?, ys[i]? with
    | some x, some y => some (some (.tup [x, y]))
    | _, _ => if (xs.length = i ∧ i ≤ ys.length) ∨ (ys.length = i ∧ i ≤ xs.length) then some none else none)
  | _, _ => none
def nxRng (lo : Int) (n : Nat) : Nx := fun i _ => if i < n then some (some (.int (lo + (i : Nat)))) else some none
def nxStr (x : Str) : Nx := fun i _ => match x.cps[i]? with
  | some c => some (some (.str ⟨#[c]⟩))
  | none => some none
def mSeqI (m : ME) : MI := fun ρ h => bnd (m ρ h) fun d h1 => match seqOf h1 d with
  | some (_, xs) => ok (xs.length + 1, nxSeq d) h1
  | none => none
def mEnumI (m : MA) : MI := fun ρ h => bnd (m ρ h) fun ds h1 => match ds with
  | [d] => (match seqOf h1 d with
    | some (_, xs) => ok (xs.length + 1, nxEnum d) h1
    | none => none)
  | _ => none
def mZipI (m : MA) : MI := fun ρ h => bnd (m ρ h) fun ds h1 => match ds with
  | [d, e] => (match seqOf h1 d, seqOf h1 e with
    | some (_, xs), some (_, ys) => ok (xs.length + ys.length + 1, nxZip d e) h1
    | _, _ => none)
  | _ => none
@[irreducible] def small (j : Int) : Bool := decide (-(2 ^ 62) ≤ j) && decide (j < 2 ^ 62)
def mRng1I (m : MA) : MI := fun ρ h => bnd (m ρ h) fun ds h1 => match ds with
  | [.int j] => if small j = true then ok (j.toNat + 1, nxRng 0 j.toNat) h1 else none
  | _ => none
def mRng2I (m : MA) : MI := fun ρ h => bnd (m ρ h) fun ds h1 => match ds with
  | [.int i, .int j] => if small i = true ∧ small j = true then ok ((j - i).toNat + 1, nxRng i (j - i).toNat) h1 else none
  | _ => none
def mStrI (m : ME) : MI := fun ρ h => bnd (m ρ h) fun d h1 => match d with
  | .str x => ok (x.cps.size + 1, nxStr x) h1
  | _ => none
theorem small_iff {j : Int} : small j = true ↔ -(2 ^ 62) ≤ j ∧ j < 2 ^ 62 := by
  unfold small
  simp only [Bool.and_eq_true, decide_eq_true_eq]
section
variable {c : Gx} {ι : Adr} {H : Hp} {h : VH}
theorem seq_at {d : D} {v : V} {b : Bool} {xs : List D} (rh : RH c ι h H) (rv : RV c ι H d v) (e : seqOf h d = some (b, xs)) : ∃ p vs, v = .ref p ∧ SqK b c.K H p vs ∧ RVL c ι H xs vs := by
  cases d with
  | tup ys =>
    simp only [seqOf, Option.some.injEq, Prod.mk.injEq] at e
    obtain ⟨e1, e2⟩ := e
    subst e1; subst e2
    simp only [RV] at rv
    obtain ⟨p, vs, ev, rl, sq, _⟩ := rv
    exact ⟨p, vs, ev, sq, rl⟩
  | lst ys =>
    simp only [seqOf, Option.some.injEq, Prod.mk.injEq] at e
    obtain ⟨e1, e2⟩ := e
    subst e1; subst e2
    simp only [RV] at rv
    obtain ⟨p, vs, ev, rl, sq, _⟩ := rv
    exact ⟨p, vs, ev, SqL.of sq, rl⟩
  | bls ys =>
    simp only [seqOf, Option.some.injEq, Prod.mk.injEq] at e
    obtain ⟨e1, e2⟩ := e
    subst e1; subst e2
    simp only [RV] at rv
    obtain ⟨p, vs, ev, rl, sq, _⟩ := rv
    exact ⟨p, vs, ev, sq, rl⟩
  | obj a =>
    simp only [seqOf] at e
    cases q : h[a]? with
    | none => rw [q] at e; cases e
    | some o =>
      rw [q] at e
      cases o with
      | lst ys =>
        simp only [Option.some.injEq, Prod.mk.injEq] at e
        obtain ⟨e1, e2⟩ := e
        subst e1; subst e2
        simp only [RV] at rv
        obtain ⟨p, ev, ip⟩ := rv
        obtain ⟨p', ip', ro⟩ := rh.obj a _ q
        rw [ip] at ip'
        cases ip'
        simp only [RO] at ro
        obtain ⟨vs, hp, rl⟩ := ro
        exact ⟨p, vs, ev, .inl (.inl hp), rl⟩
      | _ => cases e
  | _ => cases e
def ItS (b : Bool) (K : PySem.W.Frag) (p : Addr) : It := match b with
  | true => Itl K p
  | false => Itt K p
/-- the whole is what the object holds, for any reading of it -/
theorem steady_seq {d : D} {p : Addr} {b : Bool} {J : It} (rv : RV c ι H d (.ref p)) (hb : ∀ (h : VH) b' xs, seqOf h d = some (b', xs) → b' = b) (hJ : J = ItS b c.K p) : Steady c J (nxSeq d) ι H := by
  intro ι2 H2 h st rh i
  have rv2 := RV.step st d _ rv
  unfold nxSeq
  cases q : seqOf h d with
  | none => exact ⟨fun _ e => by simp at e, fun e => by simp at e⟩
  | some r =>
    obtain ⟨b', xs⟩ := r
    have eb := hb h b' xs q
    subst eb
    obtain ⟨p', vs, ep, sq, rl⟩ := seq_at rh rv2 q
    cases ep
    refine ⟨fun x e => ?_, fun e => ?_⟩
    · have e' : xs[i]? = some x := by simpa using e
      obtain ⟨v, hv, rx⟩ := rl.get e'
      cases b' with
      | true =>
        subst hJ
        refine ⟨⟨vs, v, sq, hv⟩, fun y H3 ⟨eh, yy⟩ => ?_⟩
        subst eh
        have := yy vs sq
        rw [hv] at this
        cases this
        exact ⟨Stp.refl _ _, rh, rx⟩
      | false =>
        subst hJ
        refine ⟨⟨vs, v, sq, hv⟩, fun y H3 ⟨eh, yy⟩ => ?_⟩
        subst eh
        have := yy vs sq
        rw [hv] at this
        cases this
        exact ⟨Stp.refl _ _, rh, rx⟩
    · have e' : xs.length ≤ i := by simpa using e
      have l := rl.len
      cases b' with
      | true => subst hJ; exact ⟨vs, sq, by omega⟩
      | false => subst hJ; exact ⟨vs, sq, by omega⟩
theorem seqOf_kind {d : D} {h h' : VH} {b b' : Bool} {xs ys : List D} (e : seqOf h d = some (b, xs)) (e' : seqOf h' d = some (b', ys)) : b' = b := by
  cases d with
  | tup zs => simp [seqOf] at e e'; rw [e.1, e'.1]
  | lst zs => simp [seqOf] at e e'; rw [e.1, e'.1]
  | bls zs => simp [seqOf] at e e'; rw [e.1, e'.1]
  | obj a =>
    simp only [seqOf] at e e'
    cases q : h[a]? with
    | none => rw [q] at e; cases e
    | some o => cases o with
      | lst zs =>
        rw [q] at e
        cases q' : h'[a]? with
        | none => rw [q'] at e'; cases e'
        | some o' => cases o' with
          | lst zs' => rw [q'] at e'; cases e; cases e'; rfl
          | _ => rw [q'] at e'; cases e'
      | _ => rw [q] at e; cases e
  | _ => cases e
/-- two fresh parts of a pair -/
theorem rv_pair {d e : D} {v w : V} {T : Addr} (rh : RH c ι h H) (n : H T = none) (r1 : RV c ι H d v) (r2 : RV c ι H e w) : RV c ι (upd H T (.tup [v, w])) (.tup [d, e]) (.ref T) := rv_tup rh n (.cons r1 (.cons r2 .nil))
theorem steady_enum {d : D} {p : Addr} {b : Bool} (rv : RV c ι H d (.ref p)) (hb : ∀ (h : VH) b' xs, seqOf h d = some (b', xs) → b' = b) : Steady c (ItE b c.K p) (nxEnum d) ι H := by
  intro ι2 H2 h st rh i
  have rv2 := RV.step st d _ rv
  unfold nxEnum
  cases q : seqOf h d with
  | none => exact ⟨fun _ e => by simp at e, fun e => by simp at e⟩
  | some r =>
    obtain ⟨b', xs⟩ := r
    have eb := hb h b' xs q
    subst eb
    obtain ⟨p', vs, ep, sq, rl⟩ := seq_at rh rv2 q
    cases ep
    cases q2 : xs[i]? with
    | none =>
      simp only [q2]
      by_cases hi : xs.length = i
      · rw [if_pos hi]
        refine ⟨fun x e => by simp at e, fun e => ⟨vs, sq, by rw [rl.len]; exact hi⟩⟩
      · rw [if_neg hi]
        exact ⟨fun x e => by simp at e, fun e => by simp at e⟩
    | some x =>
      refine ⟨fun x' e => ?_, fun e => by simp [q2] at e⟩
      simp only [q2, Option.some.injEq] at e
      subst e
      obtain ⟨v, hv, rx⟩ := rl.get q2
      refine ⟨⟨vs, v, sq, hv⟩, fun y H3 ⟨T, z, ey, nT, eh, yy⟩ => ?_⟩
      have := yy vs sq
      rw [hv] at this
      cases this
      subst ey; subst eh
      exact ⟨rh.newStp nT, rh.new nT, rv_pair rh nT (st_int _ _) rx⟩
theorem steady_zip {d e : D} {p q : Addr} {b b2 : Bool} (rv : RV c ι H d (.ref p)) (rw_ : RV c ι H e (.ref q)) (hb : ∀ (h : VH) b' xs, seqOf h d = some (b', xs) → b' = b) (hb2 : ∀ (h : VH) b' xs, seqOf h e = some (b', xs) → b' = b2) : Steady c (ItZ b b2 c.K p q) (nxZip d e) ι H := by
  intro ι2 H2 h st rh i
  have rv2 := RV.step st d _ rv
  have rw2 := RV.step st e _ rw_
  unfold nxZip
  cases q1 : seqOf h d with
  | none => exact ⟨fun _ e => by simp at e, fun e => by simp at e⟩
  | some r =>
  cases q2 : seqOf h e with
  | none => exact ⟨fun _ e => by simp at e, fun e => by simp at e⟩
  | some r2 =>
    obtain ⟨b', xs⟩ := r
    obtain ⟨b2', ys⟩ := r2
    have eb := hb h b' xs q1
    subst eb
    have eb2 := hb2 h b2' ys q2
    subst eb2
    obtain ⟨p', vs, ep, sq, rl⟩ := seq_at rh rv2 q1
    cases ep
    obtain ⟨p2', ws, ep2, sq2, rl2⟩ := seq_at rh rw2 q2
    cases ep2
    simp only []
    have l1 := rl.len
    have l2 := rl2.len
    split
    · rename_i x y ex ey
      refine ⟨fun x' e => ?_, fun e => by simp at e⟩
      simp only [Option.some.injEq] at e
      subst e
      obtain ⟨v, hv, rx⟩ := rl.get ex
      obtain ⟨w, hw, ry⟩ := rl2.get ey
      refine ⟨⟨vs, ws, v, w, sq, sq2, hv, hw⟩, fun y H3 ⟨T, z, z2, ey, nT, eh, yy, yy2⟩ => ?_⟩
      have h1 := yy vs sq
      rw [hv] at h1
      cases h1
      have h2 := yy2 ws sq2
      rw [hw] at h2
      cases h2
      subst ey; subst eh
      exact ⟨rh.newStp nT, rh.new nT, rv_pair rh nT rx ry⟩
    · split
      · rename_i hi
        exact ⟨fun x e => by simp at e, fun e => ⟨vs, ws, sq, sq2, by omega, by omega, by omega⟩⟩
      · exact ⟨fun x e => by simp at e, fun e => by simp at e⟩
end

section
variable {T : List (Addr × Str)} {X : Cx} {W : WW} {tg e e2 : Expr} {pos p : Pos} {m : ME} {ma : MA}
theorem pi_or {w1 w2 : TI} (h1 : PI X tg e w1) (h2 : PI X tg e w2) : PI X tg e (fun σ H R => w1 σ H R ∨ w2 σ H R) := ⟨fun pins s σ H R I q => q.elim (h1.run pins s σ H R I) (h2.run pins s σ H R I)⟩
/-- a part of a walk's reading -/
theorem partI {c : Gx} {W : WW} {ι : Adr} {H : Hp} {h h' : VH} {ρ : L2.St → Prop} {ρ' : Env} {σ : L2.St} {m : ME} {k : D → VH → R (Nat × Nx)} {r : Except Xc (Nat × Nx)} {Q : It → Hp → Prop} {Q' : VK} (rs : RS c W ι H ρ' σ) (rh : RH c ι h H) (e : bnd (m ρ' h) k = some (r, h')) (ke : KI c W ι H σ Q h' r)
    (f : ∀ ι1 H1 v h1 d, Stp ι H ι1 H1 → RS c W ι1 H1 ρ' σ → RH c ι1 h1 H1 → RV c ι1 H1 d v → k d h1 = some (r, h') → KI c W ι1 H1 σ Q h' r → Q' v H1) : tE c W m σ H Q' :=
  part (P := fun ι H r => KI c W ι H σ Q h' r) rs rh e ke (fun _ _ _ z => z) (fun ι1 H1 st => by
    cases r with
    | ok d => exact fun ι' H' J s a b => ke ι' H' J (st.trans s) a b
    | error x => exact fun ι' H' cls dd s a b => ke ι' H' cls dd (st.trans s) a b) f
theorem argsI {c : Gx} {W : WW} {ι : Adr} {H : Hp} {h h' : VH} {ρ' : Env} {σ : L2.St} {m : MA} {k : List D → VH → R (Nat × Nx)} {r : Except Xc (Nat × Nx)} {Q : It → Hp → Prop} {Q' : List V → Hp → Prop} (rs : RS c W ι H ρ' σ) (rh : RH c ι h H) (e : bnd (m ρ' h) k = some (r, h')) (ke : KI c W ι H σ Q h' r)
    (f : ∀ ι1 H1 vs h1 ds, Stp ι H ι1 H1 → RS c W ι1 H1 ρ' σ → RH c ι1 h1 H1 → RVL c ι1 H1 ds vs → k ds h1 = some (r, h') → KI c W ι1 H1 σ Q h' r → Q' vs H1) : tA c W m σ H Q' :=
  args (P := fun ι H r => KI c W ι H σ Q h' r) rs rh e ke (fun _ _ _ z => z) (fun ι1 H1 st => by
    cases r with
    | ok d => exact fun ι' H' J s a b => ke ι' H' J (st.trans s) a b
    | error x => exact fun ι' H' cls dd s a b => ke ι' H' cls dd (st.trans s) a b) f
theorem i_seq (he : PE X e (tE (gx T X) W m)) : PI X tg e (tI (gx T X) W (mSeqI m)) := by
  refine piI (pi_or (pi_list he) (pi_tup he)) fun σ H R ⟨ι, ρ, h, r, h', rs, rh, em, ke⟩ => ?_
  have key : ∀ b : Bool, (∀ r1 h1, m ρ h = some (.ok r1, h1) → ∀ h2 b' xs, seqOf h2 r1 = some (b', xs) → b' = b) → tE (gx T X) W m σ H (fun x H1 => ∃ a, x = .ref a ∧ (∃ xs, SqK b X.K H1 a xs) ∧ R (ItS b X.K a) H1) := by
    intro b hb
    cases q : m ρ h with
    | none => unfold mSeqI at em; rw [q] at em; cases em
    | some z =>
      obtain ⟨z, h1⟩ := z
      unfold mSeqI at em
      rw [q] at em
      refine ⟨ι, ρ, h, z, h1, rs, rh, q, ?_⟩
      cases z with
      | error x => cases em; exact ke
      | ok d =>
        simp only [bnd_ok] at em
        have hb' := hb d h1 q
        cases q2 : seqOf h1 d with
        | none => rw [q2] at em; cases em
        | some bx =>
          obtain ⟨b', xs⟩ := bx
          rw [q2] at em
          obtain ⟨er, eh⟩ := ok_eq em
          subst er; subst eh
          intro ι1 H1 v st1 rh1 rv1
          obtain ⟨p, vs, ev, sq, rl⟩ := seq_at rh1 rv1 q2
          have eb := hb' _ _ _ q2
          subst eb
          subst ev
          exact ⟨p, rfl, ⟨vs, sq⟩, ke ι1 H1 _ st1 rh1 (steady_seq rv1 hb' rfl)⟩
  cases q : m ρ h with
  | none => exact .inl (key true fun r1 h1 e1 => by rw [q] at e1; cases e1)
  | some z =>
    obtain ⟨z, h1⟩ := z
    cases z with
    | error x => exact .inl (key true fun r1 h1 e1 => by rw [q] at e1; cases e1)
    | ok d =>
      unfold mSeqI at em
      rw [q] at em
      simp only [bnd_ok] at em
      cases q2 : seqOf h1 d with
      | none => rw [q2] at em; cases em
      | some bx =>
        obtain ⟨b, xs⟩ := bx
        have hb : ∀ r1 h1, m ρ h = some (.ok r1, h1) → ∀ h2 b' xs, seqOf h2 r1 = some (b', xs) → b' = b := fun r1 h2 e1 h3 b' ys e2 => by
          rw [q] at e1
          cases e1
          exact seqOf_kind q2 e2
        cases b with
        | true => exact .inl (key true hb)
        | false => exact .inr (key false hb)
theorem i_enum {elts : List Expr} {kk : Nat} {tpos : Pos} (hg : Gl X "enumerate") (hm : X.mg "enumerate" = none) (ha : PA X [e] (tA (gx T X) W ma)) (hs : starEach [e] X.env = [(false, eval e X.env)] := by rfl) :
    PI X (.Tuple elts kk tpos) (.Call (.Name "enumerate" p) [e] [] pos) (tI (gx T X) W (mEnumI ma)) := by
  refine piI (pi_enumK hg hm ha hs) fun σ H R ⟨ι, ρ, h, r, h', rs, rh, em, ke⟩ => ?_
  refine argsI rs rh em ke fun ι1 H1 vs h1 ds st1 rs1 rh1 rv1 e1 ke1 => ?_
  match ds, rv1, e1 with
  | [d], rv1, e1 =>
    simp only [] at e1
    cases q2 : seqOf h1 d with
    | none => rw [q2] at e1; cases e1
    | some bx =>
      obtain ⟨b, xs⟩ := bx
      rw [q2] at e1
      obtain ⟨er, eh⟩ := ok_eq e1
      subst er; subst eh
      obtain ⟨v, vr, ev, r1, r2⟩ := rv1.inv_cons
      have r3 := r2.inv_nil
      subst r3; subst ev
      obtain ⟨p', ws, ep, sq, rl⟩ := seq_at rh1 r1 q2
      subst ep
      exact ⟨b, p', ws, rfl, sq, ke1 ι1 H1 _ (Stp.refl _ _) rh1 (steady_enum r1 fun h2 b' ys e2 => seqOf_kind q2 e2)⟩
  | [], _, e1 => cases e1
  | _ :: _ :: _, _, e1 => cases e1
theorem i_zip {elts : List Expr} {kk : Nat} {tpos : Pos} (hg : Gl X "zip") (hm : X.mg "zip" = none) (ha : PA X [e, e2] (tA (gx T X) W ma))
    (hs : starEach [e, e2] X.env = (false, eval e X.env) :: starEach [e2] X.env := by rfl) (hpl : (backTo pos (starEach [e2] X.env)).any (·.1) = false := by rfl) :
    PI X (.Tuple elts kk tpos) (.Call (.Name "zip" p) [e, e2] [] pos) (tI (gx T X) W (mZipI ma)) := by
  refine piI (pi_zipK hg hm ha hs hpl) fun σ H R ⟨ι, ρ, h, r, h', rs, rh, em, ke⟩ => ?_
  refine argsI rs rh em ke fun ι1 H1 vs h1 ds st1 rs1 rh1 rv1 e1 ke1 => ?_
  match ds, rv1, e1 with
  | [d, f], rv1, e1 =>
    simp only [] at e1
    cases q2 : seqOf h1 d with
    | none => rw [q2] at e1; cases e1
    | some bx =>
    cases q3 : seqOf h1 f with
    | none => rw [q2, q3] at e1; cases e1
    | some by_ =>
      obtain ⟨b, xs⟩ := bx
      obtain ⟨b2, ys⟩ := by_
      rw [q2, q3] at e1
      obtain ⟨er, eh⟩ := ok_eq e1
      subst er; subst eh
      obtain ⟨v, vr, ev, r1, r2⟩ := rv1.inv_cons
      obtain ⟨w, vr2, ew, r3, r4⟩ := r2.inv_cons
      have r5 := r4.inv_nil
      subst r5; subst ew; subst ev
      obtain ⟨p', ws, ep, sq, rl⟩ := seq_at rh1 r1 q2
      obtain ⟨p2, ws2, ep2, sq2, rl2⟩ := seq_at rh1 r3 q3
      subst ep; subst ep2
      exact ⟨b, b2, p', p2, ws, ws2, rfl, sq, sq2, ke1 ι1 H1 _ (Stp.refl _ _) rh1 (steady_zip r1 r3 (fun h2 b' ys e2 => seqOf_kind q2 e2) fun h2 b' ys e2 => seqOf_kind q3 e2)⟩
  | [], _, e1 => cases e1
  | [_], _, e1 => cases e1
  | _ :: _ :: _ :: _, _, e1 => cases e1
theorem steady_rng {c : Gx} {ι : Adr} {H : Hp} {lo : Int} {n : Nat} : Steady c (Itr lo n) (nxRng lo n) ι H := by
  intro ι2 H2 h st rh i
  unfold nxRng
  by_cases hi : i < n
  · rw [if_pos hi]
    refine ⟨fun d e => ?_, fun e => by simp at e⟩
    simp only [Option.some.injEq] at e
    subst e
    exact ⟨hi, fun x H3 ⟨e1, e2⟩ => by subst e1; subst e2; exact ⟨Stp.refl _ _, rh, st_int _ _⟩⟩
  · rw [if_neg hi]
    exact ⟨fun d e => by simp at e, fun _ => Nat.le_of_not_lt hi⟩
theorem i_rng1 {a : Expr} (hg : Gl X "range") (hm : X.mg "range" = none) (ha : PA X [a] (tA (gx T X) W ma)) (hs : starEach [a] X.env = [(false, eval a X.env)] := by rfl) : PI X tg (.Call (.Name "range" p) [a] [] pos) (tI (gx T X) W (mRng1I ma)) := by
  refine piI (pi_range1 hg hm ha hs) fun σ H R ⟨ι, ρ, h, r, h', rs, rh, em, ke⟩ => ?_
  refine argsI rs rh em ke fun ι1 H1 vs h1 ds st1 rs1 rh1 rv1 e1 ke1 => ?_
  have ed : ∃ j, ds = [.int j] := by
    cases ds with
    | nil => cases e1
    | cons d ds => cases ds with
      | nil => cases d <;> first | exact ⟨_, rfl⟩ | cases e1
      | cons _ _ => cases d <;> cases e1
  obtain ⟨j, ed⟩ := ed
  subst ed
  · obtain ⟨sm, er, eh⟩ := ifok_eq e1
    subst er; subst eh
    obtain ⟨v, vr, ev, r1, r2⟩ := rv1.inv_cons
    have r3 := r2.inv_nil
    simp only [RV] at r1
    subst r3; subst r1; subst ev
    exact ⟨j, rfl, (small_iff.mp sm).1, (small_iff.mp sm).2, ke1 ι1 H1 _ (Stp.refl _ _) rh1 steady_rng⟩
theorem i_rng2 {a b : Expr} (hg : Gl X "range") (hm : X.mg "range" = none) (ha : PA X [a, b] (tA (gx T X) W ma)) (hs : starEach [a, b] X.env = [(false, eval a X.env), (false, eval b X.env)] := by rfl) (hs2 : starEach [b] X.env = [(false, eval b X.env)] := by rfl) : PI X tg (.Call (.Name "range" p) [a, b] [] pos) (tI (gx T X) W (mRng2I ma)) := by
  refine piI (pi_range2 hg hm ha hs hs2) fun σ H R ⟨ι, ρ, h, r, h', rs, rh, em, ke⟩ => ?_
  refine argsI rs rh em ke fun ι1 H1 vs h1 ds st1 rs1 rh1 rv1 e1 ke1 => ?_
  have ed : ∃ i j, ds = [.int i, .int j] := by
    cases ds with
    | nil => cases e1
    | cons d ds => cases ds with
      | nil => cases d <;> cases e1
      | cons d2 ds => cases ds with
        | nil => cases d <;> first | (cases d2 <;> first | exact ⟨_, _, rfl⟩ | cases e1) | cases e1
        | cons _ _ => cases d <;> first | (cases d2 <;> cases e1) | cases e1
  obtain ⟨i, j, ed⟩ := ed
  subst ed
  · obtain ⟨⟨s1, s2⟩, er, eh⟩ := ifok_eq e1
    subst er; subst eh
    obtain ⟨v, vr, ev, r1, r2⟩ := rv1.inv_cons
    obtain ⟨w, vr2, ew, r3, r4⟩ := r2.inv_cons
    have r5 := r4.inv_nil
    simp only [RV] at r1 r3
    subst r5; subst r3; subst r1; subst ew; subst ev
    exact ⟨i, j, rfl, ⟨(small_iff.mp s1).1, (small_iff.mp s1).2, (small_iff.mp s2).1, (small_iff.mp s2).2⟩, ke1 ι1 H1 _ (Stp.refl _ _) rh1 steady_rng⟩
theorem i_str (he : PE X e (tE (gx T X) W m)) : PI X tg e (tI (gx T X) W (mStrI m)) := by
  refine piI (pi_str he) fun σ H R ⟨ι, ρ, h, r, h', rs, rh, em, ke⟩ => ?_
  refine partI (ρ := fun _ => True) rs rh em ke fun ι1 H1 v h1 d st1 rs1 rh1 rv1 e1 ke1 => ?_
  cases d with
  | str x =>
    obtain ⟨er, eh⟩ := ok_eq e1
    subst er; subst eh
    simp only [RV] at rv1
    subst rv1
    refine ⟨x, rfl, ke1 ι1 H1 _ (Stp.refl _ _) rh1 fun ι2 H2 h st rh i => ?_⟩
    unfold nxStr
    cases q : x.cps[i]? with
    | none => exact ⟨fun d e => by simp [q] at e, fun _ => by show x.cps.size ≤ i; simpa using q⟩
    | some ch =>
      refine ⟨fun d e => ?_, fun e => by simp [q] at e⟩
      simp only [q, Option.some.injEq] at e
      subst e
      refine ⟨(Array.getElem?_eq_some_iff.mp q).1, fun x' H3 ⟨e1, c', ec, ex⟩ => ?_⟩
      rw [q] at ec
      cases ec
      subst e1; subst ex
      exact ⟨Stp.refl _ _, rh, st_str _ _⟩
  | _ => cases e1
end
end ML
/-! the text M6 -/
/-! M6: comprehensions of lists and dicts. -/
namespace ML
open PySem PySem.Spec PyProof.Rows L2

def mLcX (nx : Nx) (t : Tg) (vs : List Nat) (tt te : ME) : Nat → Nat → Env → VH → Option (List D × VH)
  | 0, _ => fun _ _ => none
  | k + 1, i => fun ρ h => match nx i h with
    | some (some d) => (match t.set d (wipeD ρ vs) with
      | some ρ1 => (match tt ρ1 h with
        | some (.ok (.bl true), h1) => (match te ρ1 h1 with
          | some (.ok y, h2) => (match mLcX nx t vs tt te k (i + 1) ρ h2 with
            | some (ys, h3) => some (y :: ys, h3)
            | none => none)
          | _ => none)
        | some (.ok (.bl false), h1) => mLcX nx t vs tt te k (i + 1) ρ h1
        | _ => none)
      | none => none)
    | some none => some ([], h)
    | none => none
def mLc (m : MI) (t : Tg) (vs : List Nat) (tt te : ME) : ME := fun ρ h => bnd (m ρ h) fun p h1 => match mLcX p.2 t vs tt te p.1 0 ρ h1 with
  | some (ys, h2) => if ys.length ≤ 10000000 then ok (.lst ys) h2 else none
  | none => none
def mYes : ME := mC (.bl true)
theorem pts_no {T : List (Addr × Str)} {X : Cx} {W : WW} : PTs X [] (tT (gx T X) W mYes) := by
  refine ⟨fun pins s σ H Q I q => pts_nil.run pins s σ H Q I ?_⟩
  obtain ⟨ι, ρ, h, r, h', rs, rh, e, ke⟩ := q
  obtain ⟨e1, e2⟩ := ok_eq e
  subst e1; subst e2
  exact ke ι H (Stp.refl _ _) rh
theorem pts_1 {T : List (Addr × Str)} {X : Cx} {W : WW} {e : Expr} {m : ME} (h : PT X e (tT (gx T X) W m)) : PTs X [e] (tT (gx T X) W m) := pts_one h
/-- no error leaves -/
def WF : WW := ⟨fun _ _ _ _ => False, Fx.no⟩
section
variable {T : List (Addr × Str)} {X : Cx} {W : WW}
theorem imp_lc {m : MI} {t : Tg} {vs : List Nat} {mt me : ME} (hx : ∀ i ∈ t.ix, i ∈ vs) : ∀ σ H Q, tE (gx T X) W (mLc m t vs mt me) σ H Q → tLc (tI (gx T X) W m) (t.tg X.K) (tT (gx T X) WF mt) (tE (gx T X) WF me) vs σ H Q := by
  rintro σ H Q ⟨ι, ρ, h, r, h', rs, rh, em, ke⟩
  unfold mLc at em
  cases q : m ρ h with
  | none => rw [q] at em; cases em
  | some p =>
    obtain ⟨z, h1⟩ := p
    rw [q] at em
    refine ⟨ι, ρ, h, z, h1, rs, rh, q, ?_⟩
    cases z with
    | error x => cases em; exact ke
    | ok nn =>
      obtain ⟨n, nx⟩ := nn
      simp only [bnd_ok] at em
      cases q2 : mLcX nx t vs mt me n 0 ρ h1 with
      | none => rw [q2] at em; cases em
      | some p2 =>
        obtain ⟨ys, h2⟩ := p2
        rw [q2] at em
        obtain ⟨hl, er, eh⟩ := ifok_eq em
        subst er; subst eh
        intro ι1 H1 J st1 rh1 steady D nD
        have rs1 := rs.step st1
        refine ⟨fun i k H => ∃ ι acc ds rest h, Stp ι1 H1 ι H ∧ ι.hid D ∧ H D = some (.lst acc) ∧ RVL (gx T X) ι H ds acc ∧ RH (gx T X) ι h H ∧ mLcX nx t vs mt me k i ρ h = some (rest, h') ∧ ds ++ rest = ys, ⟨n, hide ι1 D, [], [], ys, h1, rh1.hideStp nD, .inr rfl, upd_same, .nil, rh1.hide nD (fun x z => (by cases z)), q2, rfl⟩, ?_⟩
        rintro i k H2 ⟨ι2, acc, ds, rest, h2, st2, hd2, eD, rl2, rh2, em2, ey⟩
        have sd := steady ι2 H2 h2 st2 rh2 i
        cases k with
        | zero => unfold mLcX at em2; cases em2
        | succ k =>
          unfold mLcX at em2
          cases q3 : nx i h2 with
          | none => simp only [q3] at em2; cases em2
          | some od =>
            cases od with
            | none =>
              simp only [q3] at em2
              cases em2
              refine .inl ⟨sd.2 q3, ?_⟩
              have e2 : ds = ys := by simpa using ey
              subst e2
              have st3 : Stp ι1 H1 (bare ι2 D) H2 := ⟨st2.ext, fun p o e n f => let ⟨a, b⟩ := st2.keep p o e n f; ⟨a, b.1, fun z => b.2 z.1⟩, fun p o f e n => let ⟨a, b⟩ := st2.hid p o f e n; ⟨a, b, ne_of_none e nD⟩⟩
              refine ke (bare ι2 D) H2 (.ref D) (st1.trans st3) rh2.bared ?_
              simp only [RV]
              exact ⟨D, acc, rfl, RVL.bared _ _ rl2, eD, off_bare rh2 hd2⟩
            | some d =>
              simp only [q3] at em2
              obtain ⟨go, yl⟩ := sd.1 d q3
              cases q4 : t.set d (wipeD ρ vs) with
              | none => simp only [q4] at em2; cases em2
              | some ρ3 =>
                simp only [q4] at em2
                refine .inr ⟨go, fun H => ∃ ι acc ds rest h, Stp ι1 H1 ι H ∧ ι.hid D ∧ H D = some (.lst acc) ∧ RVL (gx T X) ι H ds acc ∧ RH (gx T X) ι h H ∧ mLcX nx t vs mt me k (i + 1) ρ h = some (rest, h') ∧ ds ++ rest = ys, fun H' w => ⟨k, Nat.lt_succ_self k, w⟩, fun x H3 yy => ?_⟩
                obtain ⟨st3, rh3, rv3⟩ := yl x H3 yy
                have rs3 : RS (gx T X) WF ι2 H3 (wipeD ρ vs) (L2.wipe σ vs) := ((rs1.step st2).step st3).wipe vs
                refine Tg.does (c := gx T X) (vs := vs) t d x _ _ _ _ rs3 rv3 q4 hx (fun _ _ => True.intro) fun σ4 rs4 hw4 => ⟨hw4.trans wipe_idem, ?_⟩
                cases q5 : mt ρ3 h2 with
                | none => simp only [q5] at em2; cases em2
                | some p5 =>
                  obtain ⟨r5, h5⟩ := p5
                  refine ⟨ι2, ρ3, h2, r5, h5, rs4, rh3, q5, ?_⟩
                  cases r5 with
                  | error x => simp only [q5] at em2; cases em2
                  | ok d5 =>
                    cases d5 with
                    | bl b =>
                      intro ι5 H5 st5 rh5
                      have st35 := st3.trans st5
                      obtain ⟨eD5, hd5⟩ := st35.hid D _ hd2 eD ⟨fun ps z => (by cases z), fun ps z => (by cases z)⟩
                      have rl5 := RVL.step st35 _ _ rl2
                      cases b with
                      | false =>
                        simp only [q5] at em2
                        rw [if_neg (by simp)]
                        exact ⟨ι5, acc, ds, rest, h5, st2.trans st35, hd5, eD5, rl5, rh5, em2, ey⟩
                      | true =>
                        rw [if_pos rfl]
                        cases q6 : me ρ3 h5 with
                        | none => simp only [q5, q6] at em2; cases em2
                        | some p6 =>
                          obtain ⟨r6, h6⟩ := p6
                          refine ⟨ι5, ρ3, h5, r6, h6, rs4.step st5, rh5, q6, ?_⟩
                          cases r6 with
                          | error x => simp only [q5, q6] at em2; cases em2
                          | ok y =>
                            simp only [q5, q6] at em2
                            intro ι6 H6 v st6 rh6 rv6
                            obtain ⟨eD6, hd6⟩ := st6.hid D _ hd5 eD5 ⟨fun ps z => (by cases z), fun ps z => (by cases z)⟩
                            have rl6 := RVL.step st6 _ _ rl5
                            cases q7 : mLcX nx t vs mt me k (i + 1) ρ h6 with
                            | none => simp only [q7] at em2; cases em2
                            | some p7 =>
                              obtain ⟨ys7, h7⟩ := p7
                              simp only [q7] at em2
                              cases em2
                              have hlen : acc.length < sizeLine := by
                                have l1 := rl2.len
                                have l2 : ys.length = ds.length + (ys7.length + 1) := by rw [← ey]; simp
                                rw [sizeLine_eq]
                                omega
                              have rhu := rh6.under (u := .lst (acc ++ [v])) hd6 eD6 (fun ps z => by cases z) (fun φ z => by cases z) (fun φ z => by cases z)
                              have st16 := st2.trans (st35.trans st6)
                              have stu : Stp ι1 H1 ι6 (upd H6 D (.lst (acc ++ [v]))) := ⟨st16.ext, fun p o e n f => let ⟨a, b⟩ := st16.keep p o e n f; ⟨(upd_ne (ne_of_none e nD)).trans a, b⟩, fun p o f e n => let ⟨a, b⟩ := st16.hid p o f e n; ⟨(upd_ne (ne_of_none e nD)).trans a, b⟩⟩
                              exact ⟨acc, eD6, hlen, ι6, acc ++ [v], ds ++ [y], ys7, h6, stu, hd6, upd_same, RVL.append (RVL.under hd6 _ _ rl6) (.cons (RV.under hd6 _ _ rv6) .nil), rhu, q7, by rw [← ey]; simp⟩
                    | _ => simp only [q5] at em2; cases em2
theorem m_lc {elt tg iter : Expr} {ifs : List Expr} {scope : Scope} {own : List (Str × Nat)} {pos : Pos} {m : MI} {t : Tg} {mt me : ME} (hc : X.calm = true) (hN : X.N.Nodup) (hi : PI X tg iter (tI (gx T X) W m)) (ok_ : BlkOk X.N X.env.scope scope own) (hx : ∀ i ∈ t.ix, i ∈ own.map (·.2))
    (hg : ∀ (s : Shared) (H : Hp) (C : Addr) (cl : List (Str × Addr)) (fp : List Addr), PG (X.blk s H scope (compEnvC scope cl C X.env) fp) tg (t.tg X.K))
    (ht : ∀ (s : Shared) (H : Hp) (C : Addr) (cl : List (Str × Addr)) (fp : List Addr), PTs (X.blk s H scope (compEnvC scope cl C X.env) fp) ifs (tT (gx T X) WF mt))
    (he : ∀ (s : Shared) (H : Hp) (C : Addr) (cl : List (Str × Addr)) (fp : List Addr), PE (X.blk s H scope (compEnvC scope cl C X.env) fp) elt (tE (gx T X) WF me)) (hs : ∀ x, foldedSetIterable iter X.env x = pure x := by intro _; rfl) :
    PE X (.ListComp elt [⟨tg, iter, ifs, 0⟩] scope pos) (tE (gx T X) W (mLc m t (own.map (·.2)) mt me)) :=
  peI (pe_lc hc hN hi ok_ hg ht he hs) (imp_lc hx)
theorem s_setLc {i : Nat} {y : Str} {py : Pos} {elt tg iter : Expr} {ifs : List Expr} {scope : Scope} {own : List (Str × Nat)} {pos spos : Pos} {m : MI} {t : Tg} {mt me : ME} (hc : X.calm = true) (hN : X.N.Nodup) (hy : X.N[i]? = some y) (hyl : X.env.scope.names.lookup y = some .local)
    (hsw : swapsWith (.ListComp elt [⟨tg, iter, ifs, 0⟩] scope pos) (some (.Name y py)) spos.line X.env = pure true) (hi : PI X tg iter (tI (gx T X) W m)) (ok_ : BlkOk X.N X.env.scope scope own) (hx : ∀ i ∈ t.ix, i ∈ own.map (·.2))
    (hg : ∀ (s : Shared) (H : Hp) (C : Addr) (cl : List (Str × Addr)) (fp : List Addr), PG (X.blk s H scope (compEnvC scope cl C X.env) fp) tg (t.tg X.K))
    (ht : ∀ (s : Shared) (H : Hp) (C : Addr) (cl : List (Str × Addr)) (fp : List Addr), PTs (X.blk s H scope (compEnvC scope cl C X.env) fp) ifs (tT (gx T X) WF mt))
    (he : ∀ (s : Shared) (H : Hp) (C : Addr) (cl : List (Str × Addr)) (fp : List Addr), PE (X.blk s H scope (compEnvC scope cl C X.env) fp) elt (tE (gx T X) WF me)) (hs : ∀ x, foldedSetIterable iter X.env x = pure x := by intro _; rfl) (fr : W.fx.free i := by first | exact True.intro | decide) :
    PS X (.Assign [.Name y py] (.ListComp elt [⟨tg, iter, ifs, 0⟩] scope pos) spos) (tS (gx T X) W (mSet i (mLc m t (own.map (·.2)) mt me))) := by
  refine psI (ps_setLc hc hN hy hyl hsw hi ok_ hg ht he hs) fun D' σ H ⟨ι, ρ, h, o, ρ', h', rs, rh, em, ks⟩ => ?_
  refine imp_lc hx σ H _ ?_
  unfold mSet mAsg at em
  cases q : mLc m t (own.map (·.2)) mt me ρ h with
  | none => simp only [q] at em; cases em
  | some p =>
    obtain ⟨r, h1⟩ := p
    refine partS rs rh q ks (fun x er => by subst er; simp only [q] at em; cases em; exact ⟨rfl, rfl, rfl⟩) fun ι1 H1 v d er st1 rs1 rh1 rv1 ks1 => ?_
    subst er
    simp only [q, gName] at em
    cases em
    exact ks1 ι1 H1 _ (Stp.refl _ _) (rs1.set i rv1 fr) rh1
end
end ML
/-! the text M7 -/
/-! M7: what a def promises, calls of defs, methods, making of instances, properties, fields. -/
namespace ML
open PySem PySem.Spec PyProof.Rows L2

abbrev MF := List D → VH → R D
def KF (c : Gx) (ι : Adr) (H : Hp) (Q : VK) (E : XK) (h' : VH) : Except Xc D → Prop
  | .ok d => ∀ ι' H' v, Stp ι H ι' H' → RH c ι' h' H' → RV c ι' H' d v → Q v H'
  | .error x => ∀ ι' H' cls dd, Stp ι H ι' H' → RH c ι' h' H' → RX c ι' H' x cls dd → E cls dd H'
def spM (c : Gx) (F : MF) : Sp := fun vs H Q E => ∃ ι h ds r h', RH c ι h H ∧ RVL c ι H ds vs ∧ F ds h = some (r, h') ∧ KF c ι H Q E h' r
/-- the promise of the def at f: it does F, given room k -/
def Prm (P : Program) (w : World) (c : Gx) (base : Heap) (k : Nat) (f : Addr) (F : MF) : Prop := FnR P w c.K c.mg base (L2N.CX P w) k f (spM c F)
theorem Prm.mono {P : Program} {w : World} {c : Gx} {base : Heap} {j k : Nat} {f : Addr} {F : MF} (p : Prm P w c base j f F) (h : j ≤ k) : Prm P w c base k f F := FnR.mono p h
theorem Prm.imp {P : Program} {w : World} {c : Gx} {base : Heap} {k : Nat} {f : Addr} {F G : MF} (p : Prm P w c base k f F) (h : ∀ ds h r, G ds h = some r → F ds h = some r) : Prm P w c base k f G :=
  FnR.imp p fun vs H Q E ⟨ι, hh, ds, r, h', a, b, e, k⟩ => ⟨ι, hh, ds, r, h', a, b, h _ _ _ e, k⟩
def startD (n : Nat) (ds : List D) : Env := ds.map some ++ List.replicate (n - ds.length) none
/-- a def of np parameters and n names, by its body -/
def mFn (np n : Nat) (m : MS) : MF := fun ds h => if ds.length = np then (match m (startD n ds) h with
  | some (.nx, _, h') => some (.ok .non, h')
  | some (.rt d, _, h') => some (.ok d, h')
  | some (.ex x, _, h') => some (.error x, h')
  | _ => none) else none
/-- a def's wish about errors -/
abbrev WD (E : XK) : WW := ⟨fun cls d _ H' => E cls d H', Fx.no⟩
theorem rs_start {c : Gx} {E : XK} {ι : Adr} {H : Hp} {N : List Str} {ds : List D} {vs : List V} (r : RVL c ι H ds vs) : RS c (WD E) ι H (startD N.length ds) (L2.start N vs) := by
  refine ⟨by simp [L2.start, startD, r.len], fun i d e => ?_, True.intro⟩
  unfold startD at e
  have hi : i < ds.length := by
    by_cases hi : i < ds.length
    · exact hi
    · rw [List.getElem?_append_right (by simpa using hi), List.getElem?_replicate] at e
      split at e <;> cases e
  rw [List.getElem?_append_left (by simpa using hi), List.getElem?_map] at e
  cases q : ds[i]? with
  | none => rw [q] at e; cases e
  | some d' =>
    rw [q] at e
    cases e
    obtain ⟨v, hv, rv⟩ := r.get q
    refine ⟨v, ?_, rv⟩
    unfold L2.start
    have hl := r.len
    rw [List.getElem?_append_left (by simp; omega), List.getElem?_map, hv]
    rfl
/-- the context of a def's body -/
abbrev defCx (P : Program) (w : World) (c : Gx) (base : Heap) (N : List Str) (qual : Str) (scope : Scope) (f : Addr) (cd : Value) (A : Around) (outer : List PySem.Env) (s : Shared) (H : Hp) (E : XK) : Cx := cxOf (L2N.CX P w) P w c.K c.mg base N qual scope f cd A outer s H E
/-- THE RULE -/
theorem prm_of {P : Program} {w : World} {c : Gx} {base : Heap} {k : Nat} {f : Addr} {name qual : Str} {params : Arguments} {body : List Stmt} {scope : Scope} {dV kV doc pm cdv ct oc : Value} {an od : Option Addr}
    {osl : Array (Option Value)} {N ps : List Str} {m : MS} (lk : c.K.lookup f = some ⟨oc, od, .func (PySem.W.fnOf name qual params body scope dV kV doc pm an cdv ct), osl⟩) (hcd : PySem.W.codeIn c.K cdv qual = true) (S : FnScope N ps scope)
    (hb : Binds c.K (PySem.W.fnOf name qual params body scope dV kV doc pm an cdv ct) ps [])
    (hbody : ∀ (A : Around) (outer : List PySem.Env) (s : Shared) (H : Hp) (E : XK), Room k (A.deeper (envOfC qual scope s.heap.objs.size f cdv)) →
      PSs (defCx P w c base N qual scope f cdv A outer s H E) body (tS c (WD E) m)) :
    Prm P w c base (k + 1) f (mFn ps.length N.length m) := by
  have F : FnOk P w c.K c.mg base (L2N.CX P w) (k + 1) f (PySem.W.fnOf name qual params body scope dV kV doc pm an cdv ct) ps (spM c (mFn ps.length N.length m)) := by
    refine fn_of lk hcd S (fun vs H Q E ⟨ι, h, ds, r, h', rh, rv, e, k⟩ => ?_) fun A outer s H vs Q E hr hs => ⟨_, hbody A outer s H E hr, ?_⟩
    · unfold mFn at e
      by_cases hl : ds.length = ps.length
      · rw [rv.len, hl]
      · rw [if_neg hl] at e; cases e
    · obtain ⟨ι, h, ds, r, h', rh, rv, e, kf⟩ := hs
      unfold mFn at e
      by_cases hl : ds.length = ps.length
      · rw [if_pos hl] at e
        cases q : m (startD N.length ds) h with
        | none => rw [q] at e; cases e
        | some p =>
          obtain ⟨o, ρ', h1⟩ := p
          rw [q] at e
          refine ⟨ι, _, h, o, ρ', h1, rs_start rv, rh, q, ?_⟩
          cases o with
          | nx => cases e; exact fun ι' H' σ' st rs' rh' => kf ι' H' .non st rh' (st_non _ _)
          | rt d => cases e; exact fun ι' H' v st rh' rv' => kf ι' H' v st rh' rv'
          | ex x => cases e; exact fun ι' H' σ' cls dd st rs' rh' rx => kf ι' H' cls dd st rh' rx
          | bk => cases e
          | ct => cases e
      · rw [if_neg hl] at e; cases e
  have R := F.raw hb (dvs := []) .nil
  exact FnR.imp R fun vs H Q E h => by rw [List.append_nil]; exact h

/-! ### calls -/
def mCall (F : MF) (a : MA) : ME := fun ρ h => bnd (a ρ h) F
section
variable {T : List (Addr × Str)} {X : Cx} {W : WW} {k : Nat} {f C : Addr} {F : MF} {x m : Str} {p pos apos : Pos} {e o : Expr} {es : List Expr} {mo : ME} {ma : MA}
theorem run_prm {pins : List (Addr × Obj)} {σ : L2.St} {H : Hp} {s : Shared} {Q : VK} {us : List Value} {vs : List V} (pr : Prm X.prog X.w (gx T X) X.base k f F) (hr : Room k X.A) (tk : L2N.Takes X W.w) (I : Inv X pins σ H s) (r : Vals vs us) (h : spM (gx T X) F vs H Q (WE W.w σ)) :
    codeAny (model X.prog X.w) X.A (.call (.ref f) ⟨us, []⟩) (fun r s' => match r with | .ok (.ret v) => EP X pins σ Q v s' | .ok _ => False | .error e => X.xe e s') s := by
  refine codeAny_mono (pr X.A X.stack s H us vs Q (WE W.w σ) hr I.env0 r h) fun r s' hq => ?_
  cases r with
  | error e => exact L2N.passAt tk σ pins H s e s' I hq
  | ok fl =>
    cases fl with
    | ret u => exact I.after hq
    | next => exact False.elim hq
    | brk => exact False.elim hq
    | cont => exact False.elim hq
theorem imp_call : ∀ σ H Q, tE (gx T X) W (mCall F ma) σ H Q → tA (gx T X) W ma σ H (fun vs H1 => spM (gx T X) F vs H1 Q (WE W.w σ)) := by
  rintro σ H Q ⟨ι, ρ, h, r, h', rs, rh, e, ke⟩
  refine argsE rs rh e ke fun ι1 H1 vs h1 ds st1 rs1 rh1 rv1 e1 ke1 => ⟨ι1, h1, ds, r, h', rh1, rv1, e1, ?_⟩
  cases r with
  | ok d => exact fun ι' H' v st rh' rv => ke1 ι' H' v st rh' rv
  | error x => exact fun ι' H' cls dd st rh' rx => ke1 ι' H' cls dd st rh' rx
/-- f(e, ..) -/
theorem m_call (pr : Prm X.prog X.w (gx T X) X.base k f F) (hr : Room k X.A) (tk : L2N.Takes X W.w) (hg : Gl X x) (hm : X.mg x = some (.ref f)) (hk : PySem.W.keepIn X.K (.ref f) = true)
    (ha : PA X (e :: es) (tA (gx T X) W ma)) (hdb : (x == ("__debug__" : Str)) = false := by decide) (he : starEach (e :: es) X.env = (false, eval e X.env) :: starEach es X.env := by rfl) (hpl : (backTo pos (starEach es X.env)).any (·.1) = false := by rfl) :
    PE X (.Call (.Name x p) (e :: es) [] pos) (tE (gx T X) W (mCall F ma)) := by
  refine ⟨fun pins s σ H Q I h => ?_⟩
  refine wpAny_Call_Name_kw (ld_glob I hg hm ?_ hdb)
  refine PySem.W.callWith_K (h₀ := X.base) I.ok.mod.kin hk (thn (ha.run pos pins s σ H _ I (imp_call σ H Q h)) fun us s1 ⟨vs, H1, I1, r, q⟩ => ⟨I1.kIn, ?_⟩) he hpl
  exact wpAny_call (run_prm pr hr tk I1 r q)
theorem m_call0 (pr : Prm X.prog X.w (gx T X) X.base k f F) (hr : Room k X.A) (tk : L2N.Takes X W.w) (hg : Gl X x) (hm : X.mg x = some (.ref f)) (hk : PySem.W.keepIn X.K (.ref f) = true)
    (hdb : (x == ("__debug__" : Str)) = false := by decide) : PE X (.Call (.Name x p) [] [] pos) (tE (gx T X) W (mCall F maNil)) := by
  refine ⟨fun pins s σ H Q I h => ?_⟩
  refine wpAny_Call_Name_kw (ld_glob I hg hm ?_ hdb)
  obtain ⟨ι, ρ, hh, r, h', rs, rh, e, ke⟩ := h
  refine PySem.W.callWith_K0 I.kIn hk (wpAny_call (run_prm (us := []) (vs := []) pr hr tk I .nil ⟨ι, hh, [], r, h', rh, .nil, e, ?_⟩))
  cases r with
  | ok d => exact fun ι' H' v st rh' rv => ke ι' H' v st rh' rv
  | error x => exact fun ι' H' cls dd st rh' rx => ke ι' H' cls dd st rh' rx
end
end ML
/-! the text M8 -/
/-! M8: instances: attributes, properties, methods, stores, making. -/
namespace ML
open PySem PySem.Spec PyProof.Rows L2

def insOf (h : VH) : D → Option (Str × List Str × List D)
  | .ins C ks xs => some (C, ks, xs)
  | .obj a => (match h[a]? with
    | some (.ins C ks xs) => some (C, ks, xs)
    | _ => none)
  | _ => none
def sltOf (h : VH) : D → Option (Str × List D)
  | .slt C xs => some (C, xs)
  | .obj a => (match h[a]? with
    | some (.slt C xs) => some (C, xs)
    | _ => none)
  | _ => none
section
variable {c : Gx} {ι : Adr} {H : Hp} {h : VH}
theorem ins_at {d : D} {v : V} {C : Str} {ks : List Str} {xs : List D} (rh : RH c ι h H) (rv : RV c ι H d v) (e : insOf h d = some (C, ks, xs)) :
    ∃ p Ca dx vs, v = .ref p ∧ c.mg C = some (.ref Ca) ∧ H p = some (.ins Ca dx (ks.zip vs)) ∧ vs.length = ks.length ∧ RVL c ι H xs vs := by
  cases d with
  | ins C' ks' xs' =>
    simp only [insOf, Option.some.injEq, Prod.mk.injEq] at e
    obtain ⟨e1, e2, e3⟩ := e
    subst e1; subst e2; subst e3
    simp only [RV] at rv
    obtain ⟨p, Ca, dx, vs, ev, rl, l, m, hp, _⟩ := rv
    exact ⟨p, Ca, dx, vs, ev, m, hp, l, rl⟩
  | obj a =>
    simp only [insOf] at e
    cases q : h[a]? with
    | none => rw [q] at e; cases e
    | some o =>
      rw [q] at e
      cases o with
      | ins C' ks' xs' =>
        simp only [Option.some.injEq, Prod.mk.injEq] at e
        obtain ⟨e1, e2, e3⟩ := e
        subst e1; subst e2; subst e3
        simp only [RV] at rv
        obtain ⟨p, ev, ip⟩ := rv
        obtain ⟨p', ip', ro⟩ := rh.obj a _ q
        rw [ip] at ip'
        cases ip'
        simp only [RO] at ro
        obtain ⟨Ca, dx, vs, hp, l, m, rl⟩ := ro
        exact ⟨p, Ca, dx, vs, ev, m, hp, l, rl⟩
      | _ => cases e
  | _ => cases e
theorem slt_at {d : D} {v : V} {C : Str} {xs : List D} (rh : RH c ι h H) (rv : RV c ι H d v) (e : sltOf h d = some (C, xs)) :
    ∃ p Ca dx vs, v = .ref p ∧ c.mg C = some (.ref Ca) ∧ SlX.Slt H p Ca dx (vs.map some) ∧ RVL c ι H xs vs := by
  cases d with
  | slt C' xs' =>
    simp only [sltOf, Option.some.injEq, Prod.mk.injEq] at e
    obtain ⟨e1, e2⟩ := e
    subst e1; subst e2
    simp only [RV] at rv
    obtain ⟨p, Ca, dx, vs, ev, rl, m, h1, h2, _⟩ := rv
    exact ⟨p, Ca, dx, vs, ev, m, .inr ⟨h1, h2⟩, rl⟩
  | obj a =>
    simp only [sltOf] at e
    cases q : h[a]? with
    | none => rw [q] at e; cases e
    | some o =>
      rw [q] at e
      cases o with
      | slt C' xs' =>
        simp only [Option.some.injEq, Prod.mk.injEq] at e
        obtain ⟨e1, e2⟩ := e
        subst e1; subst e2
        simp only [RV] at rv
        obtain ⟨p, ev, ip⟩ := rv
        obtain ⟨p', ip', ro⟩ := rh.obj a _ q
        rw [ip] at ip'
        cases ip'
        simp only [RO] at ro
        obtain ⟨Ca, dx, vs, m, h1, h2, rl, _⟩ := ro
        exact ⟨p, Ca, dx, vs, ev, m, .inr ⟨h1, h2⟩, rl⟩
      | _ => cases e
  | _ => cases e
theorem zip_look {f : Str} {d : D} : ∀ {ks : List Str} {xs : List D} {vs : List V}, RVL c ι H xs vs → (ks.zip xs).lookup f = some d → ∃ v, (ks.zip vs).lookup f = some v ∧ RV c ι H d v
  | [], xs, vs, _, e => by simp at e
  | k :: ks, [], vs, _, e => by simp at e
  | k :: ks, x :: xs, vs, r, e => by
    obtain ⟨v, vr, ev, r1, r2⟩ := r.inv_cons
    subst ev
    simp only [List.zip_cons_cons, List.lookup_cons] at e ⊢
    cases q : f == k with
    | true => rw [q] at e; cases e; exact ⟨v, rfl, r1⟩
    | false => rw [q] at e; exact zip_look r2 e
theorem zip_look_none {f : Str} : ∀ {ks : List Str} {xs : List D} {vs : List V}, RVL c ι H xs vs → (ks.zip xs).lookup f = none → (ks.zip vs).lookup f = none
  | [], xs, vs, _, e => by simp
  | k :: ks, [], vs, r, e => by rw [r.inv_nil]; simp
  | k :: ks, x :: xs, vs, r, e => by
    obtain ⟨v, vr, ev, r1, r2⟩ := r.inv_cons
    subst ev
    simp only [List.zip_cons_cons, List.lookup_cons] at e ⊢
    cases q : f == k with
    | true => rw [q] at e; cases e
    | false => rw [q] at e; exact zip_look_none r2 e
end

/-! ### e.f -/
abbrev Sel := D → VH → R D
def SemAt (T : List (Addr × Str)) (X : Cx) (f : Str) (sel : Sel) : Prop := ∀ (pins : List (Addr × Obj)) (σ : L2.St) (H : Hp) (s : Shared) (ι : Adr) (h : VH) (x : D) (v : V) (u : Value) (z : D) (h' : VH) (Q : VK) (b : Bool) (E' : Value → Shared → Prop),
  Inv X pins σ H s → RH (gx T X) ι h H → RV (gx T X) ι H x v → RelV v u → sel x h = some (.ok z, h') → Fin (gx T X) ι H h' z Q → wpAny (model X.prog X.w) X.A (getAttr u f b) (EP X pins σ Q) E' s
def selFld (C f : Str) : Sel := fun d h => match insOf h d with
  | some (C', ks, xs) => if C' = C then got ((ks.zip xs).lookup f) h else none
  | none => none
def selProp (C : Str) (F : MF) : Sel := fun d h => match insOf h d with
  | some (C', _, _) => if C' = C then F [d] h else none
  | none => none
def selSlot (C : Str) (i : Nat) : Sel := fun d h => match sltOf h d with
  | some (C', xs) => if C' = C then got xs[i]? h else none
  | none => none
def selSProp (C : Str) (F : MF) : Sel := fun d h => match sltOf h d with
  | some (C', _) => if C' = C then F [d] h else none
  | none => none
def selOr (a b : Sel) : Sel := fun d h => match a d h with
  | some r => some r
  | none => b d h
def mAttr (sel : Sel) (m : ME) : ME := fun ρ h => bnd (m ρ h) fun d h1 => match sel d h1 with
  | some (.ok z, h2) => ok z h2
  | _ => none
section
variable {T : List (Addr × Str)} {X : Cx} {W : WW} {k : Nat} {f C : Str} {F : MF} {e : Expr} {pos : Pos} {mo : ME}
theorem at_or {a b : Sel} (ha : SemAt T X f a) (hb : SemAt T X f b) : SemAt T X f (selOr a b) := by
  intro pins σ H s ι h x v u z h' Q bb E' I rh rv ru e fin
  unfold selOr at e
  cases q : a x h with
  | none => rw [q] at e; exact hb pins σ H s ι h x v u z h' Q bb E' I rh rv ru e fin
  | some r => rw [q] at e; cases e; exact ha pins σ H s ι h x v u z h' Q bb E' I rh rv ru q fin
theorem at_fld (hC : ∃ Ca, X.mg C = some (.ref Ca) ∧ Cls X.K Ca ∧ NoAttr X.K Ca f) : SemAt T X f (selFld C f) := by
  intro pins σ H s ι h x v u z h' Q bb E' I rh rv ru e fin
  unfold selFld at e
  cases q : insOf h x with
  | none => rw [q] at e; cases e
  | some r =>
    obtain ⟨C', ks, xs⟩ := r
    rw [q] at e
    simp only [] at e
    by_cases hc : C' = C
    · subst hc
      rw [if_pos rfl] at e
      obtain ⟨w, ew, er, eh⟩ := got_eq e
      cases er
      subst eh
      obtain ⟨Ca, m, cl, na⟩ := hC
      obtain ⟨p, Ca', dx, vs, ev, m', hp, l, rl⟩ := ins_at rh rv q
      have m'' : X.mg C' = some (.ref Ca') := m'
      rw [m] at m''
      cases m''
      obtain ⟨y, ly, ry⟩ := zip_look rl ew
      subst ev
      obtain rfl : u = Value.ref p := ru
      exact getattr_ok I hp cl na ly fun u' s2 I2 ru => ⟨y, H, I2, ru, fin ι H y (Stp.refl _ _) rh ry⟩
    · rw [if_neg hc] at e; cases e
theorem at_slot {i : Nat} (hC : ∃ Ca p, X.mg C = some (.ref Ca) ∧ SlX.SCls X.K Ca ∧ SlX.Slot1 X.K Ca f p i) : SemAt T X f (selSlot C i) := by
  intro pins σ H s ι h x v u z h' Q bb E' I rh rv ru e fin
  unfold selSlot at e
  cases q : sltOf h x with
  | none => rw [q] at e; cases e
  | some r =>
    obtain ⟨C', xs⟩ := r
    rw [q] at e
    simp only [] at e
    by_cases hc : C' = C
    · subst hc
      rw [if_pos rfl] at e
      obtain ⟨w, ew, er, eh⟩ := got_eq e
      cases er
      subst eh
      obtain ⟨Ca, sp, m, cl, sl⟩ := hC
      obtain ⟨p, Ca', dx, vs, ev, m', hp, rl⟩ := slt_at rh rv q
      have m'' : X.mg C' = some (.ref Ca') := m'
      rw [m] at m''
      cases m''
      obtain ⟨y, ly, ry⟩ := rl.get ew
      subst ev
      obtain rfl : u = Value.ref p := ru
      exact SlX.getslot_ok (i := i) (v := y) I hp cl sl (by rw [List.getElem?_map, ly]; rfl) fun u' s2 I2 ru => ⟨y, H, I2, ru, fin ι H y (Stp.refl _ _) rh ry⟩
    · rw [if_neg hc] at e; cases e
theorem m_attr {sel : Sel} (hs : SemAt T X f sel) (he : PE X e (tE (gx T X) W mo)) (hab : attributeBase e f X.env (eval e X.env) = eval e X.env := by rfl) : PE X (.Attribute e f pos) (tE (gx T X) W (mAttr sel mo)) := by
  refine ⟨fun pins s σ H Q I ⟨ι, ρ, h, r, h', rs, rh, em, ke⟩ => ?_⟩
  have hq : tE (gx T X) W mo σ H (fun v H1 => ∀ u s1, Inv X pins σ H1 s1 → RelV v u → wpAny (model X.prog X.w) X.A (getAttr u f true) (EP X pins σ Q) X.xe s1) := by
    refine partE rs rh em ke fun ι1 H1 v h1 d st1 rs1 rh1 rv1 e1 ke1 => ?_
    intro u s1 I1 ru
    cases q : sel d h1 with
    | none => simp only [q] at e1; cases e1
    | some p =>
      obtain ⟨r1, h2⟩ := p
      cases r1 with
      | error x => simp only [q] at e1; cases e1
      | ok z =>
        simp only [q] at e1
        obtain ⟨er, eh⟩ := ok_eq e1
        subst er; subst eh
        exact hs pins σ H1 s1 ι1 h1 d v u z _ Q true X.xe I1 rh1 rv1 ru q ke1
  exact attr_of hab (thn (he.run pins s σ H _ I hq) fun u s1 ⟨x, H1, I1, rx, q⟩ => q u s1 I1 rx)
end

/-! ### properties -/
section
variable {T : List (Addr × Str)} {X : Cx} {W : WW} {k : Nat} {f C m : Str} {F : MF} {e : Expr} {pos : Pos} {mo : ME}
theorem prop_run {pins : List (Addr × Obj)} {σ : L2.St} {H : Hp} {s : Shared} {ι : Adr} {h h' : VH} {x z : D} {p g pp Ca : Addr} {oA : Obj} {od : Obj} {Q : VK} {b : Bool} {E' : Value → Shared → Prop} (I : Inv X pins σ H s) (rh : RH (gx T X) ι h H) (rv : RV (gx T X) ι H x (.ref p))
    (J : PySem.W.InstAt s.heap p oA Ca (some od)) (hpg : PySem.W.plainGet X.K Ca Str.empty = true) (hc : (PySem.W.clsIn X.K Ca).isSome = true) (hp : PropOf X.K Ca f pp g) (pr : Prm X.prog X.w (gx T X) X.base k g F) (hr : Room (k + 1) X.A) (e : F [x] h = some (.ok z, h')) (fin : Fin (gx T X) ι H h' z Q) :
    wpAny (model X.prog X.w) X.A (getAttr (.ref p) f b) (EP X pins σ Q) E' s := by
  obtain ⟨rest, hrec⟩ := hp.rec_
  have I1 := I.tok (s.toks + 1)
  refine PySem.W.get_bind I.kIn J (PySem.W.plainGet_of (name := f) hpg).1 (PySem.W.findObj_data hc hp.at_ hp.get hp.tak) (PySem.W.plainGet_of (name := f) hpg).2 (wpAny_call (PySem.W.prop_get (s := { s with toks := s.toks + 1 }) I.kIn hrec ?_))
  refine codeAny_mono (pr X.A.in1 X.stack { s with toks := s.toks + 1 } H [.ref p] [.ref p] Q (fun _ _ _ => False) hr.in1 I1.env0.in1 (.cons rfl .nil) ⟨ι, h, [x], .ok z, h', rh, .cons rv .nil, e, fin⟩) fun r s' hq => ?_
  cases r with
  | error er =>
    obtain ⟨_, _, _, _, _, _, _, _, _, _, _, _, z⟩ := hq
    exact z.elim
  | ok fl =>
    cases fl with
    | ret u =>
      obtain ⟨v, H', I3, rv, q3⟩ := I1.after hq
      show wpAny _ _ (handedOut u) _ _ _
      rw [PySem.W.handedOut_of (handed_of rv)]
      exact wpAny_pure ⟨v, H', I3, rv, q3⟩
    | next => exact False.elim hq
    | brk => exact False.elim hq
    | cont => exact False.elim hq
theorem at_prop (hC : ∃ Ca pp g, X.mg C = some (.ref Ca) ∧ Cls X.K Ca ∧ PropOf X.K Ca f pp g ∧ Prm X.prog X.w (gx T X) X.base k g F) (hr : Room (k + 1) X.A) : SemAt T X f (selProp C F) := by
  intro pins σ H s ι h x v u z h' Q bb E' I rh rv ru e fin
  unfold selProp at e
  cases q : insOf h x with
  | none => rw [q] at e; cases e
  | some r =>
    obtain ⟨C', ks, xs⟩ := r
    rw [q] at e
    simp only [] at e
    by_cases hc : C' = C
    · subst hc
      rw [if_pos rfl] at e
      obtain ⟨Ca, pp, g, m, cl, hp, pr⟩ := hC
      obtain ⟨p, Ca', dx, vs, ev, m', hpp, l, rl⟩ := ins_at rh rv q
      have m'' : X.mg C' = some (.ref Ca') := m'
      rw [m] at m''
      cases m''
      subst ev
      obtain rfl : u = Value.ref p := ru
      obtain ⟨mA, O, _, _, _, _⟩ := ins_get I.hok hpp
      obtain ⟨od, J, _⟩ := O.look
      have hc : (PySem.W.clsIn X.K Ca).isSome = true := by
        obtain ⟨cd, hc, _⟩ := PySem.W.any_some cl.hd
        rw [hc]
        rfl
      exact prop_run I rh rv J cl.pg hc hp pr hr e fin
    · rw [if_neg hc] at e; cases e
theorem at_sprop (hC : ∃ Ca pp g, X.mg C = some (.ref Ca) ∧ SlX.SCls X.K Ca ∧ (PySem.W.clsIn X.K Ca).isSome = true ∧ PropOf X.K Ca f pp g ∧ Prm X.prog X.w (gx T X) X.base k g F) (hr : Room (k + 1) X.A) : SemAt T X f (selSProp C F) := by
  intro pins σ H s ι h x v u z h' Q bb E' I rh rv ru e fin
  unfold selSProp at e
  cases q : sltOf h x with
  | none => rw [q] at e; cases e
  | some r =>
    obtain ⟨C', xs⟩ := r
    rw [q] at e
    simp only [] at e
    by_cases hc : C' = C
    · subst hc
      rw [if_pos rfl] at e
      obtain ⟨Ca, pp, g, m, cl, hc, hp, pr⟩ := hC
      obtain ⟨p, Ca', dx, vs, ev, m', hpp, rl⟩ := slt_at rh rv q
      have m'' : X.mg C' = some (.ref Ca') := m'
      rw [m] at m''
      cases m''
      subst ev
      obtain rfl : u = Value.ref p := ru
      obtain ⟨sl, od, _, J, _⟩ := SlX.slt_inst I hpp
      exact prop_run I rh rv J cl.pg hc hp pr hr e fin
    · rw [if_neg hc] at e; cases e

/-! ### o.m(..) -/
/-- by class: true: with slots -/
abbrev MSel := List (Bool × Str × MF)
def clsOf (h : VH) (m : Str) (d : D) : Option (Bool × Str) := match insOf h d with
  | some (C, ks, xs) => if (ks.zip xs).lookup m = none then some (false, C) else none
  | none => (match sltOf h d with
    | some (C, _) => some (true, C)
    | none => none)
def pick (b : Bool) (C : Str) : MSel → Option MF
  | [] => none
  | (b', C', F) :: r => if b' = b ∧ C' = C then some F else pick b C r
def SClsK (b : Bool) (K : PySem.W.Frag) (Ca : Addr) : Prop := match b with
  | true => SlX.SCls K Ca
  | false => Cls K Ca
structure MOk (T : List (Addr × Str)) (X : Cx) (m : Str) (b : Bool) (C : Str) (F : MF) : Prop where
  ex : ∃ Ca g k, X.mg C = some (.ref Ca) ∧ SClsK b X.K Ca ∧ Meth X.K Ca m g ∧ Prm X.prog X.w (gx T X) X.base k g F ∧ Room k X.A
inductive MOks (T : List (Addr × Str)) (X : Cx) (m : Str) : MSel → Prop
  | nil : MOks T X m []
  | cons {b C F r} (h : MOk T X m b C F) (t : MOks T X m r) : MOks T X m ((b, C, F) :: r)
theorem MOks.pick {b : Bool} {C : Str} {F : MF} : ∀ {l : MSel}, MOks T X m l → pick b C l = some F → MOk T X m b C F
  | _, .nil, e => by cases e
  | _, .cons (b := b') (C := C') (F := F') h t, e => by
    unfold ML.pick at e
    by_cases q : b' = b ∧ C' = C
    · rw [if_pos q] at e
      cases e
      obtain ⟨q1, q2⟩ := q
      subst q1; subst q2
      exact h
    · rw [if_neg q] at e
      exact t.pick e
theorem getmeth_at {pins : List (Addr × Obj)} {σ : L2.St} {H : Hp} {s : Shared} {ι : Adr} {h : VH} {x : D} {v : V} {u : Value} {b : Bool} {pl : Sem Bool} {A : Around} {E : Value → Shared → Prop} {Q : Value × List Value → Shared → Prop} {g : Addr}
    (I : Inv X pins σ H s) (rh : RH (gx T X) ι h H) (rv : RV (gx T X) ι H x v) (ru : RelV v u) (e : clsOf h m x = some (b, C)) {Ca : Addr} (mC : X.mg C = some (.ref Ca)) (cl : SClsK b X.K Ca) (me : Meth X.K Ca m g) (q : Q (.ref g, [u]) s) : wpAny (model X.prog X.w) A (getMethod u m pl) Q E s := by
  unfold clsOf at e
  cases q1 : insOf h x with
  | some r =>
    obtain ⟨C', ks, xs⟩ := r
    rw [q1] at e
    simp only [] at e
    by_cases hl : (ks.zip xs).lookup m = none
    · rw [if_pos hl] at e
      simp only [Option.some.injEq, Prod.mk.injEq] at e
      obtain ⟨e1, e2⟩ := e
      subst e1; subst e2
      obtain ⟨p, Ca', dx, vs, ev, m', hp, l, rl⟩ := ins_at rh rv q1
      have m'' : X.mg C' = some (.ref Ca') := m'
      rw [mC] at m''
      cases m''
      subst ev
      obtain rfl : u = Value.ref p := ru
      exact getmeth_ok I hp cl me (zip_look_none rl hl) q
    · rw [if_neg hl] at e; cases e
  | none =>
    rw [q1] at e
    simp only [] at e
    cases q2 : sltOf h x with
    | none => rw [q2] at e; cases e
    | some r =>
      obtain ⟨C', xs⟩ := r
      rw [q2] at e
      simp only [Option.some.injEq, Prod.mk.injEq] at e
      obtain ⟨e1, e2⟩ := e
      subst e1; subst e2
      obtain ⟨p, Ca', dx, vs, ev, m', hp, rl⟩ := slt_at rh rv q2
      have m'' : X.mg C' = some (.ref Ca') := m'
      rw [mC] at m''
      cases m''
      subst ev
      obtain rfl : u = Value.ref p := ru
      exact SlX.getmethsl_ok I hp cl me q
def mMeth (m : Str) (l : MSel) (o : ME) (a : MA) : ME := fun ρ h => bnd (o ρ h) fun d h1 => match clsOf h1 m d with
  | some (b, C) => (match pick b C l with
    | some F => bnd (a ρ h1) fun ds h2 => F (d :: ds) h2
    | none => none)
  | none => none
variable {o : Expr} {es : List Expr} {apos : Pos} {ma : MA}
/-- the callee, then the arguments, then the call -/
def QMeth (T : List (Addr × Str)) (X : Cx) (W : WW) (m : Str) (ma : MA) (σ : L2.St) (Q : VK) (v : V) (H1 : Hp) : Prop := ∀ pins s1 u, Inv X pins σ H1 s1 → RelV v u → ∃ g F k, Prm X.prog X.w (gx T X) X.base k g F ∧ Room k X.A ∧ PySem.W.keepIn X.K (.ref g) = true ∧
  (∀ {pl : Sem Bool} {A : Around} {E : Value → Shared → Prop} {Q' : Value × List Value → Shared → Prop}, Q' (.ref g, [u]) s1 → wpAny (model X.prog X.w) A (getMethod u m pl) Q' E s1) ∧ tA (gx T X) W ma σ H1 (fun vs H2 => spM (gx T X) F (v :: vs) H2 Q (WE W.w σ))
theorem imp_meth {l : MSel} (ml : MOks T X m l) : ∀ σ H Q, tE (gx T X) W (mMeth m l mo ma) σ H Q → tE (gx T X) W mo σ H (QMeth T X W m ma σ Q) := by
  rintro σ H Q ⟨ι, ρ, h, r, h', rs, rh, em, ke⟩
  refine partE rs rh em ke fun ι1 H1 v h1 d st1 rs1 rh1 rv1 e1 ke1 => ?_
  intro pins s1 u I1 ru
  cases q : clsOf h1 m d with
  | none => simp only [q] at e1; cases e1
  | some bC =>
    obtain ⟨b, C⟩ := bC
    simp only [q] at e1
    cases q2 : pick b C l with
    | none => simp only [q2] at e1; cases e1
    | some F =>
      simp only [q2] at e1
      obtain ⟨Ca, g, k, mC, cl, me, pr, hr⟩ := (ml.pick q2).ex
      refine ⟨g, F, k, pr, hr, me.kp, fun q3 => getmeth_at I1 rh1 rv1 ru q mC cl me q3, ?_⟩
      refine argsE rs1 rh1 e1 ke1 fun ι2 H2 vs h2 ds st2 rs2 rh2 rv2 e2 ke2 => ⟨ι2, h2, d :: ds, r, h', rh2, .cons (RV.step st2 _ _ rv1) rv2, e2, ?_⟩
      cases r with
      | ok d => exact fun ι' H' v st rh' rv => ke2 ι' H' v st rh' rv
      | error x => exact fun ι' H' cls dd st rh' rx => ke2 ι' H' cls dd st rh' rx
theorem m_meth {l : MSel} {pl : Sem Bool} (ml : MOks T X m l) (tk : L2N.Takes X W.w) (he : PE X o (tE (gx T X) W mo)) (ha : PA X (e :: es) (tA (gx T X) W ma))
    (hst : starEach (e :: es) X.env = (false, eval e X.env) :: starEach es X.env := by rfl) (hpl : (backTo pos (starEach es X.env)).any (·.1) = false := by rfl)
    (ht : eval (.Call (.Attribute o m apos) (e :: es) [] pos) X.env = (do
      let ov ← eval o X.env
      standAt apos.atName
      let (f, first) ← holding [ov] (getMethod ov m pl)
      callWith pos f first (backTo pos (starEach (e :: es) X.env)) (backToKw pos (keywordEach [] X.env))) := by rfl) :
    PE X (.Call (.Attribute o m apos) (e :: es) [] pos) (tE (gx T X) W (mMeth m l mo ma)) := by
  refine ⟨fun pins s σ H Q I h => ?_⟩
  refine PySem.W.methodCall_KW (pl := pl) (thn (he.run pins s σ H _ I (imp_meth ml σ H Q h)) fun u s1 ⟨v, H1, I1, rv, q⟩ => ?_) ht
  obtain ⟨g, F, k, pr, hr, kp, gm, qa⟩ := q pins s1 u I1 rv
  refine gm ?_
  refine PySem.W.callWith_K (first := [u]) (h₀ := X.base) I.ok.mod.kin kp (thn (ha.run pos pins s1 σ H1 _ I1 qa) fun us s2 ⟨vs, H2, I2, r, q2⟩ => ⟨I2.kIn, ?_⟩) hst hpl
  exact wpAny_call (run_prm (us := u :: us) (vs := v :: vs) pr hr tk I2 (.cons rv r) q2)
theorem m_meth0 {l : MSel} {pl : Sem Bool} (ml : MOks T X m l) (tk : L2N.Takes X W.w) (he : PE X o (tE (gx T X) W mo))
    (ht : eval (.Call (.Attribute o m apos) [] [] pos) X.env = (do
      let ov ← eval o X.env
      standAt apos.atName
      let (f, first) ← holding [ov] (getMethod ov m pl)
      callWith pos f first (backTo pos (starEach [] X.env)) (backToKw pos (keywordEach [] X.env))) := by rfl) :
    PE X (.Call (.Attribute o m apos) [] [] pos) (tE (gx T X) W (mMeth m l mo maNil)) := by
  refine ⟨fun pins s σ H Q I h => ?_⟩
  refine PySem.W.methodCall_KW (pl := pl) (thn (he.run pins s σ H _ I (imp_meth ml σ H Q h)) fun u s1 ⟨v, H1, I1, rv, q⟩ => ?_) ht
  obtain ⟨g, F, k, pr, hr, kp, gm, qa⟩ := q pins s1 u I1 rv
  refine gm ?_
  obtain ⟨ι, ρ, hh, r, h', rs, rh, e, ke⟩ := qa
  obtain ⟨er, eh⟩ := ok_eq e
  subst er; subst eh
  refine PySem.W.callWith_K0 (first := [u]) I1.kIn kp (wpAny_call (run_prm (us := [u]) (vs := [v]) pr hr tk I1 (.cons rv .nil) ?_))
  exact ke ι H1 [] (Stp.refl _ _) rh .nil
end
end ML
/-! the text M9 -/
/-! M9: attributes stored, instances made. -/
namespace ML
open PySem PySem.Spec PyProof.Rows L2

/-! ### o.f = v -/
def putD (f : Str) (d : D) : List Str → List D → List Str × List D
  | k :: ks, x :: xs => if k = f then (k :: ks, d :: xs) else (k :: (putD f d ks xs).1, x :: (putD f d ks xs).2)
  | _, _ => ([f], [d])
theorem putD_ok {c : Gx} {ι : Adr} {H : Hp} {f : Str} {d : D} {y : V} (ry : RV c ι H d y) : ∀ {ks : List Str} {xs : List D} {vs : List V}, RVL c ι H xs vs → vs.length = ks.length →
    ∃ vs', (putD f d ks xs).1.zip vs' = putF f y (ks.zip vs) ∧ vs'.length = (putD f d ks xs).1.length ∧ RVL c ι H (putD f d ks xs).2 vs'
  | [], xs, vs, r, l => by
    have : vs = [] := List.eq_nil_of_length_eq_zero l
    subst this
    cases xs with
    | nil => exact ⟨[y], rfl, rfl, .cons ry .nil⟩
    | cons _ _ => obtain ⟨_, _, z, _⟩ := r.inv_cons; cases z
  | k :: ks, [], vs, r, l => by rw [r.inv_nil] at l; cases l
  | k :: ks, x :: xs, vs, r, l => by
    obtain ⟨v, vr, ev, r1, r2⟩ := r.inv_cons
    subst ev
    unfold putD
    by_cases q : k = f
    · rw [if_pos q]
      exact ⟨y :: vr, by show (k, y) :: ks.zip vr = _; simp [putF, q], by simpa using l, .cons ry r2⟩
    · rw [if_neg q]
      obtain ⟨vs', a, b, e⟩ := putD_ok ry (f := f) r2 (by simpa using l)
      exact ⟨v :: vs', by show (k, v) :: (putD f d ks xs).1.zip vs' = _; rw [a]; simp [putF, q], by simpa using b, .cons r1 e⟩
abbrev SSel := D → D → VH → Option VH
def SemSet (T : List (Addr × Str)) (X : Cx) (f : Str) (sel : SSel) : Prop := ∀ (pins : List (Addr × Obj)) (σ : L2.St) (H : Hp) (s : Shared) (ι : Adr) (h : VH) (x y : D) (v w : V) (u uy : Value) (h' : VH) (Q : Unit → Shared → Prop) (E' : Value → Shared → Prop),
  Inv X pins σ H s → RH (gx T X) ι h H → RV (gx T X) ι H x v → RV (gx T X) ι H y w → RelV v u → RelV w uy → sel x y h = some h' → (∀ H' s', Stp ι H ι H' → RH (gx T X) ι h' H' → Inv X pins σ H' s' → Q () s') → wpAny (model X.prog X.w) X.A (setAttr u f uy) Q E' s
def setFld (cs : List Str) (f : Str) : SSel := fun o v h => match o with
  | .obj a => (match h[a]? with
    | some (.ins C ks xs) => if cs.contains C = true ∧ ks.length < 1000 then some (h.set a (.ins C (putD f v ks xs).1 (putD f v ks xs).2)) else none
    | _ => none)
  | _ => none
/-- the one slot of a class with slots, at the making -/
def setSlot (C : Str) : SSel := fun o v h => match o with
  | .obj a => (match h[a]? with
    | some (.ins C' [] []) => if C' = C then some (h.set a (.slt C [v])) else none
    | _ => none)
  | _ => none
def setOr (a b : SSel) : SSel := fun o v h => match a o v h with
  | some r => some r
  | none => b o v h
section
variable {T : List (Addr × Str)} {X : Cx} {W : WW} {f C : Str} {e o value : Expr} {pos pos' : Pos} {mo mv : ME}
theorem set_or {a b : SSel} (ha : SemSet T X f a) (hb : SemSet T X f b) : SemSet T X f (setOr a b) := by
  intro pins σ H s ι h x y v w u uy h' Q E' I rh rv rw_ ru ruy e k
  unfold setOr at e
  cases q : a x y h with
  | none => rw [q] at e; exact hb pins σ H s ι h x y v w u uy h' Q E' I rh rv rw_ ru ruy e k
  | some r => rw [q] at e; cases e; exact ha pins σ H s ι h x y v w u uy h' Q E' I rh rv rw_ ru ruy q k
theorem set_fld {cs : List Str} (hC : ∀ C ∈ cs, ∃ Ca, X.mg C = some (.ref Ca) ∧ Cls X.K Ca ∧ NoAttr X.K Ca f) : SemSet T X f (setFld cs f) := by
  intro pins σ H s ι h x y v w u uy h' Q E' I rh rv rw_ ru ruy e k
  unfold setFld at e
  cases x with
  | obj a =>
    simp only [] at e
    cases q : h[a]? with
    | none => simp only [q] at e; cases e
    | some ob =>
      cases ob with
      | ins C ks xs =>
        simp only [q] at e
        by_cases hc : cs.contains C = true ∧ ks.length < 1000
        · rw [if_pos hc] at e
          cases e
          obtain ⟨Ca, m, cl, na⟩ := hC C (List.contains_iff_mem.mp hc.1)
          simp only [RV] at rv
          obtain ⟨p, ev, ip⟩ := rv
          obtain ⟨p', ip', ro⟩ := rh.obj a _ q
          rw [ip] at ip'
          cases ip'
          simp only [RO] at ro
          obtain ⟨Ca', dx, vs, hp, l, m', rl⟩ := ro
          have m'' : X.mg C = some (.ref Ca') := m'
          rw [m] at m''
          cases m''
          subst ev
          obtain rfl : u = Value.ref p := ru
          obtain ⟨vs', z1, z2, z3⟩ := putD_ok (f := f) rw_ rl l
          refine setattr_ok I hp cl na (by rw [List.length_zip]; omega) ruy fun s' I' => ?_
          have st := rh.setStp (u := .ins Ca dx (putF f w (ks.zip vs))) ip
          refine k _ s' st (rh.setO ip (wr_ins hp) ?_) I'
          simp only [RO]
          exact ⟨Ca, dx, vs', by rw [z1]; exact upd_same, z2, m, RVL.step st _ _ z3⟩
        · rw [if_neg hc] at e; cases e
      | _ => simp only [q] at e; cases e
  | _ => cases e
theorem set_slot (hC : ∃ Ca sp, X.mg C = some (.ref Ca) ∧ SlX.SCls X.K Ca ∧ SlX.Slot1 X.K Ca f sp 0) : SemSet T X f (setSlot C) := by
  intro pins σ H s ι h x y v w u uy h' Q E' I rh rv rw_ ru ruy e k
  unfold setSlot at e
  cases x with
  | obj a =>
    simp only [] at e
    cases q : h[a]? with
    | none => simp only [q] at e; cases e
    | some ob =>
      cases ob with
      | ins C' ks xs =>
        cases ks with
        | cons _ _ => simp only [q] at e; cases e
        | nil =>
          cases xs with
          | cons _ _ => simp only [q] at e; cases e
          | nil =>
            simp only [q] at e
            by_cases hc : C' = C
            · subst hc
              rw [if_pos rfl] at e
              cases e
              obtain ⟨Ca, sp, m, cl, sl⟩ := hC
              simp only [RV] at rv
              obtain ⟨p, ev, ip⟩ := rv
              obtain ⟨p', ip', ro⟩ := rh.obj a _ q
              rw [ip] at ip'
              cases ip'
              simp only [RO] at ro
              obtain ⟨Ca', dx, vs, hp, l, m', rl⟩ := ro
              have m'' : X.mg C' = some (.ref Ca') := m'
              rw [m] at m''
              cases m''
              have e0 := rl.inv_nil
              subst e0
              subst ev
              obtain rfl : u = Value.ref p := ru
              obtain ⟨mA, O, _, _, _, ho⟩ := ins_get I.hok hp
              have ne : dx ≠ p := O.ne
              refine SlX.setslot_ok I (.inl ⟨hp, rfl⟩) cl sl ruy fun s' I' => ?_
              have offd : Off ι dx := by
                refine ⟨fun b eb => ?_, fun eh => ?_⟩
                · obtain ⟨p2, ip2, ro2⟩ := rh.obj b _ (List.getElem?_eq_getElem (rh.dom b dx eb))
                  rw [eb] at ip2
                  cases ip2
                  cases qq : h[b]'(rh.dom b dx eb) with
                  | lst xs => rw [qq] at ro2; simp only [RO] at ro2; obtain ⟨_, z, _⟩ := ro2; rw [ho] at z; cases z
                  | ins C ks xs => rw [qq] at ro2; simp only [RO] at ro2; obtain ⟨_, _, _, z, _⟩ := ro2; rw [ho] at z; cases z
                  | dic ks xs => rw [qq] at ro2; simp only [RO] at ro2; obtain ⟨_, z, _⟩ := ro2; rw [ho] at z; cases z
                  | slt C xs => rw [qq] at ro2; simp only [RO] at ro2; obtain ⟨_, _, _, _, z, _⟩ := ro2; rw [ho] at z; unfold SlX.SlO at z; cases z
                · obtain ⟨z, hz, no⟩ := rh.hdn dx eh
                  rw [ho] at hz
                  cases hz
                  exact no _ rfl
              have st : Stp ι H ι (SlX.slH H p Ca dx (SlX.putS 0 w [])) := by
                refine ⟨fun _ _ e => e, fun b ob eb nb fb => ?_, fun b ob fb eb nb => ?_⟩
                · have b1 : b ≠ p := fun z => by subst z; exact fb.1 a ip
                  have b2 : b ≠ dx := fun z => by subst z; rw [ho] at eb; cases eb; exact nb.2 _ rfl
                  exact ⟨by rw [SlX.slH_ne b1 b2]; exact eb, fb⟩
                · have b1 : b ≠ p := fun z => by subst z; exact rh.dis a _ ip fb
                  have b2 : b ≠ dx := fun z => by subst z; rw [ho] at eb; cases eb; exact nb.2 _ rfl
                  exact ⟨by rw [SlX.slH_ne b1 b2]; exact eb, fb⟩
              refine k _ s' st ⟨fun b ob eb => ?_, fun b q2 eb => by simpa using rh.dom b q2 eb, rh.inj, fun b hb => ?_, rh.dis, tabs_keep rh.tab fun b ob eb kk => ?_⟩ I'
              · by_cases hba : b = a
                · subst hba
                  rw [List.getElem?_set_self (rh.dom b p ip)] at eb
                  cases eb
                  refine ⟨p, ip, ?_⟩
                  simp only [RO]
                  refine ⟨Ca, dx, [w], m, ?_, ?_, .cons (RV.step st y w rw_) .nil, offd⟩
                  · unfold SlX.slH; rw [upd_same]; rfl
                  · unfold SlX.slH; rw [upd_ne ne, upd_same]
                · rw [List.getElem?_set_ne (Ne.symm hba)] at eb
                  obtain ⟨q2, e2, r2⟩ := rh.obj b ob eb
                  refine ⟨q2, e2, r2.moved st (SlX.slH_ne (fun z => ?_) (fun z => ?_))⟩
                  · subst z; exact hba (rh.inj b a q2 e2 ip)
                  · subst z; exact offd.1 b e2
              · obtain ⟨z, hz, no⟩ := rh.hdn b hb
                exact ⟨z, by rw [SlX.slH_ne (fun z => by subst z; exact rh.dis a _ ip hb) (fun z => by subst z; exact offd.2 hb)]; exact hz, no⟩
              · rw [SlX.slH_ne (fun z => ?_) (fun z => ?_)]
                · exact eb
                · subst z; rw [hp] at eb; cases eb; rcases kk with ⟨_, kk⟩ | ⟨_, kk⟩ <;> cases kk
                · subst z; rw [ho] at eb; cases eb; rcases kk with ⟨_, kk⟩ | ⟨_, kk⟩ <;> cases kk
            · rw [if_neg hc] at e; cases e
      | _ => simp only [q] at e; cases e
  | _ => cases e
def mSetA (sel : SSel) (mv mo : ME) : MS := fun ρ h => match mv ρ h with
  | some (.ok d, h1) => (match mo ρ h1 with
    | some (.ok o, h2) => (match sel o d h2 with
      | some h3 => some (.nx, ρ, h3)
      | none => none)
    | some (.error x, h2) => some (.ex x, ρ, h2)
    | none => none)
  | some (.error x, h1) => some (.ex x, ρ, h1)
  | none => none
theorem s_seta {sel : SSel} (hsel : SemSet T X f sel) (ho : PE X o (tE (gx T X) W mo)) (hv : PE X value (tE (gx T X) W mv)) (hs : swapsWith value (some (.Attribute o f pos')) pos.line X.env = pure false := by rfl) : PS X (.Assign [.Attribute o f pos'] value pos) (tS (gx T X) W (mSetA sel mv mo)) := by
  refine ⟨fun pins s σ H D' I ⟨ι, ρ, h, out, ρ', h', rs, rh, em, ks⟩ => ?_⟩
  unfold mSetA at em
  cases q : mv ρ h with
  | none => simp only [q] at em; cases em
  | some p =>
    obtain ⟨r, h1⟩ := p
    have hq : tE (gx T X) W mv σ H (fun w H1 => tE (gx T X) W mo σ H1 (fun v H2 => ∀ s2 u uy, Inv X pins σ H2 s2 → RelV v u → RelV w uy → wpAny (model X.prog X.w) X.A (setAttr u f uy) (fun _ s' => SP X pins D' .next s') X.xe s2)) := by
      refine partS rs rh q ks (fun x er => by subst er; simp only [q] at em; cases em; exact ⟨rfl, rfl, rfl⟩) fun ι1 H1 w d er st1 rs1 rh1 rv1 ks1 => ?_
      subst er
      simp only [q] at em
      cases q2 : mo ρ h1 with
      | none => simp only [q2] at em; cases em
      | some p2 =>
        obtain ⟨r2, h2⟩ := p2
        refine partS rs1 rh1 q2 ks1 (fun x er => by subst er; simp only [q2] at em; cases em; exact ⟨rfl, rfl, rfl⟩) fun ι2 H2 v od er st2 rs2 rh2 rv2 ks2 => ?_
        subst er
        simp only [q2] at em
        cases q3 : sel od d h2 with
        | none => simp only [q3] at em; cases em
        | some h3 =>
          simp only [q3] at em
          cases em
          intro s2 u uy I2 ru ruy
          exact hsel pins σ H2 s2 ι2 h2 od d v w u uy _ _ X.xe I2 rh2 rv2 (RV.step st2 _ _ rv1) ru ruy q3 fun H' s' st' rh' I' => ⟨σ, H', I', ks2 ι2 H' σ st' (rs2.step st') rh'⟩
    exact plainObj_wpAny_Assign_Attribute (thn (hv.run pins s σ H _ I hq) fun uy s1 ⟨w, H1, I1, rw1, q1⟩ => thn (ho.run pins s1 σ H1 _ I1 q1) fun u s2 ⟨v, H2, I2, rv2, q2⟩ => q2 s2 u uy I2 rv2 rw1) hs
end
end ML
/-! the text M10 -/
/-! M10: instances made; what a def makes, without what it leaves behind. -/
namespace ML
open PySem PySem.Spec PyProof.Rows L2

/-! ### objects above a line, told as values -/
mutual
def frz (hh : VH) (n : Nat) : Nat → D → Option D
  | 0, _ => none
  | k + 1, .obj a => if a < n then some (.obj a) else (match hh[a]? with
    | some (.lst xs) => (frzs hh n k xs).map .lst
    | some (.ins C ks xs) => (frzs hh n k xs).map (.ins C ks)
    | some (.slt C xs) => (frzs hh n k xs).map (.slt C)
    | _ => none)
  | k + 1, .tup xs => (frzs hh n k xs).map .tup
  | k + 1, .lst xs => (frzs hh n k xs).map .lst
  | k + 1, .bls xs => (frzs hh n k xs).map .bls
  | k + 1, .slt C xs => (frzs hh n k xs).map (.slt C)
  | k + 1, .ins C ks xs => (frzs hh n k xs).map (.ins C ks)
  | k + 1, .dic ks xs => (frzs hh n k xs).map (.dic ks)
  | _ + 1, .non => some .non
  | _ + 1, .bl b => some (.bl b)
  | _ + 1, .int b => some (.int b)
  | _ + 1, .str b => some (.str b)
  | _ + 1, .ty b => some (.ty b)
  | _ + 1, .glo b => some (.glo b)
def frzs (hh : VH) (n : Nat) : Nat → List D → Option (List D)
  | 0, _ => none
  | _ + 1, [] => some []
  | k + 1, d :: ds => (match frz hh n k d, frzs hh n k ds with
    | some e, some es => some (e :: es)
    | _, _ => none)
end
section
variable {c : Gx} {ι : Adr} {H : Hp} {hh : VH} {n : Nat}
theorem off_above {a : Nat} {p : Addr} (rh : RH c ι hh H) (e : ι a = some p) (l : ¬ a < n) : Off (cut ι n) p := by
  refine ⟨fun b eb => ?_, rh.dis a p e⟩
  have e' : (if b < n then ι b else none) = some p := eb
  split at e'
  · rename_i hb
    have := rh.inj a b p e e'
    omega
  · cases e'
mutual
theorem frz_ok (rh : RH c ι hh H) : ∀ (k : Nat) (d e : D) (v : V), frz hh n k d = some e → RV c ι H d v → RV c (cut ι n) H e v
  | 0, d, e, v, q, r => by simp [frz] at q
  | k + 1, .obj a, e, v, q, r => by
    simp only [frz] at q
    simp only [RV] at r
    obtain ⟨p, ev, ip⟩ := r
    split at q
    · cases q
      simp only [RV]
      exact ⟨p, ev, (if_pos (by assumption)).trans ip⟩
    · rename_i hl
      have off := off_above (n := n) rh ip hl
      cases q2 : hh[a]? with
      | none => rw [q2] at q; cases q
      | some o =>
        obtain ⟨p', ip', ro⟩ := rh.obj a o q2
        rw [ip] at ip'
        cases ip'
        cases o with
        | lst xs =>
          rw [q2] at q
          simp only [Option.map_eq_some_iff] at q
          obtain ⟨ys, qy, ee⟩ := q
          subst ee
          simp only [RO] at ro
          obtain ⟨vs, hp, rl⟩ := ro
          simp only [RV]
          exact ⟨p, vs, ev, frzs_ok rh k xs ys vs qy rl, hp, off⟩
        | ins C ks xs =>
          rw [q2] at q
          simp only [Option.map_eq_some_iff] at q
          obtain ⟨ys, qy, ee⟩ := q
          subst ee
          simp only [RO] at ro
          obtain ⟨Ca, dx, vs, hp, l, m, rl⟩ := ro
          simp only [RV]
          exact ⟨p, Ca, dx, vs, ev, frzs_ok rh k xs ys vs qy rl, l, m, hp, off⟩
        | slt C xs =>
          rw [q2] at q
          simp only [Option.map_eq_some_iff] at q
          obtain ⟨ys, qy, ee⟩ := q
          subst ee
          simp only [RO] at ro
          obtain ⟨Ca, dx, vs, m, hp, hd, rl, od⟩ := ro
          simp only [RV]
          exact ⟨p, Ca, dx, vs, ev, frzs_ok rh k xs ys vs qy rl, m, hp, hd, off, od.cut⟩
        | dic ks xs => rw [q2] at q; cases q
  | k + 1, .tup xs, e, v, q, r => by
    simp only [frz, Option.map_eq_some_iff] at q
    obtain ⟨ys, qy, ee⟩ := q
    subst ee
    simp only [RV] at r ⊢
    obtain ⟨p, vs, ev, rl, sq, f⟩ := r
    exact ⟨p, vs, ev, frzs_ok rh k xs ys vs qy rl, sq, f.imp Off.cut id⟩
  | k + 1, .lst xs, e, v, q, r => by
    simp only [frz, Option.map_eq_some_iff] at q
    obtain ⟨ys, qy, ee⟩ := q
    subst ee
    simp only [RV] at r ⊢
    obtain ⟨p, vs, ev, rl, sq, f⟩ := r
    exact ⟨p, vs, ev, frzs_ok rh k xs ys vs qy rl, sq, f.cut⟩
  | k + 1, .bls xs, e, v, q, r => by
    simp only [frz, Option.map_eq_some_iff] at q
    obtain ⟨ys, qy, ee⟩ := q
    subst ee
    simp only [RV] at r ⊢
    obtain ⟨p, vs, ev, rl, sq, f⟩ := r
    exact ⟨p, vs, ev, frzs_ok rh k xs ys vs qy rl, sq, f.imp Off.cut id⟩
  | k + 1, .slt C xs, e, v, q, r => by
    simp only [frz, Option.map_eq_some_iff] at q
    obtain ⟨ys, qy, ee⟩ := q
    subst ee
    simp only [RV] at r ⊢
    obtain ⟨p, Ca, dx, vs, ev, rl, m, h1, h2, f1, f2⟩ := r
    exact ⟨p, Ca, dx, vs, ev, frzs_ok rh k xs ys vs qy rl, m, h1, h2, f1.cut, f2.cut⟩
  | k + 1, .ins C ks xs, e, v, q, r => by
    simp only [frz, Option.map_eq_some_iff] at q
    obtain ⟨ys, qy, ee⟩ := q
    subst ee
    simp only [RV] at r ⊢
    obtain ⟨p, Ca, dx, vs, ev, rl, l, m, h1, f1⟩ := r
    exact ⟨p, Ca, dx, vs, ev, frzs_ok rh k xs ys vs qy rl, l, m, h1, f1.cut⟩
  | k + 1, .dic ks xs, e, v, q, r => by
    simp only [frz, Option.map_eq_some_iff] at q
    obtain ⟨ys, qy, ee⟩ := q
    subst ee
    simp only [RV] at r ⊢
    obtain ⟨p, od, vs, ev, rl, l, h1, f1⟩ := r
    exact ⟨p, od, vs, ev, frzs_ok rh k xs ys vs qy rl, l, h1, f1.cut⟩
  | k + 1, .non, e, v, q, r => by simp only [frz] at q; cases q; simp only [RV] at r ⊢; exact r
  | k + 1, .bl _, e, v, q, r => by simp only [frz] at q; cases q; simp only [RV] at r ⊢; exact r
  | k + 1, .int _, e, v, q, r => by simp only [frz] at q; cases q; simp only [RV] at r ⊢; exact r
  | k + 1, .str _, e, v, q, r => by simp only [frz] at q; cases q; simp only [RV] at r ⊢; exact r
  | k + 1, .ty _, e, v, q, r => by simp only [frz] at q; cases q; simp only [RV] at r ⊢; exact r
  | k + 1, .glo _, e, v, q, r => by simp only [frz] at q; cases q; simp only [RV] at r ⊢; exact r
theorem frzs_ok (rh : RH c ι hh H) : ∀ (k : Nat) (ds es : List D) (vs : List V), frzs hh n k ds = some es → RVL c ι H ds vs → RVL c (cut ι n) H es vs
  | 0, ds, es, vs, q, r => by simp [frzs] at q
  | k + 1, [], es, vs, q, r => by
    simp only [frzs] at q
    cases q
    rw [r.inv_nil]
    exact .nil
  | k + 1, d :: ds, es, vs, q, r => by
    simp only [frzs] at q
    obtain ⟨v, vr, ev, r1, r2⟩ := r.inv_cons
    cases q1 : frz hh n k d with
    | none => rw [q1] at q; cases q
    | some e =>
      cases q2 : frzs hh n k ds with
      | none => rw [q1, q2] at q; cases q
      | some es' =>
        rw [q1, q2] at q
        cases q
        rw [ev]
        exact .cons (frz_ok rh k d e v q1 r1) (frzs_ok rh k ds es' vr q2 r2)
end
end
/-- G tells what F makes, without the objects that it leaves -/
def Told (F G : MF) : Prop := ∀ ds h r h', G ds h = some (r, h') → F ds h = some (r, h') ∨ (h' = h ∧ ∃ r0 g, F ds h = some (r0, h ++ g) ∧ ((∃ k d0 d, r0 = .ok d0 ∧ r = .ok d ∧ frz (h ++ g) h.length k d0 = some d) ∨
  ∃ k x ys, r0 = .error x ∧ r = .error { x with xs := ys } ∧ frzs (h ++ g) h.length k x.xs = some ys))
theorem kf_cut {c : Gx} {ι : Adr} {H : Hp} {Q : VK} {E : XK} {h g : VH} {r r0 : Except Xc D} (rh : RH c ι h H) (k : KF c ι H Q E h r)
    (q : (∃ k d0 d, r0 = .ok d0 ∧ r = .ok d ∧ frz (h ++ g) h.length k d0 = some d) ∨ ∃ k x ys, r0 = .error x ∧ r = .error { x with xs := ys } ∧ frzs (h ++ g) h.length k x.xs = some ys) : KF c ι H Q E (h ++ g) r0 := by
  rcases q with ⟨kk, d0, d, e1, e2, e3⟩ | ⟨kk, x, ys, e1, e2, e3⟩
  · subst e1; subst e2
    intro ι' H' v st rh' rv
    exact k (cut ι' h.length) H' v (st.cut rh (Nat.le_refl _)) (rh'.cut rh.scd) (frz_ok rh' kk d0 d v e3 rv)
  · subst e1; subst e2
    intro ι' H' cls dd st rh' rx
    refine k (cut ι' h.length) H' cls dd (st.cut rh (Nat.le_refl _)) (rh'.cut rh.scd) ⟨rx.1, rx.2.imp id fun ⟨a, vs, z1, z2, z3, z4, z5⟩ => ⟨a, vs, z1, z2, z3, frzs_ok rh' kk _ _ vs e3 z4, z5.cut⟩⟩
theorem Prm.told {P : Program} {w : World} {c : Gx} {base : Heap} {k : Nat} {f : Addr} {F G : MF} (p : Prm P w c base k f F) (t : Told F G) : Prm P w c base k f G := by
  refine FnR.imp p fun vs H Q E ⟨ι, h, ds, r, h', rh, rv, e, kf⟩ => ?_
  rcases t ds h r h' e with z | ⟨eh, r0, g, z, q⟩
  · exact ⟨ι, h, ds, r, h', rh, rv, z, kf⟩
  · subst eh
    exact ⟨ι, h', ds, r0, h' ++ g, rh, rv, z, kf_cut rh kf q⟩

/-! ### C(..) -/
def mkF (C : Str) (F : MF) : MF := fun ds h => match F (.obj h.length :: ds) (h ++ [.ins C [] []]) with
  | some (.ok .non, h2) => some (.ok (.obj h.length), h2)
  | some (.error x, h2) => some (.error x, h2)
  | _ => none
section
variable {T : List (Addr × Str)} {X : Cx} {W : WW} {k : Nat} {x C : Str} {F G : MF} {e : Expr} {es : List Expr} {p pos : Pos} {ma : MA}
theorem run_mk {pins : List (Addr × Obj)} {σ : L2.St} {H : Hp} {s : Shared} {Q : VK} {us : List Value} {vs : List V} {Ca f : Addr} (M : Mk X.K Ca f) (mC : X.mg C = some (.ref Ca)) (pr : Prm X.prog X.w (gx T X) X.base k f F) (t : Told (mkF C F) G) (hr : Room (k + 1) X.A) (tk : L2N.Takes X W.w)
    (I : Inv X pins σ H s) (r : Vals vs us) (h : spM (gx T X) G vs H Q (WE W.w σ)) : wpAny (model X.prog X.w) X.A (call (.ref Ca) us) (EP X pins σ Q) X.xe s := by
  have h1 : spM (gx T X) (mkF C F) vs H Q (WE W.w σ) := by
    obtain ⟨ι, h, ds, r, h', rh, rv, e, kf⟩ := h
    rcases t ds h r h' e with z | ⟨eh, r0, g, z, q⟩
    · exact ⟨ι, h, ds, r, h', rh, rv, z, kf⟩
    · subst eh
      exact ⟨ι, h', ds, r0, h' ++ g, rh, rv, z, kf_cut rh kf q⟩
  obtain ⟨ι, hh, ds, r1, h', rh, rv, e, kf⟩ := h1
  have n1 : H s.heap.objs.size = none := I.hok.fresh (Nat.le_refl _)
  have n2 : H (s.heap.objs.size + 1) = none := I.hok.fresh (Nat.le_succ _)
  have ne : s.heap.objs.size ≠ s.heap.objs.size + 1 := Nat.ne_of_lt (Nat.lt_succ_self _)
  have I2 := Inv.made (C := Ca) I
  have st1 : Stp ι H ι (upd H s.heap.objs.size (.own (s.heap.objs.size + 1))) := rh.newStp n1
  have rh1 : RH (gx T X) ι hh (upd H s.heap.objs.size (.own (s.heap.objs.size + 1))) := rh.new n1
  have n3 : (upd H s.heap.objs.size (.own (s.heap.objs.size + 1))) (s.heap.objs.size + 1) = none := by rw [upd_ne (Ne.symm ne)]; exact n2
  have st2 := rh1.pushStp (u := .ins Ca s.heap.objs.size []) n3
  have rh2 : RH (gx T X) (put ι hh.length (s.heap.objs.size + 1)) (hh ++ [.ins C [] []]) (upd (upd H s.heap.objs.size (.own (s.heap.objs.size + 1))) (s.heap.objs.size + 1) (.ins Ca s.heap.objs.size [])) :=
    rh1.push n3 (by simp only [RO]; exact ⟨Ca, s.heap.objs.size, [], upd_same, rfl, mC, .nil⟩)
  have st := st1.trans st2
  have hsp : spM (gx T X) F (.ref (s.heap.objs.size + 1) :: vs) (upd (upd H s.heap.objs.size (.own (s.heap.objs.size + 1))) (s.heap.objs.size + 1) (.ins Ca s.heap.objs.size [])) (fun v H2 => v = .non ∧ Q (.ref (s.heap.objs.size + 1)) H2) (WE W.w σ) := by
    unfold mkF at e
    cases q : F (.obj hh.length :: ds) (hh ++ [.ins C [] []]) with
    | none => rw [q] at e; cases e
    | some z =>
      obtain ⟨z, h2⟩ := z
      rw [q] at e
      refine ⟨_, _, _, z, h2, rh2, .cons rv_obj (RVL.step st _ _ rv), q, ?_⟩
      cases z with
      | error x =>
        cases e
        exact fun ι' H' cls dd st' rh' rx => kf ι' H' cls dd (st.trans st') rh' rx
      | ok d =>
        cases d with
        | non =>
          cases e
          intro ι' H' v st' rh' rv'
          simp only [RV] at rv'
          refine ⟨rv', kf ι' H' _ (st.trans st') rh' ?_⟩
          simp only [RV]
          exact ⟨_, rfl, st'.ext _ _ put_same⟩
        | _ => cases e
  have r2 : Vals (V.ref (s.heap.objs.size + 1) :: vs) (Value.ref (s.heap.objs.size + 1) :: us) := .cons rfl r
  refine wpAny_call (make_map (f := f) I.kIn M.makes M.init (beq_iff_eq.mp M.fn) (codeAny_mono (pr _ X.stack _ _ (Value.ref (s.heap.objs.size + 1) :: us) _ _ (WE W.w σ) (hr.make Ca us []) (I2.env0.make Ca us []) r2 hsp) fun r s' hq' => ?_))
  cases r with
  | error e => exact L2N.passAt tk σ pins _ _ e s' I2 hq'
  | ok fl =>
    cases fl with
    | ret u =>
      obtain ⟨v, H', I3, rv, ev, q3⟩ := I2.after hq'
      subst ev
      exact ⟨rv, ⟨V.ref (s.heap.objs.size + 1), H', I3, rfl, q3⟩⟩
    | next => exact False.elim hq'
    | brk => exact False.elim hq'
    | cont => exact False.elim hq'
/-- what a class must have to be made -/
structure MkOk (T : List (Addr × Str)) (X : Cx) (C : Str) (G : MF) : Prop where
  ex : ∃ Ca f k F, X.mg C = some (.ref Ca) ∧ Mk X.K Ca f ∧ Prm X.prog X.w (gx T X) X.base k f F ∧ Told (mkF C F) G ∧ Room (k + 1) X.A
theorem m_make (mk : MkOk T X C G) (tk : L2N.Takes X W.w) (hg : Gl X C) (ha : PA X (e :: es) (tA (gx T X) W ma)) (hdb : (C == ("__debug__" : Str)) = false := by decide) (he : starEach (e :: es) X.env = (false, eval e X.env) :: starEach es X.env := by rfl) (hpl : (backTo pos (starEach es X.env)).any (·.1) = false := by rfl) :
    PE X (.Call (.Name C p) (e :: es) [] pos) (tE (gx T X) W (mCall G ma)) := by
  obtain ⟨Ca, f, k, F, mC, M, pr, t, hr⟩ := mk.ex
  refine ⟨fun pins s σ H Q I h => ?_⟩
  refine wpAny_Call_Name_kw (ld_glob I hg mC ?_ hdb)
  refine PySem.W.callWith_K (h₀ := X.base) I.ok.mod.kin M.kp (thn (ha.run pos pins s σ H _ I (imp_call σ H Q h)) fun us s1 ⟨vs, H1, I1, r, q⟩ => ⟨I1.kIn, ?_⟩) he hpl
  exact run_mk M mC pr t hr tk I1 r q
theorem m_make0 (mk : MkOk T X C G) (tk : L2N.Takes X W.w) (hg : Gl X C) (hdb : (C == ("__debug__" : Str)) = false := by decide) : PE X (.Call (.Name C p) [] [] pos) (tE (gx T X) W (mCall G maNil)) := by
  obtain ⟨Ca, f, k, F, mC, M, pr, t, hr⟩ := mk.ex
  refine ⟨fun pins s σ H Q I h => ?_⟩
  refine wpAny_Call_Name_kw (ld_glob I hg mC ?_ hdb)
  obtain ⟨ι, ρ, hh, r, h', rs, rh, e, ke⟩ := h
  refine PySem.W.callWith_K0 I.kIn M.kp (run_mk (us := []) (vs := []) M mC pr t hr tk I .nil ⟨ι, hh, [], r, h', rh, .nil, e, ?_⟩)
  cases r with
  | ok d => exact fun ι' H' v st rh' rv => ke ι' H' v st rh' rv
  | error x => exact fun ι' H' cls dd st rh' rx => ke ι' H' cls dd st rh' rx
theorem Told.refl {F : MF} : Told F F := fun _ _ _ _ e => .inl e
end
end ML
/-! the text M11 -/
/-! M11: operators on values. -/
namespace ML
open PySem PySem.Spec PyProof.Rows L2

abbrev B2 := D → D → VH → Option D
def Op2 (T : List (Addr × Str)) (X : Cx) (o : Value → Value → Sem Value) (f : B2) : Prop := ∃ r : R2, OpR X o r ∧ Sem2 (gx T X) r f
def Un1 (T : List (Addr × Str)) (X : Cx) (o : Value → Sem Value) (f : D → VH → Option D) : Prop := ∃ r, UnR X o r ∧ Sem1 (gx T X) r f
def Ix2 (T : List (Addr × Str)) (X : Cx) (f : B2) : Prop := ∃ r : R2, IxR X r ∧ Sem2 (gx T X) r f
def Cal (T : List (Addr × Str)) (X : Cx) (u : Value) (f : List D → VH → Option D) : Prop := ∃ r, CallR X u r ∧ SemC (gx T X) r f
def orB (f g : B2) : B2 := fun x y h => match f x y h with
  | some z => some z
  | none => g x y h
def orC (f g : List D → VH → Option D) : List D → VH → Option D := fun xs h => match f xs h with
  | some z => some z
  | none => g xs h
section
variable {T : List (Addr × Str)} {X : Cx} {W : WW} {a b e : Expr} {es : List Expr} {ma mb : ME} {mas : MA} {pos p : Pos} {f g : B2}
theorem sem2_or {c : Gx} {r r' : R2} (h : Sem2 c r f) (h' : Sem2 c r' g) : Sem2 c (fun x y H Q => r x y H Q ∨ r' x y H Q) (orB f g) := by
  intro ι H hh x y v w z Q rh rv rw_ e fin
  unfold orB at e
  cases q : f x y hh with
  | none => rw [q] at e; exact .inr (h' ι H hh x y v w z Q rh rv rw_ e fin)
  | some r => rw [q] at e; cases e; exact .inl (h ι H hh x y v w _ Q rh rv rw_ q fin)
theorem op2_or {o : Value → Value → Sem Value} (h : Op2 T X o f) (h' : Op2 T X o g) : Op2 T X o (orB f g) :=
  let ⟨r, a, b⟩ := h; let ⟨r', a', b'⟩ := h'; ⟨_, a.or a', sem2_or b b'⟩
theorem ix2_or (h : Ix2 T X f) (h' : Ix2 T X g) : Ix2 T X (orB f g) :=
  let ⟨r, a, b⟩ := h; let ⟨r', a', b'⟩ := h'; ⟨_, a.or a', sem2_or b b'⟩
theorem cal_or {u : Value} {f g : List D → VH → Option D} (h : Cal T X u f) (h' : Cal T X u g) : Cal T X u (orC f g) := by
  obtain ⟨r, a, b⟩ := h
  obtain ⟨r', a', b'⟩ := h'
  refine ⟨_, a.or a', fun ι H hh xs vs z Q rh rv e fin => ?_⟩
  unfold orC at e
  cases q : f xs hh with
  | none => rw [q] at e; exact .inr (b' ι H hh xs vs z Q rh rv e fin)
  | some r => rw [q] at e; cases e; exact .inl (b ι H hh xs vs _ Q rh rv q fin)
theorem o_op {op : Operator} (h : Op2 T X (binaryOp op) f) (ha : PE X a (tE (gx T X) W ma)) (hb : PE X b (tE (gx T X) W mb)) : PE X (.BinOp a op b pos) (tE (gx T X) W (mOp2 f ma mb)) := let ⟨_, h1, h2⟩ := h; m_op h1 h2 ha hb
theorem o_cmp {op : CmpOp} (h : Op2 T X (compareOp op) f) (ha : PE X a (tE (gx T X) W ma)) (hb : PE X b (tE (gx T X) W mb)) (hm : behindInMarks op b = false) : PE X (.Compare a [op] [b] pos) (tE (gx T X) W (mOp2 f ma mb)) := let ⟨_, h1, h2⟩ := h; m_cmp h1 h2 ha hb hm
theorem ot_cmp {op : CmpOp} (h : Op2 T X (compareOp op) f) (ha : PE X a (tE (gx T X) W ma)) (hb : PE X b (tE (gx T X) W mb)) (hm : behindInMarks op b = false) : PT X (.Compare a [op] [b] pos) (tT (gx T X) W (mOp2 f ma mb)) := let ⟨_, h1, h2⟩ := h; t_cmp h1 h2 ha hb hm
theorem o_chain {d : Expr} {op op' : CmpOp} {mc : ME} (h : Op2 T X (compareOp op) f) (h' : Op2 T X (compareOp op') g) (ha : PE X a (tE (gx T X) W ma)) (hb : PE X b (tE (gx T X) W mb)) (hc : PE X d (tE (gx T X) W mc)) (hm : lastMarks [op, op'] [b, d] = false := by with_unfolding_all rfl) :
    PE X (.Compare a [op, op'] [b, d] pos) (tE (gx T X) W (mChain f g ma mb mc)) := let ⟨_, h1, h2⟩ := h; let ⟨_, h3, h4⟩ := h'; m_chain (d := d) h1 h2 h3 h4 ha hb hc hm
theorem ot_chain {d : Expr} {op op' : CmpOp} {mc : ME} (h : Op2 T X (compareOp op) f) (h' : Op2 T X (compareOp op') g) (ha : PE X a (tE (gx T X) W ma)) (hb : PE X b (tE (gx T X) W mb)) (hc : PE X d (tE (gx T X) W mc)) (hm : lastMarks [op, op'] [b, d] = false := by with_unfolding_all rfl) :
    PT X (.Compare a [op, op'] [b, d] pos) (tT (gx T X) W (mChain f g ma mb mc)) := let ⟨_, h1, h2⟩ := h; let ⟨_, h3, h4⟩ := h'; t_chain (d := d) h1 h2 h3 h4 ha hb hc hm
theorem o_un {op : UnaryOp} {f : D → VH → Option D} (h : Un1 T X (unaryOp op) f) (ha : PE X a (tE (gx T X) W ma)) : PE X (.UnaryOp op a pos) (tE (gx T X) W (mOp1 f ma)) := let ⟨_, h1, h2⟩ := h; m_un h1 h2 ha
theorem o_ix (h : Ix2 T X f) (ha : PE X a (tE (gx T X) W ma)) (hb : PE X b (tE (gx T X) W mb)) (hs : PlainIx b) : PE X (.Subscript a b pos) (tE (gx T X) W (mOp2 f ma mb)) := let ⟨_, h1, h2⟩ := h; m_ix h1 h2 ha hb hs
theorem o_callB {x : Str} {id : String} {f : List D → VH → Option D} (h : Cal T X (.builtin id) f) (hg : Gl X x) (hm : X.mg x = none) (hv : bootBuiltins x = some (.builtin id)) (ha : PA X (e :: es) (tA (gx T X) W mas)) (hn : x ≠ "__name__" := by decide) (hdb : (x == ("__debug__" : Str)) = false := by decide)
    (he : starEach (e :: es) X.env = (false, eval e X.env) :: starEach es X.env := by rfl) (hpl : (backTo pos (starEach es X.env)).any (·.1) = false := by rfl) : PE X (.Call (.Name x p) (e :: es) [] pos) (tE (gx T X) W (mCB f mas)) := let ⟨_, h1, h2⟩ := h; m_callB h1 h2 hg hm hv ha hn hdb he hpl
theorem o_callTy {x : Str} {Ty : String} {f : List D → VH → Option D} (h : Cal T X (.type Ty) f) (hg : Gl X x) (hm : X.mg x = none) (hv : bootBuiltins x = some (.type Ty)) (ha : PA X (e :: es) (tA (gx T X) W mas)) (hn : x ≠ "__name__" := by decide) (hdb : (x == ("__debug__" : Str)) = false := by decide)
    (he : starEach (e :: es) X.env = (false, eval e X.env) :: starEach es X.env := by rfl) (hpl : (backTo pos (starEach es X.env)).any (·.1) = false := by rfl) : PE X (.Call (.Name x p) (e :: es) [] pos) (tE (gx T X) W (mCB f mas)) := let ⟨_, h1, h2⟩ := h; m_callTy h1 h2 hg hm hv ha hn hdb he hpl

/-! ### integers -/
def bI (C : Int → Int → Bool) (g : Int → Int → D) : B2 := fun x y _ => match x, y with
  | .int i, .int j => if C i j = true then some (g i j) else none
  | _, _ => none
theorem sem_int {c : Gx} {Cp : Int → Int → Prop} {C : Int → Int → Bool} {gv : Int → Int → V} {gd : Int → Int → D} (hC : ∀ i j, C i j = true → Cp i j) (hg : ∀ i j, Static c (gd i j) (gv i j)) : Sem2 c (rI Cp gv) (bI C gd) := by
  intro ι H h x y v w z Q rh rv rw_ e fin
  cases x <;> cases y <;> first | cases e | skip
  rename_i i j
  unfold bI at e
  simp only [] at e
  by_cases q : C i j = true
  · rw [if_pos q] at e
    cases e
    simp only [RV] at rv rw_
    exact ⟨i, j, rv, rw_, hC i j q, fin ι H _ (Stp.refl _ _) rh (hg i j ι H)⟩
  · rw [if_neg q] at e; cases e
theorem sem_int0 {c : Gx} {gv : Int → Int → V} {gd : Int → Int → D} (hg : ∀ i j, Static c (gd i j) (gv i j)) : Sem2 c (rI0 gv) (bI (fun _ _ => true) gd) := by
  intro ι H h x y v w z Q rh rv rw_ e fin
  cases x <;> cases y <;> first | cases e | skip
  simp only [RV] at rv rw_
  exact ⟨_, _, rv, rw_, fin ι H _ (Stp.refl _ _) rh (hg _ _ ι H)⟩
def bAdd : B2 := bI (fun _ _ => true) fun i j => .int (i + j)
def bSub : B2 := bI (fun _ _ => true) fun i j => .int (i - j)
def bMul : B2 := bI (fun i j => decide (i.natAbs.log2 + j.natAbs.log2 < 1000000)) fun i j => .int (i * j)
def bDiv : B2 := bI (fun _ j => decide (0 < j) && decide (j.natAbs.log2 < 9000)) fun i j => .int (i / j)
def bMod : B2 := bI (fun _ j => decide (j ≠ 0)) fun i j => .int (i.fmod j)
def bPow : B2 := bI (fun i j => decide (0 ≤ j) && decide (j ≤ 1000000) && decide (i.natAbs < 18446744073709551616)) fun i j => .int (i ^ j.toNat)
def bShl : B2 := bI (fun i j => decide (0 ≤ j) && decide ((Builtin.Int.intBits i : Int) + j ≤ 134217728)) fun i j => .int (i * 2 ^ j.toNat)
def bLt : B2 := bI (fun _ _ => true) fun i j => .bl (decide (i < j))
def bLe : B2 := bI (fun _ _ => true) fun i j => .bl (decide (i ≤ j))
def bGt : B2 := bI (fun _ _ => true) fun i j => .bl (decide (j < i))
def bGe : B2 := bI (fun _ _ => true) fun i j => .bl (decide (j ≤ i))
theorem o_add : Op2 T X (binaryOp .Add) bAdd := ⟨_, op_add, sem_int0 fun _ _ => st_int⟩
theorem o_sub : Op2 T X (binaryOp .Sub) bSub := ⟨_, op_sub, sem_int0 fun _ _ => st_int⟩
theorem o_mul : Op2 T X (binaryOp .Mult) bMul := ⟨_, op_mulW, sem_int (fun _ _ h => show _ < _ from of_decide_eq_true h) fun _ _ => st_int⟩
theorem o_div : Op2 T X (binaryOp .FloorDiv) bDiv := ⟨_, op_fdivW, sem_int (fun _ _ h => by simp only [Bool.and_eq_true, decide_eq_true_eq] at h; exact h) fun _ _ => st_int⟩
theorem o_mod : Op2 T X (binaryOp .Mod) bMod := ⟨_, op_modN, sem_int (fun _ _ h => of_decide_eq_true h) fun _ _ => st_int⟩
theorem o_pow : Op2 T X (binaryOp .Pow) bPow := ⟨_, op_pow, sem_int (fun _ _ h => by simp only [Bool.and_eq_true, decide_eq_true_eq] at h; exact ⟨h.1.1, h.1.2, h.2⟩) fun _ _ => st_int⟩
theorem o_lt : Op2 T X (compareOp .Lt) bLt := ⟨_, op_lt, sem_int0 fun _ _ => st_bl⟩
theorem o_le : Op2 T X (compareOp .LtE) bLe := ⟨_, op_le, sem_int0 fun _ _ => st_bl⟩
theorem o_gt : Op2 T X (compareOp .Gt) bGt := ⟨_, op_gt, sem_int0 fun _ _ => st_bl⟩
theorem o_ge : Op2 T X (compareOp .GtE) bGe := ⟨_, op_ge, sem_int0 fun _ _ => st_bl⟩
def uNeg : D → VH → Option D := fun x _ => match x with
  | .int i => some (.int (-i))
  | _ => none
theorem o_neg : Un1 T X (unaryOp .USub) uNeg := ⟨_, un_neg, fun ι H h x v z Q rh rv e fin => by
  cases x <;> first | cases e | skip
  simp only [RV] at rv
  exact ⟨_, rv, fin ι H _ (Stp.refl _ _) rh (st_int _ _)⟩⟩
/-! ### is None -/
def D.isNon : D → Bool
  | .non => true
  | _ => false
def bIsN : B2 := fun x y _ => match y with
  | .non => some (.bl x.isNon)
  | _ => none
def bNotN : B2 := fun x y _ => match y with
  | .non => some (.bl !x.isNon)
  | _ => none
theorem non_iff {c : Gx} {ι : Adr} {H : Hp} {x : D} {v : V} (rv : RV c ι H x v) : v = .non ↔ x = .non := by
  cases x with
  | glo y => simp only [RV] at rv; obtain ⟨_, _, e⟩ := rv; subst e; simp
  | tup y => simp only [RV] at rv; obtain ⟨_, _, e, _⟩ := rv; subst e; simp
  | lst y => simp only [RV] at rv; obtain ⟨_, _, e, _⟩ := rv; subst e; simp
  | bls y => simp only [RV] at rv; obtain ⟨_, _, e, _⟩ := rv; subst e; simp
  | slt C y => simp only [RV] at rv; obtain ⟨_, _, _, _, e, _⟩ := rv; subst e; simp
  | ins C k y => simp only [RV] at rv; obtain ⟨_, _, _, _, e, _⟩ := rv; subst e; simp
  | dic k y => simp only [RV] at rv; obtain ⟨_, _, _, e, _⟩ := rv; subst e; simp
  | obj y => simp only [RV] at rv; obtain ⟨_, e, _⟩ := rv; subst e; simp
  | _ => simp only [RV] at rv; subst rv; simp
theorem non_dec {c : Gx} {ι : Adr} {H : Hp} {x : D} {v : V} (rv : RV c ι H x v) : decide (v = .non) = x.isNon := by
  have key := non_iff rv
  cases x with
  | non => exact decide_eq_true (key.mpr rfl)
  | _ => exact decide_eq_false fun q => by cases key.mp q
theorem o_isN : Op2 T X (compareOp .Is) bIsN := ⟨_, op_isN, fun ι H h x y v w z Q rh rv rw_ e fin => by
  cases y <;> first | cases e | skip
  simp only [RV] at rw_
  exact ⟨rw_, by rw [non_dec rv]; exact fin ι H _ (Stp.refl _ _) rh (st_bl _ _)⟩⟩
theorem o_notN : Op2 T X (compareOp .IsNot) bNotN := ⟨_, op_notN, fun ι H h x y v w z Q rh rv rw_ e fin => by
  cases y <;> first | cases e | skip
  simp only [RV] at rw_
  exact ⟨rw_, by rw [non_dec rv]; exact fin ι H _ (Stp.refl _ _) rh (st_bl _ _)⟩⟩
end
end ML
/-! the text M12 -/
/-! M12: sequences: ==, in, len, indexes, slices, +, *, sum, all, any, tuple(..), list(..), divmod, abs, max, min, int(..). -/
namespace ML
open PySem PySem.Spec PyProof.Rows L2

/-! ### == of data -/
mutual
def dat0 : D → Option PyData
  | .non => some .none
  | .bl b => some (.bool b)
  | .int i => some (.int i)
  | .str x => some (.str x)
  | .tup xs => (dat0s xs).map .tuple
  | .lst xs => (dat0s xs).map .list
  | .bls xs => (dat0s xs).map .list
  | _ => none
def dat0s : List D → Option (List PyData)
  | [] => some []
  | d :: ds => (match dat0 d, dat0s ds with
    | some p, some ps => some (p :: ps)
    | _, _ => none)
end
mutual
def dat (h : VH) : D → Option PyData
  | .non => some .none
  | .bl b => some (.bool b)
  | .int i => some (.int i)
  | .str x => some (.str x)
  | .tup xs => (dats h xs).map .tuple
  | .lst xs => (dats h xs).map .list
  | .bls xs => (dats h xs).map .list
  | .obj a => (match h[a]? with
    | some (.lst xs) => (dat0s xs).map .list
    | _ => none)
  | _ => none
def dats (h : VH) : List D → Option (List PyData)
  | [] => some []
  | d :: ds => (match dat h d, dats h ds with
    | some p, some ps => some (p :: ps)
    | _, _ => none)
end
section
variable {c : Gx} {ι : Adr} {H : Hp} {h : VH}
mutual
theorem dat0_ok : ∀ (d : D) (v : V) (p : PyData), RV c ι H d v → dat0 d = some p → Dp c.K H v p
  | .non, v, p, r, e => by simp only [dat0] at e; cases e; simp only [RV] at r; subst r; exact .non
  | .bl b, v, p, r, e => by simp only [dat0] at e; cases e; simp only [RV] at r; subst r; exact .bl b
  | .int b, v, p, r, e => by simp only [dat0] at e; cases e; simp only [RV] at r; subst r; exact .int b
  | .str b, v, p, r, e => by simp only [dat0] at e; cases e; simp only [RV] at r; subst r; exact .str b
  | .tup xs, v, p, r, e => by
    simp only [dat0, Option.map_eq_some_iff] at e
    obtain ⟨ps, e1, e2⟩ := e
    subst e2
    simp only [RV] at r
    obtain ⟨q, vs, ev, rl, sq, _⟩ := r
    subst ev
    exact .tup sq (dat0s_ok xs vs ps rl e1)
  | .lst xs, v, p, r, e => by
    simp only [dat0, Option.map_eq_some_iff] at e
    obtain ⟨ps, e1, e2⟩ := e
    subst e2
    simp only [RV] at r
    obtain ⟨q, vs, ev, rl, sq, _⟩ := r
    subst ev
    exact .lst (SqL.of sq) (dat0s_ok xs vs ps rl e1)
  | .bls xs, v, p, r, e => by
    simp only [dat0, Option.map_eq_some_iff] at e
    obtain ⟨ps, e1, e2⟩ := e
    subst e2
    simp only [RV] at r
    obtain ⟨q, vs, ev, rl, sq, _⟩ := r
    subst ev
    exact .lst sq (dat0s_ok xs vs ps rl e1)
  | .ty _, v, p, r, e => by simp only [dat0] at e; cases e
  | .glo _, v, p, r, e => by simp only [dat0] at e; cases e
  | .slt _ _, v, p, r, e => by simp only [dat0] at e; cases e
  | .ins _ _ _, v, p, r, e => by simp only [dat0] at e; cases e
  | .dic _ _, v, p, r, e => by simp only [dat0] at e; cases e
  | .obj _, v, p, r, e => by simp only [dat0] at e; cases e
theorem dat0s_ok : ∀ (ds : List D) (vs : List V) (ps : List PyData), RVL c ι H ds vs → dat0s ds = some ps → DpAll c.K H vs ps
  | [], vs, ps, r, e => by simp only [dat0s] at e; cases e; rw [r.inv_nil]; exact .nil
  | d :: ds, vs, ps, r, e => by
    simp only [dat0s] at e
    obtain ⟨v, vr, ev, r1, r2⟩ := r.inv_cons
    subst ev
    cases q1 : dat0 d with
    | none => rw [q1] at e; cases e
    | some p =>
      cases q2 : dat0s ds with
      | none => rw [q1, q2] at e; cases e
      | some ps' =>
        rw [q1, q2] at e
        cases e
        exact .cons (dat0_ok d v p r1 q1) (dat0s_ok ds vr ps' r2 q2)
end
mutual
theorem dat_ok (rh : RH c ι h H) : ∀ (d : D) (v : V) (p : PyData), RV c ι H d v → dat h d = some p → Dp c.K H v p
  | .non, v, p, r, e => by simp only [dat] at e; cases e; simp only [RV] at r; subst r; exact .non
  | .bl b, v, p, r, e => by simp only [dat] at e; cases e; simp only [RV] at r; subst r; exact .bl b
  | .int b, v, p, r, e => by simp only [dat] at e; cases e; simp only [RV] at r; subst r; exact .int b
  | .str b, v, p, r, e => by simp only [dat] at e; cases e; simp only [RV] at r; subst r; exact .str b
  | .tup xs, v, p, r, e => by
    simp only [dat, Option.map_eq_some_iff] at e
    obtain ⟨ps, e1, e2⟩ := e
    subst e2
    simp only [RV] at r
    obtain ⟨q, vs, ev, rl, sq, _⟩ := r
    subst ev
    exact .tup sq (dats_ok rh xs vs ps rl e1)
  | .lst xs, v, p, r, e => by
    simp only [dat, Option.map_eq_some_iff] at e
    obtain ⟨ps, e1, e2⟩ := e
    subst e2
    simp only [RV] at r
    obtain ⟨q, vs, ev, rl, sq, _⟩ := r
    subst ev
    exact .lst (SqL.of sq) (dats_ok rh xs vs ps rl e1)
  | .bls xs, v, p, r, e => by
    simp only [dat, Option.map_eq_some_iff] at e
    obtain ⟨ps, e1, e2⟩ := e
    subst e2
    simp only [RV] at r
    obtain ⟨q, vs, ev, rl, sq, _⟩ := r
    subst ev
    exact .lst sq (dats_ok rh xs vs ps rl e1)
  | .ty _, v, p, r, e => by simp only [dat] at e; cases e
  | .glo _, v, p, r, e => by simp only [dat] at e; cases e
  | .slt _ _, v, p, r, e => by simp only [dat] at e; cases e
  | .ins _ _ _, v, p, r, e => by simp only [dat] at e; cases e
  | .dic _ _, v, p, r, e => by simp only [dat] at e; cases e
  | .obj a, v, p, r, e => by
    simp only [dat] at e
    cases q : h[a]? with
    | none => rw [q] at e; cases e
    | some o => cases o with
      | lst xs =>
        rw [q] at e
        simp only [Option.map_eq_some_iff] at e
        obtain ⟨ps, e1, e2⟩ := e
        subst e2
        simp only [RV] at r
        obtain ⟨p', ev, ip⟩ := r
        obtain ⟨p2, ip', ro⟩ := rh.obj a _ q
        rw [ip] at ip'
        cases ip'
        simp only [RO] at ro
        obtain ⟨vs, hp, rl⟩ := ro
        subst ev
        exact .lst (SqL.of hp) (dat0s_ok xs vs ps rl e1)
      | _ => rw [q] at e; cases e
theorem dats_ok (rh : RH c ι h H) : ∀ (ds : List D) (vs : List V) (ps : List PyData), RVL c ι H ds vs → dats h ds = some ps → DpAll c.K H vs ps
  | [], vs, ps, r, e => by simp only [dats] at e; cases e; rw [r.inv_nil]; exact .nil
  | d :: ds, vs, ps, r, e => by
    simp only [dats] at e
    obtain ⟨v, vr, ev, r1, r2⟩ := r.inv_cons
    subst ev
    cases q1 : dat h d with
    | none => rw [q1] at e; cases e
    | some p =>
      cases q2 : dats h ds with
      | none => rw [q1, q2] at e; cases e
      | some ps' =>
        rw [q1, q2] at e
        cases e
        exact .cons (dat_ok rh d v p r1 q1) (dats_ok rh ds vr ps' r2 q2)
end
end
def bEqG (g : Bool → Bool) : B2 := fun x y h => match dat h x, dat h y with
  | some p, some q => if SeqAt.shaped p = true ∧ SeqAt.shaped q = true then some (.bl (g (PyData.eqv p q))) else none
  | _, _ => none
def bEq : B2 := bEqG id
def bNe : B2 := bEqG not
def bInG (g : Bool → Bool) : B2 := fun x y h => match dat h x, dat h y with
  | some p, some (.list ds) => if SeqAt.shaped p = true ∧ SeqAt.shaped (.list ds) = true then some (.bl (g (ds.any fun z => PyData.eqv z p))) else none
  | _, _ => none
section
variable {T : List (Addr × Str)} {X : Cx}
theorem o_eq (hu : X.A.units + 64 < cLine) : Op2 T X (compareOp .Eq) bEq := ⟨_, op_eqD hu, fun ι H h x y v w z Q rh rv rw_ e fin => by
  unfold bEq bEqG at e
  cases q1 : dat h x with
  | none => rw [q1] at e; cases e
  | some p =>
  cases q2 : dat h y with
  | none => rw [q1, q2] at e; cases e
  | some q =>
    rw [q1, q2] at e
    simp only [] at e
    by_cases s : SeqAt.shaped p = true ∧ SeqAt.shaped q = true
    · rw [if_pos s] at e
      cases e
      exact ⟨p, q, dat_ok rh x v p rv q1, dat_ok rh y w q rw_ q2, s.1, s.2, fin ι H _ (Stp.refl _ _) rh (st_bl _ _)⟩
    · rw [if_neg s] at e; cases e⟩
theorem o_ne (hu : X.A.units + 64 < cLine) : Op2 T X (compareOp .NotEq) bNe := ⟨_, op_neD hu, fun ι H h x y v w z Q rh rv rw_ e fin => by
  unfold bNe bEqG at e
  cases q1 : dat h x with
  | none => rw [q1] at e; cases e
  | some p =>
  cases q2 : dat h y with
  | none => rw [q1, q2] at e; cases e
  | some q =>
    rw [q1, q2] at e
    simp only [] at e
    by_cases s : SeqAt.shaped p = true ∧ SeqAt.shaped q = true
    · rw [if_pos s] at e
      cases e
      exact ⟨p, q, dat_ok rh x v p rv q1, dat_ok rh y w q rw_ q2, s.1, s.2, fin ι H _ (Stp.refl _ _) rh (st_bl _ _)⟩
    · rw [if_neg s] at e; cases e⟩

/-! ### indexes -/
def bIx : B2 := fun x y h => match y with
  | .int i => (match seqOf h x with
    | some (_, xs) => atI xs i
    | none => (match x with
      | .str z => if z.length ≤ 10000000 then (atI z.cps.toList i).map fun c => .str ⟨#[c]⟩ else none
      | _ => none))
  | _ => none
theorem atI_get {c : Gx} {ι : Adr} {H : Hp} {xs : List D} {vs : List V} {i : Int} {d : D} (r : RVL c ι H xs vs) (e : atI xs i = some d) : ∃ v, atI vs i = some v ∧ RV c ι H d v := by
  unfold atI at e ⊢
  rw [r.len]
  cases q : ixN xs.length i with
  | none => rw [q] at e; cases e
  | some j => rw [q] at e; exact r.get e
theorem o_idx : Ix2 T X bIx := ⟨_, ix_seq, fun ι H h x y v w z Q rh rv rw_ e fin => by
  cases y <;> first | cases e | skip
  rename_i i
  simp only [RV] at rw_
  unfold bIx at e
  simp only [] at e
  cases q : seqOf h x with
  | some bx =>
    obtain ⟨b, xs⟩ := bx
    rw [q] at e
    simp only [] at e
    obtain ⟨p, vs, ev, sq, rl⟩ := seq_at rh rv q
    obtain ⟨u, hu, ru⟩ := atI_get rl e
    have k := fin ι H u (Stp.refl _ _) rh ru
    cases b with
    | true => exact .inl ⟨p, vs, i, u, ev, rw_, sq, hu, k⟩
    | false => exact .inr (.inl ⟨p, vs, i, u, ev, rw_, sq, hu, k⟩)
  | none =>
    rw [q] at e
    simp only [] at e
    cases x with
    | str s =>
      simp only [] at e
      by_cases hl : s.length ≤ 10000000
      · rw [if_pos hl] at e
        simp only [Option.map_eq_some_iff] at e
        obtain ⟨ch, ec, ez⟩ := e
        subst ez
        simp only [RV] at rv
        exact .inr (.inr ⟨s, i, ch, rv, rw_, ten_line hl, ec, fin ι H _ (Stp.refl _ _) rh (st_str _ _)⟩)
      · rw [if_neg hl] at e; cases e
    | _ => cases e⟩

/-! ### slices -/
def cutD {α : Type} (xs : List α) (lo hi : Option Int) : List α := (xs.drop (HT.sIx xs.length 0 lo)).take (HT.sIx xs.length xs.length hi - HT.sIx xs.length 0 lo)
theorem RVL.cutD {c : Gx} {ι : Adr} {H : Hp} {xs : List D} {vs : List V} (lo hi : Option Int) (r : RVL c ι H xs vs) : RVL c ι H (ML.cutD xs lo hi) (cutV vs lo hi) := by
  unfold ML.cutD cutV
  rw [r.len]
  exact (r.drop _).take _
def mPart (m : Option ME) : Env → VH → R (Option Int) := fun ρ h => match m with
  | none => ok none h
  | some m => bnd (m ρ h) fun d h1 => match d with
    | .int i => ok (some i) h1
    | _ => none
def slD (d : D) (lo hi : Option Int) (h : VH) : Option D := match seqOf h d with
  | some (true, xs) => some (.lst (cutD xs lo hi))
  | some (false, xs) => some (.tup (cutD xs lo hi))
  | none => (match d with
    | .str z => if z.length ≤ 10000000 then some (.str (cutS z lo hi)) else none
    | _ => none)
def mSl (m : ME) (l u : Option ME) : ME := fun ρ h => bnd (m ρ h) fun d h1 => bnd (mPart l ρ h1) fun lo h2 => bnd (mPart u ρ h2) fun hi h3 => got (slD d lo hi h3) h3
end
end ML
/-! the text M13 -/
/-! M13: slices and built-in functions. -/
namespace ML
open PySem PySem.Spec PyProof.Rows L2
section
variable {T : List (Addr × Str)} {X : Cx}
variable {W : WW} {e : Expr} {lo hi : Option Expr} {m : ME} {ml mu : Option ME} {pos p2 : Pos}
def KO (c : Gx) (W : WW) (ι : Adr) (H : Hp) (σ : L2.St) (Q : Option Int → Hp → Prop) (h' : VH) : Except Xc (Option Int) → Prop
  | .ok o => ∀ ι' H', Stp ι H ι' H' → RH c ι' h' H' → Q o H'
  | .error x => ∀ ι' H' cls dd, Stp ι H ι' H' → RH c ι' h' H' → RX c ι' H' x cls dd → W cls dd σ H'
def tPO (c : Gx) (W : WW) (ml : Option ME) : TO := fun σ H Q => ∃ ι ρ h r h', RS c W ι H ρ σ ∧ RH c ι h H ∧ mPart ml ρ h = some (r, h') ∧ KO c W ι H σ Q h' r
theorem po_no : PO X none (tPO (gx T X) W none) := ⟨fun pins s σ H Q I ⟨ι, ρ, h, r, h', rs, rh, e, k⟩ => po_none.run pins s σ H Q I (by
  cases e
  exact k ι H (Stp.refl _ _) rh)⟩
theorem po_ex (he : PE X e (tE (gx T X) W m)) : PO X (some e) (tPO (gx T X) W (some m)) := ⟨fun pins s σ H Q I ⟨ι, ρ, h, r, h', rs, rh, em, k⟩ => (po_some he).run pins s σ H Q I (by
  refine part (P := fun ι H r => KO (gx T X) W ι H σ Q h' r) (k := fun d h1 => match d with | .int i => ok (some i) h1 | _ => none) rs rh em k (fun _ _ _ z => z) (fun ι1 H1 st => ?_) fun ι1 H1 v h1 d st1 rs1 rh1 rv1 e1 ke1 => ?_
  · cases r with
    | ok d => exact fun ι' H' s a => k ι' H' (st.trans s) a
    | error x => exact fun ι' H' cls dd s a b => k ι' H' cls dd (st.trans s) a b
  · cases d with
    | int i =>
      obtain ⟨er, eh⟩ := ok_eq e1
      subst er; subst eh
      simp only [RV] at rv1
      exact ⟨i, rv1, ke1 ι1 H1 (Stp.refl _ _) rh1⟩
    | _ => cases e1)⟩
theorem whole {xs : List V} {lo hi : Option Int} (h : HT.sIx xs.length 0 lo = 0 ∧ HT.sIx xs.length xs.length hi = xs.length) : cutV xs lo hi = xs := by
  unfold cutV
  rw [h.1, h.2]
  simp
theorem m_slice (he : PE X e (tE (gx T X) W m)) (hl : PO X lo (tPO (gx T X) W ml)) (hu : PO X hi (tPO (gx T X) W mu)) : PE X (.Subscript e (.Slice lo hi none p2) pos) (tE (gx T X) W (mSl m ml mu)) := by
  refine peI (pe_slice (sl_list.or (sl_tupA.or sl_str)) he hl hu) fun σ H Q ⟨ι, ρ, h, r, h', rs, rh, em, ke⟩ => ?_
  refine partE rs rh em ke fun ι1 H1 v h1 d st1 rs1 rh1 rv1 e1 ke1 => ?_
  cases q1 : mPart ml ρ h1 with
  | none => rw [q1] at e1; cases e1
  | some z1 =>
  obtain ⟨r2, h2⟩ := z1
  rw [q1] at e1
  refine ⟨ι1, ρ, h1, r2, h2, rs1, rh1, q1, ?_⟩
  cases r2 with
  | error x =>
    have e' : some ((Except.error x : Except Xc D), h2) = some (r, h') := e1
    cases e'
    exact fun ι' H' cls dd st a b => ke1 ι' H' cls dd st a b
  | ok lo' =>
  simp only [bnd_ok] at e1
  intro ι2 H2 st2 rh2
  cases q2 : mPart mu ρ h2 with
  | none => rw [q2] at e1; cases e1
  | some z2 =>
  obtain ⟨r3, h3⟩ := z2
  rw [q2] at e1
  refine ⟨ι2, ρ, h2, r3, h3, rs1.step st2, rh2, q2, ?_⟩
  cases r3 with
  | error x =>
    have e' : some ((Except.error x : Except Xc D), h3) = some (r, h') := e1
    cases e'
    exact fun ι' H' cls dd st a b => ke1 ι' H' cls dd (st2.trans st) a b
  | ok hi' =>
  simp only [bnd_ok] at e1
  intro ι3 H3 st3 rh3
  obtain ⟨z, ez, er, eh⟩ := got_eq e1
  subst er; subst eh
  have rv3 := RV.step (st2.trans st3) d v rv1
  have ke3 := ke1.on (st2.trans st3)
  unfold slD at ez
  cases q : seqOf h' d with
  | some bx =>
    obtain ⟨b, xs⟩ := bx
    rw [q] at ez
    obtain ⟨p, vs, ev, sq, rl⟩ := seq_at rh3 rv3 q
    have rc := RVL.cutD lo' hi' rl
    cases b with
    | true =>
      cases ez
      exact .inl ⟨p, vs, ev, sq, fun p' n => ke3 _ _ _ (rh3.newStp n) (rh3.new n) (rv_lst rh3 n rc)⟩
    | false =>
      cases ez
      refine .inr (.inl ⟨p, vs, ev, sq, fun hw => ?_, fun _ p' n => ke3 _ _ _ (rh3.newStp n) (rh3.new n) (rv_tup rh3 n rc)⟩)
      have ec : cutD xs lo' hi' = xs := by
        unfold cutD
        rw [← rl.len, hw.1, hw.2]
        simp [rl.len]
      refine ke3 ι3 H3 _ (Stp.refl _ _) rh3 ?_
      rw [ec]
      cases d with
      | tup ys =>
        simp only [seqOf, Option.some.injEq, Prod.mk.injEq] at q
        rw [← q.2, ← ev]
        exact rv3
      | lst ys => simp [seqOf] at q
      | bls ys => simp [seqOf] at q
      | obj a =>
        simp only [seqOf] at q
        cases q5 : h'[a]? with
        | none => rw [q5] at q; cases q
        | some o => cases o <;> (rw [q5] at q; cases q)
      | _ => simp [seqOf] at q
  | none =>
    rw [q] at ez
    cases d with
    | str s =>
      simp only [] at ez
      by_cases hl : s.length ≤ 10000000
      · rw [if_pos hl] at ez
        cases ez
        simp only [RV] at rv3
        exact .inr (.inr ⟨s, rv3, ten_line hl, ke3 ι3 H3 _ (Stp.refl _ _) rh3 (st_str _ _)⟩)
      · rw [if_neg hl] at ez; cases ez
    | _ => cases ez

/-! ### built-in functions -/
def on1 (g : D → Option D) : List D → Option D
  | [d] => g d
  | _ => none
def on2 (g : D → D → Option D) : List D → Option D
  | [d, e] => g d e
  | _ => none
theorem on1_inv {g : D → Option D} {xs : List D} {z : D} (e : on1 g xs = some z) : ∃ d, xs = [d] ∧ g d = some z := by
  match xs, e with
  | [d], e => exact ⟨d, rfl, e⟩
theorem on2_inv {g : D → D → Option D} {xs : List D} {z : D} (e : on2 g xs = some z) : ∃ d f, xs = [d, f] ∧ g d f = some z := by
  match xs, e with
  | [d, f], e => exact ⟨d, f, rfl, e⟩
def int2 (g : Int → Int → Option D) : D → D → Option D
  | .int i, .int j => g i j
  | _, _ => none
theorem int2_inv {g : Int → Int → Option D} {x y z : D} (e : int2 g x y = some z) : ∃ i j, x = .int i ∧ y = .int j ∧ g i j = some z := by
  cases x <;> first | (cases e; done) | skip
  cases y <;> first | (cases e; done) | skip
  exact ⟨_, _, rfl, rfl, e⟩
theorem one_v {c : Gx} {ι : Adr} {H : Hp} {d : D} {vs : List V} (rv : RVL c ι H [d] vs) : ∃ v, vs = [v] ∧ RV c ι H d v := by
  obtain ⟨v, vr, ev, r1, r2⟩ := rv.inv_cons
  have r3 := r2.inv_nil
  subst r3
  exact ⟨v, ev, r1⟩
def cLen : List D → VH → Option D := fun xs h => match xs with
  | [d] => (match seqOf h d with
    | some (_, ys) => some (.int ys.length)
    | none => (match d with
      | .str z => if z.length ≤ 10000000 then some (.int z.length) else none
      | _ => none))
  | _ => none
theorem c_len : Cal T X (.builtin "len") cLen := ⟨_, call_len, fun ι H h xs vs z Q rh rv e fin => by
  match xs, rv, e with
  | [d], rv, e =>
    obtain ⟨v, vr, ev, r1, r2⟩ := rv.inv_cons
    have r3 := r2.inv_nil
    subst r3; subst ev
    unfold cLen at e
    simp only [] at e
    cases q : seqOf h d with
    | some bx =>
      obtain ⟨b, ys⟩ := bx
      rw [q] at e
      cases e
      obtain ⟨p, ws, ev, sq, rl⟩ := seq_at rh r1 q
      subst ev
      refine ⟨_, ys.length, rfl, ?_, fin ι H _ (Stp.refl _ _) rh (st_int _ _)⟩
      cases b with
      | true => exact .inl ⟨ws, sq, rl.len.symm⟩
      | false => exact .inr ⟨ws, sq, rl.len.symm⟩
    | none =>
      rw [q] at e
      cases d with
      | str s =>
        simp only [] at e
        by_cases hl : s.length ≤ 10000000
        · rw [if_pos hl] at e
          cases e
          simp only [RV] at r1
          subst r1
          exact ⟨_, s.length, rfl, ⟨ten_line hl, rfl⟩, fin ι H _ (Stp.refl _ _) rh (st_int _ _)⟩
        · rw [if_neg hl] at e; cases e
      | _ => cases e⟩
def intsOf : List D → Option (List Int)
  | [] => some []
  | .int i :: r => (intsOf r).map (i :: ·)
  | _ => none
theorem intsOf_ok {c : Gx} {ι : Adr} {H : Hp} : ∀ {xs : List D} {vs : List V} {ns : List Int}, RVL c ι H xs vs → intsOf xs = some ns → vs = ns.map V.int
  | [], vs, ns, r, e => by simp only [intsOf] at e; cases e; rw [r.inv_nil]; rfl
  | d :: xs, vs, ns, r, e => by
    obtain ⟨v, vr, ev, r1, r2⟩ := r.inv_cons
    cases d <;> first | (simp only [intsOf] at e; cases e; done) | skip
    simp only [intsOf, Option.map_eq_some_iff] at e
    obtain ⟨ms, e1, e2⟩ := e
    subst e2
    simp only [RV] at r1
    rw [ev, r1, intsOf_ok r2 e1]
    rfl
def blsOf : List D → Option (List Bool)
  | [] => some []
  | .bl i :: r => (blsOf r).map (i :: ·)
  | _ => none
theorem blsOf_ok {c : Gx} {ι : Adr} {H : Hp} : ∀ {xs : List D} {vs : List V} {ns : List Bool}, RVL c ι H xs vs → blsOf xs = some ns → vs = ns.map V.bl
  | [], vs, ns, r, e => by simp only [blsOf] at e; cases e; rw [r.inv_nil]; rfl
  | d :: xs, vs, ns, r, e => by
    obtain ⟨v, vr, ev, r1, r2⟩ := r.inv_cons
    cases d <;> first | (simp only [blsOf] at e; cases e; done) | skip
    simp only [blsOf, Option.map_eq_some_iff] at e
    obtain ⟨ms, e1, e2⟩ := e
    subst e2
    simp only [RV] at r1
    rw [ev, r1, blsOf_ok r2 e1]
    rfl
def rSumT (K : PySem.W.Frag) : List V → Hp → VK → Prop := fun vs H Q => ∃ (a : Addr) (ns : List Int), vs = [V.ref a] ∧ SqT K H a (ns.map V.int) ∧ Q (.int ns.sum) H
theorem cr_sumT (hc : X.calm = true) : CallR X (.builtin "sum") (rSumT X.K) := by
  intro pins s σ H vs us Q I r h
  obtain ⟨a, ns, rfl, hs, q⟩ := h
  obtain ⟨its, rv, hl, _⟩ := I.tuple hs
  rw [Vals.ref1 r]
  have hi := rv.ints
  obtain ⟨xs, e⟩ := hi.allInts.items
  have hn : numsOf (intItems xs).toList = ns := by rw [← e]; exact hi.numsOf
  rw [nums_intItems] at hn
  have hl' : s.heap.IsTuple a its.toArray := hl
  rw [e] at hl'
  refine PySem.W.ktm_sumG (I.ok.hd hc) hl' fun h' tk t' hk => ?_
  rw [preSum_eq, List.take_of_length_le (by simp), hn]
  exact ⟨.int _, H, I.kept hk, ⟨_, rfl⟩, q⟩
def cSum : List D → VH → Option D := fun xs h => match xs with
  | [d] => (match seqOf h d with
    | some (_, ys) => (intsOf ys).map fun ns => .int ns.sum
    | none => none)
  | _ => none
def cAllG (g : List Bool → Bool) : List D → VH → Option D := fun xs h => match xs with
  | [d] => (match seqOf h d with
    | some (true, ys) => (blsOf ys).map fun ns => .bl (g ns)
    | _ => none)
  | _ => none
theorem c_sum (hc : X.calm = true) : Cal T X (.builtin "sum") cSum := ⟨_, (cr_sum hc).or (cr_sumT hc), fun ι H h xs vs z Q rh rv e fin => by
  match xs, rv, e with
  | [d], rv, e =>
    obtain ⟨v, vr, ev, r1, r2⟩ := rv.inv_cons
    have r3 := r2.inv_nil
    subst r3; subst ev
    unfold cSum at e
    simp only [] at e
    cases q : seqOf h d with
    | none => rw [q] at e; cases e
    | some bx =>
      obtain ⟨b, ys⟩ := bx
      rw [q] at e
      simp only [Option.map_eq_some_iff] at e
      obtain ⟨ns, en, ez⟩ := e
      subst ez
      obtain ⟨p, ws, ev, sq, rl⟩ := seq_at rh r1 q
      have ew := intsOf_ok rl en
      subst ev; subst ew
      have k := fin ι H _ (Stp.refl _ _) rh (st_int _ _)
      cases b with
      | true => exact .inl ⟨p, ns, rfl, sq, k⟩
      | false => exact .inr ⟨p, ns, rfl, sq, k⟩⟩
theorem c_all (hc : X.calm = true) : Cal T X (.builtin "all") (cAllG fun ns => ns.all id) := ⟨_, cr_all hc, fun ι H h xs vs z Q rh rv e fin => by
  match xs, rv, e with
  | [d], rv, e =>
    obtain ⟨v, vr, ev, r1, r2⟩ := rv.inv_cons
    have r3 := r2.inv_nil
    subst r3; subst ev
    unfold cAllG at e
    simp only [] at e
    cases q : seqOf h d with
    | none => rw [q] at e; cases e
    | some bx =>
      obtain ⟨b, ys⟩ := bx
      cases b with
      | false => rw [q] at e; cases e
      | true =>
      rw [q] at e
      simp only [Option.map_eq_some_iff] at e
      obtain ⟨ns, en, ez⟩ := e
      subst ez
      obtain ⟨p, ws, ev, sq, rl⟩ := seq_at rh r1 q
      have ew := blsOf_ok rl en
      subst ev; subst ew
      exact ⟨p, ns, rfl, sq, fin ι H _ (Stp.refl _ _) rh (st_bl _ _)⟩⟩
theorem c_any (hc : X.calm = true) : Cal T X (.builtin "any") (cAllG fun ns => ns.any id) := ⟨_, cr_any hc, fun ι H h xs vs z Q rh rv e fin => by
  match xs, rv, e with
  | [d], rv, e =>
    obtain ⟨v, vr, ev, r1, r2⟩ := rv.inv_cons
    have r3 := r2.inv_nil
    subst r3; subst ev
    unfold cAllG at e
    simp only [] at e
    cases q : seqOf h d with
    | none => rw [q] at e; cases e
    | some bx =>
      obtain ⟨b, ys⟩ := bx
      cases b with
      | false => rw [q] at e; cases e
      | true =>
      rw [q] at e
      simp only [Option.map_eq_some_iff] at e
      obtain ⟨ns, en, ez⟩ := e
      subst ez
      obtain ⟨p, ws, ev, sq, rl⟩ := seq_at rh r1 q
      have ew := blsOf_ok rl en
      subst ev; subst ew
      exact ⟨p, ns, rfl, sq, fin ι H _ (Stp.refl _ _) rh (st_bl _ _)⟩⟩
def cTuple : List D → VH → Option D := fun xs h => match xs with
  | [d] => (match seqOf h d with
    | some (_, ys) => some (.tup ys)
    | none => none)
  | _ => none
theorem c_tuple : Cal T X (.type "tuple") cTuple := ⟨_, call_tuple_of, fun ι H h xs vs z Q rh rv e fin => by
  match xs, rv, e with
  | [d], rv, e =>
    obtain ⟨v, vr, ev, r1, r2⟩ := rv.inv_cons
    have r3 := r2.inv_nil
    subst r3; subst ev
    unfold cTuple at e
    simp only [] at e
    cases q : seqOf h d with
    | none => rw [q] at e; cases e
    | some bx =>
      obtain ⟨b, ys⟩ := bx
      rw [q] at e
      cases e
      obtain ⟨p, ws, ev, sq, rl⟩ := seq_at rh r1 q
      subst ev
      refine ⟨p, ws, rfl, ?_⟩
      cases b with
      | true => exact .inl ⟨sq, fun l n => fin _ _ _ (rh.newStp n) (rh.new n) (rv_tup rh n rl)⟩
      | false =>
        refine .inr ⟨sq, fin ι H _ (Stp.refl _ _) rh ?_⟩
        cases d with
        | tup zs =>
          simp only [seqOf, Option.some.injEq, Prod.mk.injEq] at q
          rw [← q.2]
          exact r1
        | lst zs => simp [seqOf] at q
        | bls zs => simp [seqOf] at q
        | obj a =>
          simp only [seqOf] at q
          cases q5 : h[a]? with
          | none => rw [q5] at q; cases q
          | some o => cases o <;> (rw [q5] at q; cases q)
        | _ => simp [seqOf] at q⟩
def cAbs : List D → VH → Option D := fun xs _ => on1 (fun d => match d with | .int i => some (.int (if i < 0 then -i else i)) | _ => none) xs
def cInt : List D → VH → Option D := fun xs _ => on1 (fun d => match d with
  | .int i => some (.int i)
  | .bl b => some (.int (if b then 1 else 0))
  | _ => none) xs
theorem c_abs : Cal T X (.builtin "abs") cAbs := ⟨_, call_abs, fun ι H h xs vs z Q rh rv e fin => by
  obtain ⟨d, e1, e2⟩ := on1_inv e
  subst e1
  obtain ⟨v, ev, r1⟩ := one_v rv
  subst ev
  cases d <;> first | (cases e2; done) | skip
  cases e2
  simp only [RV] at r1
  subst r1
  exact ⟨_, rfl, fin ι H _ (Stp.refl _ _) rh (st_int _ _)⟩⟩
theorem c_int1 : Cal T X (.type "int") cInt := ⟨_, call_int1, fun ι H h xs vs z Q rh rv e fin => by
  obtain ⟨d, e1, e2⟩ := on1_inv e
  subst e1
  obtain ⟨v, ev, r1⟩ := one_v rv
  subst ev
  cases d with
  | int i =>
    cases e2
    simp only [RV] at r1
    subst r1
    exact .inl ⟨_, rfl, fin ι H _ (Stp.refl _ _) rh (st_int _ _)⟩
  | bl i =>
    cases e2
    simp only [RV] at r1
    subst r1
    exact .inr ⟨_, rfl, fin ι H _ (Stp.refl _ _) rh (st_int _ _)⟩
  | _ => cases e2⟩
theorem two_int {c : Gx} {ι : Adr} {H : Hp} {i j : Int} {vs : List V} (rv : RVL c ι H [.int i, .int j] vs) : vs = [.int i, .int j] := by
  obtain ⟨v, vr, ev, r1, r2⟩ := rv.inv_cons
  obtain ⟨w, vr2, ew, r3, r4⟩ := r2.inv_cons
  have r5 := r4.inv_nil
  simp only [RV] at r1 r3
  subst r5; subst r3; subst r1; subst ew; exact ev
def cInt2 (g : Int → Int → Int) : List D → VH → Option D := fun xs _ => on2 (int2 fun i j => some (.int (g i j))) xs
theorem c_max2 (hc : X.calm = true) : Cal T X (.builtin "max") (cInt2 fun i j => if j > i then j else i) := ⟨_, call_max2 hc, fun ι H h xs vs z Q rh rv e fin => by
  obtain ⟨d, f, e1, e2⟩ := on2_inv e
  obtain ⟨i, j, e3, e4, e5⟩ := int2_inv e2
  subst e1; subst e3; subst e4
  cases e5
  exact ⟨i, j, two_int rv, fin ι H _ (Stp.refl _ _) rh (st_int _ _)⟩⟩
theorem c_min2 (hc : X.calm = true) : Cal T X (.builtin "min") (cInt2 fun i j => if j < i then j else i) := ⟨_, call_min2 hc, fun ι H h xs vs z Q rh rv e fin => by
  obtain ⟨d, f, e1, e2⟩ := on2_inv e
  obtain ⟨i, j, e3, e4, e5⟩ := int2_inv e2
  subst e1; subst e3; subst e4
  cases e5
  exact ⟨i, j, two_int rv, fin ι H _ (Stp.refl _ _) rh (st_int _ _)⟩⟩
def dvOk (i j : Int) : Bool := decide (0 < j) && !Builtin.divisionGoesByPylong i j
def cDivmod : List D → VH → Option D := fun xs _ => on2 (int2 fun i j => if dvOk i j = true then some (.tup [.int (i / j), .int (i % j)]) else none) xs
theorem c_divmod : Cal T X (.builtin "divmod") cDivmod := ⟨_, call_divmodW, fun ι H h xs vs z Q rh rv e fin => by
  obtain ⟨d, f, e1, e2⟩ := on2_inv e
  obtain ⟨i, j, e3, e4, e5⟩ := int2_inv e2
  subst e1; subst e3; subst e4
  by_cases q : dvOk i j = true
  · rw [if_pos q] at e5
    cases e5
    have q' : decide (0 < j) = true ∧ (!Builtin.divisionGoesByPylong i j) = true := Bool.and_eq_true_iff.mp q
    exact ⟨i, j, two_int rv, ⟨of_decide_eq_true q'.1, by simpa using q'.2⟩, fun p n => fin _ _ _ (rh.newStp n) (rh.new n) (rv_pair rh n (st_int _ _) (st_int _ _))⟩
  · rw [if_neg q] at e5; cases e5⟩
end
end ML
/-! the text M14 -/
/-! M14: own exceptions with one field over any built-in error; raised. -/
namespace ML
open PySem PySem.Spec PyProof.Rows L2

section
variable {prog : Program} {w : World} {A : Around} {R : Result → Shared → Prop} {s : Shared} {K : PySem.W.Frag} {B : String} {bmB : List Value} {x C t : Addr} {name : Str} {tk : Tok} {v : Value}
theorem x_osa (SF : StoreFacts B bmB "object.__setattr__" "object") (X : K.In s.heap) (hx : s.heap.get? x = some (PySem.W.excObj C t none .none)) (hp : PySem.W.excOver K C bmB = true) (ht : PySem.W.takerIn K C name = some none) (hh : PySem.W.hasDictIn K C = true)
    (k : ∀ g tk' dx, (∀ b o, b ≠ x → s.heap.get? b = some o → g.get? b = some o) → s.heap.objs.size ≤ dx → dx ≠ x → g.get? x = some (PySem.W.excObj C t (some dx) .none) → g.Ns1 dx (fun y => if y = name then some v else none) → R (.ok (.ret .none)) { s with heap := g, toks := tk' }) :
    codeAny (model prog w) A (.call (.builtin "object.__setattr__") ⟨[.ref x, .str name tk, v], []⟩) R s := by
  refine PySem.W.osa_openX (od := none) SF X ⟨hx, rfl, rfl, trivial⟩ hp ht fun b => ?_
  obtain ⟨cd, hc, hd'⟩ := PySem.W.any_some hh
  have xs : x < s.heap.objs.size := Heap.lt_size hx
  refine wpAny_bind (wpAny_pure (wpAny_bind (PySem.W.instanceDict_exc hx (PySem.W.looks_clsIn X hc) hd' ?_)))
  show wpAny _ _ (Builtin.ObjectAttr.storeInDict s.heap.objs.size (.str name tk) name v) _ _ _
  have hx1 : (s.heap.push (PySem.W.dictOf [] 0)).get? x = some (PySem.W.excObj C t none .none) := Heap.get?_push_of_some _ hx
  refine PySem.HandSPX.store_in_new (hp := (s.heap.push (PySem.W.dictOf [] 0)).update x fun o => { o with dict := some s.heap.objs.size }) ⟨_, #[], _, (Heap.get?_update_ne _ _ _ _ (Nat.ne_of_gt xs)).trans (Heap.get?_push_at rfl rfl), rfl, fun e he => absurd he (by simp), fun _ => rfl⟩ fun g tk' hn hs => ?_
  refine k g tk' s.heap.objs.size (fun b o hb ho => ?_) (Nat.le_refl _) (Nat.ne_of_gt xs) ?_ hn
  · exact (hs.2 b (Nat.ne_of_lt (Heap.lt_size ho))).trans ((Heap.get?_update_ne _ _ _ _ hb).trans (Heap.get?_push_of_some _ ho))
  · exact (hs.2 x (Nat.ne_of_lt xs)).trans (Heap.get?_update_self _ hx1 rfl)
end

section
variable {X : Cx} {pins : List (Addr × Obj)} {σ : L2.St} {H : Hp} {s : Shared} {a C fI : Addr} {f : Str} {y : V} {u : Value} {B newId initId : String} {bmB : List Value} {Q : Unit → Shared → Prop} {E : Value → Shared → Prop} {A : Around}
theorem x_first (T : ExK X.K C B newId initId bmB f fI) (SF : StoreFacts B bmB "object.__setattr__" "object") (I : Inv X pins σ H s) (e : H a = some (exo a C none)) (ry : RelV y u)
    (k : ∀ dx s', H dx = none → dx ≠ a → Inv X pins σ (upd (upd H dx (exd dx [(f, y)])) a (exo a C (some dx))) s' → Q () s') : wpAny (model X.prog X.w) A (setAttr (.ref a) f u) Q E s := by
  obtain ⟨t1, ho⟩ := exo_at I.hok e
  obtain ⟨hp, g, d, t, os⟩ := s
  refine PySem.W.set_plain I.kIn (ox := PySem.W.excObj C t1 none .none) (od := none) ⟨ho, rfl, rfl, trivial⟩ T.sa ?_
  refine x_osa SF I.kIn ho T.ovr (NoAttr.taker T.noat) T.dct (fun h' tk' dx kp dn dne hx hn => ?_)
  have hnd : H dx = none := I.hok.fresh dn
  have old : ∀ {b : Addr} {o : Obj}, hp.get? b = some o → b ≠ dx := fun {b o} q => Nat.ne_of_lt (Nat.lt_of_lt_of_le (Heap.lt_size q) dn)
  have na : ∀ {b : Addr}, H b = none → b ≠ a := fun {b} n z => by subst z; rw [e] at n; cases n
  refine k dx _ hnd dne (I.un (t' := tk') ⟨fun b o q n _ _ => kp b o (na n) q, fun b o q n _ _ => ⟨o.slots, kp b o (na n) q⟩, fun b o q n _ => by rw [upd_ne (na n), upd_ne (old q)]; exact n, fun b o q _ => ?_,
    fun b xs q => by rw [upd_ne (at_ne e q exo_tup), upd_ne (ne_of_none q hnd)]; exact q, fun b o v q => by rw [upd_ne (at_ne e q exo_frz), upd_ne (ne_of_none q hnd)]; exact q,
    fun b ps q => ⟨#[], by rw [upd_ne (at_ne e q exo_tbl), upd_ne (ne_of_none q hnd), q]; simp⟩⟩ fun b o q => ?_)
  · by_cases hb : b = a
    · subst hb; exact ⟨_, hx⟩
    · exact ⟨o, kp b o hb q⟩
  · by_cases hb : b = a
    · subst hb
      rw [upd_same] at q
      cases q
      exact exo_ok hx
    · rw [upd_ne hb] at q
      by_cases hd : b = dx
      · subst hd
        rw [upd_same] at q
        cases q
        exact exd_ok hn (relO_put (fs := []) ry fun g => True.intro)
      · rw [upd_ne hd] at q
        refine (I.hok b o q).stay (fun c v hc z => kp c v ?_ z) (fun c hc => by rw [upd_ne (at_ne e hc exo_own), upd_ne (ne_of_none hc hnd)]; exact hc) (fun c xs hc => by rw [upd_ne (at_ne e hc exo_tup), upd_ne (ne_of_none hc hnd)]; exact hc)
        rcases hc with hc | hc
        · rw [hc]; exact hb
        · exact at_ne e hc exo_own
end
/-- what __init__ does: self.f = given -/
def spX (C : Addr) (f : Str) : Sp := fun vs H Q _ => ∃ a y, vs = [.ref a, y] ∧ H a = some (exo a C none) ∧ ∀ dx, H dx = none → dx ≠ a → Q .non (upd (upd H dx (exd dx [(f, y)])) a (exo a C (some dx)))
theorem x_init {P : Program} {w : World} {K : PySem.W.Frag} {mg : Str → Option Value} {base : Heap} {k : Nat} {fI C : Addr} {name qual f g : Str} {params : Arguments} {scope : Scope} {dV kV doc pm cdv ct oc : Value} {an od : Option Addr} {osl : Array (Option Value)} {CX : CXT} {B newId initId : String} {bmB : List Value} {p1 p2 p3 p4 : Pos}
    (lk : K.lookup fI = some ⟨oc, od, .func (PySem.W.fnOf name qual params [.Assign [.Attribute (.Name "self" p1) f p2] (.Name g p3) p4] scope dV kV doc pm an cdv ct), osl⟩) (hcd : PySem.W.codeIn K cdv qual = true) (S : FnScope ["self", g] ["self", g] scope) (T : ExK K C B newId initId bmB f fI) (SF : StoreFacts B bmB "object.__setattr__" "object")
    (hg : (g == ("__debug__" : Str)) = false) (hg2 : (g == ("__classdict__" : Str)) = false)
    (hb : Binds K (PySem.W.fnOf name qual params [.Assign [.Attribute (.Name "self" p1) f p2] (.Name g p3) p4] scope dV kV doc pm an cdv ct) ["self", g] []) : FnR P w K mg base CX (k + 1) fI (spX C f) := by
  have F : FnOk P w K mg base CX (k + 1) fI (PySem.W.fnOf name qual params [.Assign [.Attribute (.Name "self" p1) f p2] (.Name g p3) p4] scope dV kV doc pm an cdv ct) ["self", g] (spX C f) := by
    refine fn_of lk hcd S (fun vs H Q E ⟨a, y, e, _⟩ => by rw [e]; rfl) fun A outer s H vs Q E hr ⟨a, y, ev, ea, q⟩ => ?_
    subst ev
    have vis : ∀ z ∈ (["self", g] : List Str), Vis scope z := fun z hz => (S.par z hz).elim .inl fun k => .inr (.inl k)
    refine ⟨fun D σ H => σ[0]? = some (some (.ref a)) ∧ σ[1]? = some (some y) ∧ H a = some (exo a C none) ∧ ∀ dx, H dx = none → dx ≠ a → D.nx σ (upd (upd H dx (exd dx [(f, y)])) a (exo a C (some dx))), pss_one ⟨fun pins s' σ H' D I ⟨h1, h2, h3, h4⟩ => ?_⟩, rfl, rfl, ea, fun dx n ne => q dx n ne⟩
    refine plainObj_wpAny_Assign_Attribute (thn ((pe_var (i := 1) (x := g) rfl (vis g (by simp)) hg hg2).run pins s' σ H' (fun v H1 => v = y ∧ H1 = H') I ⟨y, h2, rfl, rfl⟩) fun uy s1 ⟨v, H1, I1, r1, e1, e2⟩ => thn ((pe_var (i := 0) (x := "self") rfl (vis "self" (by simp))).run pins s1 σ H1 (fun v H2 => v = .ref a ∧ H2 = H') I1 ⟨.ref a, h1, rfl, e2⟩) fun u s2 ⟨v2, H2, I2, r2, e3, e4⟩ => ?_) rfl
    subst e1 e3 e4
    obtain rfl : u = Value.ref a := r2
    exact x_first T SF I2 h3 r1 fun dx s3 n ne J => ⟨σ, _, J, h4 dx n ne⟩
  exact FnR.imp (F.raw hb (dvs := []) .nil) fun vs H Q E h => by rw [List.append_nil]; exact h

/-! ### C(e), raised -/
section
variable {T : List (Addr × Str)} {X : Cx} {W : WW} {k : Nat} {x f : Str} {C fI : Addr} {B newId initId : String} {bmB : List Value} {e : Expr} {m : ME} {p pos pos' : Pos} {te : TE}
theorem mk_endN {pins : List (Addr × Obj)} {σ : L2.St} {H1 H2 : Hp} {Q : XK} {hp hp2 h2 : Heap} {g1 g2 : Array GenState} {d1 d2 : Drawn} {t1 t2 : Nat} {os1 os2 : OsState} {a C d : Addr} {fs : List (Str × V)} (R : Raises X (.ref C)) (I1 : Inv X pins σ H1 ⟨hp, g1, d1, t1, os1⟩) (ha : hp.objs.size ≤ a)
    (k : ∀ b o, hp.get? b = some o → hp2.get? b = some o) (un : Un (frs X.stack) [] (upd H1 a (exo a C none)) H2 hp2 h2) (hok : HOk X.prog X.w H2 h2) (ho : os2 = os1) (hb : AllBare g2) (ea : H2 a = some (exo a C (some d))) (ed : H2 d = some (exd d fs)) (hd1 : H1 d = none) (q : Q (.ref C) (some d) (upd (del H2 a) d (.xd fs))) :
    L2N.MkP X pins σ Q (.ref a) ⟨h2, g2, d2, t2, os2⟩ := by
  obtain ⟨t0, G, J, kG, ge, he, na⟩ := mk_end0 (d2 := d2) (t2 := t2) I1 ha k un hok ho hb ea ed hd1
  exact ⟨a, _, _, ⟨G, g2, d2, t2, os2⟩, _, .ref C, some d, rfl, J, kG, ge, he, ⟨rfl, rfl, fun vs e => by cases e; rfl⟩, rfl, rfl, na, rfl, hb, R, q⟩
theorem x_make (F : ExcBaseFacts B newId initId bmB) (E : ExK X.K C B newId initId bmB f fI) (G : FnR X.prog X.w X.K X.mg X.base (L2N.CX X.prog X.w) k fI (spX C f)) (hr : Room (k + 1) X.A) (hg : Gl X x) (hm : X.mg x = some (.ref C)) (he : PE X e te) (hdb : (x == ("__debug__" : Str)) = false := by decide)
    (hse : starEach [e] X.env = (false, eval e X.env) :: starEach [] X.env := by rfl) (hpl : (backTo pos (starEach [] X.env)).any (·.1) = false := by rfl) :
    L2N.PMk X (.Call (.Name x p) [e] [] pos) (fun σ H Q => te σ H fun y H1 => ∀ dx, H1 dx = none → Q (.ref C) (some dx) (upd H1 dx (.xd [(f, y)]))) := by
  intro pins s σ H Q I h
  refine wpAny_Call_Name_kw (ld_glob I hg hm ?_ hdb)
  refine PySem.W.callWith_K (h₀ := X.base) I.ok.mod.kin E.kC (thn ((pa_cons he pa_nil hse).run pos pins s σ H (fun vs H1 => match vs with
    | [y] => ∀ dx, H1 dx = none → Q (.ref C) (some dx) (upd H1 dx (.xd [(f, y)]))
    | _ => False) I h) fun us s1 ⟨vs, H1, I1, r1, q1⟩ => ⟨I1.kIn, ?_⟩) hse hpl
  match vs, r1, q1 with
  | [y], r1, q1 =>
    show wpAny _ _ (call (.ref C) us) _ _ _
    obtain ⟨nm, N, qn, bs, bm, hdct, sn, sub, ab, col, dd, k0, k1, k2, k3, k5, hC, hT⟩ := PySem.W.excInit_of I1.kIn E.ini
    obtain ⟨hp, g, dr, tk, os⟩ := s1
    have sz : hp.objs.size ≤ hp.objs.size + 1 := Nat.le_succ _
    have nA : H1 (hp.objs.size + 1) = none := I1.hok.fresh sz
    have kk : ∀ b o, hp.get? b = some o → ((hp.push (PySem.W.kdv_tup us)).push (PySem.HandSPX.excO C hp.objs.size)).get? b = some o := fun b o z => Heap.get?_push_of_some _ (Heap.get?_push_of_some _ z)
    have top : ((hp.push (PySem.W.kdv_tup us)).push (PySem.HandSPX.excO C hp.objs.size)).get? (hp.objs.size + 1) = some (PySem.HandSPX.excO C hp.objs.size) := by heap_get
    have I2 := I1.laid (t' := tk) (a := hp.objs.size + 1) (o := exo (hp.objs.size + 1) C none) (h' := (hp.push (PySem.W.kdv_tup us)).push (PySem.HandSPX.excO C hp.objs.size)) kk sz (exo_ok top)
    have few : us.length ≤ sizeLine := by
      rw [← Paired.length r1, sizeLine_eq]
      show 1 ≤ 16777216
      decide
    have end_ : ∀ {h2 : Heap} {g2 : Array GenState} {d2 : Drawn} {t2 : Nat} {os2 : OsState} {H2 : Hp} {d : Addr}, Un (frs X.stack) [] (upd H1 (hp.objs.size + 1) (exo (hp.objs.size + 1) C none)) H2 ((hp.push (PySem.W.kdv_tup us)).push (PySem.HandSPX.excO C hp.objs.size)) h2 → HOk X.prog X.w H2 h2 → os2 = os → AllBare g2 → H1 d = none → d ≠ hp.objs.size + 1 →
        H2 = upd (upd (upd H1 (hp.objs.size + 1) (exo (hp.objs.size + 1) C none)) d (exd d [(f, y)])) (hp.objs.size + 1) (exo (hp.objs.size + 1) C (some d)) → L2N.MkP X pins σ Q (.ref (hp.objs.size + 1)) ⟨h2, g2, d2, t2, os2⟩ := by
      intro h2 g2 d2 t2 os2 H2 d un hok eo ab nd ne eH
      subst eH
      refine mk_endN (fs := [(f, y)]) (raises_own E.exC E.tyC) I1 sz kk un hok eo ab upd_same (by rw [upd_ne ne, upd_same]) nd ?_
      have ef : upd (del (upd (upd (upd H1 (hp.objs.size + 1) (exo (hp.objs.size + 1) C none)) d (exd d [(f, y)])) (hp.objs.size + 1) (exo (hp.objs.size + 1) C (some d))) (hp.objs.size + 1)) d (.xd [(f, y)]) = upd H1 d (.xd [(f, y)]) := by
        funext b
        by_cases h1 : b = d
        · subst h1; rw [upd_same, upd_same]
        · rw [upd_ne h1, upd_ne h1]
          by_cases h3 : b = hp.objs.size + 1
          · subst h3; rw [del_same, nA]
          · rw [del_ne h3, upd_ne h3, upd_ne h1, upd_ne h3]
      rw [ef]
      exact q1 d nd
    have r2 : Vals [V.ref (hp.objs.size + 1), y] (Value.ref (hp.objs.size + 1) :: us) := .cons rfl r1
    refine wpAny_call (PySem.HandSPX.call_own F hT hC (PySem.W.looks_findIn I1.kIn E.iC) (fun self => PySem.W.bind_fn I1.kIn self E.tI) few
      (codeAny_mono (G _ X.stack _ _ (Value.ref (hp.objs.size + 1) :: us) _ (fun v H2 => v = .non ∧ ∃ d, H1 d = none ∧ d ≠ hp.objs.size + 1 ∧ H2 = upd (upd (upd H1 (hp.objs.size + 1) (exo (hp.objs.size + 1) C none)) d (exd d [(f, y)])) (hp.objs.size + 1) (exo (hp.objs.size + 1) C (some d))) (fun _ _ _ => False) (hr.make C us []) (I2.env0.make C us []) r2
        ⟨_, y, rfl, upd_same, fun d nd ne => ⟨rfl, d, by rw [upd_ne ne] at nd; exact nd, ne, rfl⟩⟩) fun r s' hq => ?_))
    cases r with
    | error er =>
      obtain ⟨_, _, _, _, _, _, _, _, _, _, _, _, z⟩ := hq
      exact z.elim
    | ok fl =>
      cases fl with
      | ret u =>
        obtain ⟨v, H2, os2, bare2, un2, hok2, rv, ev, d, nd, ne, eH⟩ := hq
        subst ev
        obtain ⟨h2, g2, d2, t2, os'⟩ := s'
        exact ⟨rv, end_ un2 hok2 os2 bare2 nd ne eH⟩
      | next => exact False.elim hq
      | brk => exact False.elim hq
      | cont => exact False.elim hq
/-- an own exception with one field -/
structure XOk (T : List (Addr × Str)) (X : Cx) (x f : Str) : Prop where
  ex : ∃ C fI B newId initId bmB k, X.mg x = some (.ref C) ∧ ExcBaseFacts B newId initId bmB ∧ ExK X.K C B newId initId bmB f fI ∧ FnR X.prog X.w X.K X.mg X.base (L2N.CX X.prog X.w) k fI (spX C f) ∧ Room (k + 1) X.A
def mRaise1 (x f : Str) (m : ME) : MS := fun ρ h => match m ρ h with
  | some (.ok d, h1) => some (.ex ⟨x, [f], [d]⟩, ρ, h1)
  | some (.error x, h1) => some (.ex x, ρ, h1)
  | none => none
theorem s_raise1 (ok : XOk T X x f) (hc : X.calm = true) (tk : L2N.Takes X W.w) (hg : Gl X x) (he : PE X e (tE (gx T X) W m)) (hdb : (x == ("__debug__" : Str)) = false := by decide) (hse : starEach [e] X.env = (false, eval e X.env) :: starEach [] X.env := by rfl) (hpl : (backTo pos (starEach [] X.env)).any (·.1) = false := by rfl) :
    PS X (.Raise (some (.Call (.Name x p) [e] [] pos)) none pos') (tS (gx T X) W (mRaise1 x f m)) := by
  obtain ⟨C, fI, B, newId, initId, bmB, k, mC, F, E, G, hr⟩ := ok.ex
  refine psI (L2N.ps_raise hc tk (x_make F E G hr hg mC he hdb hse hpl)) fun D' σ H ⟨ι, ρ, h, o, ρ', h', rs, rh, em, ks⟩ => ?_
  unfold mRaise1 at em
  cases q : m ρ h with
  | none => simp only [q] at em; cases em
  | some z =>
    obtain ⟨r, h1⟩ := z
    refine partS rs rh q ks (fun x er => by subst er; simp only [q] at em; cases em; exact ⟨rfl, rfl, rfl⟩) fun ι1 H1 v d er st1 rs1 rh1 rv1 ks1 => ?_
    subst er
    simp only [q] at em
    cases em
    intro dx nd
    exact ks1 ι1 _ σ (.ref C) (some dx) (rh1.newStp nd) (rs1.step (rh1.newStp nd)) (rh1.new nd) ⟨mC, .inr ⟨dx, [v], rfl, rfl, upd_same, .cons (RV.step (rh1.newStp nd) _ _ rv1) .nil, rh1.off nd⟩⟩
end
end ML
/-! the text M15 -/
/-! M15: an own exception's class raised as it stands. -/
namespace ML
open PySem PySem.Spec PyProof.Rows PySem.Calls L2

section
variable {prog : Program} {w : World} {A : Around} {E : Value → Shared → Prop} {s : Shared} {K : PySem.W.Frag} {C : Addr}
theorem nested_own {Q : PySem.Fin → Shared → Prop} (X : K.In s.heap) (isT : ∀ {A : Around} {Q : Bool → Shared → Prop} {E : Value → Shared → Prop}, Q true s → wpAny (model prog w) A (isType (.ref C)) Q E s) (ty : PySem.W.typeIn K (.ref C) = some (.type "type")) (self : PySem.W.subIn K (.ref C) (.ref C) = some true) (hq : Q (.done (.ret (.bool true))) s) :
    wpAny (model prog w) A (Builtin.«issubclass.nested» ⟨[.ref C, .ref C, rawInt 0], []⟩) Q E s := by
  have L1 := PySem.W.looks_typeIn (M := model prog w) X ty
  have L2 := PySem.W.looks_subIn (M := model prog w) X self
  repeat (any_goals (first | assumption | with_reducible refine L1.here ?_ | with_reducible refine L2.here ?_ | with_reducible refine isT ?_ | wp_step))
theorem isT_of {M : Model} {h : Heap} {oc : Obj} {cd : ClassData} (e : h.get? C = some oc) (d : oc.data = .cls cd) {A : Around} {Q : Bool → Shared → Prop} {E : Value → Shared → Prop} {s : Shared} (eh : s.heap = h) (z : Q true s) : wpAny M A (isType (.ref C)) Q E s := by
  subst eh
  simp only [isType, loadHead]
  refine wpAny_bind (wpAny_loadPart e ?_)
  rw [d]
  exact wpAny_pure z
theorem sub_meets (ty : PySem.W.typeIn K (.ref C) = some (.type "type")) (self : PySem.W.subIn K (.ref C) (.ref C) = some true) : Meets (Builtin.«issubclass» ⟨[.ref C, .ref C], []⟩) (fun _ R s => (∃ oc cd, s.heap.get? C = some oc ∧ oc.data = .cls cd) ∧ K.In s.heap ∧ R (.ok (.ret (.bool true))) s) :=
  fun _ _ _ _ _ ⟨⟨_, _, e, d⟩, X, q⟩ => issubclass_outer (nested_own X (fun z => isT_of e d rfl z) ty self q)
theorem raise_own0 {env : PySem.Env} {x : Sem Value} {Q : Flow → Shared → Prop} {nm q : Str} {N : Addr} {bs bm bmB : List Value} {hdct : Bool} {sn : List Str} {sub : List Value} {ab : Bool} {col : Option Bool} {dd : Option Addr} {k0 k1 k2 k3 k5 : Option Value} {B newId initId : String} {mN : Str → Option Value}
    (hh : A.handled = none) (X : K.In s.heap) (F : ExcBaseFacts B newId initId bmB) (hC : s.heap.get? C = some (excClassObj nm q C N bs bm hdct sn sub ab col dd k0 k1 k2 k3 k5 newId)) (hN : s.heap.Ns N mN) (hni : mN "__init__" = none) (T : OwnTail s.heap bmB bm)
    (ty : PySem.W.typeIn K (.ref C) = some (.type "type")) (self : PySem.W.subIn K (.ref C) (.ref C) = some true) (be : PySem.W.subIn K (.ref C) (.type "BaseException") = some true)
    (hx : wpAny (model prog w) A x (fun v s₁ => v = .ref C ∧ s₁ = s) E s) (k : ∀ h' e, Heap.MadeExcOf s.heap h' e (.ref C) [] → E (.ref e) { s with heap := h' }) : wpAny (model prog w) A (raiseStmt env (some x) none) Q E s := by
  unfold raiseStmt
  dsimp only
  refine wpAny_bind (wpAny_mono hx (fun v s₁ ⟨ev, es⟩ => ?_) fun _ _ z => z)
  subst ev es
  refine wpAny_bind (wpAny_pure ?_)
  dsimp only
  refine wpAny_bind (wpAny_holding ?_)
  unfold excFromValue isExcClass
  refine wpAny_bind (wpAny_bind (isT_of hC rfl rfl ?_))
  simp only [if_true]
  refine (PySem.W.looks_subIn X be).here ?_
  simp only [if_true]
  refine wpAny_bind (wpAny_call_exc_subT (rest := []) F T hC hN hni (fun h' e hm => ?_) (Nat.zero_le _))
  obtain ⟨t, he, _, _⟩ := hm.there
  have X' : K.In h' := X.keeps hm.keeps
  have LT : ∀ {A : Around} {Q : Value → Shared → Prop} {E : Value → Shared → Prop}, Q (.ref C) { s₁ with heap := h' } → wpAny (model prog w) A (typeOf (.ref e)) Q E { s₁ with heap := h' } := fun z => wpAny_typeOf_ref he z
  unfold isInstance
  refine wpAny_bind (wpAny_bind (LT ((PySem.W.looks_subIn (M := model prog w) X' be).here ?_)))
  simp only [Bool.not_true, Bool.false_eq_true, if_false]
  refine wpAny_pure ?_
  refine wpAny_bind (isT_of (hm.keeps _ _ hC) rfl rfl ?_)
  simp only [if_true]
  refine wpAny_bind (wpAny_holding ?_)
  unfold raisedFor
  simp only [Bool.false_eq_true, if_false]
  refine wpAny_bind (LT ?_)
  refine wpAny_bind (call_issubclass (s := { s₁ with heap := h' }) (sub_meets ty self) ⟨⟨_, _, hm.keeps _ _ hC, rfl⟩, X', ?_⟩)
  first | (refine wpAny_bind (wpAny_truthy_bool ?_)) | (refine wpAny_truthy_bool ?_) | (dsimp only [wants]; first | (refine wpAny_bind (wpAny_truthy_bool ?_)) | (refine wpAny_truthy_bool ?_))
  simp only [if_true]
  refine wpAny_pure ?_
  unfold setFlight raiseNew
  refine wpAny_bind (wpAny_bind (wpAny_field (i := 1) (x := Value.none) he rfl rfl ?_))
  rw [if_neg (by decide)]
  refine wpAny_pure (wpAny_bind (wpAny_handled ?_))
  rw [hh]
  first
    | exact wpAny_throw (k h' e hm)
    | exact wpAny_bind (wpAny_pure (wpAny_throw (k h' e hm)))
end

/-- an own exception without a field -/
structure X0Ok (X : Cx) (x : Str) : Prop where
  ex : ∃ C B newId initId bmB, X.mg x = some (.ref C) ∧ ExcBaseFacts B newId initId bmB ∧ PySem.W.excIn X.K C bmB newId = true ∧ PySem.W.typeIn X.K (.ref C) = some (.type "type") ∧ PySem.W.subIn X.K (.ref C) (.ref C) = some true ∧ PySem.W.subIn X.K (.ref C) (.type "BaseException") = some true
def mRaise0 (x : Str) : MS := fun ρ h => some (.ex ⟨x, [], []⟩, ρ, h)
theorem s_raise0 {T : List (Addr × Str)} {X : Cx} {W : WW} {x : Str} {p pos : Pos} (ok : X0Ok X x) (hc : X.calm = true) (tk : L2N.Takes X W.w) (hg : Gl X x) (hdb : (x == ("__debug__" : Str)) = false := by decide) : PS X (.Raise (some (.Name x p)) none pos) (tS (gx T X) W (mRaise0 x)) := by
  obtain ⟨C, B, newId, initId, bmB, mC, F, q, ty, self, be⟩ := ok.ex
  refine ⟨fun pins s σ H D' I ⟨ι, ρ, h, o, ρ', h', rs, rh, em, ks⟩ => ?_⟩
  cases em
  obtain ⟨bm, N, nm, qn, bs, hdct, sn, sub, ab, col, dd, k0, k1, k2, k3, k5, mN, hC, hN, hni, OT⟩ := exc_obj I.kIn q
  show wpAny _ _ (do standAt pos; raiseStmt X.env (some (do let v ← eval (.Name x p) X.env; standAt pos; pure v)) none) _ _ _
  refine wpAny_bind (wpAny_standAt (raise_own0 (I.ok.hd hc) I.kIn F hC hN hni OT ty self be ?_ fun h1 e hm => ?_))
  · exact wpAny_bind (ld_glob I hg mC (wpAny_bind (wpAny_standAt (wpAny_pure ⟨rfl, rfl⟩))) hdb)
  · obtain ⟨t, he, _, _⟩ := hm.there
    exact tk _ _ (L2N.XE.new (cls := .ref C) (d := none) I hm.keeps hm.new he ⟨rfl, rfl, fun vs e => by cases e; rfl⟩ rfl rfl (I.hok.gone hm.new) rfl I.bare (ks ι H σ (.ref C) none (Stp.refl _ _) rs rh ⟨mC, .inl ⟨rfl, rfl⟩⟩))
end ML
/-! the text M16 -/
/-! M16: try .. except X as n .. except (Y, Z): .. -/
namespace ML
open PySem PySem.Spec PyProof.Rows PySem.Calls L2
open PySem.W (Looks exmOne exmAny)

section
variable {M : Model} {K : PySem.W.Frag} {h : Heap}
theorem loop_all {A : Around} {E : Value → Shared → Prop} {s : Shared} {β : Type} {body : Value → β → Sem (ForInStep β)} {y : β} {Q : β → Shared → Prop} : ∀ {cs : List Value}, (∀ c ∈ cs, ∀ Q' : ForInStep β → Shared → Prop, Q' (.yield y) s → wpAny M A (body c y) Q' E s) → Q y s → wpAny M A (forIn cs y body) Q E s
  | [], _, q => by rw [List.forIn_nil]; exact wpAny_pure q
  | c :: cs, hb, q => by
    rw [List.forIn_cons]
    exact wpAny_bind (hb c (by simp) _ (loop_all (fun c' hc' => hb c' (by simp [hc'])) q))
theorem loop_first {A : Around} {E : Value → Shared → Prop} {s : Shared} {β : Type} {body : Value → β → Sem (ForInStep β)} {y d : β} {F : Value → Bool} {Q : β → Shared → Prop} : ∀ {cs : List Value}, (∀ c ∈ cs, ∀ Q' : ForInStep β → Shared → Prop, Q' (if F c = true then .done d else .yield y) s → wpAny M A (body c y) Q' E s) → Q (if cs.any F = true then d else y) s → wpAny M A (forIn cs y body) Q E s
  | [], _, q => by rw [List.forIn_nil]; exact wpAny_pure q
  | c :: cs, hb, q => by
    rw [List.forIn_cons]
    refine wpAny_bind (hb c (by simp) _ ?_)
    cases e : F c with
    | true =>
      rw [List.any_cons, e] at q
      exact wpAny_pure q
    | false =>
      rw [List.any_cons, e] at q
      exact loop_first (fun c' hc' => hb c' (by simp [hc'])) q
/-- class by class -/
theorem exm_each {cls : Value} : ∀ {cs : List Value} {b : Bool}, exmAny K cls cs = some b → (∀ c ∈ cs, exmOne K cls c = some ((exmOne K cls c).getD false)) ∧ cs.any (fun c => (exmOne K cls c).getD false) = b
  | [], b, e => by cases e; exact ⟨fun _ h => (by cases h), rfl⟩
  | c :: cs, b, e => by
    obtain ⟨b1, d1, h1, h2, h3⟩ := PySem.W.exmAny_cons e
    obtain ⟨k1, k2⟩ := exm_each h2
    refine ⟨fun c' hc' => ?_, ?_⟩
    · rcases List.mem_cons.mp hc' with z | z
      · rw [z, h1]; rfl
      · exact k1 c' z
    · rw [List.any_cons, k2, h1, h3]; rfl
theorem exm_tupN {cs : List Value} {cls : Value} {tp e : Addr} {b : Bool} (X : K.In h) (LT : Looks M h (typeOf (.ref e)) cls) (hp : h.get? tp = some { cls := .type "tuple", data := .seq cs.toArray }) (hx : exmAny K cls cs = some b) : Looks M h (excMatches (.ref e) (.ref tp)) b := by
  intro A Q E s k q
  obtain ⟨each, eb⟩ := exm_each hx
  have LT0 : Looks M h (isInstance (.ref tp) (.type "tuple")) true := ((PySem.W.Looks.ld hp).andThen .now).andThen (Looks.of_pure isSubtype_tuple_tuple)
  have hp' := k _ _ hp
  unfold excMatches
  refine wpAny_bind ((LT0.keeps k).here ?_)
  dsimp only
  rw [if_pos rfl]
  first
    | refine wpAny_bind (wpAny_seqItems hp' rfl ?_)
    | refine wpAny_bind (wpAny_bind (wpAny_seqItems hp' rfl (wpAny_pure ?_)))
  dsimp only [Option.getD_some, Option.getD]
  refine wpAny_bind (wpAny_pure ?_)
  refine wpAny_bind (loop_all (fun c hc Q' q' => ?_) ?_)
  · obtain ⟨e1, _⟩ := PySem.W.exm_cls (M := M) X (each c hc)
    refine wpAny_bind ((e1.keeps k).here ?_)
    simp only [Bool.not_true, Bool.false_eq_true, if_false]
    exact wpAny_pure q'
  · refine wpAny_bind ((LT.keeps k).here ?_)
    refine wpAny_bind (loop_first (F := fun c => (exmOne K cls c).getD false) (d := (some true, ())) (fun c hc Q' q' => ?_) ?_)
    · obtain ⟨_, s1⟩ := PySem.W.exm_cls (M := M) X (each c hc)
      refine wpAny_bind ((s1.keeps k).here ?_)
      cases z : (exmOne K cls c).getD false with
      | true => rw [z] at q'; exact wpAny_pure q'
      | false => rw [z] at q'; exact wpAny_pure q'
    · rw [eb]
      cases b <;> exact wpAny_pure q
end
theorem flying_keeps {B h h' : Heap} {l : List PySem.Env} {e : Addr} {Z : Obj → Prop} (x : HandSPX.FlyingZ B l e Z h) (k : ∀ b o, h.get? b = some o → h'.get? b = some o) : HandSPX.FlyingZ B l e Z h' := by
  obtain ⟨a1, a2, a3, oe, vs, T, oT, ts, b1, b2, b3, b4, b5, b6, b7, b8, b9⟩ := x
  exact ⟨fun b o z => k b o (a1 b o z), a2, Heap.FunFrames.of_keeps (fun b o e _ => ⟨o, k b o e, rfl⟩) a3, oe, vs, T, oT, ts, k _ _ b1, b2, b3, b4, b5, b6, k _ _ b7, b8, b9⟩

/-! ### the clauses' classes -/
inductive NmL (X : Cx) : List Expr → List Value → Prop
  | nil : NmL X [] []
  | cons {x : Str} {np : Pos} {c : Value} {es : List Expr} {cs : List Value} (h : Names X x c) (r : NmL X es cs) : NmL X (.Name x np :: es) (c :: cs)
/-- the expression behind except: one name, or several in a tuple -/
inductive TstOk (X : Cx) : Expr → List Value → Prop
  | one {x : Str} {np : Pos} {c : Value} (h : Names X x c) : TstOk X (.Name x np) [c]
  | tup {es : List Expr} {k : Nat} {np : Pos} {cs : List Value} (h : NmL X es cs) (hl : cs.length ≤ 1000) : TstOk X (.Tuple es k np) cs
section
variable {X : Cx} {pins : List (Addr × Obj)} {σ : L2.St} {H : Hp} {s : Shared} {A : Around} {E : Value → Shared → Prop}
theorem ld_names {x : Str} {c : Value} {np : Pos} {Q : Value → Shared → Prop} (I : Inv X pins σ H s) (hc : Names X x c) (q : Q c s) (hA : A = X.A) : wpAny (model X.prog X.w) A (eval (.Name x np) X.env) Q E s := by
  subst hA
  obtain ⟨hg, hdb, hm | ⟨hm, hv, hn⟩⟩ := hc
  · exact ld_glob I hg hm q hdb
  · exact ld_blt I hg hm hv q hn hdb
theorem nml_spliced {pos : Pos} {Q : List Value → Shared → Prop} (I : Inv X pins σ H s) : ∀ {es : List Expr} {cs : List Value}, NmL X es cs → ∀ acc : List Value → List Value, Q (acc cs) s → wpAny (model X.prog X.w) X.A (spliced (backTo pos (starEach es X.env))) (fun vs s' => Q (acc vs) s') E s
  | _, _, .nil, acc, q => Calls.spliced_nil q
  | _, _, .cons (c := c) (es := es) h r, acc, q => by
    show wpAny _ _ (spliced ((false, eval (.Name _ _) X.env) :: backTo pos (starEach es X.env))) _ _ s
    exact Calls.spliced_cons (ld_names I h (nml_spliced I r (fun vs => acc (c :: vs)) q) rfl)
theorem tst_run {t : Expr} {cs : List Value} {a : Addr} {cls : Value} {b : Bool} {Q : Bool → Shared → Prop} {E1 : Value → Shared → Prop} (ok : TstOk X t cs) (I : Inv X pins σ H s) (LT : Looks (model X.prog X.w) s.heap (typeOf (.ref a)) cls) (hx : exmAny X.K cls cs = some b)
    (q : ∀ h', (∀ c o, s.heap.get? c = some o → h'.get? c = some o) → Q b { s with heap := h' }) : wpAny (model X.prog X.w) X.A (eval t X.env) (fun c s₁ => wpAny (model X.prog X.w) X.A (excMatches (.ref a) c) Q E1 s₁) E s := by
  cases ok with
  | one h =>
    refine ld_names I h ?_ rfl
    obtain ⟨b1, d1, h1, h2, h3⟩ := PySem.W.exmAny_cons hx
    cases h2
    have e : b = b1 := by rw [h3, Bool.or_false]
    subst e
    exact (PySem.W.exm_one I.kIn LT h1).here (q s.heap fun _ _ z => z)
  | tup h hl =>
    refine wpAny_Tuple_spliced (nml_spliced (Q := fun vs s₁ => vs.length ≤ sizeLine ∧ wpAny (model X.prog X.w) X.A (excMatches (.ref a) (.ref s₁.heap.objs.size)) Q E1 { s₁ with heap := s₁.heap.push { cls := .type "tuple", data := .seq vs.toArray } }) I h id ⟨by rw [sizeLine_eq]; show cs.length ≤ _; omega, ?_⟩)
    have k : ∀ c o, s.heap.get? c = some o → (s.heap.push { cls := .type "tuple", data := .seq cs.toArray }).get? c = some o := fun c o z => Heap.get?_push_of_some _ z
    exact (exm_tupN (I.kIn.keeps k) (LT.keeps k) (Heap.get?_push_size _ rfl) hx).here (q _ k)
end

/-! ### the clauses -/
/-- the classes, the name's slot, the suite's reading -/
abbrev ClV := List Value × Option Nat × (Addr → Value → Option Addr → TS)
def slotS (sl : Option Nat) (a : Addr) (σ : L2.St) : L2.St := match sl with
  | some i => σ.set i (some (.ref a))
  | none => σ
def slotE (sl : Option Nat) (σ : L2.St) : L2.St := match sl with
  | some i => σ.set i none
  | none => σ
def slotD (sl : Option Nat) (D' : Ends) : Ends := { nx := fun σ H => D'.nx (slotE sl σ) H, rt := D'.rt, bk := fun σ H => D'.bk (slotE sl σ) H, ct := fun σ H => D'.ct (slotE sl σ) H }
def wCl (K : PySem.W.Frag) (Wout : WX) (D' : Ends) : List ClV → WX
  | [] => Wout
  | (cs, sl, ts) :: r => fun cls d σ H => ∃ b, exmAny K cls cs = some b ∧ (b = true → ∀ a, H a = none → ts a cls d (slotD sl D') (slotS sl a σ) H) ∧ (b = false → wCl K Wout D' r cls d σ H)
/-- as n -/
def NmOk (X : Cx) (nm : Option Str) (sl : Option Nat) : Prop := (nm = none ∧ sl = none) ∨ ∃ n i, nm = some n ∧ sl = some i ∧ X.N[i]? = some n ∧ X.env.kindOf n = some .local
inductive ClsOk (X : Cx) : List ExceptHandler → List ClV → Prop
  | nil : ClsOk X [] []
  | cons {t : Expr} {cs : List Value} {nm : Option Str} {sl : Option Nat} {ts : Addr → Value → Option Addr → TS} {b₀ : Stmt} {suite : List Stmt} {pos' : Pos} {hds : List ExceptHandler} {l : List ClV} (ht : TstOk X t cs) (hn : NmOk X nm sl)
      (hsu : ∀ (a : Addr) (oe : Obj) (cls : Value) (d : Option Addr) (pn : List (Addr × Obj)), L2N.Zn cls d oe → (∃ vs, oe.data = .fields vs) → PSs (X.suite a ((a, oe) :: pn)) (b₀ :: suite) (ts a cls d)) (r : ClsOk X hds l) :
      ClsOk X (.ExceptHandler (some t) nm (b₀ :: suite) pos' :: hds) ((cs, sl, ts) :: l)
theorem names_at {X : Cx} {A : Around} {pn : List (Addr × Obj)} {b : Bool} {xe : Value → Shared → Prop} : ∀ {es : List Expr} {cs : List Value}, NmL X es cs → NmL { X with A := A, calm := b, pn := pn, xe := xe } es cs
  | _, _, .nil => .nil
  | _, _, .cons h r => .cons h (names_at r)
theorem tst_at {X : Cx} {A : Around} {pn : List (Addr × Obj)} {b : Bool} {xe : Value → Shared → Prop} {t : Expr} {cs : List Value} (h : TstOk X t cs) : TstOk { X with A := A, calm := b, pn := pn, xe := xe } t cs := by
  cases h with
  | one h => exact .one h
  | tup h l => exact .tup (names_at h) l
section
variable {X : Cx} {body : List Stmt} {h₀ : ExceptHandler} {hds : List ExceptHandler} {l : List ClV} {pos : Pos} {tb : WX → TS} {Wout : WX}
theorem ps_clauses (hs : X.stack = X.env :: X.outer) (hf : X.env.frame = some X.env.locals) (hN : X.N.Nodup) (tk : L2N.Takes X Wout)
    (hb : ∀ (W : WX) (pn : List (Addr × Obj)) (xe : Value → Shared → Prop), L2N.Takes (X.tr pn xe) W → PassesOwn (model X.prog X.w) X.A X.env xe → PSs (X.tr pn xe) body (tb W)) (hh : ClsOk X (h₀ :: hds) l) :
    PS X (.Try body (h₀ :: hds) [] [] pos) (fun D' σ H => tb (wCl X.K Wout D' l) D' σ H) := by
  refine ⟨fun pins s σ H D' I h => ?_⟩
  have okX := I.ok
  have hfr : X.A.frames = some (X.env :: X.outer) := by rw [okX.frames, hs]
  refine wpAny_Try_except (wpAny_mono ((hb (wCl X.K Wout D' l) (X.pn ++ pins) (fun e s₁ => wpAny (model X.prog X.w) X.A (noteFrame e X.env) (fun _ s₂ => wpAny (model X.prog X.w) X.A (setFlight e none) (fun _ s₃ => wpAny (model X.prog X.w) X.A (handleBy e X.env (h₀ :: hds)) (SP X pins D') X.xe s₃) X.xe s₂) X.xe s₁)
    (fun u s' xx => ?_) PassesOwn.looking).run [] s σ H D' (I.toTry _) h) (fun f s1 hsp => ?_) fun e s1 he => he)
  · obtain ⟨a, B, sI, pins', σ', H', cls, d, rfl, J', nb, up, sky, na, os, ag, w⟩ := xx
    have J : Inv X pins σ' H' sI := J'.ofTry okX
    refine L2N.Sky.land L2N.Zn.steady hfr hf (by rw [← hs]; exact sky) fun h3 fl3 up3 => ?_
    have key : ∀ {hds' : List ExceptHandler} {l' : List ClV}, ClsOk X hds' l' → wCl X.K Wout D' l' cls d σ' H' → ∀ h3, HandSPX.FlyingZ B (X.env :: X.outer) a (L2N.Zn cls d) h3 → sI.heap.UpToSlots h3 → wpAny (model X.prog X.w) X.A (handleBy (.ref a) X.env hds') (SP X pins D') X.xe { s' with heap := h3 } := by
      intro hds' l' hk
      induction hk with
      | nil =>
        intro w h3 fl3 up3
        refine wpAny_handleBy_nil ?_
        obtain ⟨k1, k2, k3, oe, vs, T, oT, ts', he, hz, hd, h1, hr⟩ := id fl3
        unfold PySem.passOn
        refine wpAny_bind (wpAny_field he hd h1 ?_)
        rw [if_neg (show ¬ ((Value.ref T == Value.none) = true) from by simp)]
        have out : wpAny (model X.prog X.w) X.A (setFlight (.ref a) X.env.frame) (fun _ s4 => wpAny (model X.prog X.w) X.A (throw (.ref a) : Sem Flow) (SP X pins D') X.xe s4) X.xe { s' with heap := h3 } := by
          rw [hf]
          refine HandSPX.setFlight_upZ fl3 fun h4 hh4 up4 => wpAny_throw (tk _ _ ⟨a, B, sI, pins, σ', H', cls, d, rfl, J, nb, up3.trans up4, .inr (.inr (by rw [hs]; exact hh4)), na, os, ag, w⟩)
        first
          | exact wpAny_bind (wpAny_pure (wpAny_bind out))
          | exact wpAny_bind out
      | @cons t cs nm sl ts b₀ suite pos' hds2 l2 ht hn hsu r ih =>
        intro w h3 fl3 up3
        obtain ⟨b, hb1, hyes, hno⟩ := w
        have J3 : Inv X pins σ' H' { s' with heap := h3 } := J.landed nb fl3.1 up3 os ag
        obtain ⟨oe3, vs3, he3, hz3, hd3⟩ := fl3.there
        have nfr : a ∉ frs (X.env :: X.outer) := fun hm => by
          obtain ⟨_, o', e', hnf⟩ := fl3.2.2.1.mem hm
          rw [he3] at e'
          cases e'
          exact hnf _ hd3
        have nL : a ≠ X.env.locals := fun z => nfr (List.mem_filterMap.mpr ⟨X.env, List.mem_cons_self, by rw [hf, z]⟩)
        have nF : a ∉ X.fs := fun hm => by
          obtain ⟨e, he, q⟩ := List.mem_filterMap.mp hm
          exact nfr (List.mem_filterMap.mpr ⟨e, List.mem_cons_of_mem _ he, q⟩)
        have S3 := J3.suite he3 hd3 na nL nF
        refine wpAny_handleBy_cons (codeAny_handlers_test ?_) (by intro q; cases q)
        refine tst_run (X := X.suite a ((a, oe3) :: (X.pn ++ pins))) (tst_at ht) S3 (fun A Q E s k q => wpAny_typeOf_ref (k _ _ he3) (by rw [hz3.1]; exact q)) hb1 fun h5 kp => ?_
        have fl5 := flying_keeps fl3 kp
        have up5 : sI.heap.UpToSlots h5 := up3.trans (Heap.UpToSlots.of_keeps kp)
        cases b with
        | false =>
          show wpAny _ X.A (handleBy (.ref a) X.env hds2) _ _ _
          exact ih (hno rfl) h5 fl5 up5
        | true =>
          have go : ∀ {P : Shared → Prop}, (∀ h4, HandSPX.FlyingZ B (X.env :: X.outer) a (L2N.Zn cls d) h4 → h5.UpToSlots h4 → P { s' with heap := h4 }) → ∀ {M : Model} {A : Around} {E : Value → Shared → Prop}, wpAny M A (setFlight (.ref a) none) (fun _ s4 => P s4) E { s' with heap := h5 } := fun k => HandSPX.lands_againZ (s := { s' with heap := h5 }) fl5 fun h4 f4 u4 => k h4 f4 u4
          rcases hn with ⟨e1, e2⟩ | ⟨n, i, e1, e2, hi, hl⟩
          · subst e1 e2
            refine codeAny_handlers_suite (go fun h4 fl4 up4 => ?_)
            have J4 : Inv X pins σ' H' { s' with heap := h4 } := J.landed nb fl4.1 (up5.trans up4) os ag
            obtain ⟨oe4, vs4, he4, hz4, hd4⟩ := fl4.there
            refine wpAny_mono ((hsu a oe4 cls d (X.pn ++ pins) hz4 ⟨_, hd4⟩).run [] _ _ H' _ (J4.suite he4 hd4 na nL nF) (hyes rfl a na)) (fun f s6 hsp => ?_) (fun _ _ z => False.elim z)
            cases f with
            | ret u => obtain ⟨v6, σ6, H6, S6, r6, q6⟩ := hsp; exact ⟨_, _, _, S6.unsuite okX, r6, q6⟩
            | _ => obtain ⟨σ6, H6, S6, q6⟩ := hsp; exact ⟨_, _, S6.unsuite okX, q6⟩
          · subst e1 e2
            refine codeAny_handlers_suite_as (go fun h4 fl4 up4 => ?_)
            have J4 : Inv X pins σ' H' { s' with heap := h4 } := J.landed nb fl4.1 (up5.trans up4) os ag
            obtain ⟨oe4, vs4, he4, hz4, hd4⟩ := fl4.there
            refine store_ok (X := X.suite a ((a, oe4) :: (X.pn ++ pins))) (v := .ref a) (J4.suite he4 hd4 na nL nF) hN hi (.inl hl) rfl (fun s5 S5 => ?_) (.inr hl)
            refine wpAny_mono ((hsu a oe4 cls d (X.pn ++ pins) hz4 ⟨_, hd4⟩).run [] s5 _ H' _ S5 (hyes rfl a na)) (fun f s6 hsp => ?_) (fun _ _ z => False.elim z)
            cases f with
            | ret u => obtain ⟨v6, σ6, H6, S6, r6, q6⟩ := hsp; exact gone_ok (S6.unsuite okX) hN hi hl fun s7 J7 => ⟨_, _, _, J7, r6, q6⟩
            | _ => obtain ⟨σ6, H6, S6, q6⟩ := hsp; exact gone_ok (S6.unsuite okX) hN hi hl fun s7 J7 => ⟨_, _, J7, q6⟩
    exact key hh w h3 fl3 (up.trans up3)
  · cases f with
    | next => obtain ⟨σ', H', J', q⟩ := hsp; exact wpAny_execs_nil ⟨σ', H', J'.ofTry okX, q⟩
    | ret u => obtain ⟨v, σ', H', J', r, q⟩ := hsp; exact ⟨v, σ', H', J'.ofTry okX, r, q⟩
    | _ => obtain ⟨σ', H', J', q⟩ := hsp; exact ⟨σ', H', J'.ofTry okX, q⟩
end
end ML
/-! the text M17 -/
/-! M17: try as a function; what a suite reads of the caught error. -/
namespace ML
open PySem PySem.Spec PyProof.Rows PySem.Calls L2
open PySem.W (exmOne exmAny)

theorem RX.step {c : Gx} {ι ι' : Adr} {H H' : Hp} {x : Xc} {cls : Value} {d : Option Addr} (st : Stp ι H ι' H') (r : RX c ι H x cls d) : RX c ι' H' x cls d :=
  ⟨r.1, r.2.imp id fun ⟨a, vs, e1, e2, e3, e4, e5⟩ => let ⟨q1, q2⟩ := st.keep a _ e3 ⟨fun _ z => (by cases z), fun _ z => (by cases z)⟩ e5; ⟨a, vs, e1, e2, q1, RVL.step st _ _ e4, q2⟩⟩
abbrev FxX (c : Gx) (sl : Option Nat) (a : Addr) (x : Xc) (cls : Value) (dd : Option Addr) : Fx where
  ok := fun ι H σ => RX c ι H x cls dd ∧ ∀ j, sl = some j → σ[j]? = some (some (.ref a))
  free := fun j => sl ≠ some j
  step := fun st k => ⟨k.1.step st, k.2⟩
  put := fun f k => ⟨k.1, fun i e => by
    rw [List.getElem?_set_ne (fun z => by subst z; exact f e)]
    exact k.2 i e⟩
abbrev WS (c : Gx) (sl : Option Nat) (a : Addr) (x : Xc) (cls : Value) (dd : Option Addr) : WW := ⟨fun _ _ _ _ => False, FxX c sl a x cls dd⟩

def exLook (A B : Str) : ExT → Option Bool
  | [] => none
  | (a, b, r) :: t => if a = A ∧ b = B then some r else exLook A B t
def exAny (E : ExT) (A : Str) : List Str → Option Bool
  | [] => some false
  | B :: r => match exLook A B E, exAny E A r with
    | some b, some d => some (b || d)
    | _, _ => none
theorem ExOk.look {K : PySem.W.Frag} {mg : Str → Option Value} {A B : Str} {r : Bool} {a b : Value} (ha : mg A = some a) (hb : mg B = some b) : ∀ {E : ExT}, ExOk K mg E → exLook A B E = some r → exmOne K a b = some r ∧ PySem.W.kitOne K a b = some r
  | [], _, e => by cases e
  | (a', b', r') :: t, ok, e => by
    unfold exLook at e
    by_cases q : a' = A ∧ b' = B
    · rw [if_pos q] at e
      cases e
      obtain ⟨q1, q2⟩ := q
      subst q1 q2
      obtain ⟨x, y, h1, h2, h3⟩ := ok (a', b', r) (by simp)
      rw [show mg a' = _ from h1] at ha
      rw [show mg b' = _ from h2] at hb
      cases ha
      cases hb
      exact h3
    · rw [if_neg q] at e
      exact ExOk.look ha hb (fun p hp => ok p (by simp [hp])) e
theorem ExOk.any {K : PySem.W.Frag} {mg : Str → Option Value} {E : ExT} (ok : ExOk K mg E) {A : Str} {a : Value} (ha : mg A = some a) : ∀ {ns : List Str} {cs : List Value} {r : Bool}, Paired (fun n c => mg n = some c) ns cs → exAny E A ns = some r → exmAny K a cs = some r
  | [], _, r, .nil, e => e
  | n :: ns, c :: cs, r, .cons h t, e => by
    unfold exAny at e
    cases q1 : exLook A n E with
    | none => rw [q1] at e; cases e
    | some b =>
      cases q2 : exAny E A ns with
      | none => rw [q1, q2] at e; cases e
      | some d =>
        rw [q1, q2] at e
        cases e
        unfold exmAny
        rw [(ok.look ha h q1).1, ok.any ha t q2]
/-- names, the slot of the error's name, the suite -/
abbrev ClD := List Str × Option Nat × (Xc → MS)
def slotR (sl : Option Nat) (ρ : Env) : Env := match sl with
  | some i => ρ.set i none
  | none => ρ
def slOk (sl : Option Nat) (ρ : Env) : Bool := match sl with
  | some i => decide (i < ρ.length)
  | none => true
def mHandle (E : ExT) : List ClD → Xc → MS
  | [], x => fun ρ h => some (.ex x, ρ, h)
  | (ns, sl, f) :: r, x => fun ρ h => match exAny E x.C ns with
    | some true => if slOk sl ρ = true then (match f x (slotR sl ρ) h with
      | some (.ex _, _, _) => none
      | some (o, ρ', h') => some (o, slotR sl ρ', h')
      | none => none) else none
    | some false => mHandle E r x ρ h
    | none => none
def mTry (E : ExT) (b : MS) (cl : List ClD) : MS := fun ρ h => match b ρ h with
  | some (.ex x, ρ1, h1) => mHandle E cl x ρ1 h1
  | r => r
inductive ClOk (T : List (Addr × Str)) (X : Cx) : List ExceptHandler → List ClD → Prop
  | nil : ClOk T X [] []
  | cons {t : Expr} {ns : List Str} {cs : List Value} {nm : Option Str} {sl : Option Nat} {f : Xc → MS} {b₀ : Stmt} {suite : List Stmt} {pos' : Pos} {hds : List ExceptHandler} {l : List ClD} (ht : TstOk X t cs) (hm : Paired (fun n c => X.mg n = some c) ns cs) (hn : NmOk X nm sl)
      (hsu : ∀ (a : Addr) (oe : Obj) (cls : Value) (d : Option Addr) (pn : List (Addr × Obj)) (x : Xc), L2N.Zn cls d oe → (∃ vs, oe.data = .fields vs) → X.mg x.C = some cls → PSs (X.suite a ((a, oe) :: pn)) (b₀ :: suite) (tS (gx T X) (WS (gx T X) sl a x cls d) (f x))) (r : ClOk T X hds l) :
      ClOk T X (.ExceptHandler (some t) nm (b₀ :: suite) pos' :: hds) ((ns, sl, f) :: l)
/-- the suite's reading, for whatever error it is -/
def tCl (c : Gx) (sl : Option Nat) (f : Xc → MS) (a : Addr) (cls : Value) (d : Option Addr) : TS := fun D' σ H => ∃ x, c.mg x.C = some cls ∧ tS c (WS c sl a x cls d) (f x) D' σ H
theorem cls_of {T : List (Addr × Str)} {X : Cx} : ∀ {hds : List ExceptHandler} {l : List ClD}, ClOk T X hds l → ∃ L : List ClV, ClsOk X hds L ∧ Paired (fun (p : ClD) (q : ClV) => Paired (fun n c => X.mg n = some c) p.1 q.1 ∧ q.2.1 = p.2.1 ∧ q.2.2 = tCl (gx T X) p.2.1 p.2.2) l L
  | _, _, .nil => ⟨[], .nil, .nil⟩
  | _, _, .cons (cs := cs) (sl := sl) (f := f) ht hm hn hsu r => by
    obtain ⟨L, h1, h2⟩ := cls_of r
    refine ⟨(cs, sl, tCl (gx T X) sl f) :: L, .cons ht hn (fun a oe cls d pn hz hv => ?_) h1, .cons ⟨hm, rfl, rfl⟩ h2⟩
    exact ⟨fun pins s σ H D' I ⟨x, mx, q⟩ => (hsu a oe cls d pn x hz hv mx).run pins s σ H D' I q⟩
section
variable {T : List (Addr × Str)} {X : Cx} {W : WW} {E : ExT} {body : List Stmt} {h₀ : ExceptHandler} {hds : List ExceptHandler} {cl : List ClD} {pos : Pos} {mb : MS}
theorem slot_out {c : Gx} {ι : Adr} {H : Hp} {ρ : Env} {σ : L2.St} {W' : WW} (hfx : ∀ {ι H σ}, W.fx.ok ι H σ) (rs : RS c W' ι H ρ σ) (sl : Option Nat) : RS c W ι H (slotR sl ρ) (slotE sl σ) := by
  cases sl with
  | none => exact ⟨rs.len, rs.at_, hfx⟩
  | some i =>
    refine ⟨by simp [slotE, slotR, rs.len], fun j d e => ?_, hfx⟩
    by_cases hj : j = i
    · subst hj
      by_cases hl : j < ρ.length
      · simp only [slotR, List.getElem?_set_self hl] at e; cases e
      · simp [slotR, List.getElem?_set, hl] at e
    · simp only [slotR, List.getElem?_set_ne (Ne.symm hj)] at e
      obtain ⟨v, a, b⟩ := rs.at_ j d e
      exact ⟨v, by simp only [slotE, List.getElem?_set_ne (Ne.symm hj)]; exact a, b⟩
theorem slot_in {c : Gx} {ι : Adr} {H : Hp} {ρ : Env} {σ : L2.St} {W' : WW} (rs : RS c W' ι H ρ σ) (sl : Option Nat) (hi : ∀ i, sl = some i → i < σ.length) {a : Addr} {x : Xc} {cls : Value} {d : Option Addr} (rx : RX c ι H x cls d) : RS c (WS c sl a x cls d) ι H (slotR sl ρ) (slotS sl a σ) := by
  cases sl with
  | none => exact ⟨rs.len, rs.at_, rx, fun j e => (by cases e)⟩
  | some i =>
    refine ⟨by simp [slotS, slotR, rs.len], fun j d e => ?_, rx, fun j e => ?_⟩
    · by_cases hj : j = i
      · subst hj
        by_cases hl : j < ρ.length
        · simp only [slotR, List.getElem?_set_self hl] at e; cases e
        · simp [slotR, List.getElem?_set, hl] at e
      · simp only [slotR, List.getElem?_set_ne (Ne.symm hj)] at e
        obtain ⟨v, a, b⟩ := rs.at_ j d e
        exact ⟨v, by simp only [slotS, List.getElem?_set_ne (Ne.symm hj)]; exact a, b⟩
    · cases e
      simp only [slotS]
      exact List.getElem?_set_self (hi _ rfl)
theorem handle_ok {c : Gx} (eE : ExOk c.K c.mg E) (hfx : ∀ {ι H σ}, W.fx.ok ι H σ) {x : Xc} {ι1 : Adr} {H1 : Hp} {ρ1 : Env} {σ1 : L2.St} {h1 h' : VH} {o : Out} {ρ' : Env} {D' : Ends} {cls : Value} {dd : Option Addr} (rs : RS c W ι1 H1 ρ1 σ1) (rh : RH c ι1 h1 H1) (rx : RX c ι1 H1 x cls dd) (ks : KS c W ι1 H1 D' ρ' h' o) :
    ∀ {cl : List ClD} {L : List ClV}, Paired (fun (p : ClD) (q : ClV) => Paired (fun n k => c.mg n = some k) p.1 q.1 ∧ q.2.1 = p.2.1 ∧ q.2.2 = tCl c p.2.1 p.2.2) cl L → mHandle E cl x ρ1 h1 = some (o, ρ', h') → wCl c.K W.w D' L cls dd σ1 H1
  | [], _, .nil, e => by
    cases e
    exact ks ι1 H1 σ1 cls dd (Stp.refl _ _) rs rh rx
  | (ns, sl, f) :: cl, (cs, sl', ts) :: L, .cons ⟨p1, p2, p3⟩ r, e => by
    have p2' : sl' = sl := p2
    have p3' : ts = tCl c sl f := p3
    subst p2' p3'
    unfold mHandle at e
    cases q : exAny E x.C ns with
    | none => rw [q] at e; cases e
    | some b =>
      rw [q] at e
      refine ⟨b, eE.any rx.1 p1 q, fun eb a na => ?_, fun eb => ?_⟩
      · subst eb
        simp only [] at e
        by_cases ho : slOk sl' ρ1 = true
        · rw [if_pos ho] at e
          cases q2 : f x (slotR sl' ρ1) h1 with
          | none => rw [q2] at e; cases e
          | some z =>
            obtain ⟨o2, ρ2, h2⟩ := z
            rw [q2] at e
            refine ⟨x, rx.1, ι1, _, h1, o2, ρ2, h2, slot_in rs sl' (fun i ei => ?_) rx, rh, q2, ?_⟩
            · subst ei
              rw [rs.len]
              exact of_decide_eq_true ho
            · cases o2 with
              | nx => cases e; exact fun ι' H' σ' st rs' rh' => ks ι' H' _ st (slot_out hfx rs' sl') rh'
              | bk => cases e; exact fun ι' H' σ' st rs' rh' => ks ι' H' _ st (slot_out hfx rs' sl') rh'
              | ct => cases e; exact fun ι' H' σ' st rs' rh' => ks ι' H' _ st (slot_out hfx rs' sl') rh'
              | rt d => cases e; exact ks
              | ex x' => cases e
        · rw [if_neg ho] at e; cases e
      · subst eb
        exact handle_ok eE hfx rs rh rx ks r e
theorem s_try (hs : X.stack = X.env :: X.outer) (hf : X.env.frame = some X.env.locals) (hN : X.N.Nodup) (tk : L2N.Takes X W.w) (hfx : ∀ {ι H σ}, W.fx.ok ι H σ) (eE : ExOk X.K X.mg E)
    (hb : ∀ (W' : WX) (pn : List (Addr × Obj)) (xe : Value → Shared → Prop), L2N.Takes (X.tr pn xe) W' → PassesOwn (model X.prog X.w) X.A X.env xe → PSs (X.tr pn xe) body (tS (gx T X) ⟨W', W.fx⟩ mb))
    (hh : ClOk T X (h₀ :: hds) cl) : PS X (.Try body (h₀ :: hds) [] [] pos) (tS (gx T X) W (mTry E mb cl)) := by
  obtain ⟨L, hL, pr⟩ := cls_of hh
  refine ⟨fun pins s σ H D' I h => (ps_clauses hs hf hN tk hb hL).run pins s σ H D' I ?_⟩
  obtain ⟨ι, ρ, hh', o, ρ', h', rs, rh, em, ks⟩ := h
  unfold mTry at em
  cases q : mb ρ hh' with
  | none => rw [q] at em; cases em
  | some z =>
    obtain ⟨o1, ρ1, h1⟩ := z
    rw [q] at em
    refine ⟨ι, ρ, hh', o1, ρ1, h1, ⟨rs.len, rs.at_, rs.fx⟩, rh, q, ?_⟩
    have back : ∀ {W' : WX} {ι H ρ σ}, RS (gx T X) ⟨W', W.fx⟩ ι H ρ σ → RS (gx T X) W ι H ρ σ := fun r => ⟨r.len, r.at_, r.fx⟩
    cases o1 with
    | nx => cases em; exact fun ι' H' σ' st rs' rh' => ks ι' H' σ' st (back rs') rh'
    | bk => cases em; exact fun ι' H' σ' st rs' rh' => ks ι' H' σ' st (back rs') rh'
    | ct => cases em; exact fun ι' H' σ' st rs' rh' => ks ι' H' σ' st (back rs') rh'
    | rt d => cases em; exact ks
    | ex x =>
      intro ι1 H1 σ1 cls dd st rs1 rh1 rx
      exact handle_ok eE hfx (back rs1) rh1 rx (ks.on st) pr em
end
end ML
/-! the text M18 -/
/-! M18: what an except suite asks of its error: a field, isinstance. -/
namespace ML
open PySem PySem.Spec PyProof.Rows PySem.Calls L2
open PySem.W (InstAt KitX findIn specialIn takesIn subIn mroIn hasDictIn clsIn)

section
variable {K : PySem.W.Frag} {x C : Addr} {ox : Obj} {od : Option Obj}
theorem XK1.found (T : XK1 K C) : PySem.W.findObj K C od "__class__" = some (.bind (.builtin "getset_descriptor.__get__") (.builtin "object.__class__")) := by
  have hc : (clsIn K C).isSome = true := by
    obtain ⟨cd, e, _⟩ := PySem.W.any_some T.dc
    rw [e]; rfl
  cases od with
  | none => exact PySem.W.findObj_dataN hc T.cl T.gt T.tk
  | some o => exact PySem.W.findObj_data hc T.cl T.gt T.tk
theorem XK1.asks (T : XK1 K C) {prog : Program} {w : World} {A : Around} {E : Value → Shared → Prop} {s : Shared} {Q : Option Value → Shared → Prop} (X : K.In s.heap) (I : InstAt s.heap x ox C od) (h : Q (some (.ref C)) { s with toks := s.toks + 1 }) : wpAny (model prog w) A (getAttr? (.ref x) "__class__") Q E s := by
  have hf := T.found (od := od)
  obtain ⟨hp, g, d, t, os⟩ := s
  have l0 := I.type (M := model prog w)
  have l1 := PySem.W.looks_findIn (M := model prog w) X T.ga
  have l2 := PySem.W.looks_findIn (M := model prog w) X T.gg
  have l3 := PySem.W.looks_find (M := model prog w) X I hf
  have sub : PySem.W.Looks (model prog w) hp (isInstance (.ref x) (.type "BaseException")) true := l0.andThen (PySem.W.looks_subIn X T.be)
  have ne : (Value.builtin "BaseException.__getattribute__" == Value.builtin "object.__getattribute__") = false := by decide +kernel
  have n1 : (onTheHeap (Value.ref C) && Value.builtin "BaseException.__getattribute__" == Value.builtin "object.__getattribute__") = false := by rw [ne]; rfl
  have n2 : (false && onTheHeap (Value.builtin "BaseException.__getattribute__")) = false := rfl
  unfold getAttr? getAttrBy? getAttrBy
  refine wpAny_bind (wpAny_mkText (wpAny_bind (wpAny_attempt (wpAny_holding (wpAny_bind (l0.at (wpAny_bind (l1.at ?_))))))))
  show wpAny _ _ (if (onTheHeap (Value.ref C) && Value.builtin "BaseException.__getattribute__" == Value.builtin "object.__getattribute__") = true then _ else _) _ _ _
  rw [n1, if_neg Bool.false_ne_true]
  unfold getAttrByItsOwn hookBefore
  refine wpAny_bind ?_
  rw [if_pos (show onTheHeap (Value.ref C) = true from rfl)]
  refine l2.at (wpAny_bind (wpAny_attempt (wpAny_holding ?_)))
  unfold callGetattribute
  rw [n2, if_neg Bool.false_ne_true]
  unfold boundAndCalled
  rw [PySem.F.excAttr_ValueError.ga.bind (.ref x)]
  refine wpAny_bind (wpAny_pure ?_)
  show wpAny _ _ (call (.builtin "BaseException.__getattribute__") [.ref x, .str "__class__" t]) _ _ _
  refine wpAny_call (codeAny_call_builtin PySem.F.excAttr_ValueError.ga.plain PySem.F.entry_bexc_ga (@PySem.W.check_slot (model prog w) _ _ ⟨hp, g, d, t + 1, os⟩ "BaseException.__getattribute__" "BaseException" "__getattribute__" (.ref x) [.str "__class__" t] [] _ (by decide +kernel) (by decide +kernel) sub (PySem.F.args_bexc_ga (.ref x) (.str "__class__" t)) ?_))
  unfold Builtin.«object.__getattribute__»
  refine wpAny_bind (wpAny_of_eq (a := ((Value.ref x : Value), [Value.str "__class__" t])) (by first | rfl | (simp only [slotArgs]; rfl)) ?_)
  refine wpAny_bind (wpAny_pure (wpAny_bind (l0.at (wpAny_bind (l3.at ?_)))))
  show wpAny _ _ (holding [Value.builtin "object.__class__"] (call (.builtin "getset_descriptor.__get__") [.builtin "object.__class__", .ref x, .ref C]) >>= ret) _ _ _
  refine wpAny_bind (wpAny_holding (wpAny_call (PySem.W.class_get (s := ⟨hp, g, d, t + 1, os⟩) (ox := ox) (od := od) X I T.mo (wpAny_pure ?_))))
  show wpAny _ _ (handedOut (.ref C)) _ _ _
  rw [PySem.W.handedOut_of (v := .ref C) rfl]
  first
    | exact wpAny_pure (wpAny_pure h)
    | exact wpAny_pure h
    | exact wpAny_pure (wpAny_bind (wpAny_pure (wpAny_pure h)))
theorem XK1.kit (T : XK1 K C) : KitX K (.ref x) (.ref C) (fun h => InstAt h x ox C od) where
  ty := fun _ _ _ I => I.type
  it := fun _ _ X _ => by
    obtain ⟨cd, e, _⟩ := PySem.W.any_some T.dc
    unfold clsIn at e
    split at e
    · rename_i ho
      intro A' Q' E' s' k q
      unfold isType loadHead
      exact wpAny_bind (wpAny_loadPart (k _ _ (X _ _ ho)) (wpAny_pure q))
    · cases e
  ne := fun h tp dd its n sl X ht => by
    obtain ⟨cd, e, _⟩ := PySem.W.any_some T.dc
    refine Bool.eq_false_iff.mpr fun q => ?_
    have z : C = tp := Value.ref.inj (beq_iff_eq.mp q)
    subst z
    unfold clsIn at e
    split at e
    · rename_i ho
      have z := (X _ _ ho).symm.trans ht
      cases z
    · cases e
  ca := fun X I k => T.asks X I k
end

def mXf (cs : List Str) (x : Xc) (f : Str) : ME := fun _ h => if cs.contains x.C = true then got ((x.ks.zip x.xs).lookup f) h else none
def mIsX (E : ExT) (cs : List Str) (x : Xc) (B : Str) : ME := fun _ h => if cs.contains x.C = true then got ((exLook x.C B E).map .bl) h else none
section
variable {T : List (Addr × Str)} {X : Cx} {a : Addr} {oe : Obj} {cls : Value} {dd : Option Addr} {pn : List (Addr × Obj)} {x : Xc} {i : Nat} {n f y z : Str} {cs : List Str} {E : ExT} {p p2 p3 pos : Pos}
theorem m_xf (hN : X.N[i]? = some n) (hv : Vis X.env.scope n) (hC : ∀ m ∈ cs, ∃ C, X.mg m = some (.ref C) ∧ XfC X.K C ∧ findIn X.K (.ref C) f = some none) (hz : L2N.Zn cls dd oe) (hf : ∃ vs, oe.data = .fields vs) (hb : attributeBase (.Name n p) f X.env (eval (.Name n p) X.env) = eval (.Name n p) X.env := by rfl)
    (hd : (n == ("__debug__" : Str)) = false := by decide) (hcd : (n == ("__classdict__" : Str)) = false := by decide) : PE (X.suite a ((a, oe) :: pn)) (.Attribute (.Name n p) f pos) (tE (gx T X) (WS (gx T X) (some i) a x cls dd) (mXf cs x f)) := by
  refine ⟨fun pins s σ H Q I ⟨ι, ρ, h, r, h', rs, rh, em, ke⟩ => ?_⟩
  unfold mXf at em
  by_cases hc : cs.contains x.C = true
  · rw [if_pos hc] at em
    obtain ⟨d, ed, er, eh⟩ := got_eq em
    subst er; subst eh
    obtain ⟨C, mC, T1, no⟩ := hC x.C (List.contains_iff_mem.mp hc)
    obtain ⟨⟨r1, r2⟩, fx⟩ := rs.fx
    have ecl : cls = .ref C := by
      have z : X.mg x.C = some cls := r1
      rw [mC] at z
      cases z
      rfl
    refine (pe_xf T1 no hz.zc hf (pe_var (X := X.suite a ((a, oe) :: pn)) (i := i) hN hv hd hcd) hb).run pins s σ H Q I ⟨.ref a, fx i rfl, rfl, ecl, ?_⟩
    rcases r2 with z | ⟨da, vs, e1, e2, e3, e4, e5⟩
    · rw [z.1] at ed; cases ed
    · obtain ⟨v, hv', rv⟩ := zip_look e4 ed
      exact ⟨da, _, v, e1, e3, hv', ke ι H v (Stp.refl _ _) rh rv⟩
  · rw [if_neg hc] at em; cases em
theorem m_isx (hN : X.N[i]? = some n) (hv : Vis X.env.scope n) (hg : Gl X "isinstance") (hm : X.mg "isinstance" = none) (hgy : Gl X y) (my : ∃ A, X.mg y = some (.ref A)) (eE : ExOk X.K X.mg E) (hC : ∀ m ∈ cs, ∃ C, X.mg m = some (.ref C) ∧ XK1 X.K C) (hz : L2N.Zn cls dd oe) (hf : ∃ vs, oe.data = .fields vs)
    (hd : (n == ("__debug__" : Str)) = false := by decide) (hcd : (n == ("__classdict__" : Str)) = false := by decide) (hd2 : (y == ("__debug__" : Str)) = false := by decide) : PE (X.suite a ((a, oe) :: pn)) (.Call (.Name "isinstance" p) [.Name n p2, .Name y p3] [] pos) (tE (gx T X) (WS (gx T X) (some i) a x cls dd) (mIsX E cs x y)) := by
  refine ⟨fun pins s σ H Q I ⟨ι, ρ, h, r, h', rs, rh, em, ke⟩ => ?_⟩
  unfold mIsX at em
  by_cases hc : cs.contains x.C = true
  · rw [if_pos hc] at em
    obtain ⟨d, ed, er, eh⟩ := got_eq em
    subst er; subst eh
    simp only [Option.map_eq_some_iff] at ed
    obtain ⟨b, eb, ez⟩ := ed
    subst ez
    obtain ⟨C, mC, T1⟩ := hC x.C (List.contains_iff_mem.mp hc)
    obtain ⟨A, mA⟩ := my
    obtain ⟨⟨r1, r2⟩, fx⟩ := rs.fx
    have ecl : cls = .ref C := by
      have z : X.mg x.C = some cls := r1
      rw [mC] at z
      cases z
      rfl
    subst ecl
    have hk := (eE.look mC mA eb).2
    have hcall : CallR (X.suite a ((a, oe) :: pn)) (.builtin "isinstance") (fun xs H Q => xs = [.ref a, .ref A] ∧ (∀ db, dd = some db → ∃ fs, H db = some (.xd fs)) ∧ Q (.bl b) H) := by
      intro pins s σ H xs us Q I r ⟨ex, hdb, q⟩
      subst ex
      obtain ⟨u1, u2, eu, k1, k2⟩ := r.two
      subst eu
      cases k1
      cases k2
      obtain ⟨hget, _⟩ := I.pin (a, oe) (List.mem_append.mpr (.inl List.mem_cons_self))
      obtain ⟨vs, hv⟩ := hf
      have J : ∃ od, InstAt s.heap a oe C od := by
        obtain ⟨oc, od, oda, osl⟩ := oe
        obtain ⟨h1, h2⟩ := hz.zc
        dsimp only at h1 h2 hv
        subst h1 h2 hv
        cases oc' : od with
        | none => exact ⟨none, by rw [← oc']; exact hget, rfl, rfl, trivial⟩
        | some db =>
          obtain ⟨fs, ex⟩ := hdb db oc'
          obtain ⟨mA, ⟨o, _, _, e1, _⟩, _⟩ := (show ObjOk X.prog X.w H s.heap db (.xd fs) from I.hok db _ ex)
          exact ⟨some o, by rw [← oc']; exact hget, rfl, rfl, e1⟩
      obtain ⟨od, J⟩ := J
      exact PySem.W.kia_one (XK1.kit T1) I.kIn J hk (fun z => nomatch z) fun tk => ⟨.bl b, H, I.kept (t' := tk) fun _ _ z => z, rfl, q⟩
    refine (pe_callB hcall hg hm boot_isinstance (pa_cons (pe_var (X := X.suite a ((a, oe) :: pn)) (i := i) hN hv hd hcd) (pa_cons (pe_glob (X := X.suite a ((a, oe) :: pn)) (v := .ref A) hgy mA rfl hd2) pa_nil))).run pins s σ H Q I ?_
    refine ⟨.ref a, fx i rfl, rfl, fun db edb => ?_, ke ι H _ (Stp.refl _ _) rh (st_bl _ _)⟩
    rcases r2 with z | ⟨da, vs, e1, e2, e3, e4, e5⟩
    · rw [z.2] at edb; cases edb
    · rw [e1] at edb; cases edb; exact ⟨_, e3⟩
  · rw [if_neg hc] at em; cases em
end
end ML
/-! the text M19 -/
/-! M19: starred items, append, extend, + and * of lists and tuples. -/
namespace ML
open PySem PySem.Spec PyProof.Rows L2

/-- a list that the heap holds as it stands -/
def exl (h : VH) : D → Option (List D)
  | .lst xs => some xs
  | .obj a => (match h[a]? with
    | some (.lst xs) => some xs
    | _ => none)
  | _ => none
section
variable {c : Gx} {ι : Adr} {H : Hp} {h : VH}
theorem exl_at {d : D} {v : V} {xs : List D} (rh : RH c ι h H) (rv : RV c ι H d v) (e : exl h d = some xs) : ∃ p vs, v = .ref p ∧ H p = some (.lst vs) ∧ RVL c ι H xs vs := by
  cases d with
  | lst ys =>
    cases e
    simp only [RV] at rv
    obtain ⟨p, vs, ev, rl, hp, _⟩ := rv
    exact ⟨p, vs, ev, hp, rl⟩
  | obj a =>
    simp only [exl] at e
    cases q : h[a]? with
    | none => rw [q] at e; cases e
    | some o => cases o with
      | lst ys =>
        rw [q] at e
        cases e
        simp only [RV] at rv
        obtain ⟨p, ev, ip⟩ := rv
        obtain ⟨p', ip', ro⟩ := rh.obj a _ q
        rw [ip] at ip'
        cases ip'
        simp only [RO] at ro
        obtain ⟨vs, hp, rl⟩ := ro
        exact ⟨p, vs, ev, hp, rl⟩
      | _ => rw [q] at e; cases e
  | _ => cases e
end
def maStar (a : ME) (b : MA) : MA := fun ρ h => bnd (a ρ h) fun x h1 => match seqOf h1 x with
  | some (_, xs) => bnd (b ρ h1) fun ys h2 => ok (xs ++ ys) h2
  | none => none
/-- o.append(e), o.extend(e) -/
def doApp (x y : D) (h : VH) : Option VH := match x with
  | .obj a => (match h[a]? with
    | some (.lst xs) => if xs.length < 10000000 then some (h.set a (.lst (xs ++ [y]))) else none
    | _ => none)
  | _ => none
def doExt (x y : D) (h : VH) : Option VH := match x, exl h y with
  | .obj a, some zs => (match h[a]? with
    | some (.lst xs) => if xs.length + zs.length < 10000000 then some (h.set a (.lst (xs ++ zs))) else none
    | _ => none)
  | _, _ => none
def mLM (f : D → D → VH → Option VH) (o a : ME) : ME := fun ρ h => bnd (o ρ h) fun x h1 => match exl h1 x with
  | some _ => bnd (a ρ h1) fun y h2 => (match f x y h2 with
    | some h3 => ok .non h3
    | none => none)
  | none => none
section
variable {T : List (Addr × Str)} {X : Cx} {W : WW} {e o : Expr} {es : List Expr} {p apos cpos : Pos} {me mo : ME} {mas : MA}
theorem a_star (he : PE X e (tE (gx T X) W me)) (hr : PA X es (tA (gx T X) W mas)) (hs : starEach (.Starred e p :: es) X.env = (true, eval e X.env) :: starEach es X.env := by rfl) : PA X (.Starred e p :: es) (tA (gx T X) W (maStar me mas)) := by
  refine paI (StX.pa_star he hr hs) fun σ H Q ⟨ι, ρ, h, r, h', rs, rh, em, ke⟩ => ?_
  refine partA rs rh em ke fun ι1 H1 v h1 d st1 rs1 rh1 rv1 e1 ke1 => ?_
  cases q : seqOf h1 d with
  | none => rw [q] at e1; cases e1
  | some bx =>
    obtain ⟨b, xs⟩ := bx
    rw [q] at e1
    obtain ⟨p, vs, ev, sq, rl⟩ := seq_at rh1 rv1 q
    refine ⟨p, vs, ev, ?_, argsA rs1 rh1 e1 ke1 fun ι2 H2 ws h2 ys st2 rs2 rh2 rv2 e2 ke2 => ?_⟩
    · cases b with
      | true => exact .inr sq
      | false => exact .inl sq
    · obtain ⟨er, eh⟩ := ok_eq e2
      subst er; subst eh
      exact ke2 ι2 H2 _ (Stp.refl _ _) rh2 (RVL.append (RVL.step st2 _ _ rl) rv2)
theorem imp_lm {f : D → D → VH → Option VH} {r : V → List V → Hp → VK → Prop} (hr : ∀ ι H h x y v w h' Q, RH (gx T X) ι h H → RV (gx T X) ι H x v → RV (gx T X) ι H y w → f x y h = some h' → (∀ ι' H', Stp ι H ι' H' → RH (gx T X) ι' h' H' → Q .non H') → r v [w] H Q) :
    ∀ σ H Q, tE (gx T X) W (mLM f mo me) σ H Q → tBM X.K "list" r (tE (gx T X) W mo) (tA (gx T X) W (maCons me maNil)) σ H Q := by
  rintro σ H Q ⟨ι, ρ, h, rr, h', rs, rh, em, ke⟩
  refine partE rs rh em ke fun ι1 H1 v h1 d st1 rs1 rh1 rv1 e1 ke1 => ?_
  cases q : exl h1 d with
  | none => rw [q] at e1; cases e1
  | some xs =>
    rw [q] at e1
    obtain ⟨p, vs, ev, hp, rl⟩ := exl_at rh1 rv1 q
    subst ev
    refine ⟨.inl ⟨rfl, _, SqL.of hp⟩, ?_⟩
    cases q1 : me ρ h1 with
    | none => rw [q1] at e1; cases e1
    | some z =>
      obtain ⟨r1, h2⟩ := z
      rw [q1] at e1
      cases r1 with
      | error x =>
        have e' : some ((Except.error x : Except Xc D), h2) = some (rr, h') := e1
        cases e'
        exact ⟨ι1, ρ, h1, .error x, _, rs1, rh1, by simp [maCons, q1], fun ι' H' cls dd st a b => ke1 ι' H' cls dd st a b⟩
      | ok y =>
        simp only [bnd_ok] at e1
        refine ⟨ι1, ρ, h1, .ok [y], h2, rs1, rh1, by simp [maCons, q1, maNil, ok], fun ι2 H2 ws st2 rh2 rv2 => ?_⟩
        obtain ⟨w, ew, rw2⟩ := one_v rv2
        subst ew
        cases q2 : f d y h2 with
        | none => rw [q2] at e1; cases e1
        | some h3 =>
          rw [q2] at e1
          obtain ⟨er, eh⟩ := ok_eq e1
          subst er; subst eh
          exact hr ι2 H2 h2 d y _ w _ Q rh2 (RV.step st2 _ _ rv1) rw2 q2 fun ι' H' st rh' => ke1 ι' H' .non (st2.trans st) rh' (st_non _ _)
theorem ap_ok : ∀ ι H h x y v w h' Q, RH (gx T X) ι h H → RV (gx T X) ι H x v → RV (gx T X) ι H y w → doApp x y h = some h' → (∀ ι' H', Stp ι H ι' H' → RH (gx T X) ι' h' H' → Q .non H') → rAppend v [w] H Q := by
  intro ι H h x y v w h' Q rh rv rw_ e k
  unfold doApp at e
  cases x with
  | obj a =>
    simp only [] at e
    cases q : h[a]? with
    | none => rw [q] at e; cases e
    | some ob =>
      cases ob with
      | lst xs =>
        rw [q] at e
        simp only [] at e
        by_cases hl : xs.length < 10000000
        · rw [if_pos hl] at e
          cases e
          simp only [RV] at rv
          obtain ⟨p, ev, ip⟩ := rv
          obtain ⟨p', ip', ro⟩ := rh.obj a _ q
          rw [ip] at ip'
          cases ip'
          simp only [RO] at ro
          obtain ⟨vs, hp, rl⟩ := ro
          have st := rh.setStp (u := .lst (vs ++ [w])) ip
          exact ⟨p, vs, w, ev, rfl, hp, by rw [rl.len, sizeLine_eq]; omega, k ι _ st (rh.setO ip (wr_lst hp) (by simp only [RO]; exact ⟨_, upd_same, RVL.step st _ _ (rl.append (.cons rw_ .nil))⟩))⟩
        · rw [if_neg hl] at e; cases e
      | _ => rw [q] at e; cases e
  | _ => cases e
theorem ext_ok : ∀ ι H h x y v w h' Q, RH (gx T X) ι h H → RV (gx T X) ι H x v → RV (gx T X) ι H y w → doExt x y h = some h' → (∀ ι' H', Stp ι H ι' H' → RH (gx T X) ι' h' H' → Q .non H') → rExtend v [w] H Q := by
  intro ι H h x y v w h' Q rh rv rw_ e k
  unfold doExt at e
  cases x with
  | obj a =>
    cases q0 : exl h y with
    | none => rw [q0] at e; cases e
    | some zs =>
      rw [q0] at e
      simp only [] at e
      cases q : h[a]? with
      | none => rw [q] at e; cases e
      | some ob =>
        cases ob with
        | lst xs =>
          rw [q] at e
          simp only [] at e
          by_cases hl : xs.length + zs.length < 10000000
          · rw [if_pos hl] at e
            cases e
            simp only [RV] at rv
            obtain ⟨p, ev, ip⟩ := rv
            obtain ⟨p', ip', ro⟩ := rh.obj a _ q
            rw [ip] at ip'
            cases ip'
            simp only [RO] at ro
            obtain ⟨vs, hp, rl⟩ := ro
            obtain ⟨b, ws, ew, hb, rb⟩ := exl_at rh rw_ q0
            have st := rh.setStp (u := .lst (vs ++ ws)) ip
            subst ew
            exact ⟨p, b, vs, ws, ev, rfl, hp, hb, by rw [rl.len, rb.len, sizeLine_eq]; omega, k ι _ st (rh.setO ip (wr_lst hp) (by simp only [RO]; exact ⟨_, upd_same, RVL.step st _ _ (rl.append rb)⟩))⟩
          · rw [if_neg hl] at e; cases e
        | _ => rw [q] at e; cases e
  | _ => cases e
theorem m_app (ho : PE X o (tE (gx T X) W mo)) (he : PE X e (tE (gx T X) W me)) (hs : starEach [e] X.env = (false, eval e X.env) :: starEach [] X.env := by rfl) (hbase : attributeBase o "append" X.env (eval o X.env) = eval o X.env := by rfl)
    (hfew : ((backTo cpos (starEach [e] X.env)).all (fun x => !x.1) && (backToKw cpos (keywordEach [] X.env)).all (fun x => x.1.isSome) && decide ([e].length + ([] : List Keyword).length + (if ([] : List Keyword).isEmpty then 0 else 1) < 30)) = true := by rfl) (hline : (apos.endLine == cpos.line) = true := by rfl) (hplain : (backTo cpos (starEach [] X.env)).any (·.1) = false := by rfl) :
    PE X (.Call (.Attribute o "append" apos) [e] [] cpos) (tE (gx T X) W (mLM doApp mo me)) :=
  peI (pe_bm PySem.F.plainAttrs_list PySem.F.slot_list_append PySem.F.type_list_append mt_append ho (a_cons he a_nil hs) hbase hfew hline hs hplain) (imp_lm ap_ok)
theorem m_ext (ho : PE X o (tE (gx T X) W mo)) (he : PE X e (tE (gx T X) W me)) (hs : starEach [e] X.env = (false, eval e X.env) :: starEach [] X.env := by rfl) (hbase : attributeBase o "extend" X.env (eval o X.env) = eval o X.env := by rfl)
    (hfew : ((backTo cpos (starEach [e] X.env)).all (fun x => !x.1) && (backToKw cpos (keywordEach [] X.env)).all (fun x => x.1.isSome) && decide ([e].length + ([] : List Keyword).length + (if ([] : List Keyword).isEmpty then 0 else 1) < 30)) = true := by rfl) (hline : (apos.endLine == cpos.line) = true := by rfl) (hplain : (backTo cpos (starEach [] X.env)).any (·.1) = false := by rfl) :
    PE X (.Call (.Attribute o "extend" apos) [e] [] cpos) (tE (gx T X) W (mLM doExt mo me)) :=
  peI (pe_bm PySem.F.plainAttrs_list PySem.F.slot_list_extend PySem.F.type_list_extend mt_extend ho (a_cons he a_nil hs) hbase hfew hline hs hplain) (imp_lm ext_ok)
/-! ### + and * -/
def bCatL : B2 := fun x y h => match exl h x, exl h y with
  | some xs, some ys => if xs.length + ys.length ≤ 10000000 then some (.lst (xs ++ ys)) else none
  | _, _ => none
def bCatT : B2 := fun x y _ => match x, y with
  | .tup xs, .tup ys => if xs.length + ys.length ≤ 10000000 then some (.tup (xs ++ ys)) else none
  | _, _ => none
def small63 (k : Int) : Bool := decide (-9223372036854775808 ≤ k) && decide (k < 9223372036854775808)
def bRepL : B2 := fun x y h => match exl h x, y with
  | some xs, .int k => if small63 k = true ∧ xs.length * k.toNat ≤ 10000000 then some (.lst (List.replicate k.toNat xs).flatten) else none
  | _, _ => none
theorem o_catL : Op2 T X (binaryOp .Add) bCatL := ⟨_, op_cat, fun ι H h x y v w z Q rh rv rw_ e fin => by
  unfold bCatL at e
  cases q1 : exl h x with
  | none => rw [q1] at e; cases e
  | some xs =>
  cases q2 : exl h y with
  | none => rw [q1, q2] at e; cases e
  | some ys =>
    rw [q1, q2] at e
    simp only [] at e
    by_cases hl : xs.length + ys.length ≤ 10000000
    · rw [if_pos hl] at e
      cases e
      obtain ⟨p, vs, ev, hp, rl⟩ := exl_at rh rv q1
      obtain ⟨p2, ws, ev2, hp2, rl2⟩ := exl_at rh rw_ q2
      exact ⟨p, p2, vs, ws, ev, ev2, hp, hp2, ten_line (by rw [rl.len, rl2.len]; exact hl), fun l n => fin _ _ _ (rh.newStp n) (rh.new n) (rv_lst rh n (rl.append rl2))⟩
    · rw [if_neg hl] at e; cases e⟩
theorem o_catT : Op2 T X (binaryOp .Add) bCatT := ⟨_, op_catA, fun ι H h x y v w z Q rh rv rw_ e fin => by
  cases x <;> first | (cases e; done) | skip
  cases y <;> first | (cases e; done) | skip
  rename_i xs ys
  unfold bCatT at e
  simp only [] at e
  by_cases hl : xs.length + ys.length ≤ 10000000
  · rw [if_pos hl] at e
    cases e
    have rv0 := rv
    have rw0 := rw_
    simp only [RV] at rv rw_
    obtain ⟨p, vs, ev, rl, sq, _⟩ := rv
    obtain ⟨p2, ws, ev2, rl2, sq2, _⟩ := rw_
    have l1 := rl.len
    have l2 := rl2.len
    refine ⟨p, p2, vs, ws, ev, ev2, sq, sq2, ten_line (by rw [l1, l2]; exact hl), fun e1 => ?_, fun _ e2 => ?_, fun _ _ l n => fin _ _ _ (rh.newStp n) (rh.new n) (rv_tup rh n (rl.append rl2))⟩
    · have : xs = [] := List.eq_nil_of_length_eq_zero (by rw [← l1, e1]; rfl)
      subst this
      rw [← ev2]
      exact fin ι H w (Stp.refl _ _) rh rw0
    · have : ys = [] := List.eq_nil_of_length_eq_zero (by rw [← l2, e2]; rfl)
      subst this
      rw [← ev]
      exact fin ι H v (Stp.refl _ _) rh (by rw [List.append_nil]; exact rv0)
  · rw [if_neg hl] at e; cases e⟩
theorem rvl_rep {c : Gx} {ι : Adr} {H : Hp} {xs : List D} {vs : List V} (r : RVL c ι H xs vs) : ∀ n : Nat, RVL c ι H (List.replicate n xs).flatten (List.replicate n vs).flatten
  | 0 => .nil
  | n + 1 => by
    rw [List.replicate_succ, List.replicate_succ, List.flatten_cons, List.flatten_cons]
    exact r.append (rvl_rep r n)
theorem o_repL : Op2 T X (binaryOp .Mult) bRepL := ⟨_, op_rep, fun ι H h x y v w z Q rh rv rw_ e fin => by
  unfold bRepL at e
  cases q1 : exl h x with
  | none => rw [q1] at e; cases e
  | some xs =>
  rw [q1] at e
  cases y <;> first | (cases e; done) | skip
  rename_i k
  simp only [] at e
  by_cases hl : small63 k = true ∧ xs.length * k.toNat ≤ 10000000
  · rw [if_pos hl] at e
    cases e
    obtain ⟨p, vs, ev, hp, rl⟩ := exl_at rh rv q1
    simp only [RV] at rw_
    have hk := Bool.and_eq_true_iff.mp hl.1
    exact ⟨p, k, vs, ev, rw_, hp, of_decide_eq_true hk.1, of_decide_eq_true hk.2, ten_line (by rw [rl.len]; exact hl.2), fun l n => fin _ _ _ (rh.newStp n) (rh.new n) (rv_lst rh n (rvl_rep rl _))⟩
  · rw [if_neg hl] at e; cases e⟩
end
end ML
/-! the text M20 -/
/-! M20: {**d, k: v}: one dict merged into another. -/
namespace ML
open PySem PySem.Spec PyProof.Rows PySem.Calls L2

section
variable {prog : Program} {w : World} {K : Type} [DecidableEq K] {knd : KeyKind prog w K} {A : Around} {E : Value → Shared → Prop} {s : Shared}
theorem put_pairs {d : Addr} {kvs : List (K × Value)} {k : K} {key v : Value} {Q : Unit → Shared → Prop} (hkey : knd.is k key = true) (hm : s.heap.DictOf knd d kvs) (hz : kvs.length ≤ sizeLine)
    (hQ : ∀ h', h'.DictOf knd d (stored kvs k v) → Heap.SameBut d s.heap h' → Q () { s with heap := h' }) : wpAny (model prog w) A (dictPut d (knd.hash k) key v) Q E s := by
  obtain ⟨o, es, ep, ho, hc, hd, hk, hp, hn⟩ := hm
  have hes : es.size ≤ sizeLine := by
    have e1 := hp.length
    have e2 : es.toList.length = es.size := by simp
    omega
  have hidx : (es.findIdx? fun e => knd.is k e.key) = kvs.findIdx? fun kv => decide (kv.1 = k) := by
    rw [← hp.findIdx k]
    obtain ⟨l⟩ := es
    simp
  unfold dictPut
  refine wpAny_bind (wpAny_dictFind_of hkey ho hd hk ?_)
  cases hi : es.findIdx? fun e => knd.is k e.key with
  | some i =>
    refine wpAny_updateDict ho hd (hQ _ ⟨_, _, ep, Heap.get?_update_self _ ho (Obj.isFreed_of_dict (Obj.data_mapDict hd _)), hc.mapDict _, Obj.data_mapDict hd _, hk.modify _ _, ?_, ?_⟩ (Heap.SameBut.update ..))
    · have hl : (es.toList.findIdx? fun e => knd.is k e.key) = some i := by
        rw [← hi]
        obtain ⟨l⟩ := es
        simp
      rw [stored, if_pos (any_of_findIdx_some (hidx ▸ hi))]
      have := hp.modify hn hl v
      obtain ⟨l⟩ := es
      simpa using this
    · rw [stored, if_pos (any_of_findIdx_some (hidx ▸ hi)), keys_map_store]
      exact hn
  | none =>
    have hnot : k ∉ kvs.map (·.1) := not_mem_of_findIdx_none (hidx ▸ hi)
    have hany : ¬ (kvs.any fun kv => decide (kv.1 = k)) = true := by
      rw [List.any_eq_true]
      rintro ⟨kv, hkv, he⟩
      exact hnot (List.mem_map.mpr ⟨kv, hkv, of_decide_eq_true he⟩)
    refine wpAny_updateDictKeys (hz := hes) ho hd (hQ _ ⟨_, _, ep + 1, Heap.get?_update_self _ ho (Obj.isFreed_of_dict (Obj.data_mapDictKeys hd _)), hc.mapDictKeys _, Obj.data_mapDictKeys hd _, hk.push hkey _, ?_, ?_⟩ (Heap.SameBut.update ..))
    · rw [stored, if_neg hany]
      have := hp.append hkey (knd.hash k) v
      obtain ⟨l⟩ := es
      simpa using this
    · rw [stored, if_neg hany, List.map_append, List.nodup_append]
      refine ⟨hn, by simp, fun a ha b hb => ?_⟩
      simp only [List.map_cons, List.map_nil, List.mem_singleton] at hb
      subst hb
      exact fun e => hnot (e ▸ ha)
theorem merge_pairs {d o : Addr} {kvs more : List (K × Value)} {Q : Unit → Shared → Prop} (nr : ∀ k u, knd.is k u = true → ∀ a, u ≠ .ref a) (hdo : d ≠ o) (hoS : (o == sysModules) = false) (hd : s.heap.DictOf knd d kvs) (ho : s.heap.DictOf knd o more) (hz : kvs.length + more.length ≤ sizeLine)
    (hQ : ∀ h', h'.DictOf knd d (merged kvs more) → Heap.SameBut d s.heap h' → Q () { s with heap := h' }) : wpAny (model prog w) A (mergeMapping d (.ref o) false) Q E s := by
  obtain ⟨od, esd, epd, hod, hcd, hdd, hkd, hpd, hnd⟩ := id hd
  obtain ⟨oo, eso, epo, hoo, hco, hdo', hko, hpo, hno⟩ := id ho
  have hT : s.TypeIs (.ref o) "dict" := ⟨oo, hoo, hco.1⟩
  have hlen : more.length = eso.size := by
    rw [← hpo.length]
    simp
  have sub1 : isSubtype (.type "dict") (.type "dict") = pure true := by rw [isSubtype_type]; kernel_rfl
  have key : ∀ e ∈ eso, ∀ a, e.key ≠ .ref a := fun e he a => by
    obtain ⟨k, hk, _⟩ := hko e he
    exact nr k _ hk a
  unfold mergeMapping
  refine wpAny_bind (wpAny_isInstance hT sub1 ?_)
  simp only [if_true]
  refine wpAny_bind (wpAny_specialOf hT PySem.F.slot_dict_iter.lookup ?_)
  refine wpAny_bind (wpAny_pure ?_)
  simp only [beq_self_eq_true, hoS, Bool.false_eq_true, if_false]
  have loop : wpAny (model prog w) A (do
      let l ← dictEntries o
      let epoch ← dictEpoch o
      forIn (List.range l.size) PUnit.unit fun i (_ : PUnit) => (do
        let l' ← dictEntries o
        match l'[i]? with
          | some e => do
            holding [e.key, e.val] (dictPut d e.hash e.key e.val)
            let ep' ← dictEpoch o
            if (ep' != epoch) = true then do
                (unsupported "dict.changed-during-merge" : Sem PUnit)
                pure (ForInStep.yield PUnit.unit)
              else pure (ForInStep.yield PUnit.unit)
          | _ => do
            (unsupported "dict.changed-during-merge" : Sem PUnit)
            pure (ForInStep.yield PUnit.unit) : Sem (ForInStep PUnit))
      pure ()) Q E s := by
    refine wpAny_bind (wpAny_dictEntries hoo hdo' (wpAny_bind (wpAny_dictEpoch hoo hdo' (wpAny_bind ?_))))
    refine wpAny_forIn_list _ (fun rest _ s' => ∃ h' i, s' = { s with heap := h' } ∧ rest = List.range' i (eso.size - i) ∧ i ≤ eso.size ∧ h'.DictOf knd d (merged kvs (more.take i)) ∧ Heap.SameBut d s.heap h') _ ?_ ?_ _ _ ⟨s.heap, 0, rfl, by rw [List.range_eq_range']; simp, Nat.zero_le _, by simpa [merged] using hd, Heap.SameBut.refl _ _⟩
    · rintro x rest b s' ⟨h', i, rfl, hr, hi, hd', hs'⟩
      have hlt : i < eso.size := Nat.lt_of_not_le fun h => by rw [Nat.sub_eq_zero_of_le h] at hr; simp at hr
      obtain ⟨rfl, hrest⟩ : x = i ∧ rest = List.range' (i + 1) (eso.size - (i + 1)) := by
        rw [show eso.size - i = (eso.size - (i + 1)) + 1 by omega, List.range'_succ] at hr
        injection hr with h1 h2
        exact ⟨h1, h2⟩
      have hoo' : h'.get? o = some oo := (hs'.2 o (Ne.symm hdo)).trans hoo
      refine wpAny_bind (wpAny_dictEntries hoo' hdo' ?_)
      rw [Array.getElem?_eq_getElem hlt]
      obtain ⟨⟨k, v⟩, hkv⟩ : ∃ kv, more[x]? = some kv := ⟨more[x]'(by rw [hlen]; exact hlt), List.getElem?_eq_getElem _⟩
      obtain ⟨hkey, hval⟩ := hpo.get? (e := eso[x]) (by simp [hlt]) hkv
      obtain ⟨k', hkey', hhash⟩ := hko eso[x] (Array.getElem_mem hlt)
      obtain rfl : k' = k := knd.inj _ _ _ hkey' hkey
      show wpAny _ _ (holding [eso[x].key, eso[x].val] (dictPut d eso[x].hash eso[x].key eso[x].val) >>= _) _ _ _
      rw [hhash, hval]
      have hm1 := merged_length_le kvs (more.take x)
      have hm2 : (more.take x).length ≤ more.length := by rw [List.length_take]; omega
      refine wpAny_bind (wpAny_holding (put_pairs hkey hd' (by omega) fun h'' hd'' hs'' => ?_))
      refine wpAny_bind (wpAny_dictEpoch ((hs''.2 o (Ne.symm hdo)).trans hoo') hdo' ?_)
      rw [if_neg (by simp)]
      exact wpAny_pure ⟨h'', x + 1, rfl, hrest, hlt, by rw [merged_take_succ kvs more x (k', v) hkv]; exact hd'', hs'.trans hs''⟩
    · rintro b s' ⟨h', i, rfl, hr, hi, hd', hs'⟩
      have hin : i = eso.size := by
        rcases Nat.lt_or_ge i eso.size with h | h
        · rw [show eso.size - i = (eso.size - (i + 1)) + 1 by omega, List.range'_succ] at hr
          exact nomatch hr
        · exact Nat.le_antisymm hi h
      rw [hin, ← hlen, List.take_length] at hd'
      exact wpAny_pure (hQ h' hd' hs')
  refine wpAny_bind (wpAny_dictEntries hod hdd ?_)
  split
  · refine wpAny_bind (wpAny_dictEntries hoo hdo' (wpAny_bind ?_))
    rw [← Array.forIn_toList]
    refine wpAny_forIn_list _ (fun rest _ s' => s' = s ∧ ∀ c ∈ rest, c ∈ eso) _ ?_ ?_ _ _ ⟨rfl, fun c hc => by simpa using hc⟩
    · rintro x rest b s' ⟨es, hr⟩
      have nk := key x (hr x (by simp))
      split
      · rename_i a e
        exact absurd e (nk a)
      · exact wpAny_pure ⟨es, fun c hc => hr c (by simp [hc])⟩
    · rintro b s' ⟨es, _⟩
      rw [es]
      exact loop
  · exact loop
end
end ML
/-! the text M21 -/
/-! M21: {**d, k: v}. -/
namespace ML
open PySem PySem.Spec PyProof.Rows PySem.Calls L2

theorem mix_nr {P : Program} {w : World} : ∀ k u, (mixKind P w).is k u = true → ∀ a, u ≠ .ref a := fun k u h a e => by
  subst e
  rcases keyIs_shape (show keyIs k (.ref a) = true from h) with ⟨i, t, _, z⟩ | ⟨x, t, _, z⟩ <;> cases z
theorem display2 {A K V : Sem Value} : dictDisplay [(none, A), (some K, V)] = (do
    let d ← alloc { cls := .type "dict", data := .dict #[] }
    let m ← holding [.ref d] A
    (((holding [.ref d, m] (mergeMapping d m false)).onRaise fun x => do let _ ← holding [.ref d, m, x] (runValue (.builtin "proto.let_go" {}))).tryCatch fun e => do
        if ← isInstance e (.type "AttributeError") then
          rule "dict.display.not-a-mapping"; raiseError "TypeError" s!"'{← typeNameOf m}' object is not a mapping"
        throw e).onRaise fun x => do let _ ← holding [.ref d, x] (runValue (.builtin "proto.let_go" {}))
    let sub ← holding [.ref d] (subDict [(K, V)])
    (holding [.ref d, .ref sub] (mergeMapping d (.ref sub) false)).onRaise fun x => do let _ ← holding [.ref d, x] (runValue (.builtin "proto.let_go" {}))
    pure (.ref d)) := by
  unfold dictDisplay
  dsimp only
  simp only [List.forIn_cons, List.forIn_nil, List.isEmpty_nil, if_true, pure_bind, bind_assoc, List.nil_append, List.length_cons, List.length_nil, List.isEmpty_cons, Bool.false_eq_true, if_false]
  simp
def tDStar (ta tk tv : TE) : TE := fun σ H Q => ∀ d, H d = none → ta σ (upd H d (.dK [])) fun x H1 => ∃ o kvs, x = .ref o ∧ H1 d = some (.dK []) ∧ d ≠ o ∧ Rd H1 o (.dK kvs) ∧ kvs.length ≤ 1000000 ∧
  ∀ p, (upd H1 d (.dK kvs)) p = none → tk σ (upd (upd H1 d (.dK kvs)) p (.dK [])) fun y H3 => tv σ H3 fun z H4 => ∃ k, y = kV k ∧ H4 p = some (.dK []) ∧ H4 d = some (.dK kvs) ∧ ∀ od, Q (.ref d) (upd (upd (upd H4 p (.dK [(k, z)])) d (.dK (putK kvs k z))) d (.frz od (.dK (putK kvs k z))))
section
variable {X : Cx} {a k v : Expr} {ta tk tv : TE} {pos : Pos}
theorem pe_dstar (ha : PE X a ta) (hk : PE X k tk) (hv : PE X v tv) : PE X (.Dict [none, some k] [a, v] pos) (tDStar ta tk tv) := by
  refine ⟨fun pins s σ H Q I q => ?_⟩
  rw [arm_eval_Dict]
  refine wpAny_bind (wpAny_standAt ?_)
  show wpAny _ _ (dictDisplay [(none, do let x ← eval a X.env; standAt pos; pure x), (some (eval k X.env), do let x ← eval v X.env; standAt pos; pure x)]) _ _ _
  rw [display2]
  have fresh0 := I.hok.fresh (Nat.le_refl s.heap.objs.size)
  have I1 := I.laid (a := s.heap.objs.size) (o := .dK []) (h' := s.heap.push { cls := .type "dict", data := .dict #[] }) (t' := s.toks) (fun _ _ q => Heap.get?_push_of_some _ q) (Nat.le_refl _) (dk_empty s.heap I.big)
  refine wpAny_bind (wpAny_alloc (wpAny_bind (wpAny_holding (wpAny_bind (thn (ha.run pins _ σ _ _ I1 (q _ fresh0)) fun u s2 ⟨x, H1, I2, rx, o, kvs, ex, hd, hne, ho, hz, q2⟩ => wpAny_bind (wpAny_standAt (wpAny_pure ?_)))))))
  generalize s.heap.objs.size = d at *
  subst ex
  obtain rfl : u = Value.ref o := rx
  obtain ⟨z0, lo0, vs0, r0, dd0⟩ := dk_of I2.hok hd
  cases r0
  obtain ⟨z1, lo1, vs1, r1, dd1⟩ := dk_rd I2.hok ho
  have nd1 : (vs1.map (·.1)).Nodup := let ⟨_, _, _, _, _, _, _, _, n⟩ := dd1; n
  have len1 : kvs.length = vs1.length := r1.length
  refine wpAny_bind (wpAny_onRaise (wpAny_tryCatch (wpAny_onRaise (wpAny_holding (merge_pairs (knd := mixKind X.prog X.w) mix_nr hne lo1 dd0 dd1 (by rw [sizeLine_eq]; simp; omega) fun h3 dd3 sb3 => ?_)))))
  rw [merged_nil_of_nodup vs1 nd1] at dd3
  have I3 := d_write (t' := s2.toks) I2 (by rw [hd]; exact True.intro) sb3 (let ⟨q, _, _, hq, _⟩ := dd3; ⟨q, hq⟩) (dk_new (H' := upd H1 d (.dK kvs)) z1 lo0 r1 dd3)
  have fresh1 := I3.hok.fresh (Nat.le_refl h3.objs.size)
  have I4 := I3.laid (a := h3.objs.size) (o := .dK []) (h' := h3.push { cls := .type "dict", data := .dict #[] }) (t' := s2.toks) (fun _ _ q => Heap.get?_push_of_some _ q) (Nat.le_refl _) (dk_empty h3 I3.big)
  refine wpAny_bind (wpAny_holding (wpAny_subDict (knd := mixKind X.prog X.w) (by simp) (evalPairs_cons (thn (hk.run pins _ σ _ _ I4 (q2 _ fresh1)) fun ku s3 ⟨y, H3, I5, ry, q3⟩ => wpAny_bind (thn (hv.run pins s3 σ H3 _ I5 q3) fun zu s4 ⟨z, H4, I6, rz, kk, ey, hp4, hd4, q4⟩ => wpAny_bind (wpAny_standAt (wpAny_pure (evalPairs_nil ?_))))))))
  subst ey
  obtain ⟨zp, lop, vsp, rp, ddp⟩ := dk_of I6.hok hp4
  cases rp
  refine ⟨[(kk, zu)], ⟨kV_is ry, rfl, True.intro⟩, ddp, fun h5 dd5 sb5 => ?_⟩
  have e5 : merged ([] : List (Key × Value)) [(kk, zu)] = [(kk, zu)] := by simp [merged, stored]
  rw [e5] at dd5
  have npd : h3.objs.size ≠ d := fun e => by
    rw [e, upd_same] at fresh1
    cases fresh1
  have I7 := d_write (t' := s4.toks + 1) I6 (by rw [hp4]; exact True.intro) sb5 (let ⟨q, _, _, hq, _⟩ := dd5; ⟨q, hq⟩) (dk_new (H' := upd H4 h3.objs.size (.dK [(kk, z)])) (kvs := [(kk, z)]) (Nat.succ_le_of_lt (by rw [sizeLine_eq]; decide)) lop (.cons ⟨rfl, rz⟩ .nil) dd5)
  obtain ⟨z6, lo6, vs6, r6, dd6⟩ := dk_of (a := d) I7.hok (by rw [upd_ne (Ne.symm npd)]; exact hd4)
  obtain ⟨_, _, vsq, rq, ddq⟩ := dk_of (a := h3.objs.size) (kvs := [(kk, z)]) I7.hok upd_same
  have len6 : kvs.length = vs6.length := r6.length
  refine wpAny_bind (wpAny_onRaise (wpAny_holding (merge_pairs (knd := mixKind X.prog X.w) mix_nr (Ne.symm npd) lop dd6 dd5 (by rw [sizeLine_eq]; simp; omega) fun h8 dd8 sb8 => ?_)))
  have e8 : merged vs6 [(kk, zu)] = stored vs6 kk zu := rfl
  rw [e8] at dd8
  have I8 := d_write (t' := s4.toks + 1) I7 (by rw [upd_ne (Ne.symm npd), hd4]; exact True.intro) sb8 (let ⟨q, _, _, hq, _⟩ := dd8; ⟨q, hq⟩) (dk_new (H' := upd (upd H4 h3.objs.size (.dK [(kk, z)])) d (.dK (putK kvs kk z))) (by have := length_putK kvs kk z; rw [sizeLine_eq]; omega) lo0 (r6.put kk rz) dd8)
  obtain ⟨od, I9⟩ := I8.lock (d := d) upd_same True.intro
  exact wpAny_pure ⟨.ref d, _, I9, rfl, q4 od⟩
end
end ML
/-! the text M22 -/
/-! M22: dicts that do not change: {}, {**d, k: v}, d[k], k in d, len(d), d.items(). -/
namespace ML
open PySem PySem.Spec PyProof.Rows L2

def keyD : Key → D
  | .inl i => .int i
  | .inr x => .str x
def keyOf : D → Option Key
  | .int i => some (.inl i)
  | .str x => some (.inr x)
  | _ => none
def hasK (k : Key) (ks : List Key) : Bool := ks.any fun k' => decide (k' = k)
def putKs (k : Key) (ks : List Key) : List Key := if hasK k ks = true then ks else ks ++ [k]
def putXs {α : Type} (k : Key) (d : α) (ks : List Key) (xs : List α) : List α := if hasK k ks = true then List.zipWith (fun k' x => if k' = k then d else x) ks xs else xs ++ [d]
theorem any_zip {α : Type} (k : Key) : ∀ {ks : List Key} {vs : List α}, vs.length = ks.length → (ks.zip vs).any (fun kv => decide (kv.1 = k)) = hasK k ks
  | [], vs, _ => by simp [hasK]
  | k' :: ks, [], h => by cases h
  | k' :: ks, v :: vs, h => by
    have := any_zip (k := k) (ks := ks) (vs := vs) (by simpa using h)
    simp only [List.zip_cons_cons, List.any_cons, hasK] at this ⊢
    rw [this]
theorem map_zip (k : Key) (v : V) : ∀ {ks : List Key} {vs : List V}, vs.length = ks.length → (ks.zip vs).map (fun kv => if kv.1 = k then (kv.1, v) else kv) = ks.zip (List.zipWith (fun k' x => if k' = k then v else x) ks vs)
  | [], vs, _ => by simp
  | k' :: ks, [], h => by cases h
  | k' :: ks, x :: vs, h => by
    have := map_zip k v (ks := ks) (vs := vs) (by simpa using h)
    simp only [List.zip_cons_cons, List.map_cons, List.zipWith_cons_cons]
    rw [this]
    by_cases e : k' = k <;> simp [e]
theorem put_zip (k : Key) (v : V) {ks : List Key} {vs : List V} (h : vs.length = ks.length) : putK (ks.zip vs) k v = (putKs k ks).zip (putXs k v ks vs) ∧ (putXs k v ks vs).length = (putKs k ks).length := by
  unfold putK putKs putXs
  rw [any_zip k h]
  cases hasK k ks with
  | true => exact ⟨by simp only [if_true]; exact map_zip k v h, by simp [h]⟩
  | false => exact ⟨by simp [List.zip_append h.symm], by simp [h]⟩
section
variable {c : Gx} {ι : Adr} {H : Hp}
theorem rv_key (k : Key) : RV c ι H (keyD k) (kV k) := by
  cases k with
  | inl i => simp only [keyD, RV]; rfl
  | inr x => simp only [keyD, RV]; rfl
theorem key_rv {d : D} {v : V} {k : Key} (r : RV c ι H d v) (e : keyOf d = some k) : v = kV k := by
  cases d <;> first | (cases e; done) | skip
  all_goals
    cases e
    simp only [RV] at r
    subst r
    rfl
theorem rvl_zipW {k : Key} {d : D} {v : V} (r : RV c ι H d v) : ∀ {ks : List Key} {xs : List D} {vs : List V}, RVL c ι H xs vs → RVL c ι H (List.zipWith (fun k' x => if k' = k then d else x) ks xs) (List.zipWith (fun k' x => if k' = k then v else x) ks vs)
  | [], xs, vs, _ => by simp; exact .nil
  | k' :: ks, [], vs, q => by rw [q.inv_nil]; exact .nil
  | k' :: ks, x :: xs, vs, q => by
    obtain ⟨w, vr, ev, r1, r2⟩ := q.inv_cons
    subst ev
    simp only [List.zipWith_cons_cons]
    by_cases e : k' = k
    · simp only [e, if_true]; exact .cons r (rvl_zipW r r2)
    · simp only [e, if_false]; exact .cons r1 (rvl_zipW r r2)
theorem rvl_put {k : Key} {d : D} {v : V} {ks : List Key} {xs : List D} {vs : List V} (r : RV c ι H d v) (q : RVL c ι H xs vs) : RVL c ι H (putXs k d ks xs) (putXs k v ks vs) := by
  unfold putXs
  cases hasK k ks with
  | true => exact rvl_zipW r q
  | false => exact q.append (.cons r .nil)
end
section
variable {T : List (Addr × Str)} {X : Cx} {W : WW} {a k v : Expr} {pos : Pos} {ma mk mv : ME}
/-- {} -/
theorem m_dic0 : PE X (.Dict [] [] pos) (tE (gx T X) W (mC (.dic [] []))) := by
  refine ⟨fun pins s σ H Q I ⟨ι, ρ, h, r, h', rs, rh, em, ke⟩ => ?_⟩
  obtain ⟨er, eh⟩ := ok_eq em
  subst er; subst eh
  refine thn (pe_dnewK.run pins s σ H (fun v H1 => ∃ p, v = .ref p ∧ H p = none ∧ H1 = upd H p (.dK [])) I fun p n => ⟨p, rfl, n, rfl⟩) fun u s1 ⟨v, H1, I1, r1, p, ev, n, eH⟩ => ?_
  subst ev eH
  obtain ⟨od, I2⟩ := I1.lock (d := p) upd_same True.intro
  have e2 : upd (upd H p (.dK [])) p (.frz od (.dK [])) = upd H p (.frz od (.dK [])) := by
    funext b
    by_cases hb : b = p
    · subst hb; rw [upd_same, upd_same]
    · rw [upd_ne hb, upd_ne hb, upd_ne hb]
  rw [e2] at I2
  refine ⟨.ref p, _, I2, r1, ke ι _ _ (rh.newStp n) (rh.new n) ?_⟩
  simp only [RV]
  exact ⟨p, od, [], rfl, .nil, rfl, upd_same, rh.off n⟩
def mDStar (ma mk mv : ME) : ME := fun ρ h => bnd (ma ρ h) fun d h1 => match d with
  | .dic ks xs => if ks.length ≤ 1000000 then bnd (mk ρ h1) fun y h2 => (match keyOf y with
    | some k => bnd (mv ρ h2) fun z h3 => ok (.dic (putKs k ks) (putXs k z ks xs)) h3
    | none => none) else none
  | _ => none
theorem m_dstar (ha : PE X a (tE (gx T X) W ma)) (hk : PE X k (tE (gx T X) W mk)) (hv : PE X v (tE (gx T X) W mv)) : PE X (.Dict [none, some k] [a, v] pos) (tE (gx T X) W (mDStar ma mk mv)) := by
  refine peI (pe_dstar ha hk hv) fun σ H Q ⟨ι, ρ, h, r, h', rs, rh, em, ke⟩ d nd => ?_
  have st0 := rh.hideStp (o := .dK []) nd
  have ntb : ∀ (kv : List (Key × V)), noTbl (.dK kv) := fun kv => ⟨fun _ z => (by cases z), fun _ z => (by cases z)⟩
  refine partE (rs.step st0) (rh.hide nd (fun x z => (by cases z))) em (ke.on st0) fun ι1 H1 v h1 dv st1 rs1 rh1 rv1 e1 ke1 => ?_
  cases dv with
  | dic ks xs =>
    simp only [] at e1
    by_cases hl : ks.length ≤ 1000000
    · rw [if_pos hl] at e1
      simp only [RV] at rv1
      obtain ⟨o, od0, vs, ev, rl, l, ho, offo⟩ := rv1
      obtain ⟨eD1, hd1⟩ := st1.hid d _ (.inr rfl) upd_same (ntb _)
      have dno : d ≠ o := fun z => by subst z; exact offo.2 hd1
      refine ⟨o, ks.zip vs, ev, eD1, dno, .inr ⟨od0, ho⟩, by rw [List.length_zip]; omega, fun p np => ?_⟩
      have stA : Stp ι H ι1 H1 := st0.trans st1
      have sA : Stp ι H ι1 (upd H1 d (.dK (ks.zip vs))) := ⟨stA.ext, fun q u e n f => let ⟨a, b⟩ := stA.keep q u e n f; ⟨(upd_ne (ne_of_none e nd)).trans a, b⟩, fun q u f e n => let ⟨a, b⟩ := stA.hid q u f e n; ⟨(upd_ne (ne_of_none e nd)).trans a, b⟩⟩
      have rh2 := rh1.under (u := .dK (ks.zip vs)) hd1 eD1 (fun _ z => (by cases z)) (fun _ z => (by cases z)) (fun _ z => (by cases z))
      have rl2 := RVL.under (u := .dK (ks.zip vs)) hd1 _ _ rl
      have st23 := rh2.hideStp (o := .dK []) np
      have sB := sA.trans st23
      refine partE (rs.step sB) (rh2.hide np (fun x z => (by cases z))) e1 (ke.on sB) fun ι3 H3 y h2 yd st3 rs3 rh3 rv3 e3 ke3 => ?_
      cases q : keyOf yd with
      | none => rw [q] at e3; cases e3
      | some kk =>
        rw [q] at e3
        refine partE rs3 rh3 e3 ke3 fun ι4 H4 z h3 zd st4 rs4 rh4 rv4 e4 ke4 => ?_
        obtain ⟨er, eh⟩ := ok_eq e4
        subst er; subst eh
        have s34 := st3.trans st4
        obtain ⟨eP4, hp4⟩ := s34.hid p _ (.inr rfl) upd_same (ntb _)
        obtain ⟨eD4, hd4⟩ := (st23.trans s34).hid d _ hd1 upd_same (ntb _)
        refine ⟨kk, key_rv rv3 q, eP4, eD4, fun od => ?_⟩
        have npd : d ≠ p := fun z => by rw [← z, upd_same] at np; cases np
        obtain ⟨pz1, pz2⟩ := put_zip kk z l
        have rl4 := rvl_put (k := kk) (ks := ks) rv4 (RVL.step (st23.trans s34) _ _ rl2)
        rw [pz1]
        have r5 := rh4.under (u := .dK [(kk, z)]) hp4 eP4 (fun _ z => (by cases z)) (fun _ z => (by cases z)) (fun _ z => (by cases z))
        have l5 := RVL.under (u := .dK [(kk, z)]) hp4 _ _ rl4
        have r6 := r5.under (u := .dK ((putKs kk ks).zip (putXs kk z ks vs))) hd4 ((upd_ne npd).trans eD4) (fun _ z => (by cases z)) (fun _ z => (by cases z)) (fun _ z => (by cases z))
        have l6 := RVL.under (u := .dK ((putKs kk ks).zip (putXs kk z ks vs))) hd4 _ _ l5
        have r7 := r6.under (u := .frz od (.dK ((putKs kk ks).zip (putXs kk z ks vs)))) hd4 upd_same (fun _ z => (by cases z)) (fun _ z => (by cases z)) (fun _ z => (by cases z))
        have l7 := RVL.under (u := .frz od (.dK ((putKs kk ks).zip (putXs kk z ks vs)))) hd4 _ _ l6
        have s4 := sB.trans s34
        have fin_ : Stp ι H (bare (bare ι4 d) p) (upd (upd (upd H4 p (.dK [(kk, z)])) d (.dK ((putKs kk ks).zip (putXs kk z ks vs)))) d (.frz od (.dK ((putKs kk ks).zip (putXs kk z ks vs))))) := by
          refine ⟨s4.ext, fun b u e n f => ?_, fun b u f e n => ?_⟩
          · obtain ⟨a2, f2⟩ := sA.keep b u e n f
            have bp : b ≠ p := ne_of_none a2 np
            have bd : b ≠ d := ne_of_none e nd
            obtain ⟨a4, f4⟩ := s4.keep b u e n f
            exact ⟨by rw [upd_ne bd, upd_ne bd, upd_ne bp]; exact a4, f4.1, fun z => f4.2 z.1.1⟩
          · obtain ⟨a2, f2⟩ := sA.hid b u f e n
            have bp : b ≠ p := ne_of_none a2 np
            have bd : b ≠ d := ne_of_none e nd
            obtain ⟨a4, f4⟩ := s4.hid b u f e n
            exact ⟨by rw [upd_ne bd, upd_ne bd, upd_ne bp]; exact a4, ⟨f4, bd⟩, bp⟩
        refine ke _ _ (.ref d) fin_ r7.bared.bared ?_
        simp only [RV]
        exact ⟨d, od, _, rfl, RVL.bared _ _ (RVL.bared _ _ l7), pz2, upd_same, fun a e => r7.dis a d e hd4, fun z => z.1.2 rfl⟩
    · rw [if_neg hl] at e1; cases e1
  | _ => cases e1
end
end ML
/-! the text M23 -/
/-! M23: dicts that do not change: d[k], k in d, k not in d, len(d), d.items(). -/
namespace ML
open PySem PySem.Spec PyProof.Rows L2

def lookK {α : Type} (k : Key) : List Key → List α → Option α
  | k' :: ks, x :: xs => if k' = k then some x else lookK k ks xs
  | _, _ => none
theorem val_zip (k : Key) : ∀ {ks : List Key} {vs : List V}, valV (ks.zip vs) k = lookK k ks vs
  | [], vs => by simp [lookK, valV]
  | k' :: ks, [] => by simp [lookK, valV]
  | k' :: ks, v :: vs => by
    by_cases e : k' = k
    · rw [List.zip_cons_cons, valV_pos (p := (k', v)) e]
      simp only [lookK, if_pos e]
    · rw [List.zip_cons_cons, valV_neg (p := (k', v)) e, val_zip k]
      simp only [lookK, if_neg e]
theorem val_has (k : Key) {ks : List Key} {vs : List V} (h : vs.length = ks.length) : (valV (ks.zip vs) k).isSome = hasK k ks := by
  rw [← valV_any, any_zip k h]
section
variable {c : Gx} {ι : Adr} {H : Hp}
theorem rvl_look {k : Key} {d : D} : ∀ {ks : List Key} {xs : List D} {vs : List V}, RVL c ι H xs vs → lookK k ks xs = some d → ∃ v, lookK k ks vs = some v ∧ RV c ι H d v
  | [], xs, vs, _, e => by simp [lookK] at e
  | k' :: ks, [], vs, q, e => by simp [lookK] at e
  | k' :: ks, x :: xs, vs, q, e => by
    obtain ⟨w, vr, ev, r1, r2⟩ := q.inv_cons
    subst ev
    simp only [lookK] at e ⊢
    by_cases z : k' = k
    · rw [if_pos z] at e ⊢; cases e; exact ⟨w, rfl, r1⟩
    · rw [if_neg z] at e ⊢; exact rvl_look r2 e
end
def mDGet (mo mi : ME) : ME := fun ρ h => bnd (mo ρ h) fun d h1 => bnd (mi ρ h1) fun y h2 => match d, keyOf y with
  | .dic ks xs, some k => got (lookK k ks xs) h2
  | _, _ => none
def mDIn (p : Bool → Bool) (mi mo : ME) : ME := fun ρ h => bnd (mi ρ h) fun y h1 => bnd (mo ρ h1) fun d h2 => match d, keyOf y with
  | .dic ks xs, some k => ok (.bl (p (hasK k ks))) h2
  | _, _ => none
section
variable {T : List (Addr × Str)} {X : Cx} {W : WW} {a o i : Expr} {pos : Pos} {mo mi : ME}
theorem imp_dget : ∀ σ H Q, tE (gx T X) W (mDGet mo mi) σ H Q → tDGet (tE (gx T X) W mo) (tE (gx T X) W mi) σ H Q := by
  rintro σ H Q ⟨ι, ρ, h, r, h', rs, rh, em, ke⟩
  refine partE rs rh em ke fun ι1 H1 v h1 d st1 rs1 rh1 rv1 e1 ke1 => partE rs1 rh1 e1 ke1 fun ι2 H2 w h2 y st2 rs2 rh2 rv2 e2 ke2 => ?_
  cases q : keyOf y with
  | none => rw [q] at e2; cases d <;> cases e2
  | some k =>
    rw [q] at e2
    cases d <;> first | (cases e2; done) | skip
    rename_i ks xs
    obtain ⟨z, ez, er, eh⟩ := got_eq e2
    subst er; subst eh
    have rv1' := RV.step st2 _ _ rv1
    simp only [RV] at rv1'
    obtain ⟨p, od, vs, ev, rl, l, ho, offo⟩ := rv1'
    obtain ⟨u, eu, ru⟩ := rvl_look rl ez
    refine ⟨p, u, ev, .inl ⟨ks.zip vs, k, .inr ⟨od, ho⟩, key_rv rv2 q, by rw [val_zip, eu]⟩, ke2 ι2 H2 u (Stp.refl _ _) rh2 ru⟩
theorem m_dget (hu : X.A.units + 1 < cLine) (ho : PE X o (tE (gx T X) W mo)) (hi : PE X i (tE (gx T X) W mi)) (hs : NoSl i) : PE X (.Subscript o i pos) (tE (gx T X) W (mDGet mo mi)) := peI (pe_dget hu ho hi hs) imp_dget
theorem imp_din : ∀ σ H Q, tE (gx T X) W (mDIn id mi mo) σ H Q → tDIn (tE (gx T X) W mi) (tE (gx T X) W mo) σ H Q := by
  rintro σ H Q ⟨ι, ρ, h, r, h', rs, rh, em, ke⟩
  refine partE rs rh em ke fun ι1 H1 v h1 y st1 rs1 rh1 rv1 e1 ke1 => partE rs1 rh1 e1 ke1 fun ι2 H2 w h2 d st2 rs2 rh2 rv2 e2 ke2 => ?_
  cases q : keyOf y with
  | none => rw [q] at e2; cases d <;> cases e2
  | some k =>
    rw [q] at e2
    cases d <;> first | (cases e2; done) | skip
    rename_i ks xs
    obtain ⟨er, eh⟩ := ok_eq e2
    subst er; subst eh
    have rv1' := RV.step st2 _ _ rv1
    simp only [RV] at rv2
    obtain ⟨p, od, vs, ev, rl, l, ho, offo⟩ := rv2
    refine ⟨p, _, ev, .inl ⟨ks.zip vs, k, .inr ⟨od, ho⟩, key_rv rv1' q, rfl⟩, ?_⟩
    rw [val_has k l]
    exact ke2 ι2 H2 _ (Stp.refl _ _) rh2 (st_bl _ _)
theorem imp_dnotin : ∀ σ H Q, tE (gx T X) W (mDIn not mi mo) σ H Q → tDNotIn (tE (gx T X) W mi) (tE (gx T X) W mo) σ H Q := by
  rintro σ H Q ⟨ι, ρ, h, r, h', rs, rh, em, ke⟩
  refine partE rs rh em ke fun ι1 H1 v h1 y st1 rs1 rh1 rv1 e1 ke1 => partE rs1 rh1 e1 ke1 fun ι2 H2 w h2 d st2 rs2 rh2 rv2 e2 ke2 => ?_
  cases q : keyOf y with
  | none => rw [q] at e2; cases d <;> cases e2
  | some k =>
    rw [q] at e2
    cases d <;> first | (cases e2; done) | skip
    rename_i ks xs
    obtain ⟨er, eh⟩ := ok_eq e2
    subst er; subst eh
    have rv1' := RV.step st2 _ _ rv1
    simp only [RV] at rv2
    obtain ⟨p, od, vs, ev, rl, l, ho, offo⟩ := rv2
    refine ⟨p, _, ev, .inl ⟨ks.zip vs, k, .inr ⟨od, ho⟩, key_rv rv1' q, rfl⟩, ?_⟩
    rw [val_has k l]
    exact ke2 ι2 H2 _ (Stp.refl _ _) rh2 (st_bl _ _)
theorem m_din (hu : X.A.units + 1 < cLine) (hi : PE X i (tE (gx T X) W mi)) (ho : PE X o (tE (gx T X) W mo)) (hm : behindInMarks .In o = false) : PE X (.Compare i [.In] [o] pos) (tE (gx T X) W (mDIn id mi mo)) := peI (pe_cmp (pc_din hu hi ho) hm) imp_din
theorem t_din (hu : X.A.units + 1 < cLine) (hi : PE X i (tE (gx T X) W mi)) (ho : PE X o (tE (gx T X) W mo)) (hm : behindInMarks .In o = false) : PT X (.Compare i [.In] [o] pos) (tT (gx T X) W (mDIn id mi mo)) := ptI (pt_cmp (pc_din hu hi ho) hm) fun σ H Q q => imp_din σ H _ (imp_test q)
theorem m_dnotin (hu : X.A.units + 1 < cLine) (hi : PE X i (tE (gx T X) W mi)) (ho : PE X o (tE (gx T X) W mo)) (hm : behindInMarks .NotIn o = false) : PE X (.Compare i [.NotIn] [o] pos) (tE (gx T X) W (mDIn not mi mo)) := peI (pe_cmp (pc_dnotin hu hi ho) hm) imp_dnotin
theorem t_dnotin (hu : X.A.units + 1 < cLine) (hi : PE X i (tE (gx T X) W mi)) (ho : PE X o (tE (gx T X) W mo)) (hm : behindInMarks .NotIn o = false) : PT X (.Compare i [.NotIn] [o] pos) (tT (gx T X) W (mDIn not mi mo)) := ptI (pt_cmp (pc_dnotin hu hi ho) hm) fun σ H Q q => imp_dnotin σ H _ (imp_test q)
def cLenD : List D → VH → Option D := fun xs _ => match xs with
  | [.dic ks _] => some (.int ks.length)
  | _ => none
theorem call_lenR : CallR X (.builtin "len") (fun xs H Q => ∃ a kvs, xs = [V.ref a] ∧ Rd H a (.dK kvs) ∧ Q (.int kvs.length) H) := by
  intro pins s σ H xs us Q I r h
  obtain ⟨a, kvs, rfl, ha, q⟩ := h
  obtain ⟨u, u1, e⟩ : ∃ u, us = [u] ∧ RelV (.ref a) u := by
    cases r with
    | cons r1 r2 => cases r2; exact ⟨_, rfl, r1⟩
  subst u1
  cases e
  exact d_len I ha fun t s' I' => ⟨.int kvs.length, H, I', ⟨t, rfl⟩, q⟩
theorem c_lenD : Cal T X (.builtin "len") cLenD := ⟨_, call_lenR, fun ι H h xs vs z Q rh rv e fin => by
  cases xs with
  | nil => cases e
  | cons d ds =>
    cases ds with
    | cons _ _ => cases d <;> cases e
    | nil =>
      cases d <;> first | (cases e; done) | skip
      rename_i ks ys
      cases e
      obtain ⟨v, ev, rv1⟩ := one_v rv
      subst ev
      simp only [RV] at rv1
      obtain ⟨p, od, ws, ev, rl, l, ho, offo⟩ := rv1
      subst ev
      refine ⟨p, ks.zip ws, rfl, .inr ⟨od, ho⟩, ?_⟩
      have e : (ks.zip ws).length = ks.length := by rw [List.length_zip, l, Nat.min_self]
      rw [e]
      exact fin ι H _ (Stp.refl _ _) rh (st_int _ _)⟩
/-! ### d.items() -/
def nxItems (ks : List Key) (xs : List D) : Nx := fun i _ => match ks[i]?, xs[i]? with
  | some k, some x => some (some (.tup [keyD k, x]))
  | _, _ => if ks.length ≤ i then some none else none
def mItems (m : ME) : MI := fun ρ h => bnd (m ρ h) fun d h1 => match d with
  | .dic ks xs => ok (ks.length + 1, nxItems ks xs) h1
  | _ => none
theorem steady_items {c : Gx} {ι : Adr} {H : Hp} {p : Addr} {od : Obj} {ks : List Key} {xs : List D} {vs : List V} (rl : RVL c ι H xs vs) (l : vs.length = ks.length) (ho : H p = some (.frz od (.dK (ks.zip vs)))) (offo : Off ι p) : Steady c (Iti p od (ks.zip vs)) (nxItems ks xs) ι H := by
  intro ι2 H2 h st rh i
  have rl2 := RVL.step st _ _ rl
  have ho2 := (st.keep p _ ho ⟨fun _ z => (by cases z), fun _ z => (by cases z)⟩ offo).1
  have hl : (ks.zip vs).length = ks.length := by rw [List.length_zip, l, Nat.min_self]
  unfold nxItems
  refine ⟨fun d e => ?_, fun e => ?_⟩
  · cases q1 : ks[i]? with
    | none => rw [q1] at e; cases q2 : xs[i]? <;> (rw [q2] at e; simp only [] at e; split at e <;> cases e)
    | some k =>
      have hi : i < ks.length := (List.getElem?_eq_some_iff.mp q1).1
      cases q2 : xs[i]? with
      | none => rw [q1, q2] at e; simp only [] at e; split at e <;> cases e
      | some x =>
        rw [q1, q2] at e
        obtain ⟨v, hv, rx⟩ := rl2.get q2
        simp only [Option.some.injEq] at e
        subst e
        refine ⟨⟨ho2, by rw [hl]; exact hi⟩, fun y H3 ⟨N, k', v', e1, e2, n, e3⟩ => ?_⟩
        subst e2; subst e3
        have ez : (ks.zip vs)[i]? = some (k, v) := by rw [List.getElem?_zip_eq_some]; exact ⟨q1, hv⟩
        rw [ez] at e1
        cases e1
        exact ⟨rh.newStp n, rh.new n, rv_tup rh n (.cons (rv_key k) (.cons rx .nil))⟩
  · refine ⟨ho2, ?_⟩
    rw [hl]
    cases q1 : ks[i]? with
    | none => exact List.getElem?_eq_none_iff.mp q1
    | some k =>
      rw [q1] at e
      cases q2 : xs[i]? with
      | none =>
        rw [q2] at e
        simp only [] at e
        split at e
        · assumption
        · cases e
      | some x => rw [q2] at e; simp at e
theorem i_items {elts : List Expr} {kk : Nat} {tpos apos cpos : Pos} {e : Expr} {m : ME} (he : PE X e (tE (gx T X) W m)) (hbase : attributeBase e "items" X.env (eval e X.env) = eval e X.env := by rfl) (hline : (apos.endLine == cpos.line) = true := by rfl) :
    PI X (.Tuple elts kk tpos) (.Call (.Attribute e "items" apos) [] [] cpos) (tI (gx T X) W (mItems m)) := by
  refine piI (pi_items he hbase hline) fun σ H R ⟨ι, ρ, h, r, h', rs, rh, em, ke⟩ => ?_
  unfold mItems at em
  cases q : m ρ h with
  | none => rw [q] at em; cases em
  | some z =>
    obtain ⟨z, h1⟩ := z
    rw [q] at em
    refine ⟨ι, ρ, h, z, h1, rs, rh, q, ?_⟩
    cases z with
    | error x => cases em; exact ke
    | ok d =>
      simp only [bnd_ok] at em
      cases d <;> first | (cases em; done) | skip
      rename_i ks xs
      obtain ⟨er, eh⟩ := ok_eq em
      subst er; subst eh
      intro ι1 H1 v st1 rh1 rv1
      simp only [RV] at rv1
      obtain ⟨p, od, vs, ev, rl, l, ho, offo⟩ := rv1
      exact ⟨p, od, _, ev, ho, ke ι1 H1 _ st1 rh1 (steady_items rl l ho offo)⟩
end
end ML
/-! the text M24 -/
/-! M24: comprehensions of dicts. -/
namespace ML
open PySem PySem.Spec PyProof.Rows L2

def mDcX (nx : Nx) (t : Tg) (vs : List Nat) (tt tk tv : ME) : Nat → Nat → List Key → List D → Env → VH → Option ((List Key × List D) × VH)
  | 0, _ => fun _ _ _ _ => none
  | k + 1, i => fun ks xs ρ h => match nx i h with
    | some (some d) => (match t.set d (wipeD ρ vs) with
      | some ρ1 => (match tt ρ1 h with
        | some (.ok (.bl true), h1) => (match tk ρ1 h1 with
          | some (.ok y, h2) => (match keyOf y with
            | some kk => (match tv ρ1 h2 with
              | some (.ok z, h3) => if ks.length < 1000000 then mDcX nx t vs tt tk tv k (i + 1) (putKs kk ks) (putXs kk z ks xs) ρ h3 else none
              | _ => none)
            | none => none)
          | _ => none)
        | some (.ok (.bl false), h1) => mDcX nx t vs tt tk tv k (i + 1) ks xs ρ h1
        | _ => none)
      | none => none)
    | some none => some ((ks, xs), h)
    | none => none
def mDc (m : MI) (t : Tg) (vs : List Nat) (tt tk tv : ME) : ME := fun ρ h => bnd (m ρ h) fun p h1 => match mDcX p.2 t vs tt tk tv p.1 0 [] [] ρ h1 with
  | some ((ks, xs), h2) => ok (.dic ks xs) h2
  | none => none
section
variable {T : List (Addr × Str)} {X : Cx} {W : WW}
/-- the dict before it is locked -/
def QDc (T : List (Addr × Str)) (X : Cx) (ι : Adr) (H : Hp) (Q : VK) : VK := fun v H1 => ∃ D kvs, v = .ref D ∧ H1 D = some (.dK kvs) ∧ ∀ od, Q v (upd H1 D (.frz od (.dK kvs)))
theorem imp_dc {m : MI} {t : Tg} {vs : List Nat} {mt mk mv : ME} (hx : ∀ i ∈ t.ix, i ∈ vs) : ∀ σ H Q, tE (gx T X) W (mDc m t vs mt mk mv) σ H Q →
    tDc (tI (gx T X) W m) (t.tg X.K) (tT (gx T X) WF mt) (tE (gx T X) WF mk) (tE (gx T X) WF mv) vs σ H (fun v H1 => ∃ D kvs, v = .ref D ∧ H1 D = some (.dK kvs) ∧ ∀ od, Q v (upd H1 D (.frz od (.dK kvs)))) := by
  rintro σ H Q ⟨ι, ρ, h, r, h', rs, rh, em, ke⟩
  unfold mDc at em
  cases q : m ρ h with
  | none => rw [q] at em; cases em
  | some p =>
    obtain ⟨z, h1⟩ := p
    rw [q] at em
    refine ⟨ι, ρ, h, z, h1, rs, rh, q, ?_⟩
    cases z with
    | error x => cases em; exact ke
    | ok nn =>
      obtain ⟨n, nx⟩ := nn
      simp only [bnd_ok] at em
      cases q2 : mDcX nx t vs mt mk mv n 0 [] [] ρ h1 with
      | none => rw [q2] at em; cases em
      | some p2 =>
        obtain ⟨⟨ksF, xsF⟩, h2⟩ := p2
        rw [q2] at em
        obtain ⟨er, eh⟩ := ok_eq em
        subst er; subst eh
        intro ι1 H1 J st1 rh1 steady D nD
        have rs1 := rs.step st1
        refine ⟨fun i k H => ∃ ι ks acc ds h, Stp ι1 H1 ι H ∧ ι.hid D ∧ H D = some (.dK (ks.zip acc)) ∧ acc.length = ks.length ∧ RVL (gx T X) ι H ds acc ∧ RH (gx T X) ι h H ∧ mDcX nx t vs mt mk mv k i ks ds ρ h = some ((ksF, xsF), h'), ⟨n, hide ι1 D, [], [], [], h1, rh1.hideStp nD, .inr rfl, upd_same, rfl, .nil, rh1.hide nD (fun x z => (by cases z)), q2⟩, ?_⟩
        rintro i k H2 ⟨ι2, ks, acc, ds, h2, st2, hd2, eD, hlk, rl2, rh2, em2⟩
        have sd := steady ι2 H2 h2 st2 rh2 i
        cases k with
        | zero => unfold mDcX at em2; cases em2
        | succ k =>
          unfold mDcX at em2
          cases q3 : nx i h2 with
          | none => simp only [q3] at em2; cases em2
          | some od =>
            cases od with
            | none =>
              simp only [q3] at em2
              cases em2
              refine .inl ⟨sd.2 q3, D, _, rfl, eD, fun od => ?_⟩
              have rh3 := rh2.under (u := .frz od (.dK (ksF.zip acc))) hd2 eD (fun _ z => (by cases z)) (fun _ z => (by cases z)) (fun _ z => (by cases z))
              have rl3 := RVL.under (u := .frz od (.dK (ksF.zip acc))) hd2 _ _ rl2
              have st3 : Stp ι1 H1 (bare ι2 D) (upd H2 D (.frz od (.dK (ksF.zip acc)))) := ⟨st2.ext, fun p o e n f => let ⟨a, b⟩ := st2.keep p o e n f; ⟨(upd_ne (ne_of_none e nD)).trans a, b.1, fun z => b.2 z.1⟩, fun p o f e n => let ⟨a, b⟩ := st2.hid p o f e n; ⟨(upd_ne (ne_of_none e nD)).trans a, b, ne_of_none e nD⟩⟩
              refine ke (bare ι2 D) _ (.ref D) (st1.trans st3) rh3.bared ?_
              simp only [RV]
              exact ⟨D, od, acc, rfl, RVL.bared _ _ rl3, hlk, upd_same, fun a e => rh3.dis a D e hd2, fun z => z.2 rfl⟩
            | some d =>
              simp only [q3] at em2
              obtain ⟨go, yl⟩ := sd.1 d q3
              cases q4 : t.set d (wipeD ρ vs) with
              | none => simp only [q4] at em2; cases em2
              | some ρ3 =>
                simp only [q4] at em2
                refine .inr ⟨go, fun H => ∃ ι ks acc ds h, Stp ι1 H1 ι H ∧ ι.hid D ∧ H D = some (.dK (ks.zip acc)) ∧ acc.length = ks.length ∧ RVL (gx T X) ι H ds acc ∧ RH (gx T X) ι h H ∧ mDcX nx t vs mt mk mv k (i + 1) ks ds ρ h = some ((ksF, xsF), h'), fun H' w => ⟨k, Nat.lt_succ_self k, w⟩, fun x H3 yy => ?_⟩
                obtain ⟨st3, rh3, rv3⟩ := yl x H3 yy
                have rs3 : RS (gx T X) WF ι2 H3 (wipeD ρ vs) (L2.wipe σ vs) := ((rs1.step st2).step st3).wipe vs
                refine Tg.does (c := gx T X) (vs := vs) t d x _ _ _ _ rs3 rv3 q4 hx (fun _ _ => True.intro) fun σ4 rs4 hw4 => ⟨hw4.trans wipe_idem, ?_⟩
                cases q5 : mt ρ3 h2 with
                | none => simp only [q5] at em2; cases em2
                | some p5 =>
                  obtain ⟨r5, h5⟩ := p5
                  refine ⟨ι2, ρ3, h2, r5, h5, rs4, rh3, q5, ?_⟩
                  cases r5 with
                  | error x => simp only [q5] at em2; cases em2
                  | ok d5 =>
                    cases d5 with
                    | bl b =>
                      intro ι5 H5 st5 rh5
                      have st35 := st3.trans st5
                      obtain ⟨eD5, hd5⟩ := st35.hid D _ hd2 eD ⟨fun ps z => (by cases z), fun ps z => (by cases z)⟩
                      have rl5 := RVL.step st35 _ _ rl2
                      cases b with
                      | false =>
                        simp only [q5] at em2
                        rw [if_neg (by simp)]
                        exact ⟨ι5, ks, acc, ds, h5, st2.trans st35, hd5, eD5, hlk, rl5, rh5, em2⟩
                      | true =>
                        rw [if_pos rfl]
                        cases q6 : mk ρ3 h5 with
                        | none => simp only [q5, q6] at em2; cases em2
                        | some p6 =>
                          obtain ⟨r6, h6⟩ := p6
                          refine ⟨ι5, ρ3, h5, r6, h6, rs4.step st5, rh5, q6, ?_⟩
                          cases r6 with
                          | error x => simp only [q5, q6] at em2; cases em2
                          | ok y =>
                            simp only [q5, q6] at em2
                            intro ι6 H6 v st6 rh6 rv6
                            obtain ⟨eD6, hd6⟩ := st6.hid D _ hd5 eD5 ⟨fun ps z => (by cases z), fun ps z => (by cases z)⟩
                            have rl6 := RVL.step st6 _ _ rl5
                            cases qk : keyOf y with
                            | none => simp only [qk] at em2; cases em2
                            | some kk =>
                            simp only [qk] at em2
                            cases q7 : mv ρ3 h6 with
                            | none => simp only [q7] at em2; cases em2
                            | some p7 =>
                              obtain ⟨r7, h7⟩ := p7
                              refine ⟨ι6, ρ3, h6, r7, h7, (rs4.step st5).step st6, rh6, q7, ?_⟩
                              cases r7 with
                              | error x => simp only [q7] at em2; cases em2
                              | ok zd =>
                                simp only [q7] at em2
                                by_cases hlen : ks.length < 1000000
                                · rw [if_pos hlen] at em2
                                  intro ι7 H7 zv st7 rh7 rv7
                                  obtain ⟨eD7, hd7⟩ := st7.hid D _ hd6 eD6 ⟨fun ps z => (by cases z), fun ps z => (by cases z)⟩
                                  have rl7 := RVL.step st7 _ _ rl6
                                  obtain ⟨pz1, pz2⟩ := put_zip kk zv hlk
                                  have st17 := st2.trans (st35.trans (st6.trans st7))
                                  have rhu := rh7.under (u := .dK ((putKs kk ks).zip (putXs kk zv ks acc))) hd7 eD7 (fun ps z => by cases z) (fun φ z => by cases z) (fun φ z => by cases z)
                                  have stu : Stp ι1 H1 ι7 (upd H7 D (.dK ((putKs kk ks).zip (putXs kk zv ks acc)))) := ⟨st17.ext, fun p o e n f => let ⟨a, b⟩ := st17.keep p o e n f; ⟨(upd_ne (ne_of_none e nD)).trans a, b⟩, fun p o f e n => let ⟨a, b⟩ := st17.hid p o f e n; ⟨(upd_ne (ne_of_none e nD)).trans a, b⟩⟩
                                  refine ⟨ks.zip acc, kk, key_rv rv6 qk, eD7, by rw [List.length_zip, hlk, Nat.min_self, sizeLine_eq]; omega, ι7, putKs kk ks, putXs kk zv ks acc, putXs kk zd ks ds, h7, ?_, hd7, by rw [pz1]; exact upd_same, pz2, ?_, ?_, em2⟩
                                  · rw [pz1]; exact stu
                                  · rw [pz1]; exact RVL.under hd7 _ _ (rvl_put rv7 rl7)
                                  · rw [pz1]; exact rhu
                                · rw [if_neg hlen] at em2; cases em2
                    | _ => simp only [q5] at em2; cases em2
theorem m_dc {kx vx tg iter : Expr} {ifs : List Expr} {scope : Scope} {own : List (Str × Nat)} {pos : Pos} {m : MI} {t : Tg} {mt mk mv : ME} (hc : X.calm = true) (hN : X.N.Nodup) (hi : PI X tg iter (tI (gx T X) W m)) (ok_ : BlkOk X.N X.env.scope scope own) (hx : ∀ i ∈ t.ix, i ∈ own.map (·.2))
    (hg : ∀ (s : Shared) (H : Hp) (C : Addr) (cl : List (Str × Addr)) (fp : List Addr), PG (X.blk s H scope (compEnvC scope cl C X.env) fp) tg (t.tg X.K))
    (ht : ∀ (s : Shared) (H : Hp) (C : Addr) (cl : List (Str × Addr)) (fp : List Addr), PTs (X.blk s H scope (compEnvC scope cl C X.env) fp) ifs (tT (gx T X) WF mt))
    (hk : ∀ (s : Shared) (H : Hp) (C : Addr) (cl : List (Str × Addr)) (fp : List Addr), PE (X.blk s H scope (compEnvC scope cl C X.env) fp) kx (tE (gx T X) WF mk))
    (he : ∀ (s : Shared) (H : Hp) (C : Addr) (cl : List (Str × Addr)) (fp : List Addr), PE (X.blk s H scope (compEnvC scope cl C X.env) fp) vx (tE (gx T X) WF mv)) (hs : ∀ x, foldedSetIterable iter X.env x = pure x := by intro _; rfl) :
    PE X (.DictComp kx vx [⟨tg, iter, ifs, 0⟩] scope pos) (tE (gx T X) W (mDc m t (own.map (·.2)) mt mk mv)) := by
  refine ⟨fun pins s σ H Q I h => ?_⟩
  refine thn ((pe_dc (pos := pos) hc hN hi ok_ hg ht hk he hs).run pins s σ H _ I (imp_dc hx σ H Q h)) fun u s1 ⟨v, H1, I1, r1, D, kvs, ev, eD, q⟩ => ?_
  subst ev
  obtain ⟨od, I2⟩ := I1.lock (d := D) eD True.intro
  exact ⟨.ref D, _, I2, r1, q od⟩
end
end ML
/-! the text M25 -/
/-! M25: what an own class says of o[i], o[i] = v, x in o, len(o), bool(o). -/
namespace ML
open PySem PySem.Spec PyProof.Rows L2

def clsB (h : VH) (d : D) : Option (Bool × Str) := match insOf h d with
  | some (C, _, _) => some (false, C)
  | none => (match sltOf h d with
    | some (C, _) => some (true, C)
    | none => none)
structure DOk (T : List (Addr × Str)) (X : Cx) (m : Str) (C : Str) (F : MF) : Prop where
  ex : ∃ Ca g k, X.mg C = some (.ref Ca) ∧ PySem.W.findIn X.K (.ref Ca) m = some (some (.ref g)) ∧ PySem.W.isFn X.K (.ref g) = true ∧ PySem.W.fnIn X.K g = true ∧ PySem.W.noSeq X.K Ca = true ∧ Prm X.prog X.w (gx T X) X.base k g F ∧ Room (k + 2) X.A
inductive DOks (T : List (Addr × Str)) (X : Cx) (m : Str) : MSel → Prop
  | nil : DOks T X m []
  | cons {b C F r} (h : DOk T X m C F) (t : DOks T X m r) : DOks T X m ((b, C, F) :: r)
section
variable {T : List (Addr × Str)} {X : Cx} {W : WW} {k : Nat} {f : Addr} {m C : Str} {F : MF} {b : Bool} {o i e value : Expr} {pos pos' : Pos} {mo mi mv : ME} {l : MSel}
theorem DOks.pick : ∀ {l : MSel}, DOks T X m l → pick b C l = some F → DOk T X m C F
  | _, .nil, e => by cases e
  | _, .cons (b := b') (C := C') (F := F') h t, e => by
    unfold ML.pick at e
    by_cases q : b' = b ∧ C' = C
    · rw [if_pos q] at e
      cases e
      obtain ⟨q1, q2⟩ := q
      subst q1; subst q2
      exact h
    · rw [if_neg q] at e
      exact t.pick e
theorem inst_at {pins : List (Addr × Obj)} {σ : L2.St} {H : Hp} {s : Shared} {ι : Adr} {h : VH} {x : D} {v : V} {Ca : Addr} (I : Inv X pins σ H s) (rh : RH (gx T X) ι h H) (rv : RV (gx T X) ι H x v) (e : clsB h x = some (b, C)) (mC : X.mg C = some (.ref Ca)) :
    ∃ p ox od, v = .ref p ∧ PySem.W.InstAt s.heap p ox Ca od := by
  unfold clsB at e
  cases q1 : insOf h x with
  | some r =>
    obtain ⟨C', ks, xs⟩ := r
    rw [q1] at e
    simp only [Option.some.injEq, Prod.mk.injEq] at e
    obtain ⟨e1, e2⟩ := e
    subst e1; subst e2
    obtain ⟨p, Ca', dx, vs, ev, m', hp, l, rl⟩ := ins_at rh rv q1
    have m'' : X.mg C' = some (.ref Ca') := m'
    rw [mC] at m''
    cases m''
    obtain ⟨mA, O, _, _, _, _⟩ := ins_get I.hok hp
    obtain ⟨od, J, _⟩ := O.look
    exact ⟨p, _, _, ev, J⟩
  | none =>
    rw [q1] at e
    simp only [] at e
    cases q2 : sltOf h x with
    | none => rw [q2] at e; cases e
    | some r =>
      obtain ⟨C', xs⟩ := r
      rw [q2] at e
      simp only [Option.some.injEq, Prod.mk.injEq] at e
      obtain ⟨e1, e2⟩ := e
      subst e1; subst e2
      obtain ⟨p, Ca', dx, vs, ev, m', hp, rl⟩ := slt_at rh rv q2
      have m'' : X.mg C' = some (.ref Ca') := m'
      rw [mC] at m''
      cases m''
      obtain ⟨sl, od, _, J, _⟩ := SlX.slt_inst I hp
      exact ⟨p, _, _, ev, J⟩
theorem run_prmA {A : Around} {pins : List (Addr × Obj)} {σ : L2.St} {H : Hp} {s : Shared} {Q : VK} {us : List Value} {vs : List V} (pr : Prm X.prog X.w (gx T X) X.base k f F) (hr : Room k A) (e0 : Env0 X.prog X.w X.K X.mg X.base A X.stack s H) (tk : L2N.Takes X W.w) (I : Inv X pins σ H s) (r : Vals vs us) (h : spM (gx T X) F vs H Q (WE W.w σ)) :
    wpAny (model X.prog X.w) A (call (.ref f) us) (EP X pins σ Q) X.xe s := by
  refine wpAny_call (codeAny_mono (pr A X.stack s H us vs Q (WE W.w σ) hr e0 r h) fun r s' hq => ?_)
  cases r with
  | error e => exact L2N.passAt tk σ pins H s e s' I hq
  | ok fl =>
    cases fl with
    | ret u => exact I.after hq
    | next => exact False.elim hq
    | brk => exact False.elim hq
    | cont => exact False.elim hq
/-- the def of the class of d -/
def dunF (l : MSel) (h : VH) (d : D) : Option MF := match clsB h d with
  | some (b, C) => pick b C l
  | none => none
theorem dun_at {pins : List (Addr × Obj)} {σ : L2.St} {H : Hp} {s : Shared} {ι : Adr} {h : VH} {x : D} {v : V} (ml : DOks T X m l) (I : Inv X pins σ H s) (rh : RH (gx T X) ι h H) (rv : RV (gx T X) ι H x v) (e : dunF l h x = some F) :
    ∃ p ox od Ca g k, v = .ref p ∧ PySem.W.InstAt s.heap p ox Ca od ∧ PySem.W.findIn X.K (.ref Ca) m = some (some (.ref g)) ∧ PySem.W.isFn X.K (.ref g) = true ∧ PySem.W.fnIn X.K g = true ∧ PySem.W.noSeq X.K Ca = true ∧ Prm X.prog X.w (gx T X) X.base k g F ∧ Room (k + 2) X.A := by
  unfold dunF at e
  cases q : clsB h x with
  | none => rw [q] at e; cases e
  | some bC =>
    obtain ⟨b, C⟩ := bC
    rw [q] at e
    obtain ⟨Ca, g, k, mC, r⟩ := (ml.pick e).ex
    obtain ⟨p, ox, od, ev, J⟩ := inst_at I rh rv q mC
    exact ⟨p, ox, od, Ca, g, k, ev, J, r⟩
/-! ### o[i] -/
def mDSub (l : MSel) (mo mi : ME) : ME := fun ρ h => bnd (mo ρ h) fun d h1 => bnd (mi ρ h1) fun y h2 => match dunF l h2 d with
  | some F => F [d, y] h2
  | none => none
theorem m_dsub (ml : DOks T X "__getitem__" l) (tk : L2N.Takes X W.w) (ho : PE X o (tE (gx T X) W mo)) (hi : PE X i (tE (gx T X) W mi)) (hsl : ∀ p y, subscripted i true (.ref p) y = runValue (.builtin "lifetime.subscript" ⟨[.ref p, y], []⟩) := by intro _ _; rfl) : PE X (.Subscript o i pos) (tE (gx T X) W (mDSub l mo mi)) := by
  refine ⟨fun pins s σ H Q I ⟨ι, ρ, h, r, h', rs, rh, em, ke⟩ => ?_⟩
  have hq : tE (gx T X) W mo σ H (fun v H1 => tE (gx T X) W mi σ H1 (fun y H2 => ∀ s2 u uy, Inv X pins σ H2 s2 → RelV v u → RelV y uy → wpAny (model X.prog X.w) X.A (subscriptTail o i u uy) (EP X pins σ Q) X.xe s2)) := by
    refine partE rs rh em ke fun ι1 H1 v h1 d st1 rs1 rh1 rv1 e1 ke1 => partE rs1 rh1 e1 ke1 fun ι2 H2 w h2 y st2 rs2 rh2 rv2 e2 ke2 => ?_
    intro s2 u uy I2 ru ruy
    cases q : dunF l h2 d with
    | none => rw [q] at e2; cases e2
    | some F =>
      rw [q] at e2
      have rv1' := RV.step st2 _ _ rv1
      obtain ⟨p, ox, od, Ca, g, k, ev, J, f1, f2, f3, f4, pr, hr⟩ := dun_at ml I2 rh2 rv1' q
      subst ev
      obtain rfl : u = Value.ref p := ru
      obtain ⟨m, hF⟩ := I2.fr
      refine PySem.W.sub_K hF I2.ok.mod.kin J f1 f3 f2 ?_ (hsl _ _)
      have hr1 : Room k X.A.in1 := (show Room (k + 1) X.A.in1 from Room.in1 hr).mono (by omega)
      refine run_prmA (us := [.ref p, uy]) (vs := [.ref p, w]) pr hr1 I2.env0.in1 tk I2 (.cons rfl (.cons ruy .nil)) ⟨ι2, h2, [d, y], r, h', rh2, .cons rv1' (.cons rv2 .nil), e2, ?_⟩
      cases r with
      | ok d => exact fun ι' H' v st rh' rv => ke2 ι' H' v st rh' rv
      | error x => exact fun ι' H' cls dd st rh' rx => ke2 ι' H' cls dd st rh' rx
  exact Subscript_ (thn (ho.run pins s σ H _ I hq) fun u s1 ⟨v, H1, I1, rv1, q1⟩ => thn (hi.run pins s1 σ H1 _ I1 q1) fun uy s2 ⟨y, H2, I2, rv2, q2⟩ => q2 s2 u uy I2 rv1 rv2)
/-! ### x in o -/
def mDHas (n : Bool → Bool) (l : MSel) (mi mo : ME) : ME := fun ρ h => bnd (mi ρ h) fun y h1 => bnd (mo ρ h1) fun d h2 => match dunF l h2 d with
  | some F => bnd (F [d, y] h2) fun z h3 => (match z with
    | .bl b => ok (.bl (n b)) h3
    | _ => none)
  | none => none
theorem imp_dhas {n : Bool → Bool} (ml : DOks T X "__contains__" l) (tk : L2N.Takes X W.w) {pins : List (Addr × Obj)} {Q : VK} : ∀ σ H, tE (gx T X) W (mDHas n l mi mo) σ H Q → tE (gx T X) W mi σ H (fun y H1 => tE (gx T X) W mo σ H1 (fun v H2 => ∀ s2 u uy, Inv X pins σ H2 s2 → RelV v u → RelV y uy →
    ∃ p ox od Ca g, u = .ref p ∧ PySem.W.InstAt s2.heap p ox Ca od ∧ PySem.W.findIn X.K (.ref Ca) "__contains__" = some (some (.ref g)) ∧ PySem.W.isFn X.K (.ref g) = true ∧ wpAny (model X.prog X.w) X.A (call (.ref g) [.ref p, uy]) (EP X pins σ (fun z H' => ∃ b, z = .bl b ∧ Q (.bl (n b)) H')) X.xe s2)) := by
  rintro σ H ⟨ι, ρ, h, r, h', rs, rh, em, ke⟩
  refine partE rs rh em ke fun ι1 H1 v h1 y st1 rs1 rh1 rv1 e1 ke1 => partE rs1 rh1 e1 ke1 fun ι2 H2 w h2 d st2 rs2 rh2 rv2 e2 ke2 => ?_
  intro s2 u uy I2 ru ruy
  cases q : dunF l h2 d with
  | none => rw [q] at e2; cases e2
  | some F =>
    rw [q] at e2
    simp only [] at e2
    obtain ⟨p, ox, od, Ca, g, k, ev, J, f1, f2, f3, f4, pr, hr⟩ := dun_at ml I2 rh2 rv2 q
    subst ev
    obtain rfl : u = Value.ref p := ru
    refine ⟨p, ox, od, Ca, g, rfl, J, f1, f2, ?_⟩
    have hr1 : Room k X.A := hr.mono (by omega)
    cases q5 : F [d, y] h2 with
    | none => rw [q5] at e2; cases e2
    | some p5 =>
      obtain ⟨r5, h5⟩ := p5
      rw [q5] at e2
      refine run_prmA (us := [.ref p, uy]) (vs := [.ref p, v]) pr hr1 I2.env0 tk I2 (.cons rfl (.cons ruy .nil)) ⟨ι2, h2, [d, y], r5, h5, rh2, .cons rv2 (.cons (RV.step st2 _ _ rv1) .nil), q5, ?_⟩
      cases r5 with
      | error x =>
        have e' : some ((Except.error x : Except Xc D), h5) = some (r, h') := e2
        cases e'
        exact fun ι' H' cls dd st rh' rx => ke2 ι' H' cls dd st rh' rx
      | ok z =>
        simp only [bnd_ok] at e2
        cases z <;> first | (cases e2; done) | skip
        rename_i bb
        obtain ⟨er, eh⟩ := ok_eq e2
        subst er; subst eh
        intro ι' H' v' st rh' rv
        simp only [RV] at rv
        exact ⟨bb, rv, ke2 ι' H' _ st rh' (st_bl _ _)⟩
theorem pc_dhas (ml : DOks T X "__contains__" l) (tk : L2N.Takes X W.w) (hi : PE X i (tE (gx T X) W mi)) (ho : PE X o (tE (gx T X) W mo)) : PC X .In i o (tE (gx T X) W (mDHas id l mi mo)) := by
  refine ⟨fun pins s σ H Q I h => ?_⟩
  refine thn (hi.run pins s σ H _ I (imp_dhas (pins := pins) ml tk σ H h)) fun uy s1 ⟨y, H1, I1, ry, q1⟩ => thn (ho.run pins s1 σ H1 _ I1 q1) fun u s2 ⟨v, H2, I2, ru, q2⟩ => ?_
  obtain ⟨p, ox, od, Ca, g, eu, J, f1, f2, q3⟩ := q2 s2 u uy I2 ru ry
  subst eu
  obtain ⟨m, hF⟩ := I2.fr
  refine PySem.W.in_K hF I2.ok.mod.kin J f1 f2 (thn q3 fun z s3 ⟨zv, H3, I3, rz, b, eb, q4⟩ => ?_)
  subst eb
  obtain rfl : z = Value.bool b := rz
  exact wpAny_bind (wpAny_pure (wpAny_pure ⟨.bl b, H3, I3, rfl, q4⟩))
theorem pc_dhasN (ml : DOks T X "__contains__" l) (tk : L2N.Takes X W.w) (hi : PE X i (tE (gx T X) W mi)) (ho : PE X o (tE (gx T X) W mo)) : PC X .NotIn i o (tE (gx T X) W (mDHas not l mi mo)) := by
  refine ⟨fun pins s σ H Q I h => ?_⟩
  refine thn (hi.run pins s σ H _ I (imp_dhas (pins := pins) ml tk σ H h)) fun uy s1 ⟨y, H1, I1, ry, q1⟩ => thn (ho.run pins s1 σ H1 _ I1 q1) fun u s2 ⟨v, H2, I2, ru, q2⟩ => ?_
  obtain ⟨p, ox, od, Ca, g, eu, J, f1, f2, q3⟩ := q2 s2 u uy I2 ru ry
  subst eu
  obtain ⟨m, hF⟩ := I2.fr
  refine PySem.W.notIn_K hF I2.ok.mod.kin J f1 f2 (thn q3 fun z s3 ⟨zv, H3, I3, rz, b, eb, q4⟩ => ?_)
  subst eb
  obtain rfl : z = Value.bool b := rz
  exact wpAny_bind (wpAny_pure (wpAny_pure ⟨.bl (!b), H3, I3, rfl, q4⟩))
theorem m_dhas (ml : DOks T X "__contains__" l) (tk : L2N.Takes X W.w) (hi : PE X i (tE (gx T X) W mi)) (ho : PE X o (tE (gx T X) W mo)) (hm : behindInMarks .In o = false) : PE X (.Compare i [.In] [o] pos) (tE (gx T X) W (mDHas id l mi mo)) := pe_cmp (pc_dhas ml tk hi ho) hm
theorem t_dhas (ml : DOks T X "__contains__" l) (tk : L2N.Takes X W.w) (hi : PE X i (tE (gx T X) W mi)) (ho : PE X o (tE (gx T X) W mo)) (hm : behindInMarks .In o = false) : PT X (.Compare i [.In] [o] pos) (tT (gx T X) W (mDHas id l mi mo)) := ptI (pt_cmp (pc_dhas ml tk hi ho) hm) fun σ H Q q => imp_test q
theorem m_dhasN (ml : DOks T X "__contains__" l) (tk : L2N.Takes X W.w) (hi : PE X i (tE (gx T X) W mi)) (ho : PE X o (tE (gx T X) W mo)) (hm : behindInMarks .NotIn o = false) : PE X (.Compare i [.NotIn] [o] pos) (tE (gx T X) W (mDHas not l mi mo)) := pe_cmp (pc_dhasN ml tk hi ho) hm
theorem t_dhasN (ml : DOks T X "__contains__" l) (tk : L2N.Takes X W.w) (hi : PE X i (tE (gx T X) W mi)) (ho : PE X o (tE (gx T X) W mo)) (hm : behindInMarks .NotIn o = false) : PT X (.Compare i [.NotIn] [o] pos) (tT (gx T X) W (mDHas not l mi mo)) := ptI (pt_cmp (pc_dhasN ml tk hi ho) hm) fun σ H Q q => imp_test q
/-! ### o[i] = v -/
def mDSet (l : MSel) (mv mo mi : ME) : MS := fun ρ h => match mv ρ h with
  | some (.ok z, h1) => (match mo ρ h1 with
    | some (.ok d, h2) => (match mi ρ h2 with
      | some (.ok y, h3) => (match dunF l h3 d with
        | some F => (match F [d, y, z] h3 with
          | some (.ok _, h4) => some (.nx, ρ, h4)
          | some (.error x, h4) => some (.ex x, ρ, h4)
          | none => none)
        | none => none)
      | some (.error x, h3) => some (.ex x, ρ, h3)
      | none => none)
    | some (.error x, h2) => some (.ex x, ρ, h2)
    | none => none)
  | some (.error x, h1) => some (.ex x, ρ, h1)
  | none => none
theorem s_dset (ml : DOks T X "__setitem__" l) (tk : L2N.Takes X W.w) (ho : PE X o (tE (gx T X) W mo)) (hi : PE X i (tE (gx T X) W mi)) (hv : PE X value (tE (gx T X) W mv)) (hs : swapsWith value (some (.Subscript o i pos')) pos.line X.env = pure false := by rfl) :
    PS X (.Assign [.Subscript o i pos'] value pos) (tS (gx T X) W (mDSet l mv mo mi)) := by
  refine ⟨fun pins s σ H D' I ⟨ι, ρ, h, out, ρ', h', rs, rh, em, ks⟩ => ?_⟩
  unfold mDSet at em
  cases q : mv ρ h with
  | none => simp only [q] at em; cases em
  | some p =>
  obtain ⟨r, h1⟩ := p
  have hq : tE (gx T X) W mv σ H (fun z H1 => tE (gx T X) W mo σ H1 (fun v H2 => tE (gx T X) W mi σ H2 (fun y H3 => ∀ s3 u uy uz, Inv X pins σ H3 s3 → RelV v u → RelV y uy → RelV z uz → wpAny (model X.prog X.w) X.A (setItem u uy uz) (fun _ s' => SP X pins D' .next s') X.xe s3))) := by
    refine partS rs rh q ks (fun x er => by subst er; simp only [q] at em; cases em; exact ⟨rfl, rfl, rfl⟩) fun ι1 H1 z zd er st1 rs1 rh1 rv1 ks1 => ?_
    subst er
    simp only [q] at em
    cases q2 : mo ρ h1 with
    | none => simp only [q2] at em; cases em
    | some p2 =>
    obtain ⟨r2, h2⟩ := p2
    refine partS rs1 rh1 q2 ks1 (fun x er => by subst er; simp only [q2] at em; cases em; exact ⟨rfl, rfl, rfl⟩) fun ι2 H2 v d er st2 rs2 rh2 rv2 ks2 => ?_
    subst er
    simp only [q2] at em
    cases q3 : mi ρ h2 with
    | none => simp only [q3] at em; cases em
    | some p3 =>
    obtain ⟨r3, h3⟩ := p3
    refine partS rs2 rh2 q3 ks2 (fun x er => by subst er; simp only [q3] at em; cases em; exact ⟨rfl, rfl, rfl⟩) fun ι3 H3 y yd er st3 rs3 rh3 rv3 ks3 => ?_
    subst er
    simp only [q3] at em
    intro s3 u uy uz I3 ru ruy ruz
    cases q4 : dunF l h3 d with
    | none => simp only [q4] at em; cases em
    | some F =>
    simp only [q4] at em
    have rv2' := RV.step st3 _ _ rv2
    have rv1' := RV.step (st2.trans st3) _ _ rv1
    obtain ⟨p, ox, od, Ca, g, k, ev, J, f1, f2, f3, f4, pr, hr⟩ := dun_at ml I3 rh3 rv2' q4
    subst ev
    obtain rfl : u = Value.ref p := ru
    obtain ⟨m, hF⟩ := I3.fr
    refine PySem.W.ksp_setItem hF I3.ok.mod.kin J f4 f1 f2 ?_
    have hr1 : Room k X.A := hr.mono (by omega)
    cases q5 : F [d, yd, zd] h3 with
    | none => simp only [q5] at em; cases em
    | some p5 =>
    obtain ⟨r5, h5⟩ := p5
    refine wpAny_mono (run_prmA (us := [.ref p, uy, uz]) (vs := [.ref p, y, z]) (Q := fun _ H' => ∃ ι', Stp ι3 H3 ι' H' ∧ RH (gx T X) ι' h5 H' ∧ ∃ dd, r5 = .ok dd) pr hr1 I3.env0 tk I3 (.cons rfl (.cons ruy (.cons ruz .nil))) ⟨ι3, h3, [d, yd, zd], r5, h5, rh3, .cons rv2' (.cons rv3 (.cons rv1' .nil)), q5, ?_⟩) (fun u s' z => ?_) fun _ _ x => x
    · cases r5 with
      | ok dd => exact fun ι' H' v st rh' rv => ⟨ι', st, rh', dd, rfl⟩
      | error x =>
        simp only [q5] at em
        cases em
        exact fun ι' H' cls dd st rh' rx => ks3 ι' H' σ cls dd st (rs3.step st) rh' rx
    · obtain ⟨v', H', I', rv', ι', st, rh', dd, er⟩ := z
      subst er
      simp only [q5] at em
      cases em
      exact ⟨σ, H', I', ks3 ι' H' σ st (rs3.step st) rh'⟩
  exact wpAny_Assign_Subscript (thn (hv.run pins s σ H _ I hq) fun uz s1 ⟨z, H1, I1, rz, q1⟩ => thn (ho.run pins s1 σ H1 _ I1 q1) fun u s2 ⟨v, H2, I2, ru, q2⟩ => thn (hi.run pins s2 σ H2 _ I2 q2) fun uy s3 ⟨y, H3, I3, ry, q3⟩ => q3 s3 u uy uz I3 ru ry rz) hs
end
end ML
/-! the text M26 -/
/-! M26: len(o), bool(o), o == p, o != p of instances. -/
namespace OwY
open PySem PySem.Spec PyProof.Rows
section
variable {prog : Program} {w : World} {A : Around} {E : Value → Shared → Prop} {s : Shared} {K : PySem.W.Frag} {x y C : Addr} {ox oy : Obj} {od od' : Option Obj}
theorem bool_own {Q : Value → Shared → Prop} (h : wpAny (model prog w) A.in1.in1 (truthy (.ref x)) (fun b s₁ => Q (.bool b) s₁) E s) : wpAny (model prog w) A (call (.type "bool") [.ref x]) Q E s := by
  refine callType_codes (T := "bool") (Bi := Builtin.«object.__init__») (Q₁ := fun r s₁ => ∃ b, r = Value.bool b ∧ Q r s₁) PySem.F.called_bool (PySem.F.typeCall_bool_1 _) PySem.F.entry_object_init ?_ ?_
  · refine codeAny_of_tree ?_
    show wpAny _ A.in1.in1 (do checkBuiltinCall "bool.__new__" ⟨[.type "bool", .ref x], []⟩; again (.builtin "bool.__new__" ⟨[.type "bool", .ref x], []⟩)) _ _ s
    refine wpAny_bind (wpAny_of_eq (PySem.F.newCall_bool_1 _) (wpAny_pure ⟨plainId_quiet (by decide +kernel) _, codeAny_builtin PySem.F.entry_bool_new ?_⟩))
    rw [Around.under_plainId (by decide +kernel) _]
    unfold Builtin.«bool.__new__»
    refine wpAny_bind (wpAny_of_eq (a := true) rfl ?_)
    refine PySem.W.KFB.if_not rfl ?_
    refine wpAny_bind (wpAny_of_eq (a := true) PySem.F.conv_sub_bool ?_)
    refine PySem.W.KFB.if_not rfl ?_
    refine wpAny_bind (wpAny_of_eq (a := [Value.ref x]) rfl ?_)
    exact wpAny_bind (wpAny_mono h (fun b s₁ hr => wpAny_pure ⟨b, rfl, hr⟩) fun _ _ z => z)
  · rintro obj s₁ ⟨b, rfl, hq⟩
    exact ⟨rfl, PySem.F.args_object_init_2 _ _, object_init_meets PySem.F.called_bool.init.lookup PySem.F.called_bool.made (by decide) prog w A.in1 _ s₁ ⟨rfl, rfl, hq⟩⟩
theorem noTup (I : PySem.W.InstAt s.heap x ox C od) : ox.cls ≠ .type "tuple" := by rw [I.cls]; intro e; cases e
theorem callEq {Q : Value → Shared → Prop} (X : K.In s.heap) (I : PySem.W.InstAt s.heap x ox C od) (J : PySem.W.InstAt s.heap y oy C od') (hxy : x ≠ y) (hm : PySem.W.mroIn K C (.type "object") = some true) (hq : Q .notImplemented s) :
    wpAny (model prog w) A (call (.builtin "object.__eq__") [.ref x, .ref y]) Q E s :=
  wpAny_call (codeAny_call_builtin F.cmp_object.eq.plain F.cmpEntry_eq (PySem.W.check_slot F.cmpKind_eq F.cmpSplit_eq (I.type.andThen (PySem.W.looks_mroIn X hm)) (F.cmpArgs_eq _ _) (objEq_entry_other hxy I.at_ J.at_ (noTup I) hq)))
theorem one {Q : Option Value → Shared → Prop} (X : K.In s.heap) (I : PySem.W.InstAt s.heap x ox C od) (J : PySem.W.InstAt s.heap y oy C od') (hxy : x ≠ y) (hm : PySem.W.mroIn K C (.type "object") = some true) (hs : PySem.W.findIn K (.ref C) "__eq__" = some (some (.builtin "object.__eq__"))) (hq : Q none s) :
    wpAny (model prog w) A (tryCompare (.ref x) "__eq__" (.ref y)) Q E s := by
  unfold tryCompare
  exact wpAny_bind (HN.ifBound_objEq X I hs (callEq X I J hxy hm (wpAny_pure hq)))
theorem bound_ne {args : List Value} {Q : Option Value → Shared → Prop} {M : Model} (X : K.In s.heap) (I : PySem.W.InstAt s.heap x ox C od) (hs : PySem.W.findIn K (.ref C) "__ne__" = some (some (.builtin "object.__ne__")))
    (h : wpAny M A (call (.builtin "object.__ne__") (.ref x :: args)) (fun v => Q (some v)) E s) : wpAny M A (callSpecialIfBound? (.ref x) "__ne__" args) Q E s := by
  simp only [callSpecialIfBound?, bindSpecialIfBound?]
  refine wpAny_holding (wpAny_bind (wpAny_bind (wpAny_bind (I.type.here ((PySem.W.looks_findIn X hs).here ?_)))))
  refine wpAny_bind (wpAny_askSetting (wpAny_ite ?_))
  have fin : wpAny M A (call (.builtin "object.__ne__") ([.ref x] ++ args) >>= fun v => pure (some v)) Q E s := wpAny_bind (wpAny_mono h (fun v s' h' => wpAny_pure h') fun _ _ h' => h')
  split
  · exact wpAny_bind (wpAny_of_eq (F.cmp_object.ne.bind _) (wpAny_pure (by exact fin)))
  · exact wpAny_tryCatch (wpAny_bind (wpAny_of_eq (F.cmp_object.ne.bind _) (wpAny_pure (by exact fin))))
theorem entryNe {Q : Fin → Shared → Prop} (hu : A.units < cLine) (X : K.In s.heap) (I : PySem.W.InstAt s.heap x ox C od) (J : PySem.W.InstAt s.heap y oy C od') (hxy : x ≠ y) (hm : PySem.W.mroIn K C (.type "object") = some true) (hs : PySem.W.findIn K (.ref C) "__eq__" = some (some (.builtin "object.__eq__")))
    (hq : Q (.done (.ret .notImplemented)) s) : wpAny (model prog w) A (Builtin.«object.__ne__» ⟨[.ref x, .ref y], []⟩) Q E s := by
  unfold Builtin.«object.__ne__»
  repeat (first | with_reducible refine wpAny_cRoomFor hu ?_ | (refine wpAny_bind (m := callSpecialIfBound? (.ref x) (Str.ofString "__eq__") [.ref y]) (HN.ifBound_objEq X I hs (callEq X I J hxy hm ?_))) | wp_step)
  exact hq
theorem two {Q : Option Value → Shared → Prop} (hu : A.units + 1 < cLine) (X : K.In s.heap) (I : PySem.W.InstAt s.heap x ox C od) (J : PySem.W.InstAt s.heap y oy C od') (hxy : x ≠ y) (hm : PySem.W.mroIn K C (.type "object") = some true) (hs : PySem.W.findIn K (.ref C) "__eq__" = some (some (.builtin "object.__eq__"))) (hn : PySem.W.findIn K (.ref C) "__ne__" = some (some (.builtin "object.__ne__"))) (hq : Q none s) :
    wpAny (model prog w) A (tryCompare (.ref x) "__ne__" (.ref y)) Q E s := by
  unfold tryCompare
  refine wpAny_bind (bound_ne X I hn ?_)
  exact wpAny_call (codeAny_call_builtin F.cmp_object.ne.plain F.cmpEntry_ne (PySem.W.check_slot F.cmpKind_ne F.cmpSplit_ne (I.type.andThen (PySem.W.looks_mroIn X hm)) (F.cmpArgs_ne _ _) (entryNe (A := A.in1) hu X I J hxy hm hs (wpAny_pure hq))))
theorem richEq {Q : Value → Shared → Prop} (hu : A.units < cLine) (X : K.In s.heap) (I : PySem.W.InstAt s.heap x ox C od) (J : PySem.W.InstAt s.heap y oy C od') (hxy : x ≠ y) (hm : PySem.W.mroIn K C (.type "object") = some true) (hs : PySem.W.findIn K (.ref C) "__eq__" = some (some (.builtin "object.__eq__"))) (h : Q (.bool false) s) :
    wpAny (model prog w) A (richCompare .Eq (.ref x) (.ref y)) Q E s := by
  simp only [richCompare, cmpInfo_Eq, oneThing_ref]
  refine wpAny_holding (wpAny_bind (wpAny_cRoomFor hu ?_))
  refine wpAny_bind (I.type.here (wpAny_bind (J.type.here ?_)))
  rw [if_neg (by simp)]
  refine wpAny_bind (wpAny_pure ?_)
  simp only [Bool.false_eq_true, if_false, Bool.not_false, if_true]
  refine wpAny_bind (m := tryCompare (.ref x) _ (.ref y)) (one X I J hxy hm hs ?_)
  refine wpAny_bind (m := tryCompare (.ref y) _ (.ref x)) (one X J I hxy.symm hm hs ?_)
  refine wpAny_bind (wpAny_rule ?_)
  exact wpAny_bind (wpAny_isSame_ref_other hxy I.at_ J.at_ (noTup I) (wpAny_pure h))
theorem richNe {Q : Value → Shared → Prop} (hu : A.units + 1 < cLine) (X : K.In s.heap) (I : PySem.W.InstAt s.heap x ox C od) (J : PySem.W.InstAt s.heap y oy C od') (hxy : x ≠ y) (hm : PySem.W.mroIn K C (.type "object") = some true) (hs : PySem.W.findIn K (.ref C) "__eq__" = some (some (.builtin "object.__eq__"))) (hn : PySem.W.findIn K (.ref C) "__ne__" = some (some (.builtin "object.__ne__"))) (h : Q (.bool true) s) :
    wpAny (model prog w) A (richCompare .NotEq (.ref x) (.ref y)) Q E s := by
  simp only [richCompare, cmpInfo_NotEq, oneThing_ref]
  refine wpAny_holding (wpAny_bind (wpAny_cRoomFor (by omega) ?_))
  refine wpAny_bind (I.type.here (wpAny_bind (J.type.here ?_)))
  rw [if_neg (by simp)]
  refine wpAny_bind (wpAny_pure ?_)
  simp only [Bool.false_eq_true, if_false, Bool.not_false, if_true]
  refine wpAny_bind (m := tryCompare (.ref x) _ (.ref y)) (two hu X I J hxy hm hs hn ?_)
  refine wpAny_bind (m := tryCompare (.ref y) _ (.ref x)) (two hu X J I hxy.symm hm hs hn ?_)
  refine wpAny_bind (wpAny_rule ?_)
  exact wpAny_bind (wpAny_isSame_ref_other hxy I.at_ J.at_ (noTup I) (wpAny_pure h))
end
end OwY
namespace ML
open PySem PySem.Spec PyProof.Rows L2
/-- a built-in that may change the heap, without error -/
def SemH (c : Gx) (r : List V → Hp → VK → Prop) (f : List D → VH → Option (D × VH)) : Prop := ∀ ι H h xs vs z h' Q, RH c ι h H → RVL c ι H xs vs → f xs h = some (z, h') → Fin c ι H h' z Q → r vs H Q
def mCH (f : List D → VH → Option (D × VH)) (ma : MA) : ME := fun ρ h => bnd (ma ρ h) fun ds h1 => match f ds h1 with
  | some (z, h2) => ok z h2
  | none => none
section
variable {T : List (Addr × Str)} {X : Cx} {W : WW} {e : Expr} {es : List Expr} {mas : MA} {pos p : Pos} {l : MSel}
theorem imp_ch {r : List V → Hp → VK → Prop} {f : List D → VH → Option (D × VH)} (s : SemH (gx T X) r f) : ∀ σ H Q, tE (gx T X) W (mCH f mas) σ H Q → tCB r (tA (gx T X) W mas) σ H Q := by
  rintro σ H Q ⟨ι, ρ, h, r, h', rs, rh, e, ke⟩
  refine argsE rs rh e ke fun ι1 H1 vs h1 xs st1 rs1 rh1 rv1 e1 ke1 => ?_
  cases q : f xs h1 with
  | none => rw [q] at e1; cases e1
  | some p =>
    obtain ⟨z, h2⟩ := p
    rw [q] at e1
    obtain ⟨er, eh⟩ := ok_eq e1
    subst er; subst eh
    exact s ι1 H1 _ xs vs z _ Q rh1 rv1 q ke1
def CalH (T : List (Addr × Str)) (X : Cx) (u : Value) (f : List D → VH → Option (D × VH)) : Prop := ∃ r, CallR X u r ∧ SemH (gx T X) r f
theorem h_callB {x : Str} {id : String} {f : List D → VH → Option (D × VH)} (h : CalH T X (.builtin id) f) (hg : Gl X x) (hm : X.mg x = none) (hv : bootBuiltins x = some (.builtin id)) (ha : PA X (e :: es) (tA (gx T X) W mas)) (hn : x ≠ "__name__" := by decide) (hdb : (x == ("__debug__" : Str)) = false := by decide)
    (he : starEach (e :: es) X.env = (false, eval e X.env) :: starEach es X.env := by rfl) (hpl : (backTo pos (starEach es X.env)).any (·.1) = false := by rfl) : PE X (.Call (.Name x p) (e :: es) [] pos) (tE (gx T X) W (mCH f mas)) := let ⟨_, h1, h2⟩ := h; peI (pe_callB h1 hg hm hv ha hn hdb he hpl) (imp_ch h2)
theorem h_callTy {x : Str} {Ty : String} {f : List D → VH → Option (D × VH)} (h : CalH T X (.type Ty) f) (hg : Gl X x) (hm : X.mg x = none) (hv : bootBuiltins x = some (.type Ty)) (ha : PA X (e :: es) (tA (gx T X) W mas)) (hn : x ≠ "__name__" := by decide) (hdb : (x == ("__debug__" : Str)) = false := by decide)
    (he : starEach (e :: es) X.env = (false, eval e X.env) :: starEach es X.env := by rfl) (hpl : (backTo pos (starEach es X.env)).any (·.1) = false := by rfl) : PE X (.Call (.Name x p) (e :: es) [] pos) (tE (gx T X) W (mCH f mas)) := let ⟨_, h1, h2⟩ := h; peI (pe_callTy h1 hg hm hv ha hn hdb he hpl) (imp_ch h2)
/-- what a def of the class does to one object -/
def rDun (T : List (Addr × Str)) (X : Cx) (l : MSel) (ok : D → Bool) : List V → Hp → VK → Prop := fun vs H Q => ∃ v ι h d F z h', vs = [v] ∧ RH (gx T X) ι h H ∧ RV (gx T X) ι H d v ∧ dunF l h d = some F ∧ F [d] h = some (.ok z, h') ∧ ok z = true ∧ Fin (gx T X) ι H h' z Q
def fDun (l : MSel) (ok : D → Bool) : List D → VH → Option (D × VH) := fun ds h => match ds with
  | [d] => (match dunF l h d with
    | some F => (match F [d] h with
      | some (.ok z, h') => if ok z = true then some (z, h') else none
      | _ => none)
    | none => none)
  | _ => none
theorem sem_dun {ok : D → Bool} : SemH (gx T X) (rDun T X l ok) (fDun l ok) := by
  intro ι H h xs vs z h' Q rh rv e fin
  cases xs with
  | nil => cases e
  | cons d ds =>
    cases ds with
    | cons _ _ => cases e
    | nil =>
      obtain ⟨v, ev, rv1⟩ := one_v rv
      subst ev
      simp only [fDun] at e
      cases q : dunF l h d with
      | none => rw [q] at e; cases e
      | some F =>
        rw [q] at e
        simp only [] at e
        cases q2 : F [d] h with
        | none => rw [q2] at e; cases e
        | some p =>
          obtain ⟨r, h2⟩ := p
          rw [q2] at e
          cases r with
          | error x => cases e
          | ok z2 =>
            simp only [] at e
            by_cases hk : ok z2 = true
            · rw [if_pos hk] at e
              cases e
              exact ⟨v, ι, h, d, F, z, h', rfl, rh, rv1, q, q2, hk, fin⟩
            · rw [if_neg hk] at e; cases e
theorem vals_one {v : V} {us : List Value} (r : Vals [v] us) : ∃ u, us = [u] ∧ RelV v u := by
  cases r with
  | cons r1 r2 => cases r2; exact ⟨_, rfl, r1⟩
/-- the call of the def, at any depth, without error -/
theorem dun_run {A : Around} {pins : List (Addr × Obj)} {σ : L2.St} {H : Hp} {s : Shared} {ι : Adr} {h h' : VH} {d z : D} {p g : Addr} {k : Nat} {F : MF} {E : Value → Shared → Prop} {Q : VK} (pr : Prm X.prog X.w (gx T X) X.base k g F) (hr : Room k A) (e0 : Env0 X.prog X.w X.K X.mg X.base A X.stack s H) (I : Inv X pins σ H s) (rh : RH (gx T X) ι h H) (rv : RV (gx T X) ι H d (.ref p)) (e : F [d] h = some (.ok z, h')) (fin : Fin (gx T X) ι H h' z Q) :
    wpAny (model X.prog X.w) A (call (.ref g) [.ref p]) (EP X pins σ Q) E s := by
  refine wpAny_call (codeAny_mono (pr A X.stack s H [.ref p] [.ref p] Q (fun _ _ _ => False) hr e0 (.cons rfl .nil) ⟨ι, h, [d], .ok z, h', rh, .cons rv .nil, e, fin⟩) fun r s' hq => ?_)
  cases r with
  | error e => obtain ⟨_, _, _, _, _, _, _, _, _, _, _, _, z⟩ := hq; exact z.elim
  | ok fl =>
    cases fl with
    | ret u => exact I.after hq
    | next => exact False.elim hq
    | brk => exact False.elim hq
    | cont => exact False.elim hq
def okLen : D → Bool
  | .int n => decide (0 ≤ n) && decide (n < 9223372036854775808)
  | _ => false
theorem h_len (ml : DOks T X "__len__" l) : CalH T X (.builtin "len") (fDun l okLen) := ⟨_, fun pins s σ H xs us Q I r ⟨v, ι, h, d, F, z, h', ev, rh, rv, q, q2, hk, fin⟩ => by
  subst ev
  obtain ⟨u, eu, ru⟩ := vals_one r
  subst eu
  obtain ⟨p, ox, od, Ca, g, k, ep, J, f1, f2, f3, f4, pr, hr⟩ := dun_at ml I rh rv q
  subst ep
  obtain rfl : u = Value.ref p := ru
  obtain ⟨m, hF⟩ := I.fr
  have hr1 : Room k X.A.in1 := (show Room (k + 1) X.A.in1 from Room.in1 hr).mono (by omega)
  cases z <;> first | (cases hk; done) | skip
  rename_i n
  simp only [okLen, Bool.and_eq_true, decide_eq_true_eq] at hk
  have fin' : Fin (gx T X) ι H h' (.int n) (fun v H1 => v = .int n ∧ Q v H1) := fun ι' H' v st rh' rv' => ⟨by simp only [RV] at rv'; exact rv', fin ι' H' v st rh' rv'⟩
  refine PySem.W.len_K hF I.ok.mod.kin J f1 f2 (wpAny_mono (dun_run (E := X.xe) pr hr1 I.env0.in1 I rh rv q2 fin') (fun w s' hz => ?_) fun _ _ x => x)
  obtain ⟨zv, H', I', rz, ez, qz⟩ := hz
  subst ez
  obtain ⟨t, ew⟩ := (show ∃ t, w = Value.int n t from rz)
  subst ew
  refine ⟨⟨hk.1, ?_⟩, .int n, H', I'.tok _, ⟨_, rfl⟩, qz⟩
  have := hk.2
  have e63 : (2 : Int) ^ 63 = 9223372036854775808 := by decide
  rw [e63]
  exact this, sem_dun⟩
def okBool : D → Bool
  | .bl _ => true
  | _ => false
theorem h_bool (ml : DOks T X "__bool__" l) : CalH T X (.type "bool") (fDun l okBool) := ⟨_, fun pins s σ H xs us Q I r ⟨v, ι, h, d, F, z, h', ev, rh, rv, q, q2, hk, fin⟩ => by
  subst ev
  obtain ⟨u, eu, ru⟩ := vals_one r
  subst eu
  obtain ⟨p, ox, od, Ca, g, k, ep, J, f1, f2, f3, f4, pr, hr⟩ := dun_at ml I rh rv q
  subst ep
  obtain rfl : u = Value.ref p := ru
  obtain ⟨m, hF⟩ := I.fr
  have hr1 : Room k X.A.in1.in1 := (show Room (k + 1) X.A.in1 from Room.in1 hr).in1
  cases z <;> first | (cases hk; done) | skip
  rename_i b
  have fin' : Fin (gx T X) ι H h' (.bl b) (fun v H1 => v = .bl b ∧ Q v H1) := fun ι' H' v st rh' rv' => ⟨by simp only [RV] at rv'; exact rv', fin ι' H' v st rh' rv'⟩
  refine OwY.bool_own (PySem.W.truthy_K hF I.ok.mod.kin J f1 f2 (wpAny_mono (dun_run (E := X.xe) pr hr1 I.env0.in1.in1 I rh rv q2 fin') (fun w s' hz => ?_) fun _ _ x => x))
  obtain ⟨zv, H', I', rz, ez, qz⟩ := hz
  subst ez
  obtain rfl : w = Value.bool b := rz
  exact ⟨.bl b, H', I', rfl, qz⟩, sem_dun⟩
/-! ### o == p, o != p: two objects of one class that says nothing of == -/
structure IdOk (X : Cx) (C : Str) : Prop where
  ex : ∃ Ca, X.mg C = some (.ref Ca) ∧ PySem.W.mroIn X.K Ca (.type "object") = some true ∧ PySem.W.findIn X.K (.ref Ca) "__eq__" = some (some (.builtin "object.__eq__")) ∧ PySem.W.findIn X.K (.ref Ca) "__ne__" = some (some (.builtin "object.__ne__"))
/-- two own objects that stand at unlike addresses -/
def bIdn (C : Str) (n : Bool) : B2 := fun x y h => match x, y with
  | .obj a, .obj b => if a ≠ b ∧ clsB h x = some (false, C) ∧ clsB h y = some (false, C) then some (.bl n) else none
  | _, _ => none
def rIdn (X : Cx) (C : Str) (n : Bool) : R2 := fun x y H Q => ∃ (T : List (Addr × Str)) (ι : Adr) (h : VH) (a b : Nat), RH (gx T X) ι h H ∧ RV (gx T X) ι H (.obj a) x ∧ RV (gx T X) ι H (.obj b) y ∧ a ≠ b ∧ clsB h (.obj a) = some (false, C) ∧ clsB h (.obj b) = some (false, C) ∧ Q (.bl n) H
theorem idn_at {pins : List (Addr × Obj)} {σ : L2.St} {H : Hp} {s : Shared} {C : Str} {n : Bool} {x y : V} {Q : VK} {Ca : Addr} (I : Inv X pins σ H s) (mC : X.mg C = some (.ref Ca)) (r : rIdn X C n x y H Q) :
    ∃ p q ox oy od od', x = .ref p ∧ y = .ref q ∧ p ≠ q ∧ PySem.W.InstAt s.heap p ox Ca od ∧ PySem.W.InstAt s.heap q oy Ca od' ∧ Q (.bl n) H := by
  obtain ⟨T, ι, h, a, b, rh, r1, r2, ne, c1, c2, q⟩ := r
  obtain ⟨p, ox, od, e1, J1⟩ := inst_at I rh r1 c1 mC
  obtain ⟨p2, oy, od2, e2, J2⟩ := inst_at I rh r2 c2 mC
  subst e1; subst e2
  refine ⟨p, p2, ox, oy, od, od2, rfl, rfl, fun z => ?_, J1, J2, q⟩
  subst z
  simp only [RV] at r1 r2
  obtain ⟨_, z1, i1⟩ := r1
  obtain ⟨_, z2, i2⟩ := r2
  cases z1; cases z2
  exact ne (rh.inj _ _ _ i1 i2)
theorem sem_idn {C : Str} {n : Bool} : Sem2 (gx T X) (rIdn X C n) (bIdn C n) := by
  intro ι H h x y v w z Q rh rv rw_ e fin
  cases x <;> first | (cases e; done) | skip
  cases y <;> first | (cases e; done) | skip
  rename_i a b
  simp only [bIdn] at e
  split at e
  · rename_i hc
    cases e
    exact ⟨T, ι, h, a, b, rh, rv, rw_, hc.1, hc.2.1, hc.2.2, fin ι H _ (Stp.refl _ _) rh (st_bl _ _)⟩
  · cases e
theorem o_eqId {C : Str} (hu : X.A.units + 1 < cLine) (hC : IdOk X C) : Op2 T X (compareOp .Eq) (bIdn C false) := ⟨_, fun pins s σ H x y v u Q I rx ry r => by
  obtain ⟨Ca, mC, hm, he, hn⟩ := hC.ex
  obtain ⟨p, q, ox, oy, od, od', e1, e2, ne, J1, J2, qq⟩ := idn_at I mC r
  subst e1; subst e2
  obtain rfl : v = Value.ref p := rx
  obtain rfl : u = Value.ref q := ry
  exact OwY.richEq (by omega) I.kIn J1 J2 ne hm he ⟨.bl false, H, I, rfl, qq⟩, sem_idn⟩
theorem o_neId {C : Str} (hu : X.A.units + 1 < cLine) (hC : IdOk X C) : Op2 T X (compareOp .NotEq) (bIdn C true) := ⟨_, fun pins s σ H x y v u Q I rx ry r => by
  obtain ⟨Ca, mC, hm, he, hn⟩ := hC.ex
  obtain ⟨p, q, ox, oy, od, od', e1, e2, ne, J1, J2, qq⟩ := idn_at I mC r
  subst e1; subst e2
  obtain rfl : v = Value.ref p := rx
  obtain rfl : u = Value.ref q := ry
  exact OwY.richNe hu I.kIn J1 J2 ne hm he hn ⟨.bl true, H, I, rfl, qq⟩, sem_idn⟩
end
end ML
/-! the text M27 -/
/-! M27: isinstance(x, T) of values; T a built-in type or an own class. -/
namespace ML
open PySem PySem.Spec PyProof.Rows L2

def isLook (A B : TD) : IsT → Option Bool
  | [] => none
  | (a, b, r) :: t => if a = A ∧ b = B then some r else isLook A B t
theorem tdV.one {mg : Str → Option Value} {t : TD} {u v : Value} (a : tdV mg t u) (b : tdV mg t v) : u = v := by
  cases t with
  | ty n => exact a.trans b.symm
  | own C =>
    obtain ⟨x, e, q⟩ := a
    obtain ⟨y, e', q'⟩ := b
    rw [e] at e'
    cases e'
    exact q.trans q'.symm
theorem IsOk.look {K : PySem.W.Frag} {mg : Str → Option Value} {A B : TD} {r : Bool} {a b : Value} (ha : tdV mg A a) (hb : tdV mg B b) : ∀ {E : IsT}, IsOk K mg E → isLook A B E = some r → PySem.W.kitOne K a b = some r
  | [], _, e => by cases e
  | (a', b', r') :: t, ok, e => by
    unfold isLook at e
    by_cases q : a' = A ∧ b' = B
    · rw [if_pos q] at e
      cases e
      obtain ⟨q1, q2⟩ := q
      subst q1 q2
      obtain ⟨x, y, h1, h2, h3⟩ := ok (a', b', r) (by simp)
      rw [← tdV.one h1 ha, ← tdV.one h2 hb]
      exact h3
    · rw [if_neg q] at e
      exact IsOk.look ha hb (fun p hp => ok p (by simp [hp])) e
def clsD : D → Option TD
  | .ty n => some (.ty n)
  | .glo C => some (.own C)
  | _ => none
/-- the type of a value; ci: classes of instances, cs: classes with slots -/
def tyD (ci cs : List Str) (h : VH) : D → Option TD
  | .non => some (.ty "NoneType")
  | .bl _ => some (.ty "bool")
  | .int _ => some (.ty "int")
  | .str _ => some (.ty "str")
  | .tup _ => some (.ty "tuple")
  | .lst _ => some (.ty "list")
  | .bls _ => some (.ty "list")
  | .dic _ _ => some (.ty "dict")
  | .ins C _ _ => if ci.contains C = true then some (.own C) else none
  | .slt C _ => if cs.contains C = true then some (.own C) else none
  | .obj a => (match h[a]? with
    | some (.lst _) => some (.ty "list")
    | some (.dic _ _) => some (.ty "dict")
    | some (.ins C _ _) => if ci.contains C = true then some (.own C) else none
    | some (.slt C _) => if cs.contains C = true then some (.own C) else none
    | none => none)
  | _ => none
def fIsi (E : IsT) (ci cs : List Str) : List D → VH → Option D := fun xs h => match xs with
  | [x, c] => (match tyD ci cs h x, clsD c with
    | some t, some u => (isLook t u E).map .bl
    | _, _ => none)
  | _ => none
section
variable {T : List (Addr × Str)} {X : Cx} {E : IsT} {ci cs : List Str}
/-- the type that the value lies with -/
theorem ty_at {ι : Adr} {h : VH} {H : Hp} {x : D} {v : V} {t : TD} (hci : ∀ C ∈ ci, ∃ Ca, X.mg C = some (.ref Ca) ∧ IcOk X.K Ca) (hcs : ∀ C ∈ cs, ∃ Ca, X.mg C = some (.ref Ca) ∧ SlX.SCls X.K Ca ∧ SlX.SIsi X.K Ca)
    (rh : RH (gx T X) ι h H) (rv : RV (gx T X) ι H x v) (e : tyD ci cs h x = some t) :
    ∃ u, tdV X.mg t u ∧ (TyX X.K H v u ∨ ∃ (a Ca dx : Addr) (vs : List V), v = .ref a ∧ u = .ref Ca ∧ SlX.Slt H a Ca dx (vs.map some) ∧ SlX.SCls X.K Ca ∧ SlX.SIsi X.K Ca) := by
  have insC : ∀ C ks xs, insOf h x = some (C, ks, xs) → (if ci.contains C = true then some (TD.own C) else none) = some t → ∃ u, tdV X.mg t u ∧ (TyX X.K H v u ∨ ∃ (a Ca dx : Addr) (vs : List V), v = .ref a ∧ u = .ref Ca ∧ SlX.Slt H a Ca dx (vs.map some) ∧ SlX.SCls X.K Ca ∧ SlX.SIsi X.K Ca) := by
    intro C ks xs q e
    by_cases hc : ci.contains C = true
    · rw [if_pos hc] at e
      cases e
      obtain ⟨Ca, m, ok⟩ := hci C (List.contains_iff_mem.mp hc)
      obtain ⟨p, Ca', dx, vs, ev, m', hp, l, rl⟩ := ins_at rh rv q
      have m'' : X.mg C = some (.ref Ca') := m'
      rw [m] at m''
      cases m''
      subst ev
      exact ⟨.ref Ca, ⟨Ca, m, rfl⟩, .inl (.base (.ins hp ok.cl ok.ha ok.hn ok.ht ok.hm))⟩
    · rw [if_neg hc] at e; cases e
  have sltC : ∀ C xs, sltOf h x = some (C, xs) → (if cs.contains C = true then some (TD.own C) else none) = some t → ∃ u, tdV X.mg t u ∧ (TyX X.K H v u ∨ ∃ (a Ca dx : Addr) (vs : List V), v = .ref a ∧ u = .ref Ca ∧ SlX.Slt H a Ca dx (vs.map some) ∧ SlX.SCls X.K Ca ∧ SlX.SIsi X.K Ca) := by
    intro C xs q e
    by_cases hc : cs.contains C = true
    · rw [if_pos hc] at e
      cases e
      obtain ⟨Ca, m, ok1, ok2⟩ := hcs C (List.contains_iff_mem.mp hc)
      obtain ⟨p, Ca', dx, vs, ev, m', hp, rl⟩ := slt_at rh rv q
      have m'' : X.mg C = some (.ref Ca') := m'
      rw [m] at m''
      cases m''
      exact ⟨.ref Ca, ⟨Ca, m, rfl⟩, .inr ⟨p, Ca, dx, vs, ev, rfl, hp, ok1, ok2⟩⟩
    · rw [if_neg hc] at e; cases e
  cases x with
  | non => cases e; simp only [RV] at rv; subst rv; exact ⟨_, rfl, .inl (.base .non)⟩
  | bl b => cases e; simp only [RV] at rv; subst rv; exact ⟨_, rfl, .inl (.base (.bl b))⟩
  | int i => cases e; simp only [RV] at rv; subst rv; exact ⟨_, rfl, .inl (.base (.int i))⟩
  | str i => cases e; simp only [RV] at rv; subst rv; exact ⟨_, rfl, .inl (.base (.str i))⟩
  | ty n => cases e
  | glo n => cases e
  | tup xs =>
    cases e
    simp only [RV] at rv
    obtain ⟨p, vs, ev, rl, sq, _⟩ := rv
    subst ev
    rcases sq with (sq | ⟨o, sq⟩) | ⟨o, its, n, lk, hc, _⟩
    · exact ⟨_, rfl, .inl (.base (.tup sq))⟩
    · exact ⟨_, rfl, .inl (.fTuple sq)⟩
    · exact ⟨_, rfl, .inl (.kTuple lk hc)⟩
  | lst xs =>
    cases e
    simp only [RV] at rv
    obtain ⟨p, vs, ev, rl, sq, _⟩ := rv
    subst ev
    exact ⟨_, rfl, .inl (.base (.lst sq))⟩
  | bls xs =>
    cases e
    simp only [RV] at rv
    obtain ⟨p, vs, ev, rl, sq, _⟩ := rv
    subst ev
    rcases sq with (sq | ⟨o, sq⟩) | ⟨o, its, n, lk, hc, _⟩
    · exact ⟨_, rfl, .inl (.base (.lst sq))⟩
    · exact ⟨_, rfl, .inl (.base (.frz sq))⟩
    · exact ⟨_, rfl, .inl (.kList lk hc)⟩
  | dic ks xs =>
    cases e
    simp only [RV] at rv
    obtain ⟨p, od, vs, ev, rl, l, ho, _⟩ := rv
    subst ev
    exact ⟨_, rfl, .inl (.fDict ho)⟩
  | ins C ks xs => exact insC C ks xs rfl e
  | slt C xs => exact sltC C xs rfl e
  | obj a =>
    simp only [tyD] at e
    cases q : h[a]? with
    | none => rw [q] at e; cases e
    | some o =>
      rw [q] at e
      cases o with
      | ins C ks xs => exact insC C ks xs (by simp only [insOf, q]) e
      | slt C xs => exact sltC C xs (by simp only [sltOf, q]) e
      | lst xs =>
        cases e
        simp only [RV] at rv
        obtain ⟨p, ev, ip⟩ := rv
        obtain ⟨p', ip', ro⟩ := rh.obj a _ q
        rw [ip] at ip'
        cases ip'
        simp only [RO] at ro
        obtain ⟨vs, hp, _⟩ := ro
        subst ev
        exact ⟨_, rfl, .inl (.base (.lst hp))⟩
      | dic ks xs =>
        cases e
        simp only [RV] at rv
        obtain ⟨p, ev, ip⟩ := rv
        obtain ⟨p', ip', ro⟩ := rh.obj a _ q
        rw [ip] at ip'
        cases ip'
        simp only [RO] at ro
        obtain ⟨vs, hp, _⟩ := ro
        subst ev
        exact ⟨_, rfl, .inl (.base (.dK hp))⟩
def rIsD (K : PySem.W.Frag) : List V → Hp → VK → Prop := fun xs H Q => rIsi K xs H Q ∨ ∃ u, SlX.rIsiSl K u xs H Q
theorem c_isi (hci : ∀ C ∈ ci, ∃ Ca, X.mg C = some (.ref Ca) ∧ IcOk X.K Ca) (hcs : ∀ C ∈ cs, ∃ Ca, X.mg C = some (.ref Ca) ∧ SlX.SCls X.K Ca ∧ SlX.SIsi X.K Ca) (eE : IsOk X.K X.mg E) : Cal T X (.builtin "isinstance") (fIsi E ci cs) := by
  refine ⟨rIsD X.K, fun pins s σ H xs us Q I r h => ?_, fun ι H h xs vs z Q rh rv e fin => ?_⟩
  · rcases h with h | ⟨u, h⟩
    · exact call_isi pins s σ H xs us Q I r h
    · exact SlX.call_isiSl u pins s σ H xs us Q I r h
  · unfold fIsi at e
    cases xs with
    | nil => cases e
    | cons x xs =>
    cases xs with
    | nil => cases e
    | cons c xs =>
    cases xs with
    | cons _ _ => cases e
    | nil =>
    obtain ⟨v, vr, ev, r1, r2⟩ := rv.inv_cons
    subst ev
    obtain ⟨w, ew, r3⟩ := one_v r2
    subst ew
    simp only [] at e
    cases q1 : tyD ci cs h x with
    | none => rw [q1] at e; cases e
    | some t =>
    cases q2 : clsD c with
    | none => rw [q1, q2] at e; cases e
    | some u =>
    rw [q1, q2] at e
    simp only [Option.map_eq_some_iff] at e
    obtain ⟨b, eb, ez⟩ := e
    subst ez
    obtain ⟨tu, ht, hty⟩ := ty_at hci hcs rh r1 q1
    obtain ⟨cu, hc, hcv⟩ : ∃ cu, tdV X.mg u cu ∧ ClsV w cu := by
      cases c <;> first | (cases q2; done) | skip
      · cases q2
        simp only [RV] at r3
        subst r3
        exact ⟨_, rfl, .ty _⟩
      · cases q2
        simp only [RV] at r3
        obtain ⟨f, m, ev⟩ := r3
        subst ev
        exact ⟨.ref f, ⟨f, m, rfl⟩, .own f⟩
    have hk := IsOk.look ht hc eE eb
    have fq := fin ι H (.bl b) (Stp.refl _ _) rh (st_bl _ _)
    rcases hty with hty | ⟨a, Ca, dx, vs, e1, e2, e3, e4, e5⟩
    · exact .inl ⟨v, w, tu, cu, b, rfl, hcv, hty, hk, fq⟩
    · subst e1; subst e2
      refine .inr ⟨cu, a, Ca, dx, _, w, b, rfl, ?_, fun z rz => hcv.eq rz, e3, e4, e5, hk, fq⟩
      cases hcv with
      | ty n => rfl
      | own C => rfl
end
end ML
/-! the text M28 -/
/-! M28: texts: f'..', join, split, str(i), a sign in a text, x in a list or tuple of flat values. -/
namespace ML
open PySem PySem.Spec PyProof.Rows L2
section
variable {T : List (Addr × Str)} {X : Cx} {W : WW} {e o : Expr} {m mo me : ME} {pos apos : Pos}
/-! ### f'..' -/
def mFmt (m : ME) : ME := fun ρ h => bnd (m ρ h) fun d h1 => match d with
  | .str y => if y.length ≤ 10000000 then ok (.str y) h1 else none
  | .int i => if i.natAbs.log2 < 1920 then ok (.str (toString i)) h1 else none
  | _ => none
theorem m_fmt (he : PE X e (tE (gx T X) W m)) : PE X (.FormattedValue e (-1) none pos) (tE (gx T X) W (mFmt m)) := peI (pe_fmt he) fun σ H Q ⟨ι, ρ, h, r, h', rs, rh, em, ke⟩ => by
  refine partE rs rh em ke fun ι1 H1 v h1 d st1 rs1 rh1 rv1 e1 ke1 => ?_
  cases d <;> first | (cases e1; done) | skip
  · rename_i i
    obtain ⟨hl, er, eh⟩ := ifok_eq e1
    subst er; subst eh
    simp only [RV] at rv1
    exact .inr ⟨i, rv1, hl, ke1 ι1 H1 _ (Stp.refl _ _) rh1 (st_str _ _)⟩
  · rename_i y
    obtain ⟨hl, er, eh⟩ := ifok_eq e1
    subst er; subst eh
    simp only [RV] at rv1
    exact .inl ⟨y, rv1, ten_line hl, ke1 ι1 H1 _ (Stp.refl _ _) rh1 (st_str _ _)⟩
def mJs : List ME → Str → ME
  | [], acc => fun _ h => ok (.str acc) h
  | m :: ms, acc => fun ρ h => bnd (m ρ h) fun d h1 => match d with
    | .str y => if (acc ++ y).length ≤ 10000000 then mJs ms (acc ++ y) ρ h1 else none
    | _ => none
inductive PJM (T : List (Addr × Str)) (X : Cx) (W : WW) : List Expr → List ME → Prop where
  | nil : PJM T X W [] []
  | cons {e : Expr} {m : ME} {es : List Expr} {ms : List ME} (h : PE X e (tE (gx T X) W m)) (r : PJM T X W es ms) : PJM T X W (e :: es) (m :: ms)
theorem PJM.pj : ∀ {es : List Expr} {ms : List ME}, PJM T X W es ms → PJ X es (ms.map fun m => tE (gx T X) W m)
  | _, _, .nil => .nil
  | _, _, .cons h r => .cons h r.pj
theorem imp_js : ∀ (ms : List ME) (acc : Str) σ H Q, tE (gx T X) W (mJs ms acc) σ H Q → tJs (ms.map fun m => tE (gx T X) W m) acc σ H (fun out H1 => Q (.str out) H1)
  | [], acc, σ, H, Q, ⟨ι, ρ, h, r, h', rs, rh, em, ke⟩ => by
    obtain ⟨er, eh⟩ := ok_eq em
    subst er; subst eh
    exact ke ι H _ (Stp.refl _ _) rh (st_str _ _)
  | m :: ms, acc, σ, H, Q, ⟨ι, ρ, h, r, h', rs, rh, em, ke⟩ => by
    refine partE rs rh em ke fun ι1 H1 v h1 d st1 rs1 rh1 rv1 e1 ke1 => ?_
    cases d <;> first | (cases e1; done) | skip
    rename_i y
    simp only [] at e1
    by_cases hl : (acc ++ y).length ≤ 10000000
    · rw [if_pos hl] at e1
      simp only [RV] at rv1
      exact ⟨y, rv1, ten_line hl, imp_js ms (acc ++ y) σ H1 Q ⟨ι1, ρ, h1, r, h', rs1, rh1, e1, ke1⟩⟩
    · rw [if_neg hl] at e1; cases e1
theorem m_js {v1 v2 : Expr} {rest : List Expr} {ms : List ME} (h : PJM T X W (v1 :: v2 :: rest) ms) : PE X (.JoinedStr (v1 :: v2 :: rest) pos) (tE (gx T X) W (mJs ms Str.empty)) := peI (pe_joined h.pj) fun σ H Q q => imp_js ms Str.empty σ H Q q
theorem m_js1 (he : PE X e (tE (gx T X) W m)) : PE X (.JoinedStr [e] pos) (tE (gx T X) W m) := pe_joined1 he
/-! ### str(i), a sign in a text -/
def cStrI : List D → VH → Option D := fun xs _ => on1 (fun d => match d with
  | .int i => if i.natAbs.log2 < 1920 then some (.str (toString i)) else none
  | _ => none) xs
theorem c_strI : Cal T X (.type "str") cStrI := ⟨_, call_str_int, fun ι H h xs vs z Q rh rv e fin => by
  cases xs with
  | nil => cases e
  | cons d ds =>
  cases ds with
  | cons _ _ => cases e
  | nil =>
    obtain ⟨v, ev, rv1⟩ := one_v rv
    subst ev
    cases d <;> first | (cases e; done) | skip
    rename_i i
    simp only [cStrI, on1] at e
    by_cases hl : i.natAbs.log2 < 1920
    · rw [if_pos hl] at e
      cases e
      simp only [RV] at rv1
      subst rv1
      exact ⟨i, rfl, hl, fin ι H _ (Stp.refl _ _) rh (st_str _ _)⟩
    · rw [if_neg hl] at e; cases e⟩
def oneSign (x : Str) : Option Nat := match x.cps.toList with
  | [c] => some c
  | _ => none
theorem oneSign_eq {x : Str} {c : Nat} (e : oneSign x = some c) : x = ⟨#[c]⟩ := by
  unfold oneSign at e
  obtain ⟨a⟩ := x
  obtain ⟨l⟩ := a
  simp only at e
  cases l with
  | nil => cases e
  | cons y r =>
    cases r with
    | nil => cases e; rfl
    | cons _ _ => cases e
def bSign : B2 := fun x y _ => match x, y with
  | .str a, .str z => (match oneSign a with
    | some c => some (.bl (decide (c ∈ z.cps.toList)))
    | none => none)
  | _, _ => none
theorem o_sign : Op2 T X (compareOp .In) bSign := ⟨_, op_in_sign, fun ι H h x y v w z Q rh rv rw_ e fin => by
  cases x <;> first | (cases e; done) | skip
  cases y <;> first | (cases e; done) | skip
  rename_i a b
  simp only [bSign] at e
  cases q : oneSign a with
  | none => rw [q] at e; cases e
  | some c =>
    rw [q] at e
    cases e
    simp only [RV] at rv rw_
    subst rv; subst rw_
    exact ⟨c, b, by rw [oneSign_eq q], rfl, fin ι H _ (Stp.refl _ _) rh (st_bl _ _)⟩⟩
end
end ML
/-! the text M29 -/
/-! M29: join, split. -/
namespace ML
open PySem PySem.Spec PyProof.Rows L2
/-- all texts -/
def strsOf : List D → Option (List Str)
  | [] => some []
  | .str x :: ds => (strsOf ds).map (x :: ·)
  | _ => none
theorem strs_rv {c : Gx} {ι : Adr} {H : Hp} : ∀ {ds : List D} {vs : List V} {ys : List Str}, RVL c ι H ds vs → strsOf ds = some ys → vs = ys.map V.str
  | [], vs, ys, r, e => by cases e; exact r.inv_nil
  | d :: ds, vs, ys, r, e => by
    obtain ⟨v, vr, ev, r1, r2⟩ := r.inv_cons
    subst ev
    cases d <;> first | (cases e; done) | skip
    simp only [strsOf, Option.map_eq_some_iff] at e
    obtain ⟨zs, ez, e⟩ := e
    subst e
    simp only [RV] at r1
    subst r1
    rw [strs_rv r2 ez]
    rfl
section
variable {T : List (Addr × Str)} {X : Cx} {W : WW} {e o : Expr} {m mo me : ME} {pos apos : Pos}
def mJoin (mo me : ME) : ME := fun ρ h => bnd (mo ρ h) fun d h1 => match d with
  | .str a => bnd (me ρ h1) fun y h2 => (match seqOf h2 y with
    | some (_, ds) => (match strsOf ds with
      | some ys => if (ys.map (·.length)).sum + ys.length * a.length ≤ 10000000 then ok (.str (Txt.join a ys)) h2 else none
      | none => none)
    | none => none)
  | _ => none
theorem m_join (ho : PE X o (tE (gx T X) W mo)) (he : PE X e (tE (gx T X) W me)) (hs : starEach [e] X.env = [(false, eval e X.env)] := by rfl) (hbase : attributeBase o "join" X.env (eval o X.env) = eval o X.env := by rfl) (hline : (apos.endLine == pos.line) = true := by rfl) :
    PE X (.Call (.Attribute o "join" apos) [e] [] pos) (tE (gx T X) W (mJoin mo me)) := peI (pe_join ho he hs hbase hline) fun σ H Q ⟨ι, ρ, h, r, h', rs, rh, em, ke⟩ => by
  refine partE rs rh em ke fun ι1 H1 v h1 d st1 rs1 rh1 rv1 e1 ke1 => ?_
  cases d <;> first | (cases e1; done) | skip
  rename_i a
  simp only [RV] at rv1
  refine ⟨⟨a, rv1⟩, ?_⟩
  simp only [] at e1
  refine partE rs1 rh1 e1 ke1 fun ι2 H2 w h2 y st2 rs2 rh2 rv2 e2 ke2 => ?_
  cases q : seqOf h2 y with
  | none => rw [q] at e2; cases e2
  | some bx =>
    obtain ⟨b, ds⟩ := bx
    rw [q] at e2
    simp only [] at e2
    cases q2 : strsOf ds with
    | none => rw [q2] at e2; cases e2
    | some ys =>
      rw [q2] at e2
      obtain ⟨hl, er, eh⟩ := ifok_eq e2
      subst er; subst eh
      obtain ⟨p, vs, ev, sq, rl⟩ := seq_at rh2 rv2 q
      have evs := strs_rv rl q2
      subst evs
      subst ev
      refine ⟨a, p, ys, rv1, rfl, ?_, by omega, ke2 ι2 H2 _ (Stp.refl _ _) rh2 (st_str _ _)⟩
      cases b with
      | true => exact .inl sq
      | false => exact .inr sq
end
end ML
/-! the text M30 -/
/-! M30: calls of methods by keyword: o.m(k = e, ..), the keywords in the parameters' order. -/
namespace ML
open PySem PySem.Spec PyProof.Rows L2
/-- the keywords' values in the parameters' order -/
def ordL {α : Type} (pi : List Nat) (xs : List α) : List α := pi.filterMap fun i => xs[i]?
theorem ordL_vals {zs : List V} {ws : List Value} (r : Vals zs ws) : ∀ pi : List Nat, Vals (ordL pi zs) (ordL pi ws)
  | [] => .nil
  | i :: pi => by
    have ih := ordL_vals r pi
    unfold ordL at ih ⊢
    simp only [List.filterMap_cons]
    cases e : zs[i]? with
    | none =>
      have l : ws[i]? = none := by rw [List.getElem?_eq_none_iff] at e ⊢; rw [← r.length]; exact e
      rw [l]; exact ih
    | some z =>
      obtain ⟨u, hu, ru⟩ := r.get e
      rw [hu]; exact .cons ru ih
theorem ordL_rvl {c : Gx} {ι : Adr} {H : Hp} {ds : List D} {vs : List V} (r : RVL c ι H ds vs) : ∀ pi : List Nat, RVL c ι H (ordL pi ds) (ordL pi vs)
  | [] => .nil
  | i :: pi => by
    have ih := ordL_rvl r pi
    unfold ordL at ih ⊢
    simp only [List.filterMap_cons]
    cases e : ds[i]? with
    | none =>
      have l : vs[i]? = none := by rw [List.getElem?_eq_none_iff] at e ⊢; rw [r.len]; exact e
      rw [l]; exact ih
    | some z =>
      obtain ⟨u, hu, ru⟩ := r.get e
      rw [hu]; exact .cons ru ih
/-- the promise of a def that is called with np positional values, the others by name -/
def PrmK (P : Program) (w : World) (c : Gx) (base : Heap) (k : Nat) (f : Addr) (np : Nat) (ks : List Str) (pi : List Nat) (F : MF) : Prop :=
  ∀ (A : Around) (outer : List PySem.Env) (s : Shared) (H : Hp) (us ws : List Value) (vs zs : List V) (Q : VK) (E : XK), us.length = np → ws.length = ks.length → Room k A → Env0 P w c.K c.mg base A outer s H → Vals vs us → Vals zs ws → spM c F (vs ++ ordL pi zs) H Q E →
    codeAny (model P w) A (.call (.ref f) ⟨us, ks.zip ws⟩) (CR (L2N.CX P w) outer P w H s Q E) s
theorem prmk_of {P : Program} {w : World} {c : Gx} {base : Heap} {k np : Nat} {f : Addr} {name qual : Str} {params : Arguments} {body : List Stmt} {scope : Scope} {dV kV doc pm cdv ct oc : Value} {an od : Option Addr}
    {osl : Array (Option Value)} {N ps ks : List Str} {pi : List Nat} {m : MS} (lk : c.K.lookup f = some ⟨oc, od, .func (PySem.W.fnOf name qual params body scope dV kV doc pm an cdv ct), osl⟩) (hcd : PySem.W.codeIn c.K cdv qual = true) (S : FnScope N ps scope)
    (hb : ∀ (s : Shared) (us ws : List Value), us.length = np → ws.length = ks.length → BindsTo s (PySem.W.fnOf name qual params body scope dV kV doc pm an cdv ct) ⟨us, ks.zip ws⟩ (ps.zip (us ++ ordL pi ws)))
    (hbody : ∀ (A : Around) (outer : List PySem.Env) (s : Shared) (H : Hp) (E : XK), Room k (A.deeper (envOfC qual scope s.heap.objs.size f cdv)) →
      PSs (defCx P w c base N qual scope f cdv A outer s H E) body (tS c (WD E) m)) :
    PrmK P w c base (k + 1) f np ks pi (mFn ps.length N.length m) := by
  have Fk : FnOk P w c.K c.mg base (L2N.CX P w) (k + 1) f (PySem.W.fnOf name qual params body scope dV kV doc pm an cdv ct) ps (spM c (mFn ps.length N.length m)) := by
    refine fn_of lk hcd S (fun vs H Q E ⟨ι, h, ds, r, h', rh, rv, e, k⟩ => ?_) fun A outer s H vs Q E hr hs => ⟨_, hbody A outer s H E hr, ?_⟩
    · unfold mFn at e
      by_cases hl : ds.length = ps.length
      · rw [rv.len, hl]
      · rw [if_neg hl] at e; cases e
    · obtain ⟨ι, h, ds, r, h', rh, rv, e, kf⟩ := hs
      unfold mFn at e
      by_cases hl : ds.length = ps.length
      · rw [if_pos hl] at e
        cases q : m (startD N.length ds) h with
        | none => rw [q] at e; cases e
        | some p =>
          obtain ⟨o, ρ', h1⟩ := p
          rw [q] at e
          refine ⟨ι, _, h, o, ρ', h1, rs_start rv, rh, q, ?_⟩
          cases o with
          | nx => cases e; exact fun ι' H' σ' st rs' rh' => kf ι' H' .non st rh' (st_non _ _)
          | rt d => cases e; exact fun ι' H' v st rh' rv' => kf ι' H' v st rh' rv'
          | ex x => cases e; exact fun ι' H' σ' cls dd st rs' rh' rx => kf ι' H' cls dd st rh' rx
          | bk => cases e
          | ct => cases e
      · rw [if_neg hl] at e; cases e
  intro A outer s H us ws vs zs Q E hu hw hr e0 rv rz h
  exact Fk.run A outer s H ⟨us, ks.zip ws⟩ (us ++ ordL pi ws) (vs ++ ordL pi zs) Q E hr e0 (hb s us ws hu hw) (rv.append (ordL_vals rz pi)) h
section
variable {T : List (Addr × Str)} {X : Cx} {W : WW} {e o : Expr} {m : Str} {ks : List Str} {pi : List Nat} {mo me : ME} {ma : MA} {pos apos kpos : Pos} {kws : List Keyword} {nm : Option Str}
theorem k_nil : PK X [] (tA (gx T X) W maNil) := by
  refine ⟨fun pos pins s σ H Q I ⟨ι, ρ, h, r, h', rs, rh, e, ke⟩ => pk_nil.run pos pins s σ H Q I ?_⟩
  obtain ⟨e1, e2⟩ := ok_eq e
  subst e1; subst e2
  exact ke ι H [] (Stp.refl _ _) rh .nil
theorem k_cons (he : PE X e (tE (gx T X) W me)) (hr : PK X kws (tA (gx T X) W ma)) : PK X (⟨nm, e, kpos⟩ :: kws) (tA (gx T X) W (maCons me ma)) := by
  refine ⟨fun pos pins s σ H Q I ⟨ι, ρ, h, r, h', rs, rh, e, ke⟩ => (pk_cons he hr).run pos pins s σ H Q I ?_⟩
  refine partA rs rh e ke fun ι1 H1 v h1 x st1 rs1 rh1 rv1 e1 ke1 => argsA rs1 rh1 e1 ke1 fun ι2 H2 vs h2 xs st2 rs2 rh2 rv2 e2 ke2 => ?_
  obtain ⟨er, eh⟩ := ok_eq e2
  subst er; subst eh
  exact ke2 ι2 H2 _ (Stp.refl _ _) rh2 (.cons (RV.step st2 x v rv1) rv2)
structure MOkK (T : List (Addr × Str)) (X : Cx) (m : Str) (ks : List Str) (pi : List Nat) (b : Bool) (C : Str) (F : MF) : Prop where
  ex : ∃ Ca g k, X.mg C = some (.ref Ca) ∧ SClsK b X.K Ca ∧ Meth X.K Ca m g ∧ PrmK X.prog X.w (gx T X) X.base k g 1 ks pi F ∧ Room k X.A
inductive MOksK (T : List (Addr × Str)) (X : Cx) (m : Str) (ks : List Str) (pi : List Nat) : MSel → Prop
  | nil : MOksK T X m ks pi []
  | cons {b C F r} (h : MOkK T X m ks pi b C F) (t : MOksK T X m ks pi r) : MOksK T X m ks pi ((b, C, F) :: r)
theorem MOksK.pick {b : Bool} {C : Str} {F : MF} : ∀ {l : MSel}, MOksK T X m ks pi l → pick b C l = some F → MOkK T X m ks pi b C F
  | _, .nil, e => by cases e
  | _, .cons (b := b') (C := C') (F := F') h t, e => by
    unfold ML.pick at e
    by_cases q : b' = b ∧ C' = C
    · rw [if_pos q] at e
      cases e
      obtain ⟨q1, q2⟩ := q
      subst q1; subst q2
      exact h
    · rw [if_neg q] at e
      exact t.pick e
def mMethK (m : Str) (l : MSel) (n : Nat) (pi : List Nat) (o : ME) (a : MA) : ME := fun ρ h => bnd (o ρ h) fun d h1 => match clsOf h1 m d with
  | some (b, C) => (match pick b C l with
    | some F => bnd (a ρ h1) fun ds h2 => if ds.length = n then F (d :: ordL pi ds) h2 else none
    | none => none)
  | none => none
def QMethK (T : List (Addr × Str)) (X : Cx) (W : WW) (m : Str) (ks : List Str) (pi : List Nat) (ma : MA) (σ : L2.St) (Q : VK) (v : V) (H1 : Hp) : Prop := ∀ pins s1 u, Inv X pins σ H1 s1 → RelV v u → ∃ g F k, PrmK X.prog X.w (gx T X) X.base k g 1 ks pi F ∧ Room k X.A ∧ PySem.W.keepIn X.K (.ref g) = true ∧
  (∀ {pl : Sem Bool} {A : Around} {E : Value → Shared → Prop} {Q' : Value × List Value → Shared → Prop}, Q' (.ref g, [u]) s1 → wpAny (model X.prog X.w) A (getMethod u m pl) Q' E s1) ∧ tA (gx T X) W ma σ H1 (fun vs H2 => vs.length = ks.length ∧ spM (gx T X) F (v :: ordL pi vs) H2 Q (WE W.w σ))
theorem imp_methK {l : MSel} (ml : MOksK T X m ks pi l) : ∀ σ H Q, tE (gx T X) W (mMethK m l ks.length pi mo ma) σ H Q → tE (gx T X) W mo σ H (QMethK T X W m ks pi ma σ Q) := by
  rintro σ H Q ⟨ι, ρ, h, r, h', rs, rh, em, ke⟩
  refine partE rs rh em ke fun ι1 H1 v h1 d st1 rs1 rh1 rv1 e1 ke1 => ?_
  intro pins s1 u I1 ru
  cases q : clsOf h1 m d with
  | none => simp only [q] at e1; cases e1
  | some bC =>
    obtain ⟨b, C⟩ := bC
    simp only [q] at e1
    cases q2 : pick b C l with
    | none => simp only [q2] at e1; cases e1
    | some F =>
      simp only [q2] at e1
      obtain ⟨Ca, g, k, mC, cl, me, pr, hr⟩ := (ml.pick q2).ex
      refine ⟨g, F, k, pr, hr, me.kp, fun q3 => getmeth_at I1 rh1 rv1 ru q mC cl me q3, ?_⟩
      refine argsE rs1 rh1 e1 ke1 fun ι2 H2 vs h2 ds st2 rs2 rh2 rv2 e2 ke2 => ?_
      by_cases hl : ds.length = ks.length
      · rw [if_pos hl] at e2
        refine ⟨by rw [rv2.len]; exact hl, ι2, h2, d :: ordL pi ds, r, h', rh2, .cons (RV.step st2 _ _ rv1) (ordL_rvl rv2 pi), e2, ?_⟩
        cases r with
        | ok d => exact fun ι' H' v st rh' rv => ke2 ι' H' v st rh' rv
        | error x => exact fun ι' H' cls dd st rh' rx => ke2 ι' H' cls dd st rh' rx
      · rw [if_neg hl] at e2; cases e2
theorem m_methK {l : MSel} {pl : Sem Bool} (ml : MOksK T X m ks pi l) (tk : L2N.Takes X W.w) (ho : PE X o (tE (gx T X) W mo)) (hk : PK X kws (tA (gx T X) W ma))
    (hall : (backToKw pos (keywordEach kws X.env)).all (·.1.isSome) = true := by rfl) (hks : (backToKw pos (keywordEach kws X.env)).filterMap (·.1) = ks := by rfl)
    (hpl : ((backTo pos (starEach [] X.env)).any (·.1) || (backToKw pos (keywordEach kws X.env)).any (·.1.isNone)) = false := by rfl)
    (ht : eval (.Call (.Attribute o m apos) [] kws pos) X.env = (do
      let ov ← eval o X.env
      standAt apos.atName
      let (f, first) ← holding [ov] (getMethod ov m pl)
      callWith pos f first (backTo pos (starEach [] X.env)) (backToKw pos (keywordEach kws X.env))) := by rfl) :
    PE X (.Call (.Attribute o m apos) [] kws pos) (tE (gx T X) W (mMethK m l ks.length pi mo ma)) := by
  refine ⟨fun pins s σ H Q I h => ?_⟩
  refine PySem.W.methodCall_KW (pl := pl) (thn (ho.run pins s σ H _ I (imp_methK ml σ H Q h)) fun u s1 ⟨v, H1, I1, rv, q⟩ => ?_) ht
  obtain ⟨g, F, k, pk, hr, kp, gm, qa⟩ := q pins s1 u I1 rv
  refine gm ?_
  refine PySem.W.callWith_KW0 (first := [u]) (h₀ := X.base) I.ok.mod.kin kp hall (thn (hk.run pos pins s1 σ H1 _ I1 qa) fun ws s2 ⟨zs, H2, I2, rz, hl, q2⟩ => ⟨I2.kIn, ?_⟩) hpl
  rw [hks]
  refine wpAny_call (codeAny_mono (pk X.A X.stack s2 H2 ([u] ++ []) ws [v] zs Q (WE W.w σ) rfl (by rw [← rz.length]; exact hl) hr I2.env0 (.cons rv .nil) rz q2) fun r s' hq => ?_)
  match r, hq with
  | .error e, hq => exact L2N.passAt tk σ pins H2 s2 e s' I2 hq
  | .ok (.ret u), hq => exact I2.after hq
/-- f(k = e, ..) -/
def mCallK (F : MF) (n : Nat) (pi : List Nat) (a : MA) : ME := fun ρ h => bnd (a ρ h) fun ds h1 => if ds.length = n then F (ordL pi ds) h1 else none
theorem m_callK {x : Str} {p : Pos} {f : Addr} {F : MF} {k : Nat} {pi : List Nat} (pr : PrmK X.prog X.w (gx T X) X.base k f 0 ks pi F) (hr : Room k X.A) (tk : L2N.Takes X W.w) (hg : Gl X x) (hm : X.mg x = some (.ref f)) (kp : PySem.W.keepIn X.K (.ref f) = true) (hk : PK X kws (tA (gx T X) W ma)) (hdb : (x == ("__debug__" : Str)) = false := by decide)
    (hall : (backToKw pos (keywordEach kws X.env)).all (·.1.isSome) = true := by rfl) (hks : (backToKw pos (keywordEach kws X.env)).filterMap (·.1) = ks := by rfl)
    (hpl : ((backTo pos (starEach [] X.env)).any (·.1) || (backToKw pos (keywordEach kws X.env)).any (·.1.isNone)) = false := by rfl) :
    PE X (.Call (.Name x p) [] kws pos) (tE (gx T X) W (mCallK F ks.length pi ma)) := by
  refine ⟨fun pins s σ H Q I ⟨ι, ρ, h, r, h', rs, rh, em, ke⟩ => ?_⟩
  have qa : tA (gx T X) W ma σ H (fun vs H2 => vs.length = ks.length ∧ spM (gx T X) F (ordL pi vs) H2 Q (WE W.w σ)) := by
    refine argsE rs rh em ke fun ι2 H2 vs h2 ds st2 rs2 rh2 rv2 e2 ke2 => ?_
    by_cases hl : ds.length = ks.length
    · rw [if_pos hl] at e2
      refine ⟨by rw [rv2.len]; exact hl, ι2, h2, ordL pi ds, r, h', rh2, ordL_rvl rv2 pi, e2, ?_⟩
      cases r with
      | ok d => exact fun ι' H' v st rh' rv => ke2 ι' H' v st rh' rv
      | error x => exact fun ι' H' cls dd st rh' rx => ke2 ι' H' cls dd st rh' rx
    · rw [if_neg hl] at e2; cases e2
  refine wpAny_Call_Name_kw (ld_glob I hg hm ?_ hdb)
  refine PySem.W.callWith_KW0 (first := []) (h₀ := X.base) I.ok.mod.kin kp hall (thn (hk.run pos pins s σ H _ I qa) fun ws s2 ⟨zs, H2, I2, rz, hl, q2⟩ => ⟨I2.kIn, ?_⟩) hpl
  rw [hks]
  refine wpAny_call (codeAny_mono (pr X.A X.stack s2 H2 ([] ++ []) ws [] zs Q (WE W.w σ) rfl (by rw [← rz.length]; exact hl) hr I2.env0 .nil rz q2) fun r s' hq => ?_)
  match r, hq with
  | .error e, hq => exact L2N.passAt tk σ pins H2 s2 e s' I2 hq
  | .ok (.ret u), hq => exact I2.after hq
end
end ML
/-! the text M30b -/
/-! M30b: a lambda handed to a def; errors keep a context of None. -/
namespace ML
open PySem PySem.Spec PyProof.Rows L2
open LamX (LamS lamEnv CodeO Tabs ExtN TabB)
/-- the body's context: errors leave with what is known of their context -/
abbrev lamCx (X : Cx) (A : Around) (outer : List PySem.Env) (s : Shared) (H : Hp) (E : XK) (scope : Scope) (f c' : Addr) : Cx :=
  { LamX.lamCx X A outer s H E scope f c' with
    xe := fun e s' => wpAny (model X.prog X.w) (A.deeper (lamEnv X scope s.heap.objs.size f c')) (leaving (lamEnv X scope s.heap.objs.size f c') e) (fun _ s'' => L2N.CX X.prog X.w outer H s E e s'') (fun e' s'' => L2N.CX X.prog X.w outer H s E e' s'') s' }
theorem inv_xe {X : Cx} {pins : List (Addr × Obj)} {σ : L2.St} {H : Hp} {s : Shared} {xe : Value → Shared → Prop} (I : Inv X pins σ H s) : Inv { X with xe := xe } pins σ H s :=
  ⟨⟨I.ok.mod, I.ok.kind, I.ok.glob, I.ok.blt, I.ok.above, I.ok.inj, I.ok.has, I.ok.cab, I.ok.hd, I.ok.frames, I.ok.stk, I.ok.exf, I.ok.bs, I.ok.bsz, I.ok.noex, I.ok.exfs, I.ok.funs, I.ok.frf⟩, I.os, I.bare, I.base, I.loc, I.cell, I.free, I.freeC, I.pin, I.hok, I.len⟩
section
variable {X : Cx} {pins : List (Addr × Obj)} {σ : L2.St} {H HZ : Hp} {s s1 : Shared}
/-- a() in the def that got the lambda; Z: that def's context -/
theorem act0 {CXg : CXT} {Eg : XK} {Ng : List Str} {qg : Str} {sg : Scope} {g f c' : Addr} {cdg pm ctv : Value} {params : Arguments} {body : Expr} {scope : Scope} {k i : Nat} {a : Str} {pn : List (Addr × Obj)} {xe : Value → Shared → Prop} {W : WX} {E : XK} {tb : TE} {p1 p2 : Pos}
    (I : Inv X pins σ H s) (L : LamS X.env.scope scope) (hf : s.heap.get? f = some (PySem.W.kla_obj "<lambda>" (X.env.qual ++ "<lambda>") params body scope (cloFrom X.env.cells scope.names []) pm c' ctv)) (hfn : H f = none) (hfr : f ∉ frs X.stack)
    (hbind : bindArgs (PySem.W.kla_fn "<lambda>" (X.env.qual ++ "<lambda>") params body scope (cloFrom X.env.cells scope.names []) pm (.ref c') ctv) ⟨[], []⟩ = pure [])
    (tk : L2N.Takes ((cxOf CXg X.prog X.w X.K X.mg X.base Ng qg sg g cdg X.A X.stack s H Eg).tr pn xe) W) (hW : ∀ cls d σ' H', E cls d H' → W cls d σ' H') (hr : Room (k + 1) (X.A.deeper (envOfC qg sg s.heap.objs.size g cdg)))
    (hbody : ∀ (A : Around) (outer : List PySem.Env) (s : Shared) (H : Hp), Room k (A.deeper (lamEnv X scope s.heap.objs.size f c')) → PE (lamCx X A outer s H E scope f c') body tb)
    (hN : Ng[i]? = some a) (hv : Vis sg a) (hd : (a == ("__debug__" : Str)) = false := by decide) (hcd : (a == ("__classdict__" : Str)) = false := by decide) :
    PE ((cxOf CXg X.prog X.w X.K X.mg X.base Ng qg sg g cdg X.A X.stack s H Eg).tr pn xe) (.Call (.Name a p1) [] [] p2)
      (fun σZ HZ Q => σZ[i]? = some (some (.ref f)) ∧ HZ c' = some (CodeO c' (X.env.qual ++ "<lambda>")) ∧ tb σ HZ Q) := by
  refine ⟨fun pinsZ sZ σZ HZ Q IZ ⟨hs, hc, ht⟩ => ?_⟩
  refine wpAny_Call_Name_kw (thn ((pe_var (pos := p1) (i := i) hN hv hd hcd).run pinsZ sZ σZ HZ (fun v H1 => v = .ref f ∧ H1 = HZ) IZ ⟨.ref f, hs, rfl, rfl⟩) fun u s1 ⟨v, H1, I1, r1, ev, eH⟩ => ?_)
  subst ev
  rw [eH] at I1
  obtain rfl : u = Value.ref f := r1
  have of1 : s1.heap.get? f = some (PySem.W.kla_obj "<lambda>" (X.env.qual ++ "<lambda>") params body scope (cloFrom X.env.cells scope.names []) pm c' ctv) := I1.base.keep f _ hf hfn hfr (fun z => nomatch (show f ∈ ([] : List Addr) from z))
  refine PySem.W.callWith_F0 ⟨_, _, _, _, of1⟩ ?_
  obtain ⟨⟨oc, vs, t, hoc, hdc, hvc⟩, _, _⟩ := I1.hok c' _ hc
  have rc : codeAny (model X.prog X.w) (X.A.deeper (envOfC qg sg s.heap.objs.size g cdg)) (.call (.ref f) ⟨[], []⟩) (CR (L2N.CX X.prog X.w) (envOfC qg sg s.heap.objs.size g cdg :: X.stack) X.prog X.w HZ s1 Q E) s1 := by
    refine PySem.W.kla_callFunE hr.depth of1 rfl L.co L.gen rfl ⟨c', oc, vs, t, rfl, hoc, hdc, hvc⟩ ?_
    rw [hbind]
    refine wpAny_pure (wpAny_newFunctionEnv (fun y hy => (L.own y hy).2) (fun y hy => absurd hy (by simp)) (fun h₁ hns hsb => ⟨I1.nolimit.fresh _ hsb, ?_⟩) L.kind)
    show codeAny _ _ (.expr body (lamEnv X scope s1.heap.objs.size f c')) _ _
    have kp : ∀ b o, s1.heap.get? b = some o → h₁.get? b = some o := fun b o e => hsb.extBut b o (Nat.ne_of_lt (Heap.lt_size e)) (Heap.get?_push_of_some _ e)
    have J : Inv (lamCx X (X.A.deeper (envOfC qg sg s.heap.objs.size g cdg)) (envOfC qg sg s.heap.objs.size g cdg :: X.stack) s1 HZ E scope f c') [] σ HZ { s1 with heap := h₁, toks := s1.toks + ([] : List (Str × Value)).length } :=
      inv_xe (LamX.lam_start2 (E := E) I L I1.env0 hr.hd I1.base hns kp)
    refine PySem.W.kla_codeExpr (wpAny_mono ((hbody _ _ s1 HZ (hr.deeper _)).run [] _ _ HZ Q J ht) (fun v s' ⟨w', H', J', rv, q⟩ => ⟨w', H', J'.os, J'.bare, J'.base, J'.hok, rv, q⟩) fun e s' hq => hq)
  have hx : Passes (L2N.CX X.prog X.w) ((cxOf CXg X.prog X.w X.K X.mg X.base Ng qg sg g cdg X.A X.stack s H Eg).tr pn xe) E := L2N.passes_call tk hW
  refine wpAny_call (codeAny_mono rc fun r s' hq => ?_)
  match r, hq with
  | .error e, hq => exact hx pinsZ σZ HZ s1 e s' I1 hq
  | .ok (.ret u), hq => exact I1.after hq
end
/-- the def that calls what it got -/
def GivesTo (k : Nat) (X : Cx) (Ng : List Str) (x : Str) (sg : Scope) (g : Addr) (cdg : Value) (bg : List Stmt) (a : Str) (q : Str) (TT : (XK → Hp → VK → Prop) → Hp → VK → Prop) : Prop :=
  ∀ (f c' : Addr) (s : Shared) (H : Hp) (Q : VK) (tl : XK → Hp → VK → Prop), Room k (X.A.deeper (envOfC x sg s.heap.objs.size g cdg)) →
    (∀ (W : WX) (pn : List (Addr × Obj)) (xe : Value → Shared → Prop) (E : XK) (p1 p2 : Pos), L2N.Takes ((cxOf C8.CX0 X.prog X.w X.K X.mg X.base Ng x sg g cdg X.A X.stack s H C8.E0).tr pn xe) W → (∀ cls d σ' H', E cls d H' → W cls d σ' H') →
      PE ((cxOf C8.CX0 X.prog X.w X.K X.mg X.base Ng x sg g cdg X.A X.stack s H C8.E0).tr pn xe) (.Call (.Name a p1) [] [] p2) (fun σZ HZ Q => σZ[0]? = some (some (.ref f)) ∧ HZ c' = some (CodeO c' q) ∧ tl E HZ Q)) →
    H c' = some (CodeO c' q) → TT tl H Q →
    ∃ t, PSs (cxOf C8.CX0 X.prog X.w X.K X.mg X.base Ng x sg g cdg X.A X.stack s H C8.E0).nox bg t ∧ t { nx := fun _ H' => Q .non H', rt := Q } (L2.start Ng [.ref f]) H
/-- x(lambda: body) -/
theorem pe_lamcall {X : Cx} {T : List (Addr × Str)} {TT : (XK → Hp → VK → Prop) → Hp → VK → Prop} {x a : Str} {g c P : Addr} {k : Nat} {pg : Arguments} {bg : List Stmt} {sg : Scope} {dV kV doc pm cdv ct oc : Value} {an od : Option Addr} {osl : Array (Option Value)} {Ng : List Str}
    {params : Arguments} {body : Expr} {scope : Scope} {t : XK → TE} {p lpos pos : Pos} (hg : Gl X x) (hm : X.mg x = some (.ref g)) (hk : PySem.W.keepIn X.K (.ref g) = true)
    (lk : X.K.lookup g = some ⟨oc, od, .func (PySem.W.fnOf x x pg bg sg dV kV doc pm an cdv ct), osl⟩) (hcg : PySem.W.codeIn X.K cdv x = true) (hb : L2.Binds X.K (PySem.W.fnOf x x pg bg sg dV kV doc pm an cdv ct) [a] []) (Sg : FnScope Ng [a] sg) (hNg : Ng[0]? = some a) (hva : Vis sg a)
    (hG : GivesTo (k + 1) X Ng x sg g cdv bg a (X.env.qual ++ "<lambda>") TT)
    (TB : TabB X.base X.mg c P) (hcode : X.env.code = .ref c) (hmT : (P, X.env.qual ++ "<lambda>") ∈ T) (hu : ∀ p ∈ T, p.1 = P → p.2 = X.env.qual ++ "<lambda>") (hr : Room (k + 2) X.A) (L : LamS X.env.scope scope) (hdef : defaultsOf params X.env = ([], []))
    (hbind : ∀ (q : Str) (cl : List (Str × Addr)) (pm cv ctv : Value), bindArgs (PySem.W.kla_fn "<lambda>" q params body scope cl pm cv ctv) ⟨[], []⟩ = pure [])
    (hbody : ∀ (A : Around) (outer : List PySem.Env) (s : Shared) (H : Hp) (E : XK) (f c' : Addr), Room k (A.deeper (lamEnv X scope s.heap.objs.size f c')) → PE (lamCx X A outer s H E scope f c') body (t E))
    (hdb : (x == ("__debug__" : Str)) = false := by decide) (hd : (a == ("__debug__" : Str)) = false := by decide) (hcd : (a == ("__classdict__" : Str)) = false := by decide) :
    PE X (.Call (.Name x p) [.Lambda params body scope lpos] [] pos) (LamX.tLam T TT t) := by
  refine ⟨fun pins s σ H Q I ⟨hT, h⟩ => ?_⟩
  refine wpAny_Call_Name_kw (ld_glob I hg hm (PySem.W.callWith_K (h₀ := X.base) I.ok.mod.kin hk ?_ (by rfl) (by rfl)) hdb)
  show wpAny _ _ (spliced ((false, eval (.Lambda params body scope lpos) X.env) :: backTo pos (starEach [] X.env))) _ _ s
  refine Calls.spliced_cons (LamX.lam_make2 I TB hcode hmT hu hT hdef (L.has I.ok) fun f c' pm' ctv H1 s' I1 eN T1 hf hfn hfr hco => Calls.spliced_nil ⟨I1.kIn, ?_⟩)
  have rc : codeAny (model X.prog X.w) X.A (.call (.ref g) ⟨[.ref f], []⟩) (CR C8.CX0 X.stack X.prog X.w H1 s' Q C8.E0) s' := by
    refine LamX.run_ofS (N := Ng) (ps := [a]) (us := [.ref f]) (vs := [.ref f]) lk hcg Sg hr I1.env0 (hb s' [.ref f] I1.kIn rfl) (.cons rfl .nil) rfl fun hr' => ?_
    obtain ⟨t', ht', hq'⟩ := hG f c' s' H1 Q (fun E H' Q' => t E σ H' Q') hr' (fun W pn xe E p1 p2 tk hW => act0 (i := 0) I1 L hf hfn hfr (hbind _ _ _ _ _) tk hW hr' (fun A outer s H hr2 => hbody A outer s H E f c' hr2) hNg hva hd hcd) hco (h H1 eN T1)
    exact ⟨t', ht'.nox, hq'⟩
  refine wpAny_call (codeAny_mono rc fun r s2 hq => ?_)
  match r, hq with
  | .error e, hq => exact (show False from hq).elim
  | .ok (.ret u), hq => exact I1.after hq
theorem takes0 {X : Cx} : L2N.Takes X (fun _ _ _ _ => False) := fun _ _ ⟨_, _, _, _, _, _, _, _, _, _, _, _, _, _, _, _, z⟩ => z.elim
end ML
/-! the text M31 -/
/-! M31: a lambda is made: what stays. -/
namespace ML
open PySem PySem.Spec PyProof.Rows L2
section
variable {c : Gx} {ι : Adr} {h : VH} {H H1 : Hp}
/-- the tables are not told any more -/
def ntb (ι : Adr) (H : Hp) : Adr := ⟨ι.f, fun p => ι.hid p ∧ ∀ ps, H p ≠ some (.tbl ps)⟩
theorem off_ntb {p : Addr} (f : Off ι p) : Off (ntb ι H) p := ⟨f.1, fun z => f.2 z.1⟩
theorem extN_stp (x : LamX.ExtN H H1) : Stp ι H (ntb ι H) H1 :=
  ⟨fun _ _ e => e, fun p o e n f => ⟨x p o e n.1, off_ntb f⟩, fun p o f e n => ⟨x p o e n.1, f, fun ps z => by rw [e] at z; cases z; exact n.1 ps rfl⟩⟩
theorem code_ne {p Ca dx : Addr} {q : Str} {vs : List (Option V)} : SlX.SlO p Ca dx vs ≠ LamX.CodeO p q := by
  intro z
  unfold SlX.SlO LamX.CodeO at z
  injection z with z
  have e := congrFun z { objs := Array.replicate (p + 1) { cls := .none, data := .fields #[.none, .str q default] } }
  have g : Heap.get? { objs := Array.replicate (p + 1) ({ cls := .none, data := .fields #[.none, .str q default] } : Obj) } p = some { cls := .none, data := .fields #[.none, .str q default] } := by
    unfold Heap.get?
    simp
  have r := e.mpr ⟨_, _, _, g, rfl, rfl⟩
  obtain ⟨sl, h1, _⟩ := r
  rw [g] at h1
  cases h1
theorem ro_some {o : O} {p : Addr} (ro : RO c ι H o p) : ∃ u, H p = some u ∧ (∀ ps, u ≠ .tbl ps) ∧ ∀ q, u ≠ LamX.CodeO p q := by
  cases o with
  | lst xs =>
    simp only [RO] at ro
    obtain ⟨vs, hp, _⟩ := ro
    exact ⟨_, hp, fun _ z => (by cases z), fun _ z => (by cases z)⟩
  | ins C ks xs =>
    simp only [RO] at ro
    obtain ⟨Ca, dx, vs, hp, _⟩ := ro
    exact ⟨_, hp, fun _ z => (by cases z), fun _ z => (by cases z)⟩
  | dic ks xs =>
    simp only [RO] at ro
    obtain ⟨vs, hp, _⟩ := ro
    exact ⟨_, hp, fun _ z => (by cases z), fun _ z => (by cases z)⟩
  | slt C xs =>
    simp only [RO] at ro
    obtain ⟨Ca, dx, vs, m, hp, _⟩ := ro
    exact ⟨_, hp, slO_noTbl.1, fun φ z => code_ne z⟩
theorem RH.extN (r : RH c ι h H) (x : LamX.ExtN H H1) (t : LamX.Tabs c.T H1) : RH c (ntb ι H) h H1 := by
  refine ⟨fun a o e => ?_, r.dom, r.inj, fun p hp => ?_, fun a p e z => r.dis a p e z.1, t⟩
  · obtain ⟨p, e1, ro⟩ := r.obj a o e
    obtain ⟨u, hu, n, _⟩ := ro_some ro
    exact ⟨p, e1, ro.moved (extN_stp x) ((x p u hu n).trans hu.symm)⟩
  · obtain ⟨u, hu, no⟩ := r.hdn p hp.1
    exact ⟨u, x p u hu fun ps z => hp.2 ps (by rw [hu, z]), no⟩
/-! ### the thunk in the def that got it -/
theorem on_code {c' : Addr} {q : Str} (r : RH c ι h H) (e : H c' = some (LamX.CodeO c' q)) : Off ι c' ∨ ι.hid c' := by
  by_cases z : ι.hid c'
  · exact .inr z
  · refine .inl ⟨fun a e1 => ?_, z⟩
    have hl := r.dom a c' e1
    obtain ⟨p, e2, ro⟩ := r.obj a h[a] (by simp [hl])
    rw [e1] at e2
    cases e2
    obtain ⟨u, hu, _, n⟩ := ro_some ro
    rw [e] at hu
    cases hu
    exact n q rfl
theorem code_noTbl {c' : Addr} {q : Str} : noTbl (LamX.CodeO c' q) := ⟨fun ps => LamX.codeO_ne ps, fun x z => by unfold LamX.CodeO at z; cases z⟩
/-- known of the thunk: it stands in slot 0; its maker's slots are what they were -/
def FxT (c : Gx) (fx0 : Fx) (ρ : Env) (σ0 : L2.St) (f c' : Addr) (q : Str) : Fx where
  ok ι H σ := σ[0]? = some (some (V.ref f)) ∧ H c' = some (LamX.CodeO c' q) ∧ (Off ι c' ∨ ι.hid c') ∧ RS c ⟨fun _ _ _ _ => False, fx0⟩ ι H ρ σ0
  free j := j ≠ 0
  step := fun st ⟨a, b, d, r⟩ => ⟨a, d.elim (fun d => (st.keep _ _ b code_noTbl d).1) (fun d => (st.hid _ _ d b code_noTbl).1), d.elim (fun d => .inl (st.keep _ _ b code_noTbl d).2) (fun d => .inr (st.hid _ _ d b code_noTbl).2), r.step st⟩
  put := fun n ⟨a, b, d, r⟩ => ⟨by rw [List.getElem?_set_ne n]; exact a, b, d, r⟩
def mThunk (θ : VH → R D) : ME := fun _ h => θ h
theorem m_act {Z : Cx} {E : XK} {fx0 : Fx} {m : ME} {ρ : Env} {σ0 : L2.St} {f c' : Addr} {q a : Str} {p1 p2 : Pos}
    (hp : PE Z (.Call (.Name a p1) [] [] p2) (fun σZ HZ Q => σZ[0]? = some (some (V.ref f)) ∧ HZ c' = some (LamX.CodeO c' q) ∧ tE c ⟨fun cls d _ H' => E cls d H', fx0⟩ m σ0 HZ Q)) :
    PE Z (.Call (.Name a p1) [] [] p2) (tE c ⟨fun cls d _ H' => E cls d H', FxT c fx0 ρ σ0 f c' q⟩ (mThunk (m ρ))) := by
  refine peI hp fun σ H Q ⟨ι, ρZ, h, r, h', rs, rh, em, ke⟩ => ?_
  obtain ⟨a1, a2, a3, a4⟩ := rs.fx
  refine ⟨a1, a2, ι, ρ, h, r, h', ⟨a4.len, a4.at_, a4.fx⟩, rh, em, ?_⟩
  cases r with
  | ok d => exact fun ι' H' v st rh' rv => ke ι' H' v st rh' rv
  | error x => exact fun ι' H' cls dd st rh' rx => ke ι' H' cls dd st rh' rx
end
/-! ### try around the thunk -/
def mTryT (n : Nat) (E : ExT) (b : MS) (cl : List ClD) : MS := fun ρ h => match b ρ h with
  | some (.ex x, _, h1) => (match mHandle E cl x (List.replicate n none) h1 with
    | some (.rt d, ρ', h') => some (.rt d, ρ', h')
    | _ => none)
  | r => r
section
variable {T : List (Addr × Str)} {X : Cx} {E : ExT} {body : List Stmt} {h₀ : ExceptHandler} {hds : List ExceptHandler} {cl : List ClD} {pos : Pos} {mb : MS} {fx : Fx}
theorem takes_len {Y : Cx} {W : WX} (tk : L2N.Takes Y W) : L2N.Takes Y (fun cls d σ H => σ.length = Y.N.length → W cls d σ H) := fun u s' ⟨a, B, sI, pins, σ, H, cls, d, e, I, nb, up, sky, na, os, ag, w⟩ =>
  tk u s' ⟨a, B, sI, pins, σ, H, cls, d, e, I, nb, up, sky, na, os, ag, w I.len⟩
theorem rs_none {c : Gx} {W : WW} {ι : Adr} {H : Hp} {σ : L2.St} {n : Nat} (hn : σ.length = n) (hfx : W.fx.ok ι H σ) : RS c W ι H (List.replicate n none) σ := by
  refine ⟨by simp [hn], fun i d e => ?_, hfx⟩
  rw [List.getElem?_replicate] at e
  split at e <;> cases e
theorem s_tryT {W : WX} (hs : X.stack = X.env :: X.outer) (hf : X.env.frame = some X.env.locals) (hN : X.N.Nodup) (tk : L2N.Takes X W) (eE : ExOk X.K X.mg E)
    (hb : ∀ (Ec : XK) (pn : List (Addr × Obj)) (xe : Value → Shared → Prop), L2N.Takes (X.tr pn xe) (fun cls d _ H' => Ec cls d H') → PassesOwn (model X.prog X.w) X.A X.env xe → PSs (X.tr pn xe) body (tS (gx T X) ⟨fun cls d _ H' => Ec cls d H', fx⟩ mb))
    (hh : ClOk T X (h₀ :: hds) cl) :
    PS X (.Try body (h₀ :: hds) [] [] pos) (tS (gx T X) ⟨W, fx⟩ (mTryT X.N.length E mb cl)) := by
  obtain ⟨L, hL, pr⟩ := cls_of hh
  refine ⟨fun pins s σ H D' I h => ?_⟩
  refine (ps_clauses (tb := fun W' D σ H => ∃ Ec : XK, (∀ cls d σ' H', Ec cls d H' → σ'.length = X.N.length → W' cls d σ' H') ∧ tS (gx T X) ⟨fun cls d _ H' => Ec cls d H', fx⟩ mb D σ H) hs hf hN tk (fun W' pn xe tk' po => ⟨fun pins s σ H D I ⟨Ec, hW, q⟩ => (hb Ec pn xe ((takes_len tk').imp fun cls d σ' H' z hl => hW cls d σ' H' z hl) po).run pins s σ H D I q⟩) hL).run pins s σ H D' I ?_
  obtain ⟨ι, ρ, hh', o, ρ', h', rs, rh, em, ks⟩ := h
  refine ⟨fun cls dd H' => ∀ σ', σ'.length = X.N.length → wCl X.K W D' L cls dd σ' H', fun cls d σ' H' z hl => z σ' hl, ?_⟩
  unfold mTryT at em
  cases q : mb ρ hh' with
  | none => rw [q] at em; cases em
  | some z =>
    obtain ⟨o1, ρ1, h1⟩ := z
    rw [q] at em
    refine ⟨ι, ρ, hh', o1, ρ1, h1, ⟨rs.len, rs.at_, rs.fx⟩, rh, q, ?_⟩
    cases o1 with
    | nx => cases em; exact fun ι' H' σ' st rs' rh' => ks ι' H' σ' st ⟨rs'.len, rs'.at_, rs'.fx⟩ rh'
    | bk => cases em; exact fun ι' H' σ' st rs' rh' => ks ι' H' σ' st ⟨rs'.len, rs'.at_, rs'.fx⟩ rh'
    | ct => cases em; exact fun ι' H' σ' st rs' rh' => ks ι' H' σ' st ⟨rs'.len, rs'.at_, rs'.fx⟩ rh'
    | rt d => cases em; exact ks
    | ex x =>
      intro ι1 H1 σ1 cls dd st rs1 rh1 rx σ' hl
      simp only [] at em
      cases q2 : mHandle E cl x (List.replicate X.N.length none) h1 with
      | none => rw [q2] at em; cases em
      | some z2 =>
        obtain ⟨o2, ρ2, h2⟩ := z2
        rw [q2] at em
        cases o2 <;> first | (cases em; done) | skip
        cases em
        exact handle_ok (W := ⟨W, Fx.no⟩) (D' := D') eE True.intro (rs_none hl True.intro) rh1 rx (o := .rt _) (fun ι' H' v st' rh' rv => ks ι' H' v (st.trans st') rh' rv) pr q2
end
end ML
/-! the text M32 -/
/-! M32: a def that is handed a lambda. -/
namespace ML
open PySem PySem.Spec PyProof.Rows L2
abbrev MFT := (VH → R D) → VH → R D
def mFnT (n : Nat) (mb : (VH → R D) → MS) : MFT := fun θ h => match mb θ (List.replicate n none) h with
  | some (.nx, _, h') => some (.ok .non, h')
  | some (.rt d, _, h') => some (.ok d, h')
  | _ => none
def mLam (F : MFT) (m : ME) : ME := fun ρ h => match F (fun h => m ρ h) h with
  | some (.ok d, h') => some (.ok d, h')
  | _ => none
/-- what the def makes of the lambda's reading -/
def TTm (T : List (Addr × Str)) (X : Cx) (m : ME) (F : MFT) : (XK → Hp → VK → Prop) → Hp → VK → Prop := fun tl H Q => ∃ (fx : Fx) (σ0 : L2.St) (ρ : Env) (ι : Adr) (h : VH) (d : D) (h' : VH),
  tl = (fun E H' Q' => tE (gx T X) ⟨fun cls d _ H' => E cls d H', fx⟩ m σ0 H' Q') ∧ RS (gx T X) ⟨fun _ _ _ _ => False, fx⟩ ι H ρ σ0 ∧ RH (gx T X) ι h H ∧ F (fun h => m ρ h) h = some (.ok d, h') ∧ Fin (gx T X) ι H h' d Q
section
variable {T : List (Addr × Str)} {X : Cx} {W : WW} {m : ME}
theorem gives_lam {Ng : List Str} {x a q : Str} {sg : Scope} {g : Addr} {cdg : Value} {bg : List Stmt} {mb : (VH → R D) → MS} {k : Nat} (h0 : 0 < Ng.length)
    (hbody : ∀ (s : Shared) (H : Hp) (θ : VH → R D) (fx : Fx), Room k (X.A.deeper (envOfC x sg s.heap.objs.size g cdg)) → (∀ j, j ≠ 0 → fx.free j) → (∀ (E : XK) (pn : List (Addr × Obj)) (xe : Value → Shared → Prop) (p1 p2 : Pos), L2N.Takes ((cxOf C8.CX0 X.prog X.w X.K X.mg X.base Ng x sg g cdg X.A X.stack s H C8.E0).tr pn xe) (fun cls d _ H' => E cls d H') →
        PE ((cxOf C8.CX0 X.prog X.w X.K X.mg X.base Ng x sg g cdg X.A X.stack s H C8.E0).tr pn xe) (.Call (.Name a p1) [] [] p2) (tE (gx T X) ⟨fun cls d _ H' => E cls d H', fx⟩ (mThunk θ))) →
      PSs (cxOf C8.CX0 X.prog X.w X.K X.mg X.base Ng x sg g cdg X.A X.stack s H C8.E0).nox bg (tS (gx T X) ⟨fun _ _ _ _ => False, fx⟩ (mb θ))) :
    GivesTo k X Ng x sg g cdg bg a q (TTm T X m (mFnT Ng.length mb)) := by
  intro f c' s H Q tl hr act hc h
  obtain ⟨fx, σ0, ρ, ι, hh, d, h', etl, rs, rh, ef, fin⟩ := h
  subst etl
  refine ⟨_, hbody s H (fun h => m ρ h) (FxT (gx T X) fx ρ σ0 f c' q) hr (fun j hj => hj) (fun E pn xe p1 p2 tk => m_act (act _ pn xe E p1 p2 tk fun _ _ _ _ z => z)), ?_⟩
  unfold mFnT at ef
  cases e : mb (fun h => m ρ h) (List.replicate Ng.length none) hh with
  | none => rw [e] at ef; cases ef
  | some z =>
    obtain ⟨o, ρ', h1⟩ := z
    rw [e] at ef
    refine ⟨ι, _, hh, o, ρ', h1, rs_none (by simp [L2.start]; omega) ⟨?_, hc, on_code rh hc, rs⟩, rh, e, ?_⟩
    · simp [L2.start]
    · cases o with
      | nx => cases ef; exact fun ι' H' σ' st rs' rh' => fin ι' H' .non st rh' (st_non _ _)
      | rt d => cases ef; exact fun ι' H' v st rh' rv => fin ι' H' v st rh' rv
      | ex x => cases ef
      | bk => cases ef
      | ct => cases ef
theorem imp_lam {F : MFT} : ∀ σ H Q, tE (gx T X) W (mLam F m) σ H Q → LamX.tLam T (TTm T X m F) (fun E => tE (gx T X) ⟨fun cls d _ H' => E cls d H', W.fx⟩ m) σ H Q := by
  rintro σ H Q ⟨ι, ρ, h, r, h', rs, rh, em, ke⟩
  refine ⟨rh.tab, fun H1 x t => ?_⟩
  have st : Stp ι H (ntb ι H) H1 := extN_stp x
  unfold mLam at em
  cases e : F (fun h => m ρ h) h with
  | none => rw [e] at em; cases em
  | some z =>
    obtain ⟨r1, h1⟩ := z
    rw [e] at em
    cases r1 with
    | error x => cases em
    | ok d =>
      cases em
      have rs1 := rs.step st
      exact ⟨W.fx, σ, ρ, ntb ι H, h, d, h', rfl, ⟨rs1.len, rs1.at_, rs1.fx⟩, rh.extN x t, e, fun ι' H' v s' rh' rv => ke ι' H' v (st.trans s') rh' rv⟩
open LamX in
theorem m_lam {x a : Str} {g c P : Addr} {k : Nat} {pg : Arguments} {bg : List Stmt} {sg : Scope} {dV kV doc pm cdv ct oc : Value} {an od : Option Addr} {osl : Array (Option Value)} {Ng : List Str} {F : MFT}
    {params : Arguments} {body : Expr} {scope : Scope} {p lpos pos : Pos} (hg : Gl X x) (hm : X.mg x = some (.ref g)) (hk : PySem.W.keepIn X.K (.ref g) = true)
    (lk : X.K.lookup g = some ⟨oc, od, .func (PySem.W.fnOf x x pg bg sg dV kV doc pm an cdv ct), osl⟩) (hcg : PySem.W.codeIn X.K cdv x = true) (hb : L2.Binds X.K (PySem.W.fnOf x x pg bg sg dV kV doc pm an cdv ct) [a] []) (Sg : FnScope Ng [a] sg) (hNg : Ng[0]? = some a) (hva : Vis sg a)
    (hG : GivesTo (k + 1) X Ng x sg g cdv bg a (X.env.qual ++ "<lambda>") (TTm T X m F)) (TB : TabB X.base X.mg c P) (hcode : X.env.code = .ref c) (hmT : (P, X.env.qual ++ "<lambda>") ∈ T) (hu : ∀ p ∈ T, p.1 = P → p.2 = X.env.qual ++ "<lambda>") (hr : Room (k + 2) X.A) (L : LamS X.env.scope scope) (hdef : defaultsOf params X.env = ([], []))
    (hbind : ∀ (q : Str) (cl : List (Str × Addr)) (pm cv ctv : Value), bindArgs (PySem.W.kla_fn "<lambda>" q params body scope cl pm cv ctv) ⟨[], []⟩ = pure [])
    (hbody : ∀ (A : Around) (outer : List PySem.Env) (s : Shared) (H : Hp) (E : XK) (f c' : Addr), Room k (A.deeper (lamEnv X scope s.heap.objs.size f c')) → PE (lamCx X A outer s H E scope f c') body (tE (gx T X) ⟨fun cls d _ H' => E cls d H', W.fx⟩ m))
    (hdb : (x == ("__debug__" : Str)) = false := by decide) (hd : (a == ("__debug__" : Str)) = false := by decide) (hcd : (a == ("__classdict__" : Str)) = false := by decide) :
    PE X (.Call (.Name x p) [.Lambda params body scope lpos] [] pos) (tE (gx T X) W (mLam F m)) :=
  peI (pe_lamcall hg hm hk lk hcg hb Sg hNg hva hG TB hcode hmT hu hr L hdef hbind hbody hdb hd hcd) imp_lam
end
end ML
/-! the text M33 -/
/-! M33: sorted(d) of a dict of texts. -/
namespace ML
open PySem PySem.Spec PyProof.Rows L2
theorem lt_anti : ∀ {a b : List Nat}, ltCps a b = false → ltCps b a = false → a = b
  | [], [], _, _ => rfl
  | [], _ :: _, h, _ => by simp [ltCps] at h
  | _ :: _, [], _, h => by simp [ltCps] at h
  | a :: r, b :: t, h1, h2 => by
    simp only [ltCps, Bool.or_eq_false_iff, decide_eq_false_iff_not, Bool.and_eq_false_iff, beq_eq_false_iff_ne] at h1 h2
    have e : a = b := by omega
    subst e
    rw [lt_anti (a := r) (b := t) (by simpa using h1.2) (by simpa using h2.2)]
theorem lt_trans : ∀ {a b c : List Nat}, ltCps b a = false → ltCps c b = false → ltCps c a = false
  | [], _, [], _, _ => rfl
  | [], [], _ :: _, _, h => by simp [ltCps]
  | [], _ :: _, _ :: _, _, h => by simp [ltCps]
  | _ :: _, [], _, h, _ => by simp [ltCps] at h
  | _ :: _, _ :: _, [], _, h => by simp [ltCps] at h
  | a :: r, b :: t, c :: u, h1, h2 => by
    simp only [ltCps, Bool.or_eq_false_iff, decide_eq_false_iff_not, Bool.and_eq_false_iff, beq_eq_false_iff_ne] at h1 h2 ⊢
    refine ⟨by omega, ?_⟩
    by_cases e : c = a
    · right
      have e1 : b = a := by omega
      exact lt_trans (h1.2.resolve_left fun z => z e1) (h2.2.resolve_left fun z => z (by omega))
    · exact .inl e
def leS (x y : Str) : Bool := !ltCps y.cps.toList x.cps.toList
theorem rising_pair : ∀ (p : Str) (l : List Str), risingS p l = true → (p :: l).Pairwise fun x y => leS x y = true
  | p, [], _ => by simp
  | p, x :: r, h => by
    simp only [risingS, Bool.and_eq_true] at h
    have ih := rising_pair x r h.2
    refine List.Pairwise.cons (fun y hy => ?_) ih
    rcases List.mem_cons.mp hy with e | hy
    · subst e; exact h.1
    · have h2 := (List.pairwise_cons.mp ih).1 y hy
      simp only [leS, Bool.not_eq_true'] at h2 ⊢
      exact lt_trans (by simpa using h.1) h2
theorem sorted_pair {l : List Str} (h : sortedS l = true) : l.Pairwise fun x y => leS x y = true := by
  cases l with
  | nil => exact .nil
  | cons x r => exact rising_pair x r h
def sortT (l : List Str) : List Str := l.mergeSort leS
theorem leS_anti {x y : Str} (h1 : leS x y = true) (h2 : leS y x = true) : x = y := by
  simp only [leS, Bool.not_eq_true'] at h1 h2
  obtain ⟨⟨a⟩⟩ := x
  obtain ⟨⟨b⟩⟩ := y
  have := lt_anti h2 h1
  simp only at this
  rw [this]
theorem lt_asymm : ∀ {a b : List Nat}, ltCps a b = true → ltCps b a = false
  | [], [], h => by simp [ltCps] at h
  | [], _ :: _, _ => by simp [ltCps]
  | _ :: _, [], h => by simp [ltCps] at h
  | a :: r, b :: t, h => by
    simp only [ltCps, Bool.or_eq_true, decide_eq_true_eq, Bool.and_eq_true, beq_iff_eq] at h
    simp only [ltCps, Bool.or_eq_false_iff, decide_eq_false_iff_not, Bool.and_eq_false_iff, beq_eq_false_iff_ne]
    rcases h with h | ⟨h, g⟩
    · exact ⟨by omega, .inl (by omega)⟩
    · exact ⟨by omega, .inr (lt_asymm g)⟩
theorem sort_one {ys ks : List Str} (p : ys.Perm ks) (h : sortedS ys = true) : ys = sortT ks := by
  have h1 := sorted_pair h
  have h2 : (sortT ks).Pairwise fun x y => leS x y = true := List.pairwise_mergeSort (fun a b c h1 h2 => by
    simp only [leS, Bool.not_eq_true'] at h1 h2 ⊢
    exact lt_trans h1 h2) (fun a b => by
    simp only [leS]
    cases q : ltCps b.cps.toList a.cps.toList with
    | false => rfl
    | true => rw [lt_asymm q]; rfl) ks
  exact List.Perm.eq_of_pairwise (fun a b _ _ h1 h2 => leS_anti h1 h2) h1 h2 (p.trans (List.mergeSort_perm ks leS).symm)
def strKs : List Key → Option (List Str)
  | [] => some []
  | .inr x :: r => (strKs r).map (x :: ·)
  | .inl _ :: _ => none
theorem strKs_eq : ∀ {ks : List Key} {ys : List Str}, strKs ks = some ys → ks = ys.map Sum.inr
  | [], ys, e => by cases e; rfl
  | .inl _ :: _, _, e => by cases e
  | .inr x :: r, ys, e => by
    simp only [strKs, Option.map_eq_some_iff] at e
    obtain ⟨zs, ez, e⟩ := e
    subst e
    rw [strKs_eq ez]; rfl
theorem map_zip_fst {ks : List Key} {vs : List V} (l : vs.length = ks.length) : (ks.zip vs).map (·.1) = ks := by
  rw [List.map_fst_zip (by omega)]
theorem rvl_strs {c : Gx} {ι : Adr} {H : Hp} : ∀ (ys : List Str), RVL c ι H (ys.map D.str) (ys.map V.str)
  | [] => .nil
  | y :: ys => .cons (st_str _ _) (rvl_strs ys)
def cSortD : List D → VH → Option D := fun xs _ => on1 (fun d => match d with
  | .dic ks _ => (match strKs ks with
    | some ys => if ys.length < 64 then some (.lst ((sortT ys).map .str)) else none
    | none => none)
  | _ => none) xs
section
variable {T : List (Addr × Str)} {X : Cx}
theorem c_sortD (hc : X.calm = true) : Cal T X (.builtin "sorted") cSortD := ⟨_, call_sortedD hc, fun ι H h xs vs z Q rh rv e fin => by
  cases xs with
  | nil => cases e
  | cons d ds =>
  cases ds with
  | cons _ _ => cases e
  | nil =>
    obtain ⟨v, ev, rv1⟩ := one_v rv
    subst ev
    cases d <;> first | (cases e; done) | skip
    rename_i ks ys
    simp only [cSortD, on1] at e
    cases q : strKs ks with
    | none => rw [q] at e; cases e
    | some ts =>
      rw [q] at e
      simp only [] at e
      by_cases hl : ts.length < 64
      · rw [if_pos hl] at e
        cases e
        simp only [RV] at rv1
        obtain ⟨p, od, ws, ep, rl, l, ho, offo⟩ := rv1
        subst ep
        refine ⟨p, ks.zip ws, ts, rfl, .inr ⟨od, ho⟩, by rw [map_zip_fst l, strKs_eq q], hl, fun zs a pz sz n => ?_⟩
        rw [sort_one pz sz]
        exact fin _ _ _ (rh.newStp n) (rh.new n) (rv_lst rh n (rvl_strs _))
      · rw [if_neg hl] at e; cases e⟩
end
end ML
/-! the text M34 -/
/-! M34: promises that hold where no repr is under way. -/
namespace ML
open PySem PySem.Spec PyProof.Rows L2
def PrmG (P : Program) (w : World) (c : Gx) (base : Heap) (k : Nat) (f : Addr) (F : MF) : Prop :=
  ∀ (A : Around) (outer : List PySem.Env) (s : Shared) (H : Hp) (us : List Value) (vs : List V) (Q : VK) (E : XK), Room k A → A.guards = some [] → Env0 P w c.K c.mg base A outer s H → Vals vs us → spM c F vs H Q E →
    codeAny (model P w) A (.call (.ref f) ⟨us, []⟩) (CR (L2N.CX P w) outer P w H s Q E) s
theorem Prm.g {P : Program} {w : World} {c : Gx} {base : Heap} {k : Nat} {f : Addr} {F : MF} (p : Prm P w c base k f F) : PrmG P w c base k f F := fun A outer s H us vs Q E hr _ e0 r h => p A outer s H us vs Q E hr e0 r h
theorem prmg_of {P : Program} {w : World} {c : Gx} {base : Heap} {k : Nat} {f : Addr} {name qual : Str} {params : Arguments} {body : List Stmt} {scope : Scope} {dV kV doc pm cdv ct oc : Value} {an od : Option Addr}
    {osl : Array (Option Value)} {N ps : List Str} {m : MS} (lk : c.K.lookup f = some ⟨oc, od, .func (PySem.W.fnOf name qual params body scope dV kV doc pm an cdv ct), osl⟩) (hcd : PySem.W.codeIn c.K cdv qual = true) (S : FnScope N ps scope)
    (hb : Binds c.K (PySem.W.fnOf name qual params body scope dV kV doc pm an cdv ct) ps [])
    (hbody : ∀ (A : Around) (outer : List PySem.Env) (s : Shared) (H : Hp) (E : XK), Room k (A.deeper (envOfC qual scope s.heap.objs.size f cdv)) → A.guards = some [] →
      PSs (defCx P w c base N qual scope f cdv A outer s H E) body (tS c (WD E) m)) :
    PrmG P w c base (k + 1) f (mFn ps.length N.length m) := by
  intro A outer s H us vs Q E hr hg e0 r ⟨ι, h, ds, rr, h', rh, rv, e, kf⟩
  unfold mFn at e
  by_cases hl : ds.length = ps.length
  · rw [if_pos hl] at e
    have hv : vs.length = ps.length := by rw [← hl, rv.len]
    have KX : c.K.In s.heap := e0.mod.kin.keeps fun b o e => (e0.bs b o e).1
    have b := hb s us KX (by rw [List.append_nil, ← r.length]; exact hv)
    rw [List.append_nil] at b
    refine LamX.run_ofS (ps := ps) (us := us) (vs := vs) lk hcd S hr e0 b r hv fun hr' => ⟨_, hbody A outer s H E hr' hg, ?_⟩
    cases q : m (startD N.length ds) h with
    | none => rw [q] at e; cases e
    | some p =>
      obtain ⟨o, ρ', h1⟩ := p
      rw [q] at e
      refine ⟨ι, _, h, o, ρ', h1, rs_start rv, rh, q, ?_⟩
      cases o with
      | nx => cases e; exact fun ι' H' σ' st rs' rh' => kf ι' H' .non st rh' (st_non _ _)
      | rt d => cases e; exact fun ι' H' v st rh' rv' => kf ι' H' v st rh' rv'
      | ex x => cases e; exact fun ι' H' σ' cls dd st rs' rh' rx => kf ι' H' cls dd st rh' rx
      | bk => cases e
      | ct => cases e
  · rw [if_neg hl] at e; cases e
section
variable {T : List (Addr × Str)} {X : Cx} {W : WW} {k : Nat} {f : Addr} {F : MF} {x : Str} {p pos : Pos} {e : Expr} {es : List Expr} {ma : MA}
theorem run_prmG {A : Around} {pins : List (Addr × Obj)} {σ : L2.St} {H : Hp} {s : Shared} {Q : VK} {us : List Value} {vs : List V} (pr : PrmG X.prog X.w (gx T X) X.base k f F) (hr : Room k A) (hg : A.guards = some []) (e0 : Env0 X.prog X.w X.K X.mg X.base A X.stack s H) (tk : L2N.Takes X W.w) (I : Inv X pins σ H s) (r : Vals vs us) (h : spM (gx T X) F vs H Q (WE W.w σ)) :
    wpAny (model X.prog X.w) A (call (.ref f) us) (EP X pins σ Q) X.xe s := by
  refine wpAny_call (codeAny_mono (pr A X.stack s H us vs Q (WE W.w σ) hr hg e0 r h) fun r s' hq => ?_)
  cases r with
  | error e => exact L2N.passAt tk σ pins H s e s' I hq
  | ok fl =>
    cases fl with
    | ret u => exact I.after hq
    | next => exact False.elim hq
    | brk => exact False.elim hq
    | cont => exact False.elim hq
theorem m_callG (pr : PrmG X.prog X.w (gx T X) X.base k f F) (hr : Room k X.A) (hgd : X.A.guards = some []) (tk : L2N.Takes X W.w) (hg : Gl X x) (hm : X.mg x = some (.ref f)) (hk : PySem.W.keepIn X.K (.ref f) = true)
    (ha : PA X (e :: es) (tA (gx T X) W ma)) (hdb : (x == ("__debug__" : Str)) = false := by decide) (he : starEach (e :: es) X.env = (false, eval e X.env) :: starEach es X.env := by rfl) (hpl : (backTo pos (starEach es X.env)).any (·.1) = false := by rfl) :
    PE X (.Call (.Name x p) (e :: es) [] pos) (tE (gx T X) W (mCall F ma)) := by
  refine ⟨fun pins s σ H Q I h => ?_⟩
  refine wpAny_Call_Name_kw (ld_glob I hg hm ?_ hdb)
  exact PySem.W.callWith_K (h₀ := X.base) I.ok.mod.kin hk (thn (ha.run pos pins s σ H _ I (imp_call σ H Q h)) fun us s1 ⟨vs, H1, I1, r, q⟩ => ⟨I1.kIn, run_prmG pr hr hgd I1.env0 tk I1 r q⟩) he hpl
end
end ML
/-! the text M35 -/
/-! M35: repr of plain data (no dicts), where no repr is under way. -/
namespace ML
open PySem PySem.Spec PyProof.Rows L2
section
variable {T : List (Addr × Str)} {X : Cx}
def rRepr (X : Cx) : List V → Hp → VK → Prop := fun xs H Q => ∃ v d, xs = [v] ∧ Dp X.K H v d ∧ d.showable = true ∧ d.hasDict = false ∧ X.A.units + (d.depth + 1) < cLine ∧ d.shown.length ≤ sizeLine ∧ Q (.str d.shown) H
theorem call_repr (hg : X.A.guards = some []) : CallR X (.builtin "repr") (rRepr X) := by
  intro pins s σ H xs us Q I r ⟨v, d, ev, hd, hs, hn, hu, hz, q⟩
  subst ev
  obtain ⟨u, eu, ru⟩ := vals_one r
  subst eu
  obtain ⟨as, rd⟩ := Dp.reads I d v u hd ru
  have fin : ∀ h' tu tk, (∀ b o, s.heap.get? b = some o → h'.get? b = some o) → EP X pins σ Q (.str d.shown tu) { s with heap := h', toks := tk } := fun h' tu tk k => ⟨.str d.shown, H, I.kept (t' := tk) k, ⟨_, rfl⟩, q⟩
  cases u with
  | ref a => exact repr_of_reads' rd hs (PySem.PyData.noDict_hsm hn) hg hu (fun _ _ e => e) fin hz
  | none => cases rd; exact PySem.P.repr_of_none (fin s.heap _ _ fun _ _ e => e)
  | bool b => cases rd; exact PySem.P.repr_of_bool (fin s.heap _ _ fun _ _ e => e)
  | int i t => cases rd; exact PySem.P.repr_of_int (by simpa [PyData.showable] using hs) (fin s.heap _ _ fun _ _ e => e)
  | str x t => cases rd; exact PySem.P.repr_of_str (fin s.heap _ _ fun _ _ e => e) hz
  | _ => cases rd
def cRepr : List D → VH → Option D := fun xs h => on1 (fun d => match dat h d with
  | some p => if p.showable = true ∧ p.hasDict = false ∧ p.depth ≤ 60 ∧ p.shown.length ≤ 10000000 then some (.str p.shown) else none
  | none => none) xs
theorem c_repr (hg : X.A.guards = some []) (hu : X.A.units + 64 < cLine) : Cal T X (.builtin "repr") cRepr := ⟨_, call_repr hg, fun ι H h xs vs z Q rh rv e fin => by
  cases xs with
  | nil => cases e
  | cons d ds =>
  cases ds with
  | cons _ _ => cases e
  | nil =>
    obtain ⟨v, ev, rv1⟩ := one_v rv
    subst ev
    simp only [cRepr, on1] at e
    cases q : dat h d with
    | none => rw [q] at e; cases e
    | some p =>
      rw [q] at e
      simp only [] at e
      by_cases hc : p.showable = true ∧ p.hasDict = false ∧ p.depth ≤ 60 ∧ p.shown.length ≤ 10000000
      · rw [if_pos hc] at e
        cases e
        exact ⟨v, p, rfl, dat_ok rh d v p rv1 q, hc.1, hc.2.1, by omega, ten_line hc.2.2.2, fin ι H _ (Stp.refl _ _) rh (st_str _ _)⟩
      · rw [if_neg hc] at e; cases e⟩
end
end ML
/-! the text M36 -/
/-! M36: repr of an instance by its own __repr__. -/
namespace ML
open PySem PySem.Spec PyProof.Rows L2
section
variable {T : List (Addr × Str)} {X : Cx} {l : MSel}
def okStr : D → Bool
  | .str _ => true
  | _ => false
theorem h_repr (hu : X.A.units + 64 < cLine) (ml : DOks T X "__repr__" l) : CalH T X (.builtin "repr") (fDun l okStr) := ⟨_, fun pins s σ H xs us Q I r ⟨v, ι, h, d, F, z, h', ev, rh, rv, q, q2, hk, fin⟩ => by
  subst ev
  obtain ⟨u, eu, ru⟩ := vals_one r
  subst eu
  obtain ⟨p, ox, od, Ca, g, k, ep, J, f1, f2, f3, f4, pr, hr⟩ := dun_at ml I rh rv q
  subst ep
  obtain rfl : u = Value.ref p := ru
  obtain ⟨m, hF⟩ := I.fr
  have hr1 : Room k X.A.in1 := (show Room (k + 1) X.A.in1 from Room.in1 hr).mono (by omega)
  cases z <;> first | (cases hk; done) | skip
  rename_i y
  have fin' : Fin (gx T X) ι H h' (.str y) (fun v H1 => v = .str y ∧ Q v H1) := fun ι' H' v st rh' rv' => ⟨by simp only [RV] at rv'; exact rv', fin ι' H' v st rh' rv'⟩
  refine PySem.W.repr_K (show X.A.units + 1 < cLine by omega) hF I.ok.mod.kin J f1 f2 (wpAny_mono (dun_run (E := X.xe) pr hr1 I.env0.in1 I rh rv q2 fin') (fun w s' hz => ?_) fun _ _ x => x)
  obtain ⟨zv, H', I', rz, ez, qz⟩ := hz
  subst ez
  obtain ⟨t, ew⟩ := (show ∃ t, w = Value.str y t from rz)
  subst ew
  exact ⟨.str y, H', I', ⟨t, rfl⟩, qz⟩, sem_dun⟩
end
end ML
/-! the text M37 -/
/-! M37: repr of a tuple of one instance that has its own __repr__. -/
namespace OwZ
open PySem PySem.Spec PyProof.Rows
section
variable {prog : Program} {w : World} {A : Around} {E : Value → Shared → Prop} {s : Shared} {K : PySem.W.Frag} {x C f : Addr} {ox : Obj} {od : Option Obj}
theorem under_own {b : Nat} {Q : Str → Shared → Prop} (hb : b ≤ sizeLine) (hu : A.units < cLine) (X : K.In s.heap) (I : PySem.W.InstAt s.heap x ox C od) (hs : PySem.W.findIn K (.ref C) "__repr__" = some (some (.ref f))) (hf : PySem.W.isFn K (.ref f) = true)
    (h : wpAny (model prog w) A (call (.ref f) [.ref x]) (fun r s' => ∃ y t, r = .str y t ∧ Q y s') E s) : wpAny (model prog w) A (pyReprUnder b (.ref x)) Q E s := by
  unfold pyReprUnder
  rw [if_neg (by omega)]
  refine wpAny_bind (m := pyReprObjUnder b (.ref x)) ?_
  unfold pyReprObjUnder pyReprObjBy
  refine wpAny_bind (wpAny_cRoomFor hu ?_)
  refine wpAny_bind (wpAny_bind (I.type.here ((PySem.W.looks_findIn X hs).here ?_)))
  refine PySem.W.KFB.if_not rfl ?_
  simp only [callSpecialIfBoundBy?, bindSpecialIfBound?]
  have key : wpAny (model prog w) A (call (.ref f) ([.ref x] ++ [])) (fun r s' => ∃ y t, r = .str y t ∧ Q y s') E s := h
  refine wpAny_bind (wpAny_holding (wpAny_bind (wpAny_bind (wpAny_bind (I.type.here ((PySem.W.looks_findIn X hs).here ?_))))))
  refine wpAny_bind (wpAny_askSetting (wpAny_ite ?_))
  split
  · refine wpAny_bind ((PySem.W.bind_fn X _ (beq_iff_eq.mp hf)).here (wpAny_pure ?_))
    refine wpAny_bind (m := call (.ref f) ([.ref x] ++ [])) (wpAny_mono key (fun r s' hr => wpAny_pure ?_) fun _ _ z => z)
    obtain ⟨y, t, e, q⟩ := hr
    subst e
    exact wpAny_bind (wpAny_isInstance (typeIs_str _ _ _) isSubtype_str_str (wpAny_pure (wpAny_pure q)))
  · refine wpAny_tryCatch (wpAny_bind ((PySem.W.bind_fn X _ (beq_iff_eq.mp hf)).here (wpAny_pure ?_)))
    refine wpAny_bind (m := call (.ref f) ([.ref x] ++ [])) (wpAny_mono key (fun r s' hr => wpAny_pure ?_) fun _ _ z => z)
    obtain ⟨y, t, e, q⟩ := hr
    subst e
    exact wpAny_bind (wpAny_isInstance (typeIs_str _ _ _) isSubtype_str_str (wpAny_pure (wpAny_pure q)))
/-- repr((x,)) -/
theorem tuple1_own {a : Addr} {o : Obj} {n : Nat} {Q : Value → Shared → Prop} (hg : A.guards = some []) (hu : A.units + 8 < cLine) (X : K.In s.heap) (I : PySem.W.InstAt s.heap x ox C od) (hs : PySem.W.findIn K (.ref C) "__repr__" = some (some (.ref f))) (hf : PySem.W.isFn K (.ref f) = true)
    (ha : s.heap.get? a = some o) (hc : o.cls = .type "tuple") (hd : o.data = .seq #[.ref x] n)
    (h : wpAny (model prog w) (A.in1.under (.builtin "tuple.__repr__" ⟨[.ref a], []⟩)) (call (.ref f) [.ref x]) (fun r s' => ∃ y t, r = .str y t ∧ (tupleText [y]).length ≤ sizeLine ∧ ∀ u tk, Q (.str (tupleText [y]) u) { s' with toks := tk }) E s) :
    wpAny (model prog w) A (call (.builtin "repr") [.ref a]) Q E s := by
  refine call_repr_slot (by omega) ⟨o, ha, hc⟩ F.slot_tuple_repr ?_
  refine wpAny_call (codeAny_call_builtin_own (Code.quiet_builtin _ (by decide +kernel)) F.entry_tuple_repr (F.slot_tuple_repr.check _ _ _ _ _ _ _ _ ⟨o, ha, hc⟩ (F.args_tuple_repr_1 _) ?_))
  show wpOwn (model prog w) _ _ (Builtin.tupleReprAt 0 ⟨[.ref a], []⟩) _ _ s
  rw [tuple_repr_tree, tupleReprUnderWay_eq]
  refine wpOwn_bind (wpOwn_stackTailAny (g := []) (show A.in1.guards = some [] from hg) (tupGuardF_off _) (tupGuardF_pos _) ?_)
  refine wpOwn_of_wpAny ?_
  refine PySem.W.KFB.if_not rfl ?_
  unfold tupleReprRest Builtin.Tuple.tupleItemsOf
  refine wpAny_bind (wpAny_bind (wpAny_seqItems ha hd (wpAny_pure ?_)))
  rw [← Array.forIn_toList]
  refine wpAny_bind ?_
  rw [List.forIn_cons]
  refine wpAny_bind (wpAny_bind ?_)
  refine wpAny_mono (under_own (Q := fun y s' => (tupleText [y]).length ≤ sizeLine ∧ ∀ u tk, Q (.str (tupleText [y]) u) { s' with toks := tk }) (by rw [sizeLine_eq]; show 0 + 1 ≤ _; omega) (by rw [units_under_tuple_repr]; show A.units + 1 + 1 < cLine; omega) X I hs hf (wpAny_mono h (fun r s' ⟨y, t, e, q1, q2⟩ => ⟨y, t, e, q1, q2⟩) fun _ _ z => z)) (fun y s' ⟨q1, q2⟩ => ?_) fun _ _ z => z
  refine wpAny_pure ?_
  simp only [List.forIn_nil]
  refine wpAny_pure ?_
  refine wpAny_bind (wpAny_mkStr (wpAny_pure ⟨_, _, rfl, ?_⟩) ?_)
  · exact q2 _ _
  · exact q1
end
end OwZ
namespace ML
open PySem PySem.Spec PyProof.Rows L2
theorem env0_tup {P : Program} {w : World} {K : PySem.W.Frag} {mg : Str → Option Value} {base : Heap} {A : Around} {outer : List PySem.Env} {s : Shared} {H : Hp} (e : Env0 P w K mg base A outer s H) (args : Args) : Env0 P w K mg base (A.under (.builtin "tuple.__repr__" args)) outer s H :=
  ⟨by first | exact e.frames | simpa [Around.under, Code.envs, Code.isFrame, pushEnvs] using e.frames, e.mod, e.bs, e.bsz, e.funs, e.frf, e.hok, e.bare⟩
theorem room_tup {k : Nat} {A : Around} (r : Room (k + 1) A) (args : Args) : Room k (A.under (.builtin "tuple.__repr__" args)) := by
  have hd : (A.under (.builtin "tuple.__repr__" args)).depth ≤ A.depth + 1 := by
    first | exact Nat.le_refl _ | exact Nat.le_succ _ | simp [Around.under, Code.weight, Code.isCreation, Code.isGuard, Code.isCaller, Code.frames, Code.isFrame, guardIds]
  exact ⟨r.hd, by have := r.dp; omega, by have := r.un; rw [units_under_tuple_repr]; omega⟩
section
variable {T : List (Addr × Str)} {X : Cx} {l : MSel}
def fTup1 (l : MSel) : List D → VH → Option (D × VH) := fun ds h => match ds with
  | [.tup [d]] => (match dunF l h d with
    | some F => (match F [d] h with
      | some (.ok (.str y), h') => if (tupleText [y]).length ≤ 10000000 then some (.str (tupleText [y]), h') else none
      | _ => none)
    | none => none)
  | _ => none
def rTup1 (T : List (Addr × Str)) (X : Cx) (l : MSel) : List V → Hp → VK → Prop := fun vs H Q => ∃ a w ι h d F y h', vs = [.ref a] ∧ SqT X.K H a [w] ∧ RH (gx T X) ι h H ∧ RV (gx T X) ι H d w ∧ dunF l h d = some F ∧ F [d] h = some (.ok (.str y), h') ∧ (tupleText [y]).length ≤ 10000000 ∧ Fin (gx T X) ι H h' (.str (tupleText [y])) Q
theorem sem_tup1 : SemH (gx T X) (rTup1 T X l) (fTup1 l) := fun ι H h xs vs z h' Q rh rv e fin => by
  cases xs with
  | nil => cases e
  | cons x0 r0 =>
  cases r0 with
  | cons _ _ => simp [fTup1] at e
  | nil =>
  obtain ⟨v, ev, rv1⟩ := one_v rv
  subst ev
  cases x0 <;> first | (simp [fTup1] at e; done) | skip
  rename_i ys
  cases ys with
  | nil => simp [fTup1] at e
  | cons d r1 =>
  cases r1 with
  | cons _ _ => simp [fTup1] at e
  | nil =>
  simp only [fTup1] at e
  cases q : dunF l h d with
  | none => rw [q] at e; cases e
  | some F =>
  rw [q] at e
  simp only [] at e
  cases q2 : F [d] h with
  | none => rw [q2] at e; cases e
  | some p =>
  obtain ⟨r2, h2⟩ := p
  rw [q2] at e
  cases r2 with
  | error _ => cases e
  | ok y0 =>
  cases y0 <;> first | (cases e; done) | skip
  rename_i y
  simp only [] at e
  by_cases hl : (tupleText [y]).length ≤ 10000000
  · rw [if_pos hl] at e
    cases e
    simp only [RV] at rv1
    obtain ⟨p, ws, ev, rl, sq, _⟩ := rv1
    obtain ⟨w, vr, ew, r3, r4⟩ := rl.inv_cons
    have r5 := r4.inv_nil
    subst r5; subst ew; subst ev
    exact ⟨p, w, ι, h, d, F, y, _, rfl, sq, rh, r3, q, q2, hl, fin⟩
  · rw [if_neg hl] at e; cases e
theorem h_repr1 (hgd : X.A.guards = some []) (hu : X.A.units + 64 < cLine) (ml : DOks T X "__repr__" l) : CalH T X (.builtin "repr") (fTup1 l) := ⟨rTup1 T X l, fun pins s σ H xs us Q I r ⟨a, v, ι, h, d, F, y, h', ev, sq, rh, rv, q, q2, hk, fin⟩ => by
  subst ev
  obtain ⟨u, eu, ru⟩ := vals_one r
  subst eu
  obtain rfl : u = Value.ref a := ru
  obtain ⟨p, ox, od, Ca, g, k, ep, J, f1, f2, f3, f4, pr, hr⟩ := dun_at ml I rh rv q
  subst ep
  obtain ⟨its, rr, pl, hz⟩ := I.tuple sq
  obtain ⟨u2, e2, ru2⟩ := vals_one rr
  subst e2
  obtain rfl : u2 = Value.ref p := ru2
  obtain ⟨o, ha, hc, n, hd⟩ := pl
  have hr1 : Room (k + 1) X.A.in1 := Room.in1 hr
  have fin' : Fin (gx T X) ι H h' (.str y) (fun v H1 => v = .str y ∧ Q (.str (tupleText [y])) H1) := fun ι' H' v st rh' rv' => ⟨by simp only [RV] at rv'; exact rv', fin ι' H' _ st rh' (st_str _ _)⟩
  refine OwZ.tuple1_own hgd (by omega) I.kIn J f1 f2 ha hc hd (wpAny_mono (dun_run (E := X.xe) pr (room_tup hr1 _) (env0_tup I.env0.in1 _) I rh rv q2 fin') (fun w s' hz => ?_) fun _ _ x => x)
  obtain ⟨zv, H', I', rz, ez, qz⟩ := hz
  subst ez
  obtain ⟨t, ew⟩ := (show ∃ t, w = Value.str y t from rz)
  subst ew
  exact ⟨y, t, rfl, ten_line hk, fun u tk => ⟨.str (tupleText [y]), H', I'.tok _, ⟨u, rfl⟩, qz⟩⟩, sem_tup1⟩
end
end ML
/-! the text M38 -/
/-! M38: what the printed walks lean on: a def by its head's facts, takes, names, own == of instances with slots. -/
namespace ML
open PySem PySem.Spec PyProof.Rows L2
section
variable {P : Program} {w : World} {c : Gx} {base : Heap} {k : Nat} {f : Addr} {x qual : Str} {params : Arguments} {body : List Stmt} {scope : Scope} {fd : FuncData} {N ps : List Str} {m : MS}
/-- a def, by what the head says of it -/
theorem prm_def (F : FunD c.K x qual params body scope [] [] f fd) (S : FnScope N ps scope)
    (hb : ∀ (kV doc pm : Value) (an : Option Addr) (cdv ct : Value) (us : List Value), us.length = ps.length → bindArgs (PySem.W.fnOf x qual params body scope .none kV doc pm an cdv ct) ⟨us, []⟩ = pure (ps.zip us))
    (hbody : ∀ (cdv : Value) (A : Around) (outer : List PySem.Env) (s : Shared) (H : Hp) (E : XK), Room k (A.deeper (envOfC qual scope s.heap.objs.size f cdv)) →
      PSs (defCx P w c base N qual scope f cdv A outer s H E) body (tS c (WD E) m)) :
    Prm P w c base (k + 1) f (mFn ps.length N.length m) := by
  have hB := F.bindsN (ps := ps) hb
  obtain ⟨oc, od, dV, kV, doc, pm, an, cdv, ct, osl, rfl, lk, hcd, _, _⟩ := F.ex
  exact prm_of lk hcd S hB fun A outer s H E hr => hbody cdv A outer s H E hr
theorem prmg_def (F : FunD c.K x qual params body scope [] [] f fd) (S : FnScope N ps scope)
    (hb : ∀ (kV doc pm : Value) (an : Option Addr) (cdv ct : Value) (us : List Value), us.length = ps.length → bindArgs (PySem.W.fnOf x qual params body scope .none kV doc pm an cdv ct) ⟨us, []⟩ = pure (ps.zip us))
    (hbody : ∀ (cdv : Value) (A : Around) (outer : List PySem.Env) (s : Shared) (H : Hp) (E : XK), Room k (A.deeper (envOfC qual scope s.heap.objs.size f cdv)) → A.guards = some [] →
      PSs (defCx P w c base N qual scope f cdv A outer s H E) body (tS c (WD E) m)) :
    PrmG P w c base (k + 1) f (mFn ps.length N.length m) := by
  have hB := F.bindsN (ps := ps) hb
  obtain ⟨oc, od, dV, kV, doc, pm, an, cdv, ct, osl, rfl, lk, hcd, _, _⟩ := F.ex
  exact prmg_of lk hcd S hB fun A outer s H E hr hg => hbody cdv A outer s H E hr hg
theorem takes_def {scope : Scope} {cd : Value} {A : Around} {outer : List PySem.Env} {s : Shared} {H : Hp} {E : XK} : L2N.Takes (defCx P w c base N qual scope f cd A outer s H E) (WD E).w := L2N.takes_of rfl rfl rfl rfl
theorem passes_def {scope : Scope} {cd : Value} {A : Around} {outer : List PySem.Env} {s : Shared} {H : Hp} {E : XK} : PassesOwn (model (defCx P w c base N qual scope f cd A outer s H E).prog (defCx P w c base N qual scope f cd A outer s H E).w) (defCx P w c base N qual scope f cd A outer s H E).A (defCx P w c base N qual scope f cd A outer s H E).env (defCx P w c base N qual scope f cd A outer s H E).xe := passes_of rfl
end
section
variable {T : List (Addr × Str)} {X : Cx} {W : WW}
theorem v_l (i : Nat) {x : Str} {pos : Pos} (hN : X.N[i]? = some x := by rfl) (hv : X.env.scope.names.lookup x = some .local := by rfl) (hd : (x == ("__debug__" : Str)) = false := by decide) (hcd : (x == ("__classdict__" : Str)) = false := by decide) : PE X (.Name x pos) (tE (gx T X) W (mVar i)) := m_var hN (.inl hv) hd hcd
theorem v_c (i : Nat) {x : Str} {pos : Pos} (hN : X.N[i]? = some x := by rfl) (hv : X.env.scope.names.lookup x = some .cell := by rfl) (hd : (x == ("__debug__" : Str)) = false := by decide) (hcd : (x == ("__classdict__" : Str)) = false := by decide) : PE X (.Name x pos) (tE (gx T X) W (mVar i)) := m_var hN (.inr (.inl hv)) hd hcd
theorem v_f (i : Nat) {x : Str} {pos : Pos} (hN : X.N[i]? = some x := by rfl) (hv : X.env.scope.names.lookup x = some .free := by rfl) (hd : (x == ("__debug__" : Str)) = false := by decide) (hcd : (x == ("__classdict__" : Str)) = false := by decide) : PE X (.Name x pos) (tE (gx T X) W (mVar i)) := m_var hN (.inr (.inr hv)) hd hcd
end
end ML
/-! the text M39 -/
/-! M39: small helpers of the printed walks. -/
namespace ML
open PySem PySem.Spec PyProof.Rows L2
def fuel : Nat := 100000
theorem hu64 {k : Nat} {A : Around} (r : Room k A) : A.units + 64 < cLine := by have := r.un; omega
theorem hu1 {k : Nat} {A : Around} (r : Room k A) : A.units + 1 < cLine := by have := r.un; omega
section
variable {T : List (Addr × Str)} {X : Cx} {W : WW} {c : Gx}
theorem rvl_ints {ι : Adr} {H : Hp} : ∀ ns : List Int, RVL c ι H (ns.map D.int) (ns.map V.int)
  | [] => .nil
  | n :: ns => .cons (by simp only [RV]) (rvl_ints ns)
theorem st_tupI {a : Addr} {ns : List Int} (h : ∀ H, SqT c.K H a (ns.map V.int)) : Static c (.tup (ns.map D.int)) (.ref a) := fun ι H => by
  simp only [RV]
  exact ⟨a, _, rfl, rvl_ints ns, h H, .inr h⟩
def mStuck : ME := fun _ _ => none
def sStuck : MS := fun _ _ => none
theorem e_stuck {e : Expr} : PE X e (tE (gx T X) W mStuck) := ⟨fun _ _ _ _ _ _ ⟨_, _, _, _, _, _, _, em, _⟩ => by cases em⟩
theorem s_stuck {s : Stmt} : PS X s (tS (gx T X) W sStuck) := ⟨fun _ _ _ _ _ _ ⟨_, _, _, _, _, _, _, _, em, _⟩ => by cases em⟩
theorem ss_stuck {s : List Stmt} : PSs X s (tS (gx T X) W sStuck) := ⟨fun _ _ _ _ _ _ ⟨_, _, _, _, _, _, _, _, em, _⟩ => by cases em⟩
/-- the block of a comprehension, looked at -/
def blkB (N : List Str) (sc scope : Scope) (own : List (Str × Nat)) : Bool :=
  decide (scope.kind = .function) && (scope.names.all (fun y => decide (scope.names.lookup y.1 = some y.2)) && (own.all (fun p => decide (N[p.2]? = some p.1)) &&
    (scope.names.all (fun y => !decide (y.2 = .free) || (decide (sc.names.lookup y.1 = some .cell) || decide (sc.names.lookup y.1 = some .free))) &&
      scope.names.all (fun y => !(decide (y.2 = .local) || decide (y.2 = .cell)) || ((own.map (·.1)).contains y.1 || !N.contains y.1)))))
theorem blk_by {N : List Str} {sc scope : Scope} {own : List (Str × Nat)} (h : blkB N sc scope own = true) : BlkOk N sc scope own := by
  unfold blkB at h
  simp only [Bool.and_eq_true, Bool.or_eq_true, Bool.not_eq_true', decide_eq_true_eq, decide_eq_false_iff_not, List.all_eq_true, List.contains_iff_mem] at h
  obtain ⟨h1, h2, h3, h4, h5⟩ := h
  refine ⟨h1, h2, h3, fun y hy e => ?_, fun y hy e => ?_⟩
  · rcases h4 y hy with z | z
    · exact absurd e z
    · exact z
  · rcases h5 y hy with z | z | z
    · rw [Bool.or_eq_false_iff] at z
      exact absurd e (by simpa using z)
    · exact .inl z
    · exact .inr (by simpa using z)
end
end ML
/-! the text M40 -/
/-! M40: what a def leaves behind is left out (frzF); own == of instances with slots; own errors with a field, by facts; lambdas, by facts. -/
namespace ML
open PySem PySem.Spec PyProof.Rows L2
open Classical in
/-- F without the objects that it leaves: its value is frozen -/
noncomputable def frzF (F : MF) : MF := fun ds h => match F ds h with
  | some (.ok d0, h') => if h' = h then some (.ok d0, h) else if h'.take h.length = h then (match frz h' h.length 400 d0 with
    | some d => some (.ok d, h)
    | none => none) else some (.ok d0, h')
  | some (.error x, h') => if h' = h then some (.error x, h) else if h'.take h.length = h then (match frzs h' h.length 400 x.xs with
    | some ys => some (.error { x with xs := ys }, h)
    | none => none) else some (.error x, h')
  | none => none
theorem told_frz (F : MF) : Told F (frzF F) := by
  intro ds h r h' e
  unfold frzF at e
  cases q : F ds h with
  | none => rw [q] at e; cases e
  | some p =>
    obtain ⟨r0, h1⟩ := p
    rw [q] at e
    have ap : h1.take h.length = h → ∃ g, h1 = h ++ g := fun z => ⟨h1.drop h.length, by conv => lhs; rw [← List.take_append_drop h.length h1, z]⟩
    cases r0 with
    | ok d0 =>
      simp only [] at e
      split at e
      · rename_i hh; subst hh; exact .inl e
      · split at e
        · rename_i ht
          obtain ⟨g, eg⟩ := ap ht
          subst eg
          split at e
          · rename_i d hd
            cases e
            exact .inr ⟨rfl, .ok d0, g, rfl, .inl ⟨400, d0, d, rfl, rfl, hd⟩⟩
          · cases e
        · exact .inl e
    | error x =>
      simp only [] at e
      split at e
      · rename_i hh; subst hh; exact .inl e
      · split at e
        · rename_i ht
          obtain ⟨g, eg⟩ := ap ht
          subst eg
          split at e
          · rename_i d hd
            cases e
            exact .inr ⟨rfl, .error x, g, rfl, .inr ⟨400, x, d, rfl, rfl, hd⟩⟩
          · cases e
        · exact .inl e
theorem Prm.frz {P : Program} {w : World} {c : Gx} {base : Heap} {k : Nat} {f : Addr} {F : MF} (p : Prm P w c base k f F) : Prm P w c base k f (frzF F) := p.told (told_frz F)
open Classical in
/-- x == y by the class's own def, which leaves the objects as they are -/
noncomputable def bOwn (C : Str) (F : MF) : B2 := fun x y h => match sltOf h x, sltOf h y with
  | some (C1, _), some (C2, _) => if C1 = C ∧ C2 = C then (match F [x, y] h with
    | some (.ok z, h') => if h' = h then some z else none
    | _ => none) else none
  | _, _ => none
section
variable {T : List (Addr × Str)} {X : Cx} {W : WW}
theorem o_own {op : CmpOp} {C : Str} {Ca g : Addr} {k : Nat} {F : MF} (hop : ∀ a b, compareOp op a b = richCompare op a b) (mC : X.mg C = some (.ref Ca)) (hs : PySem.W.findIn X.K (.ref Ca) (cmpInfo op).2.1 = some (some (.ref g)) ∧ PySem.W.isFn X.K (.ref g) = true) (hn : PySem.W.notFirst X.K Ca (.ref Ca) = true)
    (pr : Prm X.prog X.w (gx T X) X.base k g F) (hr : Room k X.A) : Op2 T X (compareOp op) (bOwn C F) := by
  refine ⟨_, SlX.op_own (C := Ca) (E := fun _ _ _ => False) hop hs.1 hs.2 pr hr (L2N.passes_call takes0 fun _ _ _ _ z => z), fun ι H h x y v w z Q rh rv rw_ e fin => ?_⟩
  unfold bOwn at e
  cases q1 : sltOf h x with
  | none => rw [q1] at e; cases e
  | some p1 =>
  obtain ⟨C1, xs⟩ := p1
  cases q2 : sltOf h y with
  | none => rw [q1, q2] at e; cases e
  | some p2 =>
  obtain ⟨C2, ys⟩ := p2
  rw [q1, q2] at e
  simp only [] at e
  by_cases hc : C1 = C ∧ C2 = C
  · rw [if_pos hc] at e
    obtain ⟨c1, c2⟩ := hc
    subst c1 c2
    cases q3 : F [x, y] h with
    | none => rw [q3] at e; cases e
    | some p3 =>
      obtain ⟨r3, h3⟩ := p3
      rw [q3] at e
      cases r3 with
      | error _ => cases e
      | ok z3 =>
        simp only [] at e
        split at e
        · rename_i hh
          subst hh
          cases e
          obtain ⟨p, Ca1, dx, vs, ev, m1, h1, rl⟩ := slt_at rh rv q1
          obtain ⟨p', Ca2, dx', vs', ev', m2, h1', rl'⟩ := slt_at rh rw_ q2
          have m1' : X.mg _ = some (.ref Ca1) := m1
          have m2' : X.mg _ = some (.ref Ca2) := m2
          rw [mC] at m1' m2'
          cases m1'
          cases m2'
          subst ev ev'
          exact ⟨p, dx, _, p', Ca, dx', _, rfl, rfl, h1, h1', hn, ι, h3, [x, y], .ok z, h3, rh, .cons rv (.cons rw_ .nil), q3, fun ι' H' v st rh' rv' => fin ι' H' v st rh' rv'⟩
        · cases e
  · rw [if_neg hc] at e; cases e
end
/-! ### a def's code object -/
section
variable {P : Program} {w : World} {c : Gx} {base : Heap} {k : Nat} {p : Str × Option Str} {x qual : Str} {params : Arguments} {body : List Stmt} {scope : Scope} {fd : FuncData} {N ps : List Str} {m : MS}
theorem prmg_defL (F : FunD c.K x qual params body scope [] [] (He.fAd c.K p) fd) (S : FnScope N ps scope)
    (hb : ∀ (kV doc pm : Value) (an : Option Addr) (cdv ct : Value) (us : List Value), us.length = ps.length → bindArgs (PySem.W.fnOf x qual params body scope .none kV doc pm an cdv ct) ⟨us, []⟩ = pure (ps.zip us))
    (hbody : ∀ (A : Around) (outer : List PySem.Env) (s : Shared) (H : Hp) (E : XK), Room k (A.deeper (envOfC qual scope s.heap.objs.size (He.fAd c.K p) (.ref (He.cT c.K p).1))) → A.guards = some [] →
      PSs (defCx P w c base N qual scope (He.fAd c.K p) (.ref (He.cT c.K p).1) A outer s H E) body (tS c (WD E) m)) :
    PrmG P w c base (k + 1) (He.fAd c.K p) (mFn ps.length N.length m) := by
  have hB := F.bindsN (ps := ps) hb
  obtain ⟨oc, od, dV, kV, doc, pm, an, cdv, ct, osl, rfl, lk, hcd, _, _⟩ := F.ex
  obtain ⟨cc, ec⟩ := He.codeIn_ref hcd
  subst ec
  have ek : (He.cT c.K p).1 = cc := He.codeOf_eq lk rfl
  exact prmg_of lk hcd S hB fun A outer s H E hr hg => by
    have := hbody A outer s H E
    rw [ek] at this
    exact this hr hg
end
section
variable {T : List (Addr × Str)} {X : Cx} {W : WW} {m : ME}
open LamX in
/-- x(lambda: body), by the facts of x -/
theorem m_lamF {x a : Str} {g c P : Addr} {k : Nat} {pg : Arguments} {bg : List Stmt} {sg : Scope} {fd : FuncData} {Ng : List Str} {F : MFT}
    {params : Arguments} {body : Expr} {scope : Scope} {p lpos pos : Pos} (hg : Gl X x) (hm : X.mg x = some (.ref g)) (FD : FunD X.K x x pg bg sg [] [] g fd)
    (hb : ∀ (kV doc pm : Value) (an : Option Addr) (cdv ct : Value) (us : List Value), us.length = [a].length → bindArgs (PySem.W.fnOf x x pg bg sg .none kV doc pm an cdv ct) ⟨us, []⟩ = pure ([a].zip us))
    (Sg : FnScope Ng [a] sg) (hNg : Ng[0]? = some a) (hva : Vis sg a)
    (hG : ∀ cdv, GivesTo (k + 1) X Ng x sg g cdv bg a (X.env.qual ++ "<lambda>") (TTm T X m F)) (TB : TabB X.base X.mg c P) (hcode : X.env.code = .ref c) (hmT : (P, X.env.qual ++ "<lambda>") ∈ T) (hu : ∀ p ∈ T, p.1 = P → p.2 = X.env.qual ++ "<lambda>") (hr : Room (k + 2) X.A) (L : LamS X.env.scope scope) (hdef : defaultsOf params X.env = ([], []))
    (hbind : ∀ (q : Str) (cl : List (Str × Addr)) (pm cv ctv : Value), bindArgs (PySem.W.kla_fn "<lambda>" q params body scope cl pm cv ctv) ⟨[], []⟩ = pure [])
    (hbody : ∀ (A : Around) (outer : List PySem.Env) (s : Shared) (H : Hp) (E : XK) (f c' : Addr), Room k (A.deeper (lamEnv X scope s.heap.objs.size f c')) → PE (lamCx X A outer s H E scope f c') body (tE (gx T X) ⟨fun cls d _ H' => E cls d H', W.fx⟩ m))
    (hdb : (x == ("__debug__" : Str)) = false := by decide) (hd : (a == ("__debug__" : Str)) = false := by decide) (hcd : (a == ("__classdict__" : Str)) = false := by decide) :
    PE X (.Call (.Name x p) [.Lambda params body scope lpos] [] pos) (tE (gx T X) W (mLam F m)) := by
  have hB := FD.bindsN (ps := [a]) hb
  have kp := FD.kp
  obtain ⟨oc, od, dV, kV, doc, pm, an, cdv, ct, osl, rfl, lk, hcg, _, _⟩ := FD.ex
  exact m_lam hg hm kp lk hcg hB Sg hNg hva (hG cdv) TB hcode hmT hu hr L hdef hbind hbody hdb hd hcd
end
/-- in a lambda's body what is raised goes on -/
theorem takes_lam {X : Cx} {A : Around} {outer : List PySem.Env} {s : Shared} {H : Hp} {E : XK} {scope : Scope} {f c' : Addr} {fx : Fx} : L2N.Takes (lamCx X A outer s H E scope f c') (⟨fun cls d _ H' => E cls d H', fx⟩ : WW).w := L2N.takes_of rfl rfl rfl rfl
end ML
/-! the text M41 -/
namespace ML
open PySem PySem.Spec PyProof.Rows L2
theorem PrmG.told {P : Program} {w : World} {c : Gx} {base : Heap} {k : Nat} {f : Addr} {F G : MF} (p : PrmG P w c base k f F) (t : Told F G) : PrmG P w c base k f G := by
  intro A outer s H us vs Q E hr hg e0 r ⟨ι, h, ds, rr, h', rh, rv, e, kf⟩
  refine p A outer s H us vs Q E hr hg e0 r ?_
  rcases t ds h rr h' e with z | ⟨eh, r0, g, z, q⟩
  · exact ⟨ι, h, ds, rr, h', rh, rv, z, kf⟩
  · subst eh
    exact ⟨ι, h', ds, r0, h' ++ g, rh, rv, z, kf_cut rh kf q⟩
theorem PrmG.frz {P : Program} {w : World} {c : Gx} {base : Heap} {k : Nat} {f : Addr} {F : MF} (p : PrmG P w c base k f F) : PrmG P w c base k f (frzF F) := p.told (told_frz F)
end ML
/-! the text M44 -/
/-! M44: the law's call, where no repr is under way: the end of a claim. -/
namespace ML
open PySem PySem.Spec PyProof.Rows L2
section
variable {P : Program} {w : World} {K : PySem.W.Frag} {mg mb : Str → Option Value} {k : Nat} {fa a : Addr} {cs : List (Addr × Addr)} {T : List (Addr × Str)} {F : MF} {s1 : Shared} {vals : List Value} {ns : List Int}
/-- what is tracked when the law begins: the tables, and the script where K does not tell it -/
def begun (K : PySem.W.Frag) (cs : List (Addr × Addr)) (a : Addr) (vals : List Value) (ns : List Int) : Hp := fun b =>
  if b ∈ cs.map Prod.snd then some (.tbl #[])
  else if b = a ∧ K.lookup a = none then some (.frz { cls := .type "list", data := .seq vals.toArray } (.lst (ns.map V.int)))
  else none
theorem begun_tab {b : Addr} (h : b ∈ cs.map Prod.snd) : begun K cs a vals ns b = some (.tbl #[]) := if_pos h
theorem begun_out {b : Addr} (h1 : b ∉ cs.map Prod.snd) (h2 : ¬ (b = a ∧ K.lookup a = none)) : begun K cs a vals ns b = none := by
  unfold begun
  rw [if_neg h1, if_neg h2]
theorem begun_kinds {b : Addr} {u : HO} (h : begun K cs a vals ns b = some u) : (b ∈ cs.map Prod.snd ∧ u = .tbl #[]) ∨ (b ∉ cs.map Prod.snd ∧ b = a ∧ K.lookup a = none ∧ u = .frz { cls := .type "list", data := .seq vals.toArray } (.lst (ns.map V.int))) := by
  unfold begun at h
  by_cases h1 : b ∈ cs.map Prod.snd
  · rw [if_pos h1] at h; cases h; exact .inl ⟨h1, rfl⟩
  · rw [if_neg h1] at h
    by_cases h2 : b = a ∧ K.lookup a = none
    · rw [if_pos h2] at h; cases h; exact .inr ⟨h1, h2.1, h2.2, rfl⟩
    · rw [if_neg h2] at h; cases h
theorem law_runG (KX : K.In s1.heap) (nsM : s1.heap.Ns mainGlobals mg) (nsB : s1.heap.Ns builtinsNs mb) (boots : ∀ x : Str, x ≠ "__name__" → mb x = bootBuiltins x) (lim : s1.heap.NoLimit) (gens : s1.gens = #[])
    (tabs : ∀ p ∈ cs, s1.heap.get? p.2 = some { cls := .none, data := .fields #[] }) (offK : ∀ p ∈ cs, K.lookup p.2 = none) (codes : ∀ p ∈ cs, PySem.W.CodeHd s1.heap p.1 p.2)
    (bmod : ∃ (bm : Addr) (ob : Obj), mg "__builtins__" = some (.ref bm) ∧ bm ≠ builtinsNs ∧ s1.heap.get? bm = some ob ∧ ob.cls = .type "module" ∧ ob.dict = some builtinsNs ∧ ob.data = .plain)
    (script : s1.heap.get? a = some { cls := .type "list", data := .seq vals.toArray }) (areInts : IntsAre vals ns) (short : ns.length ≤ sizeLine) (room : Room k callerA) (hT : ∀ q ∈ T, q.1 ∈ cs.map Prod.snd)
    (prom : ∀ base : Heap, K.In base → base.Ns mainGlobals mg → (∀ p ∈ cs, LamX.TabB base mg p.1 p.2) → PrmG P w ⟨K, mg, T⟩ base k fa F)
    (does : ∃ h', F [.bls (ns.map D.int)] [] = some (.ok (.bl true), h')) :
    codeAny (model P w) callerA (.call (.ref fa) ⟨[.ref a], []⟩) (fun r s' => r = .ok (.ret (.bool true)) ∧ OldK s1.heap s'.heap ∧ s'.os = s1.os ∧ AllBare s'.gens) s1 := by
  have tabAt : ∀ {b : Addr}, b ∈ cs.map Prod.snd → s1.heap.get? b = some { cls := .none, data := .fields #[] } := fun hb => by
    obtain ⟨p, hp, ep⟩ := List.mem_map.mp hb
    subst ep
    exact tabs p hp
  have aOut : a ∉ cs.map Prod.snd := fun z => by
    have e := tabAt z
    rw [script] at e
    cases e
  generalize hH : begun K cs a vals ns = H
  have kinds : ∀ {b : Addr} {u : HO}, H b = some u → (b ∈ cs.map Prod.snd ∧ u = .tbl #[]) ∨ (b ∉ cs.map Prod.snd ∧ b = a ∧ K.lookup a = none ∧ u = .frz { cls := .type "list", data := .seq vals.toArray } (.lst (ns.map V.int))) := fun e => by
    subst hH; exact begun_kinds e
  have tabH : ∀ p ∈ cs, H p.2 = some (.tbl #[]) := fun p hp => by
    subst hH; exact begun_tab (List.mem_map_of_mem hp)
  have lens : vals.length = ns.length := areInts.length
  -- what stands and is neither a table nor the script is not tracked
  have plain : ∀ {b : Addr} {o : Obj}, s1.heap.get? b = some o → o.data ≠ .fields #[] → (∀ q n, o.data ≠ .seq q n) → H b = none := fun {b o} e n1 n2 => by
    cases q : H b with
    | none => rfl
    | some u =>
      rcases kinds q with ⟨z, _⟩ | ⟨_, z, _, _⟩
      · have e2 := tabAt z
        rw [e] at e2
        cases e2
        exact (n1 rfl).elim
      · subst z
        rw [script] at e
        cases e
        exact (n2 _ _ rfl).elim
  have keepG : ∀ {b : Addr} {o : Obj}, s1.heap.get? b = some o → H b = none → (hidT s1.heap H).get? b = some o := hidT_get
  have spaces : ∀ {b : Addr} {m : Str → Option Value}, s1.heap.Ns b m → (hidT s1.heap H).Ns b m := fun ⟨o, es, ep, e1, e2, e3⟩ =>
    ⟨o, es, ep, keepG e1 (plain e1 (by rw [e2]; exact fun z => nomatch z) (by rw [e2]; exact fun _ _ z => nomatch z)), e2, e3⟩
  have KB : K.In (hidT s1.heap H) := fun b o e => keepG (KX b o e) (by
    cases q : H b with
    | none => rfl
    | some u =>
      rcases kinds q with ⟨z, _⟩ | ⟨_, z, n, _⟩
      · obtain ⟨p, hp, ep⟩ := List.mem_map.mp z
        subst ep
        rw [offK p hp] at e
        cases e
      · subst z
        rw [n] at e
        cases e)
  have held : HOk P w H s1.heap := fun b u e => by
    rcases kinds e with ⟨z, eu⟩ | ⟨_, z, _, eu⟩
    · subst eu; exact tabAt z
    · subst eu; subst z
      exact ⟨script, by rw [List.length_map]; exact short, vals, _, vals_ints areInts, script⟩
  have heads : ∀ p ∈ cs, LamX.TabB (hidT s1.heap H) mg p.1 p.2 := fun p hp => by
    obtain ⟨bm, ob, c1, c2, c3, c4, c5, c6⟩ := bmod
    obtain ⟨og, eg, ng, g1, g2, _⟩ := nsM
    refine ⟨?_, ⟨bm, ob, c1, c2, fun z => ?_, fun z => ?_, keepG c3 (plain c3 (by rw [c6]; exact fun z => nomatch z) (by rw [c6]; exact fun _ _ z => nomatch z)), c4, c5, c6⟩, fun z => ?_⟩
    · obtain ⟨o, us, file, tf, flags, tg, inF, text, tt, d1, d2, d3, d4, rest⟩ := codes p hp
      refine ⟨o, us, file, tf, flags, tg, inF, text, tt, keepG d1 (plain d1 (fun z => ?_) (by rw [d3]; exact fun _ _ z => nomatch z)), d2, d3, d4, rest⟩
      rw [d3] at z
      cases z
      simp at d4
    · subst z
      rw [g1] at c3
      cases c3
      rw [g2] at c6
      cases c6
    · subst z
      rw [tabs p hp] at c3
      cases c3
      cases c6
    · rw [z, tabs p hp] at g1
      cases g1
      cases g2
  obtain ⟨h', eF⟩ := does
  obtain ⟨mc, l1, l2⟩ := lim
  have env : Env0 P w K mg (hidT s1.heap H) callerA [] s1 H :=
    { frames := rfl, mod := ⟨KB, spaces nsM, ⟨mb, spaces nsB, boots⟩, mc, spaces l1, l2⟩, bs := fun _ _ e => of_hidT e, bsz := Nat.le_of_eq (hidT_size _ _), funs := trivial, frf := fun _ z => (nomatch z), hok := held, bare := .of_eq gens }
  have seqA : SqL K H a (ns.map V.int) := by
    cases q : K.lookup a with
    | none => exact .inl (.inr ⟨_, by subst hH; unfold begun; rw [if_neg aOut, if_pos ⟨rfl, q⟩]⟩)
    | some o =>
      have e := KX a o q
      rw [script] at e
      cases e
      exact .inr ⟨_, vals.toArray, _, q, rfl, rfl, rfl, by rw [List.size_toArray, lens]; exact short, by simpa using vals_ints areInts⟩
  have spF : spM (⟨K, mg, T⟩ : Gx) F [.ref a] H (fun v _ => v = .bl true) fun _ _ _ => False := by
    refine ⟨⟨fun _ => none, fun _ => False⟩, [], [.bls (ns.map D.int)], .ok (.bl true), h', ⟨fun a o e => (by simp at e), fun _ _ e => (nomatch e), fun _ _ _ e _ => (nomatch e), fun _ z => z.elim, fun _ _ e _ => (nomatch e), fun q hq => ?_⟩, .cons ?_ .nil, eF, ?_⟩
    · obtain ⟨p, hp, ep⟩ := List.mem_map.mp (hT q hq)
      refine LamX.TabS.nil ?_
      rw [← ep]
      exact tabH p hp
    · simp only [RV]
      exact ⟨a, _, rfl, rvl_ints ns, seqA, .inl ⟨fun _ z => (nomatch z), fun z => z⟩⟩
    · intro ι' H' v _ _ rv
      simpa only [RV] using rv
  refine codeAny_mono (prom _ KB (spaces nsM) heads callerA [] s1 H [.ref a] [.ref a] _ _ room rfl env (.cons rfl .nil) spF) fun r s' ends => ?_
  cases r with
  | error e =>
    obtain ⟨_, _, _, _, _, _, _, _, _, _, _, _, z⟩ := ends
    exact z.elim
  | ok fl =>
    cases fl <;> first | exact False.elim ends | skip
    rename_i u
    obtain ⟨v, H', os', bare', un, held', rel, ev⟩ := ends
    have ev' : v = .bl true := ev
    subst ev'
    obtain rfl : u = Value.bool true := rel
    have old : ∀ b o, b ∉ cs.map Prod.snd → s1.heap.get? b = some o → s'.heap.get? b = some o := fun b o nb e => by
      cases q : H b with
      | none => exact un.keep b o e q (fun z => nomatch z) (fun z => nomatch z)
      | some x =>
        rcases kinds q with ⟨z, _⟩ | ⟨_, z, _, ex⟩
        · exact absurd z nb
        · subst ex; subst z
          have e2 := (held' _ _ (un.frzs _ _ _ q)).1
          rw [script] at e
          cases e
          exact e2
    have wide : ∀ b ∈ cs.map Prod.snd, ∃ more : Array Value, s'.heap.get? b = some { cls := .none, data := .fields (#[] ++ more) } := fun b hb => by
      obtain ⟨p, hp, ep⟩ := List.mem_map.mp hb
      subst ep
      obtain ⟨more, em⟩ := un.tbls _ _ (tabH p hp)
      exact ⟨more, held' _ _ em⟩
    refine ⟨rfl, ⟨fun b o e => ?_, fun b o e => ?_⟩, os', bare'⟩
    · by_cases hb : b ∈ cs.map Prod.snd
      · obtain ⟨more, em⟩ := wide b hb
        obtain ⟨p, hp, ep⟩ := List.mem_map.mp hb
        subst ep
        have e0 := tabs p hp
        rw [e] at e0
        cases e0
        exact .inr (.inl ⟨((codes p hp).tab (tabs p hp)).isCodeTable, rfl, #[], more, rfl, em⟩)
      · exact .inl (old b o hb e)
    · by_cases hb : b ∈ cs.map Prod.snd
      · obtain ⟨more, em⟩ := wide b hb
        exact ⟨_, em⟩
      · exact ⟨o, old b o hb e⟩
end
/-- the walk that a law's head asks -/
theorem walkG {l : PySem.W.OpenLaw} {n k : Nat} {q : Program} {loose : List Str} {XP : (Str → Option Value) → Heap → Prop} {YP : World → Heap → Prop} {d : DefRec} {F : MF}
    (hn : l.most = some n) (hn2 : n ≤ sizeLine) (hd : d.params.defaults = []) (room : Room k callerA)
    (facts : ∀ (w : World) (mg : Str → Option Value) (fa : Addr) (h : Heap), YP w h → h.Ns mainGlobals mg → mg d.name = some (.ref fa) → ∃ (K : PySem.W.Frag) (cs : List (Addr × Addr)) (T : List (Addr × Str)), K.In h ∧
      (∀ p ∈ cs, h.get? p.2 = some { cls := .none, data := .fields #[] }) ∧ (∀ p ∈ cs, K.lookup p.2 = none) ∧ (∀ p ∈ cs, PySem.W.CodeHd h p.1 p.2) ∧ (∀ q ∈ T, q.1 ∈ cs.map Prod.snd) ∧
      ∀ base : Heap, K.In base → base.Ns mainGlobals mg → (∀ p ∈ cs, LamX.TabB base mg p.1 p.2) → PrmG l.prog w ⟨K, mg, T⟩ base k fa F)
    (law : ∀ ns : List Int, ns.length ≤ n → (∀ z ∈ ns, Builtin.Int.intBits z ≤ 1048576) → ∃ h', F [.bls (ns.map D.int)] [] = some (.ok (.bl true), h')) :
    PySem.W.WalkO q loose XP YP l.row.toRowW d [] (fun f vs => PySem.call f vs) := by
  refine Att.attach_callB hn hd ?_
  intro w s0 s1 mg mb fa o pm cd doc a vals ns G Y _ _ _ hm script areInts len bits gens
  obtain ⟨K, cs, T, KX, f1, f2, f3, f4, f5⟩ := facts w mg fa _ Y G.T.g hm
  exact law_runG KX G.T.g G.T.b G.T.builtins G.T.nolimit gens f1 f2 f3 G.T.bmain script areInts (Nat.le_trans len hn2) room f4 f5 (law ns len bits)
end ML
/-! the text M45 -/
/-! M45: how the functions are reckoned: rows for simp. -/
namespace ML
open PySem PySem.Spec PyProof.Rows L2
section
variable {ρ : Env} {h : VH}
@[simp] theorem ev_seq {a b : MS} : mSeq a b ρ h = match a ρ h with
  | some (.nx, ρ1, h1) => b ρ1 h1
  | some (o, ρ1, h1) => some (o, ρ1, h1)
  | none => none := rfl
@[simp] theorem ev_next : mNext ρ h = some (.nx, ρ, h) := rfl
@[simp] theorem ev_stuck : sStuck ρ h = none := rfl
@[simp] theorem ev_var {i : Nat} : mVar i ρ h = match ρ[i]? with
  | some (some d) => some (.ok d, h)
  | _ => none := rfl
@[simp] theorem ev_c {d : D} : mC d ρ h = some (.ok d, h) := rfl
@[simp] theorem ev_op2 {f : D → D → VH → Option D} {a b : ME} : mOp2 f a b ρ h = bnd (a ρ h) fun x h1 => bnd (b ρ h1) fun y h2 => got (f x y h2) h2 := rfl
@[simp] theorem ev_op1 {f : D → VH → Option D} {a : ME} : mOp1 f a ρ h = bnd (a ρ h) fun x h1 => got (f x h1) h1 := rfl
@[simp] theorem ev_cb {f : List D → VH → Option D} {a : MA} : mCB f a ρ h = bnd (a ρ h) fun xs h1 => got (f xs h1) h1 := rfl
@[simp] theorem ev_nil : maNil ρ h = some (.ok [], h) := rfl
@[simp] theorem ev_cons {a : ME} {b : MA} : maCons a b ρ h = bnd (a ρ h) fun x h1 => bnd (b ρ h1) fun xs h2 => some (.ok (x :: xs), h2) := rfl
@[simp] theorem ev_tup {a : MA} : mTup a ρ h = bnd (a ρ h) fun xs h1 => if xs.length ≤ 10000000 then some (.ok (.tup xs), h1) else none := rfl
@[simp] theorem ev_lst {a : MA} : mLst a ρ h = bnd (a ρ h) fun xs h1 => if xs.length ≤ 10000000 then some (.ok (.lst xs), h1) else none := rfl
@[simp] theorem ev_new {a : MA} : mNew a ρ h = bnd (a ρ h) fun xs h1 => if xs.length ≤ 10000000 then some (.ok (.obj h1.length), h1 ++ [.lst xs]) else none := rfl
@[simp] theorem ev_not {a : ME} : mNot a ρ h = bnd (a ρ h) fun x h1 => got (match x with | .bl b => some (.bl !b) | _ => none) h1 := rfl
@[simp] theorem ev_and {a b : ME} : mAnd a b ρ h = bnd (a ρ h) fun x h1 => match x with
  | .bl true => b ρ h1
  | .bl false => some (.ok (.bl false), h1)
  | _ => none := by
  unfold mAnd ok; rfl
@[simp] theorem ev_or {a b : ME} : mOr a b ρ h = bnd (a ρ h) fun x h1 => match x with
  | .bl true => some (.ok (.bl true), h1)
  | .bl false => b ρ h1
  | _ => none := by
  unfold mOr ok; rfl
@[simp] theorem ev_if {t a b : ME} : mIf t a b ρ h = bnd (t ρ h) fun x h1 => match x with
  | .bl true => a ρ h1
  | .bl false => b ρ h1
  | _ => none := rfl
@[simp] theorem ev_ifS {t : ME} {a b : MS} : mIfS t a b ρ h = match t ρ h with
  | some (.ok (.bl true), h1) => a ρ h1
  | some (.ok (.bl false), h1) => b ρ h1
  | some (.error x, h1) => some (.ex x, ρ, h1)
  | _ => none := rfl
@[simp] theorem ev_set {i : Nat} {m : ME} : mSet i m ρ h = match m ρ h with
  | some (.ok d, h1) => some (.nx, ρ.set i (some d), h1)
  | some (.error x, h1) => some (.ex x, ρ, h1)
  | none => none := rfl
@[simp] theorem ev_par {i j : Nat} {m : MA} : mPar i j m ρ h = match m ρ h with
  | some (.ok [d, e], h1) => some (.nx, (ρ.set i (some d)).set j (some e), h1)
  | some (.ok _, _) => none
  | some (.error x, h1) => some (.ex x, ρ, h1)
  | none => none := rfl
@[simp] theorem ev_expr {m : ME} : mExpr m ρ h = match m ρ h with
  | some (.ok _, h1) => some (.nx, ρ, h1)
  | some (.error x, h1) => some (.ex x, ρ, h1)
  | none => none := rfl
@[simp] theorem ev_ret {m : ME} : mRet m ρ h = match m ρ h with
  | some (.ok d, h1) => some (.rt d, ρ, h1)
  | some (.error x, h1) => some (.ex x, ρ, h1)
  | none => none := rfl
@[simp] theorem ev_call {F : MF} {a : MA} : mCall F a ρ h = bnd (a ρ h) F := rfl
@[simp] theorem ev_ch {f : List D → VH → Option (D × VH)} {a : MA} : mCH f a ρ h = bnd (a ρ h) fun ds h1 => match f ds h1 with
  | some (z, h2) => some (.ok z, h2)
  | none => none := rfl
@[simp] theorem ev_attr {sel : Sel} {m : ME} : mAttr sel m ρ h = bnd (m ρ h) fun d h1 => match sel d h1 with
  | some (.ok z, h2) => some (.ok z, h2)
  | _ => none := rfl
@[simp] theorem ev_asg {m : ME} {g : MG} : mAsg m g ρ h = match m ρ h with
  | some (.ok d, h1) => (match g d ρ h1 with
    | some (ρ1, h2) => some (.nx, ρ1, h2)
    | none => none)
  | some (.error x, h1) => some (.ex x, ρ, h1)
  | none => none := rfl
@[simp] theorem ev_fn {np n : Nat} {m : MS} {ds : List D} : mFn np n m ds h = if ds.length = np then (match m (startD n ds) h with
  | some (.nx, _, h') => some (.ok .non, h')
  | some (.rt d, _, h') => some (.ok d, h')
  | some (.ex x, _, h') => some (.error x, h')
  | _ => none) else none := rfl
@[simp] theorem ev_ok {α : Type} {d : α} : ok d h = some (.ok d, h) := rfl
@[simp] theorem ev_sl {m : ME} {l u : Option ME} : mSl m l u ρ h = bnd (m ρ h) fun d h1 => bnd (mPart l ρ h1) fun lo h2 => bnd (mPart u ρ h2) fun hi h3 => got (slD d lo hi h3) h3 := rfl
@[simp] theorem ev_part0 : mPart none ρ h = some (.ok none, h) := rfl
@[simp] theorem ev_part1 {m : ME} : mPart (some m) ρ h = bnd (m ρ h) fun d h1 => match d with
  | .int i => some (.ok (some i), h1)
  | _ => none := rfl
@[simp] theorem bI_int {C : Int → Int → Bool} {g : Int → Int → D} {i j : Int} : bI C g (.int i) (.int j) h = if C i j = true then some (g i j) else none := rfl
@[simp] theorem bAdd_int {i j : Int} : bAdd (.int i) (.int j) h = some (.int (i + j)) := rfl
@[simp] theorem bSub_int {i j : Int} : bSub (.int i) (.int j) h = some (.int (i - j)) := rfl
@[simp] theorem bLt_int {i j : Int} : bLt (.int i) (.int j) h = some (.bl (decide (i < j))) := rfl
@[simp] theorem bLe_int {i j : Int} : bLe (.int i) (.int j) h = some (.bl (decide (i ≤ j))) := rfl
@[simp] theorem bGt_int {i j : Int} : bGt (.int i) (.int j) h = some (.bl (decide (j < i))) := rfl
@[simp] theorem bGe_int {i j : Int} : bGe (.int i) (.int j) h = some (.bl (decide (j ≤ i))) := rfl
theorem bMul_int {i j : Int} (hb : i.natAbs.log2 + j.natAbs.log2 < 1000000) : bMul (.int i) (.int j) h = some (.int (i * j)) := by
  unfold bMul; rw [bI_int, if_pos (by simpa using hb)]
theorem bDiv_int {i j : Int} (h0 : 0 < j) (hb : j.natAbs.log2 < 9000) : bDiv (.int i) (.int j) h = some (.int (i / j)) := by
  unfold bDiv; rw [bI_int, if_pos (by simpa using ⟨h0, hb⟩)]
theorem bMod_int {i j : Int} (h0 : j ≠ 0) : bMod (.int i) (.int j) h = some (.int (i.fmod j)) := by
  unfold bMod; rw [bI_int, if_pos (by simpa using h0)]
@[simp] theorem abs_int {i : Int} : cAbs [.int i] h = some (.int (if i < 0 then -i else i)) := rfl
@[simp] theorem int_int {i : Int} : cInt [.int i] h = some (.int i) := rfl
@[simp] theorem int_bl {b : Bool} : cInt [.bl b] h = some (.int (if b then 1 else 0)) := rfl
@[simp] theorem neg_int {i : Int} : uNeg (.int i) h = some (.int (-i)) := rfl
@[simp] theorem seqOf_tup {xs : List D} : seqOf h (.tup xs) = some (false, xs) := rfl
@[simp] theorem seqOf_lst {xs : List D} : seqOf h (.lst xs) = some (true, xs) := rfl
@[simp] theorem seqOf_bls {xs : List D} : seqOf h (.bls xs) = some (true, xs) := rfl
@[simp] theorem len_tup {xs : List D} : cLen [.tup xs] h = some (.int xs.length) := rfl
@[simp] theorem len_lst {xs : List D} : cLen [.lst xs] h = some (.int xs.length) := rfl
@[simp] theorem len_bls {xs : List D} : cLen [.bls xs] h = some (.int xs.length) := rfl
@[simp] theorem tuple_lst {xs : List D} : cTuple [.lst xs] h = some (.tup xs) := rfl
@[simp] theorem tuple_tup {xs : List D} : cTuple [.tup xs] h = some (.tup xs) := rfl
@[simp] theorem bIx_tup {xs : List D} {i : Int} : bIx (.tup xs) (.int i) h = atI xs i := rfl
@[simp] theorem bIx_lst {xs : List D} {i : Int} : bIx (.lst xs) (.int i) h = atI xs i := rfl
@[simp] theorem bIx_bls {xs : List D} {i : Int} : bIx (.bls xs) (.int i) h = atI xs i := rfl
theorem atI_nat {α : Type} {xs : List α} {n : Nat} (hn : n < xs.length) : atI xs (n : Int) = xs[n]? := by
  unfold atI ixN
  rw [if_pos (by omega), if_pos (by omega)]
  simp
@[simp] theorem atI_0 {α : Type} {x : α} {xs : List α} : atI (x :: xs) 0 = some x := by
  rw [show (0 : Int) = ((0 : Nat) : Int) from rfl, atI_nat (by simp)]; rfl
@[simp] theorem atI_1 {α : Type} {x y : α} {xs : List α} : atI (x :: y :: xs) 1 = some y := by
  rw [show (1 : Int) = ((1 : Nat) : Int) from rfl, atI_nat (by simp)]; rfl
@[simp] theorem atI_2 {α : Type} {x y z : α} {xs : List α} : atI (x :: y :: z :: xs) 2 = some z := by
  rw [show (2 : Int) = ((2 : Nat) : Int) from rfl, atI_nat (by simp)]; rfl
@[simp] theorem isN_non : bIsN .non .non h = some (.bl true) := rfl
@[simp] theorem start_eq {n : Nat} {ds : List D} : startD n ds = ds.map some ++ List.replicate (n - ds.length) none := rfl
end
/-! ### loops over what stands still -/
/-- the turns over a list of values -/
def forL (g : MG) (b : MS) : List D → MS
  | [] => fun ρ h => some (.nx, ρ, h)
  | d :: ds => fun ρ h => match g d ρ h with
    | some (ρ1, h1) => (match b ρ1 h1 with
      | some (.nx, ρ2, h2) => forL g b ds ρ2 h2
      | some (.ct, ρ2, h2) => forL g b ds ρ2 h2
      | some (.bk, ρ2, h2) => some (.nx, ρ2, h2)
      | some (o, ρ2, h2) => some (o, ρ2, h2)
      | none => none)
    | none => none
theorem forX_eq {nx : Nx} {g : MG} {b : MS} : ∀ (ds : List D) (i k : Nat) (ρ : Env) (h : VH), (∀ j h, j ≤ ds.length → nx (i + j) h = some ds[j]?) → ds.length < k → mForX nx g b k i ρ h = forL g b ds ρ h
  | [], i, k + 1, ρ, h, hn, _ => by
    unfold mForX forL
    rw [show nx i h = some none from by simpa using hn 0 h (Nat.zero_le _)]
  | d :: ds, i, k + 1, ρ, h, hn, hk => by
    unfold mForX forL
    rw [show nx i h = some (some d) from by simpa using hn 0 h (Nat.zero_le _)]
    simp only []
    cases g d ρ h with
    | none => rfl
    | some p =>
      obtain ⟨ρ1, h1⟩ := p
      simp only []
      have ih : ∀ ρ h, mForX nx g b k (i + 1) ρ h = forL g b ds ρ h := fun ρ h => forX_eq ds (i + 1) k ρ h (fun j h hj => by have := hn (j + 1) h (by simpa using hj); rw [show i + 1 + j = i + (j + 1) from by omega]; simpa using this) (by simp at hk; omega)
      cases b ρ1 h1 with
      | none => rfl
      | some q =>
        obtain ⟨o, ρ2, h2⟩ := q
        cases o <;> simp only [ih]
def rngL (lo : Int) (n : Nat) : List D := (List.range n).map fun i => .int (lo + (i : Nat))
def enumL : Nat → List D → List D
  | _, [] => []
  | i, d :: ds => .tup [.int (i : Nat), d] :: enumL (i + 1) ds
theorem nxSeq_eq {d : D} {b : Bool} {xs : List D} (e : ∀ h, seqOf h d = some (b, xs)) (j : Nat) (h : VH) : nxSeq d (0 + j) h = some xs[j]? := by
  unfold nxSeq; rw [e, Nat.zero_add]
theorem enumL_get : ∀ (xs : List D) (i j : Nat), (enumL i xs)[j]? = xs[j]?.map fun x => .tup [.int ((i + j : Nat) : Int), x]
  | [], i, j => by simp [enumL]
  | x :: xs, i, 0 => by simp [enumL]
  | x :: xs, i, j + 1 => by
    simp only [enumL, List.getElem?_cons_succ]
    rw [enumL_get xs (i + 1) j, show i + 1 + j = i + (j + 1) from by omega]
theorem enumL_len : ∀ (xs : List D) (i : Nat), (enumL i xs).length = xs.length
  | [], _ => rfl
  | x :: xs, i => by simp [enumL, enumL_len xs]
section
variable {ρ : Env} {h h1 : VH} {m : ME} {ma : MA} {g : MG} {b : MS}
theorem for_seq {d : D} {xs : List D} {c : Bool} (e : m ρ h = some (.ok d, h1)) (es : ∀ h, seqOf h d = some (c, xs)) : mFor (mSeqI m) g b ρ h = forL g b xs ρ h1 := by
  unfold mFor mSeqI
  rw [e]
  simp only [bnd_ok, es, ev_ok]
  exact forX_eq xs 0 _ ρ h1 (fun j h _ => nxSeq_eq es j h) (Nat.lt_succ_self _)
theorem rngL_nx (lo : Int) (n j : Nat) (h : VH) : nxRng lo n (0 + j) h = some (rngL lo n)[j]? := by
  unfold nxRng rngL
  simp only [Nat.zero_add, List.getElem?_map]
  by_cases hj : j < n
  · rw [if_pos hj, List.getElem?_range hj]; rfl
  · rw [if_neg hj, List.getElem?_eq_none (by simpa using hj)]; rfl
theorem rngL_len (lo : Int) (n : Nat) : (rngL lo n).length = n := by simp [rngL]
theorem for_rng1 {j : Int} (e : ma ρ h = some (.ok [.int j], h1)) (hj : small j = true) : mFor (mRng1I ma) g b ρ h = forL g b (rngL 0 j.toNat) ρ h1 := by
  unfold mFor mRng1I
  rw [e]
  simp only [bnd_ok, hj, if_true, ev_ok]
  exact forX_eq _ 0 _ ρ h1 (fun i h _ => rngL_nx _ _ i h) (by rw [rngL_len]; exact Nat.lt_succ_self _)
theorem for_rng2 {i j : Int} (e : ma ρ h = some (.ok [.int i, .int j], h1)) (hi : small i = true) (hj : small j = true) : mFor (mRng2I ma) g b ρ h = forL g b (rngL i (j - i).toNat) ρ h1 := by
  unfold mFor mRng2I
  rw [e]
  simp only [bnd_ok, hi, hj, and_self, if_true, ev_ok]
  exact forX_eq _ 0 _ ρ h1 (fun i h _ => rngL_nx _ _ i h) (by rw [rngL_len]; exact Nat.lt_succ_self _)
theorem enum_nx {d : D} {xs : List D} {c : Bool} (es : ∀ h, seqOf h d = some (c, xs)) (j : Nat) (h : VH) (hj : j ≤ (enumL 0 xs).length) : nxEnum d (0 + j) h = some (enumL 0 xs)[j]? := by
  unfold nxEnum
  rw [es, enumL_get]
  simp only [Nat.zero_add]
  cases q : xs[j]? with
  | some x => simp
  | none =>
    have h1 : xs.length ≤ j := List.getElem?_eq_none_iff.mp q
    rw [enumL_len] at hj
    simp only [Option.map_none]
    rw [if_pos (Nat.le_antisymm h1 hj)]
theorem for_enum {d : D} {xs : List D} {c : Bool} (e : ma ρ h = some (.ok [d], h1)) (es : ∀ h, seqOf h d = some (c, xs)) : mFor (mEnumI ma) g b ρ h = forL g b (enumL 0 xs) ρ h1 := by
  unfold mFor mEnumI
  rw [e]
  simp only [bnd_ok, es, ev_ok]
  exact forX_eq _ 0 _ ρ h1 (fun i h hi => enum_nx es i h hi) (by rw [enumL_len]; exact Nat.lt_succ_self _)
/-! ### comprehensions -/
def lcL (t : Tg) (vs : List Nat) (tt te : ME) (ρ : Env) : List D → VH → Option (List D × VH)
  | [] => fun h => some ([], h)
  | d :: ds => fun h => match t.set d (wipeD ρ vs) with
    | some ρ1 => (match tt ρ1 h with
      | some (.ok (.bl true), h1) => (match te ρ1 h1 with
        | some (.ok y, h2) => (match lcL t vs tt te ρ ds h2 with
          | some (ys, h3) => some (y :: ys, h3)
          | none => none)
        | _ => none)
      | some (.ok (.bl false), h1) => lcL t vs tt te ρ ds h1
      | _ => none)
    | none => none
theorem lcX_eq {nx : Nx} {t : Tg} {vs : List Nat} {tt te : ME} {ρ : Env} : ∀ (ds : List D) (i k : Nat) (h : VH), (∀ j h, j ≤ ds.length → nx (i + j) h = some ds[j]?) → ds.length < k → mLcX nx t vs tt te k i ρ h = lcL t vs tt te ρ ds h
  | [], i, k + 1, h, hn, _ => by
    unfold mLcX lcL
    rw [show nx i h = some none from by simpa using hn 0 h (Nat.zero_le _)]
  | d :: ds, i, k + 1, h, hn, hk => by
    unfold mLcX lcL
    rw [show nx i h = some (some d) from by simpa using hn 0 h (Nat.zero_le _)]
    have ih : ∀ h, mLcX nx t vs tt te k (i + 1) ρ h = lcL t vs tt te ρ ds h := fun h => lcX_eq ds (i + 1) k h (fun j h hj => by have := hn (j + 1) h (by simpa using hj); rw [show i + 1 + j = i + (j + 1) from by omega]; simpa using this) (by simp at hk; omega)
    simp only []
    cases t.set d (wipeD ρ vs) with
    | none => rfl
    | some ρ1 =>
      simp only []
      cases tt ρ1 h with
      | none => rfl
      | some p =>
        obtain ⟨r, h1⟩ := p
        cases r with
        | error x => rfl
        | ok z =>
          cases z with
          | bl b =>
            cases b with
            | true =>
              simp only []
              cases te ρ1 h1 with
              | none => rfl
              | some p2 =>
                obtain ⟨r2, h2⟩ := p2
                cases r2 with
                | error x => rfl
                | ok y =>
                  first
                    | (simp only [ih]; done)
                    | (simp only [ih]; cases lcL t vs tt te ρ ds h2 <;> rfl)
            | false => exact ih h1
          | _ => rfl
/-- each element gives a value and leaves the objects as they are -/
theorem lc_map {t : Tg} {vs : List Nat} {te : ME} {h : VH} {f : D → D} : ∀ {ds : List D}, (∀ d ∈ ds, ∃ ρ1, t.set d (wipeD ρ vs) = some ρ1 ∧ te ρ1 h = some (.ok (f d), h)) → lcL t vs mYes te ρ ds h = some (ds.map f, h)
  | [], _ => rfl
  | d :: ds, hd => by
    obtain ⟨ρ1, e1, e2⟩ := hd d (by simp)
    have ih := lc_map (ds := ds) fun x hx => hd x (by simp [hx])
    unfold lcL
    rw [e1]
    simp only [show mYes ρ1 h = some (.ok (.bl true), h) from rfl, e2, ih]
    rfl
def lcEnd : Option (List D × VH) → R D
  | some (ys, h2) => if ys.length ≤ 10000000 then some (.ok (.lst ys), h2) else none
  | none => none
@[simp] theorem lcEnd_some {ys : List D} {h2 : VH} : lcEnd (some (ys, h2)) = if ys.length ≤ 10000000 then some (.ok (.lst ys), h2) else none := rfl
theorem lc_seq {t : Tg} {vs : List Nat} {tt te : ME} {d : D} {xs : List D} {c : Bool} (e : m ρ h = some (.ok d, h1)) (es : ∀ h, seqOf h d = some (c, xs)) : mLc (mSeqI m) t vs tt te ρ h = lcEnd (lcL t vs tt te ρ xs h1) := by
  unfold mLc mSeqI
  rw [e]
  simp only [bnd_ok, es, ev_ok]
  rw [lcX_eq xs 0 _ h1 (fun j h _ => nxSeq_eq es j h) (Nat.lt_succ_self _)]
  cases lcL t vs tt te ρ xs h1 <;> rfl
theorem lc_rng1 {t : Tg} {vs : List Nat} {tt te : ME} {j : Int} (e : ma ρ h = some (.ok [.int j], h1)) (hj : small j = true) : mLc (mRng1I ma) t vs tt te ρ h = lcEnd (lcL t vs tt te ρ (rngL 0 j.toNat) h1) := by
  unfold mLc mRng1I
  rw [e]
  simp only [bnd_ok, hj, if_true, ev_ok]
  rw [lcX_eq _ 0 _ h1 (fun i h _ => rngL_nx _ _ i h) (by rw [rngL_len]; exact Nat.lt_succ_self _)]
  cases lcL t vs tt te ρ (rngL 0 j.toNat) h1 <;> rfl
theorem lc_enum {t : Tg} {vs : List Nat} {tt te : ME} {d : D} {xs : List D} {c : Bool} (e : ma ρ h = some (.ok [d], h1)) (es : ∀ h, seqOf h d = some (c, xs)) : mLc (mEnumI ma) t vs tt te ρ h = lcEnd (lcL t vs tt te ρ (enumL 0 xs) h1) := by
  unfold mLc mEnumI
  rw [e]
  simp only [bnd_ok, es, ev_ok]
  rw [lcX_eq _ 0 _ h1 (fun i h hi => enum_nx es i h hi) (by rw [enumL_len]; exact Nat.lt_succ_self _)]
  cases lcL t vs tt te ρ (enumL 0 xs) h1 <;> rfl
end
end ML
/-! the text N1 -/
/-! N1: fractions as Rat, sizes. Plain Lean. -/
namespace ML
open PySem PySem.Spec PyProof.Rows L2
theorem log2_small {n k : Nat} (h : n < 2 ^ k) (hk : 0 < k) : n.log2 < k := by
  by_cases h0 : n = 0
  · subst h0; simpa using hk
  · exact (Nat.log2_lt h0).mpr h
theorem lt_pow_mono {x a b : Nat} (h : x < 2 ^ a) (hab : a ≤ b) : x < 2 ^ b := Nat.lt_of_lt_of_le h (Nat.pow_le_pow_right (by omega) hab)
/-- a fraction as the program holds it -/
def fr (q : Rat) : D := .tup [.int q.num, .int q.den]
/-- both parts below 2 ^ n -/
structure Bd (n : Nat) (q : Rat) : Prop where
  num : q.num.natAbs < 2 ^ n
  den : q.den < 2 ^ n
theorem Bd.mono {m n : Nat} {q : Rat} (b : Bd m q) (h : m ≤ n) : Bd n q := ⟨lt_pow_mono b.num h, lt_pow_mono b.den h⟩
/-- a fraction of given parts, reduced -/
theorem mk_parts {t : Int} {b : Nat} (hb : b ≠ 0) : (mkRat t b).num = t / (t.natAbs.gcd b : Nat) ∧ (mkRat t b).den = b / t.natAbs.gcd b := by
  rw [← Rat.normalize_eq_mkRat hb, Rat.normalize_eq]
  exact ⟨rfl, rfl⟩
theorem bd_mk {n : Nat} {t : Int} {b : Nat} (hb : b ≠ 0) (h1 : t.natAbs < 2 ^ n) (h2 : b < 2 ^ n) : Bd n (mkRat t b) := by
  obtain ⟨e1, e2⟩ := mk_parts (t := t) hb
  refine ⟨?_, ?_⟩
  · rw [e1]
    have hd : ((t.natAbs.gcd b : Nat) : Int) ∣ t := Int.ofNat_dvd_left.mpr (Nat.gcd_dvd_left _ _)
    have : (t / (t.natAbs.gcd b : Nat)).natAbs ≤ t.natAbs := by
      obtain ⟨c, hc⟩ := hd
      have gp : 0 < t.natAbs.gcd b := Nat.gcd_pos_of_pos_right _ (Nat.pos_of_ne_zero hb)
      have gn : ((t.natAbs.gcd b : Nat) : Int) ≠ 0 := by omega
      have e : t / (t.natAbs.gcd b : Nat) = c := Int.ediv_eq_of_eq_mul_right gn hc
      rw [e]
      have := congrArg Int.natAbs hc
      rw [Int.natAbs_mul, Int.natAbs_natCast] at this
      rw [this]
      exact Nat.le_mul_of_pos_left _ gp
    omega
  · rw [e2]
    exact Nat.lt_of_le_of_lt (Nat.div_le_self _ _) h2
theorem mul_lt_pow {a b m n : Nat} (h1 : a < 2 ^ m) (h2 : b < 2 ^ n) : a * b < 2 ^ (m + n) := by
  rw [Nat.pow_add]
  exact Nat.mul_lt_mul'' h1 h2
theorem add_mk (p q : Rat) : p + q = mkRat (p.num * q.den + q.num * p.den) (p.den * q.den) := by
  rw [Rat.add_def, Rat.normalize_eq_mkRat]
theorem mul_mk (p q : Rat) : p * q = mkRat (p.num * q.num) (p.den * q.den) := by
  rw [Rat.mul_def, Rat.normalize_eq_mkRat]
theorem add_num_lt {p q : Rat} {m n : Nat} (hp : Bd m p) (hq : Bd n q) : (p.num * q.den + q.num * p.den).natAbs < 2 ^ (m + n + 1) := by
  have h1 : (p.num * q.den).natAbs < 2 ^ (m + n) := by rw [Int.natAbs_mul]; exact mul_lt_pow hp.num (by simpa using hq.den)
  have h2 : (q.num * p.den).natAbs < 2 ^ (m + n) := by rw [Int.natAbs_mul, Nat.add_comm m n]; exact mul_lt_pow hq.num (by simpa using hp.den)
  have h3 := Int.natAbs_add_le (p.num * q.den) (q.num * p.den)
  rw [Nat.pow_succ]
  omega
theorem Bd.add {p q : Rat} {m n : Nat} (hp : Bd m p) (hq : Bd n q) : Bd (m + n + 1) (p + q) := by
  rw [add_mk]
  exact bd_mk (Nat.mul_ne_zero p.den_nz q.den_nz) (add_num_lt hp hq) (lt_pow_mono (mul_lt_pow hp.den hq.den) (by omega))
theorem Bd.mul {p q : Rat} {m n : Nat} (hp : Bd m p) (hq : Bd n q) : Bd (m + n) (p * q) := by
  rw [mul_mk]
  exact bd_mk (Nat.mul_ne_zero p.den_nz q.den_nz) (by rw [Int.natAbs_mul]; exact mul_lt_pow hp.num hq.num) (mul_lt_pow hp.den hq.den)
theorem bd_one : Bd 1 1 := ⟨by decide, by decide⟩
theorem bd_zero : Bd 1 0 := ⟨by decide, by decide⟩
/-! ### Euclid -/
theorem mod_half {x r : Nat} (h : 0 < r) (hr : r < x) : 2 * (x % r) < x := by
  have h1 := Nat.mod_lt x h
  have h2 := Nat.div_add_mod x r
  have h3 : 1 ≤ x / r := Nat.div_pos (Nat.le_of_lt hr) h
  have h4 : r * 1 ≤ r * (x / r) := Nat.mul_le_mul_left r h3
  omega
/-! ### sums -/
def sumQ : List Rat → Rat
  | [] => 0
  | q :: qs => q + sumQ qs
theorem sumQ_append (a b : List Rat) : sumQ (a ++ b) = sumQ a + sumQ b := by
  induction a with
  | nil => simp [sumQ, Rat.zero_add]
  | cons x xs ih => simp only [List.cons_append, sumQ, ih, Rat.add_assoc]
theorem sumQ_mul (c : Rat) (a : List Rat) : sumQ (a.map fun x => c * x) = c * sumQ a := by
  induction a with
  | nil => simp [sumQ]
  | cons x xs ih => simp only [List.map_cons, sumQ, ih, Rat.mul_add]
theorem sumQ_nonneg {a : List Rat} (h : ∀ x ∈ a, 0 ≤ x) : 0 ≤ sumQ a := by
  induction a with
  | nil => simp [sumQ]
  | cons x xs ih => exact Rat.add_nonneg (h x (by simp)) (ih fun y hy => h y (by simp [hy]))
end ML
/-! the text M46 -/
/-! M46: loops by an invariant. -/
namespace ML
open PySem PySem.Spec PyProof.Rows L2
theorem forL_inv {g : MG} {b : MS} : ∀ (ds : List D) (I : Nat → Env → VH → Prop) (k : Nat) (ρ : Env) (h : VH),
    (∀ j x ρ h, ds[j]? = some x → I (k + j) ρ h → ∃ ρ1 h1 ρ2 h2, g x ρ h = some (ρ1, h1) ∧ b ρ1 h1 = some (.nx, ρ2, h2) ∧ I (k + j + 1) ρ2 h2) → I k ρ h →
    ∃ ρ' h', forL g b ds ρ h = some (.nx, ρ', h') ∧ I (k + ds.length) ρ' h'
  | [], I, k, ρ, h, _, i0 => ⟨ρ, h, rfl, i0⟩
  | d :: ds, I, k, ρ, h, step, i0 => by
    obtain ⟨ρ1, h1, ρ2, h2, e1, e2, i1⟩ := step 0 d ρ h rfl i0
    obtain ⟨ρ', h', e, i⟩ := forL_inv ds I (k + 1) ρ2 h2 (fun j x ρ h hx hi => by
      have := step (j + 1) x ρ h (by simpa using hx) (by rw [show k + (j + 1) = k + 1 + j from by omega]; exact hi)
      rw [show k + (j + 1) + 1 = k + 1 + j + 1 from by omega] at this
      exact this) i1
    refine ⟨ρ', h', ?_, by rw [show k + (d :: ds).length = k + 1 + ds.length from by simp; omega]; exact i⟩
    unfold forL
    rw [e1]
    simp only [e2]
    exact e
theorem forX_inv {nx : Nx} {g : MG} {b : MS} {h : VH} {xs : List D} : ∀ (n k : Nat) (I : Nat → Env → Prop) (ρ : Env), k + n = xs.length →
    (∀ j, j ≤ xs.length → nx j h = some xs[j]?) → (∀ j x ρ, xs[j]? = some x → I j ρ → ∃ ρ1 ρ2, g x ρ h = some (ρ1, h) ∧ b ρ1 h = some (.nx, ρ2, h) ∧ I (j + 1) ρ2) → I k ρ →
    ∃ ρ', mForX nx g b (n + 1) k ρ h = some (.nx, ρ', h) ∧ I xs.length ρ'
  | 0, k, I, ρ, hk, hn, step, i0 => by
    refine ⟨ρ, ?_, by rw [← hk]; exact i0⟩
    unfold mForX
    rw [hn k (by omega), List.getElem?_eq_none (by omega)]
  | n + 1, k, I, ρ, hk, hn, step, i0 => by
    have hl : k < xs.length := by omega
    obtain ⟨ρ1, ρ2, e1, e2, i1⟩ := step k xs[k] ρ (List.getElem?_eq_getElem hl) i0
    obtain ⟨ρ', e, i⟩ := forX_inv n (k + 1) I ρ2 (by omega) hn step i1
    refine ⟨ρ', ?_, i⟩
    unfold mForX
    rw [hn k (by omega), List.getElem?_eq_getElem hl]
    simp only [e1, e2]
    exact e
section
variable {ρ : Env} {h : VH} {m : ME} {ma : MA} {g : MG} {b : MS}
/-- a loop over a list that leaves the objects as they are -/
theorem for_seqI {d : D} {xs : List D} {c : Bool} (e : m ρ h = some (.ok d, h)) (es : seqOf h d = some (c, xs)) (I : Nat → Env → Prop) (i0 : I 0 ρ)
    (step : ∀ j x ρ, xs[j]? = some x → I j ρ → ∃ ρ1 ρ2, g x ρ h = some (ρ1, h) ∧ b ρ1 h = some (.nx, ρ2, h) ∧ I (j + 1) ρ2) : ∃ ρ', mFor (mSeqI m) g b ρ h = some (.nx, ρ', h) ∧ I xs.length ρ' := by
  unfold mFor mSeqI
  rw [e]
  simp only [bnd_ok, es, ev_ok]
  exact forX_inv xs.length 0 I ρ (by omega) (fun j _ => by unfold nxSeq; rw [es]) step i0
theorem lcX_map {nx : Nx} {t : Tg} {vs : List Nat} {te : ME} {f : D → D} {xs : List D} : ∀ (n k : Nat), k + n = xs.length → (∀ j, j ≤ xs.length → nx j h = some xs[j]?) →
    (∀ d ∈ xs, ∃ ρ1, t.set d (wipeD ρ vs) = some ρ1 ∧ te ρ1 h = some (.ok (f d), h)) → mLcX nx t vs mYes te (n + 1) k ρ h = some ((xs.drop k).map f, h)
  | 0, k, hk, hn, _ => by
    unfold mLcX
    rw [hn k (by omega), List.getElem?_eq_none (by omega), List.drop_of_length_le (by omega)]
    rfl
  | n + 1, k, hk, hn, hd => by
    have hl : k < xs.length := by omega
    have ih := lcX_map n (k + 1) (by omega) hn hd
    obtain ⟨ρ1, e1, e2⟩ := hd xs[k] (List.getElem_mem hl)
    unfold mLcX
    rw [hn k (by omega), List.getElem?_eq_getElem hl]
    simp only [e1, show mYes ρ1 h = some (.ok (.bl true), h) from rfl, e2, ih]
    rw [List.drop_eq_getElem_cons hl, List.map_cons]
/-- [f(x) for x in xs], the objects left as they are -/
theorem lc_seqM {t : Tg} {vs : List Nat} {te : ME} {d : D} {xs : List D} {c : Bool} (f : D → D) (e : m ρ h = some (.ok d, h)) (es : seqOf h d = some (c, xs)) (hl : xs.length ≤ 10000000)
    (hd : ∀ x ∈ xs, ∃ ρ1, t.set x (wipeD ρ vs) = some ρ1 ∧ te ρ1 h = some (.ok (f x), h)) : mLc (mSeqI m) t vs mYes te ρ h = some (.ok (.lst (xs.map f)), h) := by
  unfold mLc mSeqI
  rw [e]
  simp only [bnd_ok, es, ev_ok]
  rw [lcX_map xs.length 0 (by omega) (fun j _ => by unfold nxSeq; rw [es]) hd]
  simp [hl]
theorem lc_enumM {t : Tg} {vs : List Nat} {te : ME} {d : D} {xs : List D} {c : Bool} (f : D → D) (e : ma ρ h = some (.ok [d], h)) (es : seqOf h d = some (c, xs)) (hl : xs.length ≤ 10000000)
    (hd : ∀ x ∈ enumL 0 xs, ∃ ρ1, t.set x (wipeD ρ vs) = some ρ1 ∧ te ρ1 h = some (.ok (f x), h)) : mLc (mEnumI ma) t vs mYes te ρ h = some (.ok (.lst ((enumL 0 xs).map f)), h) := by
  unfold mLc mEnumI
  rw [e]
  simp only [bnd_ok, es, ev_ok]
  have hL := enumL_len xs 0
  rw [← hL, lcX_map (enumL 0 xs).length 0 (by omega) (fun j hj => by
    unfold nxEnum
    rw [es, enumL_get]
    cases q : xs[j]? with
    | some x => simp [q]
    | none =>
      have h1 : xs.length ≤ j := List.getElem?_eq_none_iff.mp q
      simp only [q, Option.map_none]
      rw [if_pos (by omega)]) hd]
  simp [hL, hl]
end
end ML
/-! the text M47 -/
/-! M47: a lambda of one parameter is called by the method that got it. -/
namespace ML
open PySem PySem.Spec PyProof.Rows L2 LamX
/-- one parameter, no other name of its own -/
structure LamS1 (sc scope : Scope) (a : Str) : Prop where
  kind : scope.kind = .function
  co : scope.isCoroutine = false
  gen : scope.isGenerator = false
  par : scope.names.lookup a = some .local
  own : ∀ y ∈ scope.names, (y.2 = .local → y.1 = a) ∧ y.2 ≠ .cell
  free : ∀ y ∈ scope.names, y.2 = .free → sc.names.lookup y.1 = some .cell ∨ sc.names.lookup y.1 = some .free
def lamS1B (sc scope : Scope) (a : Str) : Bool :=
  decide (scope.kind = .function) && !scope.isCoroutine && !scope.isGenerator && decide (scope.names.lookup a = some .local) && scope.names.all fun y => (!decide (y.2 = .local) || decide (y.1 = a)) && !decide (y.2 = .cell) && (!decide (y.2 = .free) || decide (sc.names.lookup y.1 = some .cell) || decide (sc.names.lookup y.1 = some .free))
theorem lamS1_by {sc scope : Scope} {a : Str} (h : lamS1B sc scope a = true) : LamS1 sc scope a := by
  unfold lamS1B at h
  simp only [Bool.and_eq_true, Bool.or_eq_true, Bool.not_eq_true', decide_eq_true_eq, decide_eq_false_iff_not, List.all_eq_true] at h
  obtain ⟨⟨⟨⟨h1, h2⟩, h3⟩, h5⟩, h4⟩ := h
  refine ⟨h1, h2, h3, h5, fun y hy => ⟨fun z => ?_, (h4 y hy).1.2⟩, fun y hy e => ?_⟩
  · rcases (h4 y hy).1.1 with q | q
    · exact absurd z q
    · exact q
  · rcases (h4 y hy).2 with (z | z) | z
    · exact absurd e z
    · exact .inl z
    · exact .inr z
theorem LamS1.has {X : Cx} {scope : Scope} {a : Str} (L : LamS1 X.env.scope scope a) (ok : X.Ok) : ∀ y ∈ scope.names, y.2 = .free → ∃ c, X.env.cells.lookup y.1 = some c := fun y hy e => by
  rcases L.free y hy e with k | k
  · exact ok.has _ (.inl k)
  · exact ok.has _ (.inr k)
section
variable {X : Cx} {pins : List (Addr × Obj)} {σ : L2.St} {H HZ : Hp} {s s1 : Shared}
theorem lam_start1 {A : Around} {outer : List PySem.Env} {E : XK} {scope : Scope} {f c' : Addr} {h₁ : Heap} {tk ip : Nat} {a : Str} {v : V} {u : Value} (I : Inv X pins σ H s) (L : LamS1 X.env.scope scope a) (hN : X.N.Nodup) (hip : X.N[ip]? = some a) (ru : RelV v u) (e0 : Env0 X.prog X.w X.K X.mg X.base A outer s1 HZ) (hd : A.handled = none)
    (un : Un (frs X.stack) [] H HZ s.heap s1.heap) (hns : h₁.Ns s1.heap.objs.size fun y => ([(a, u)] : List (Str × Value)).reverse.lookup y) (kp : ∀ b o, s1.heap.get? b = some o → h₁.get? b = some o) :
    Inv (lamCx X A outer s1 HZ E scope f c') [] (σ.set ip (some v)) HZ { s1 with heap := h₁, toks := tk } := by
  have hfree := L.has I.ok
  have cm : ∀ {y c}, (cloFrom X.env.cells scope.names []).lookup y = some c → X.env.cells.lookup y = some c := fun {y c} e => by
    rcases cloFrom_mem (PySem.mem_of_lookup e) with hm | ⟨h1, h2⟩
    · cases hm
    · obtain ⟨c1, hc⟩ := hfree _ h1 rfl
      have hc : X.env.cells.lookup y = some c1 := hc
      have e2 : c = c1 := by
        rw [h2, hc] <;> rfl
      rw [e2]
      exact hc
  have look : ∀ {y}, scope.names.lookup y = some .free → ∃ c, (cloFrom X.env.cells scope.names []).lookup y = some c := fun {y} hl => by
    have hy : (y, NameKind.free) ∈ scope.names := PySem.mem_of_lookup hl
    exact mem_lookup (cloFrom_has (cells := X.env.cells) (acc := []) hy)
  have cellK : ∀ {c : Addr} {v : Option Value}, H c = none → s.heap.IsCell c v → h₁.IsCell c v := fun {c v} n ⟨o, ho, hd⟩ => by
    obtain ⟨sl, q⟩ := un.any ho n (by simp)
    exact ⟨_, kp _ _ q, hd⟩
  have noA : ∀ b : Addr, b ∉ (lamCx X A outer s1 HZ E scope f c').ex := fun b z => absurd (show b ∈ ([] : List Addr) from z) (by simp)
  have len : (σ.set ip (some v)).length = X.N.length := by rw [List.length_set]; exact I.len
  refine ⟨⟨e0.mod, L.kind, rfl, rfl, Nat.le_refl _, fun y z c e1 e2 => I.ok.inj y z c (cm e1) (cm e2), fun y hy => ?_, fun y c z _ => ?_, fun _ => hd, Around.frames_deeper e0.frames, .inr ⟨rfl, rfl⟩, fun b z => absurd z (noA b), e0.bs, e0.bsz, fun b _ _ => noA b,
      fun b z => absurd z (noA b), e0.funs, e0.frf⟩,
    rfl, e0.bare, Un.kept kp, ⟨_, hns, fun i y w e1 e2 e3 => ?_⟩, fun y c e => ?_, e0.hok.fresh (Nat.le_refl _), fun y c e => ?_, fun q hq => absurd (show q ∈ ([] : List (Addr × Obj)) ++ [] from hq) (by simp), e0.hok.kept kp, len⟩
  · have hy : scope.names.lookup y = some .cell ∨ scope.names.lookup y = some .free := hy
    rcases hy with hy | hy
    · exact absurd rfl (L.own _ (PySem.mem_of_lookup hy)).2
    · exact look hy
  · have z : false = true := z
    cases z
  · have e3 : Vis scope y := e3
    have par : ∀ y, y = a → scope.names.lookup y = some .local := fun y z => by rw [z]; exact L.par
    by_cases ya : y = a
    · subst ya
      have ei : i = ip := by
        have e1 : X.N[i]? = some y := e1
        have l1 := (List.getElem?_eq_some_iff.mp e1).1
        have l2 := (List.getElem?_eq_some_iff.mp hip).1
        exact (List.getElem_inj hN).mp ((List.getElem?_eq_some_iff.mp e1).2.trans (List.getElem?_eq_some_iff.mp hip).2.symm)
      subst ei
      have l3 : i < σ.length := by have := (List.getElem?_eq_some_iff.mp hip).1; rw [I.len]; exact this
      rw [List.getElem?_set_self l3] at e2
      cases e2
      exact ⟨u, ru, .inl ⟨L.par, by simp⟩⟩
    · have ni : ip ≠ i := fun z => by
        subst z
        have e1 : X.N[ip]? = some y := e1
        rw [hip] at e1
        cases e1
        exact ya rfl
      rw [List.getElem?_set_ne ni] at e2
      rcases e3 with k | k | k
      · exact absurd ((L.own _ (PySem.mem_of_lookup k)).1 rfl) ya
      · exact absurd rfl (L.own _ (PySem.mem_of_lookup k)).2
      · obtain ⟨m, hn, hl⟩ := I.loc
        have hvis : Vis X.env.scope y := (L.free _ (PySem.mem_of_lookup k) rfl).elim (fun k => .inr (.inl k)) (fun k => .inr (.inr k))
        obtain ⟨w', r, q⟩ := hl i y w e1 e2 hvis
        obtain ⟨c2, h2⟩ := look k
        refine ⟨w', r, .inr ⟨.inr k, c2, h2, ?_⟩⟩
        have c1 := cm h2
        rcases q with ⟨k', _⟩ | ⟨_, c3, e', z⟩
        · have k' : X.env.scope.names.lookup y = some .local := k'
          rcases L.free _ (PySem.mem_of_lookup k) rfl with k2 | k2 <;> rw [show X.env.scope.names.lookup y = _ from k2] at k' <;> cases k'
        · rw [c1] at e'
          cases e'
          exact cellK (I.freeC y _ c1) z
  · obtain ⟨w', z⟩ := I.cell y c (cm e)
    exact ⟨w', cellK (I.freeC y c (cm e)) z⟩
  · obtain ⟨v, o, ho, hd⟩ := I.cell y c (cm e)
    exact un.free c o ho (I.freeC y c (cm e)) (by simp)
/-- x(e), in the def that got the lambda -/
theorem pe_act1 {CXg : CXT} {Eg : XK} {Ng : List Str} {qg : Str} {sg : Scope} {g f c' : Addr} {cdg pm ctv : Value} {params : Arguments} {body e : Expr} {scope : Scope} {k i ip : Nat} {a b : Str} {pn : List (Addr × Obj)} {xe : Value → Shared → Prop} {W : WX} {E : XK} {tb : TE} {ta : TA} {p1 p2 : Pos}
    (I : Inv X pins σ H s) (L : LamS1 X.env.scope scope b) (hNX : X.N.Nodup) (hip : X.N[ip]? = some b) (hf : s.heap.get? f = some (PySem.W.kla_obj "<lambda>" (X.env.qual ++ "<lambda>") params body scope (cloFrom X.env.cells scope.names []) pm c' ctv)) (hfn : H f = none) (hfr : f ∉ frs X.stack)
    (hbind : ∀ u, bindArgs (PySem.W.kla_fn "<lambda>" (X.env.qual ++ "<lambda>") params body scope (cloFrom X.env.cells scope.names []) pm (.ref c') ctv) ⟨[u], []⟩ = pure [(b, u)])
    (tk : L2N.Takes ((cxOf CXg X.prog X.w X.K X.mg X.base Ng qg sg g cdg X.A X.stack s H Eg).tr pn xe) W) (hW : ∀ cls d σ' H', E cls d H' → W cls d σ' H') (hr : Room (k + 1) (X.A.deeper (envOfC qg sg s.heap.objs.size g cdg)))
    (hbody : ∀ (A : Around) (outer : List PySem.Env) (s : Shared) (H : Hp), Room k (A.deeper (lamEnv X scope s.heap.objs.size f c')) → PE (lamCx X A outer s H E scope f c') body tb)
    (hN : Ng[i]? = some a) (hv : Vis sg a) (ha : PA ((cxOf CXg X.prog X.w X.K X.mg X.base Ng qg sg g cdg X.A X.stack s H Eg).tr pn xe) [e] ta)
    (he : starEach [e] ((cxOf CXg X.prog X.w X.K X.mg X.base Ng qg sg g cdg X.A X.stack s H Eg).tr pn xe).env = (false, eval e ((cxOf CXg X.prog X.w X.K X.mg X.base Ng qg sg g cdg X.A X.stack s H Eg).tr pn xe).env) :: starEach [] ((cxOf CXg X.prog X.w X.K X.mg X.base Ng qg sg g cdg X.A X.stack s H Eg).tr pn xe).env := by rfl)
    (hpl : (backTo p2 (starEach [] ((cxOf CXg X.prog X.w X.K X.mg X.base Ng qg sg g cdg X.A X.stack s H Eg).tr pn xe).env)).any (·.1) = false := by rfl)
    (hd : (a == ("__debug__" : Str)) = false := by decide) (hcd : (a == ("__classdict__" : Str)) = false := by decide) :
    PE ((cxOf CXg X.prog X.w X.K X.mg X.base Ng qg sg g cdg X.A X.stack s H Eg).tr pn xe) (.Call (.Name a p1) [e] [] p2)
      (fun σZ HZ Q => σZ[i]? = some (some (.ref f)) ∧ ta σZ HZ fun vs H1 => ∃ v, vs = [v] ∧ H1 c' = some (CodeO c' (X.env.qual ++ "<lambda>")) ∧ tb (σ.set ip (some v)) H1 Q) := by
  refine ⟨fun pinsZ sZ σZ HZ Q IZ h => ?_⟩
  obtain ⟨hs, ht⟩ := h
  refine wpAny_Call_Name_kw (thn ((pe_var (pos := p1) (i := i) hN hv hd hcd).run pinsZ sZ σZ HZ (fun v H1 => v = .ref f ∧ H1 = HZ) IZ ⟨.ref f, hs, rfl, rfl⟩) fun u s1 ⟨v, H1, I1, r1, q1⟩ => ?_)
  obtain ⟨ev, eH⟩ := q1
  subst ev
  rw [eH] at I1
  obtain rfl : u = Value.ref f := r1
  have fat : ∀ {σZ HZ s1}, Inv ((cxOf CXg X.prog X.w X.K X.mg X.base Ng qg sg g cdg X.A X.stack s H Eg).tr pn xe) pinsZ σZ HZ s1 → s1.heap.get? f = some (PySem.W.kla_obj "<lambda>" (X.env.qual ++ "<lambda>") params body scope (cloFrom X.env.cells scope.names []) pm c' ctv) := fun I1 =>
    I1.base.keep f _ hf hfn hfr (fun z => nomatch (show f ∈ ([] : List Addr) from z))
  refine PySem.W.callWith_F (first := []) ⟨_, _, _, _, fat I1⟩ (thn (ha.run p2 pinsZ s1 σZ HZ _ I1 ht) fun us s2 ⟨vs, H2, I2, r2, v, evs, hc, qb⟩ => ⟨⟨_, _, _, _, fat I2⟩, ?_⟩) he hpl
  subst evs
  obtain ⟨u, eu, ru⟩ := vals_one r2
  subst eu
  have of1 := fat I2
  have un : Un (frs X.stack) [] H H2 s.heap s2.heap := I2.base
  obtain ⟨⟨oc, vs, t, hoc, hdc, hvc⟩, _, _⟩ := I2.hok c' _ hc
  have rc : codeAny (model X.prog X.w) (X.A.deeper (envOfC qg sg s.heap.objs.size g cdg)) (.call (.ref f) ⟨[u], []⟩) (CR (L2N.CX X.prog X.w) (envOfC qg sg s.heap.objs.size g cdg :: X.stack) X.prog X.w H2 s2 Q E) s2 := by
    refine PySem.W.kla_callFunE hr.depth of1 rfl L.co L.gen rfl ⟨c', oc, vs, t, rfl, hoc, hdc, hvc⟩ ?_
    rw [hbind]
    refine wpAny_pure (wpAny_newFunctionEnv (fun y hy => (L.own y hy).2) (fun y hy => by rw [List.mem_singleton.mp hy]; exact L.par) (fun h₁ hns hsb => ⟨I2.nolimit.fresh _ hsb, ?_⟩) L.kind)
    show codeAny _ _ (.expr body (lamEnv X scope s2.heap.objs.size f c')) _ _
    have kp : ∀ b o, s2.heap.get? b = some o → h₁.get? b = some o := fun b o e => hsb.extBut b o (Nat.ne_of_lt (Heap.lt_size e)) (Heap.get?_push_of_some _ e)
    have J : Inv (lamCx X (X.A.deeper (envOfC qg sg s.heap.objs.size g cdg)) (envOfC qg sg s.heap.objs.size g cdg :: X.stack) s2 H2 E scope f c') [] (σ.set ip (some v)) H2 { s2 with heap := h₁, toks := s2.toks + ([(b, u)] : List (Str × Value)).length } :=
      lam_start1 I L hNX hip ru I2.env0 hr.hd un hns kp
    refine PySem.W.kla_codeExpr (wpAny_mono ((hbody _ _ s2 H2 (hr.deeper _)).run [] _ _ H2 Q J qb) (fun v s' hq => ?_) fun e s' hq => hq)
    obtain ⟨w', H', J', rv, q⟩ := hq
    exact ⟨w', H', J'.os, J'.bare, J'.base, J'.hok, rv, q⟩
  have hx : Passes (L2N.CX X.prog X.w) ((cxOf CXg X.prog X.w X.K X.mg X.base Ng qg sg g cdg X.A X.stack s H Eg).tr pn xe) E := L2N.passes_call tk hW
  show wpAny _ _ (call (.ref f) [u]) _ _ _
  refine wpAny_call (codeAny_mono rc fun r s' hq => ?_)
  cases r with
  | error e => exact hx pinsZ σZ H2 s2 e s' I2 hq
  | ok fl =>
    cases fl with
    | ret u => exact I2.after hq
    | next => exact False.elim hq
    | brk => exact False.elim hq
    | cont => exact False.elim hq
end
end ML
/-! the text M48 -/
/-! M48: a method that is handed a lambda of one parameter, as functions. -/
namespace ML
open PySem PySem.Spec PyProof.Rows L2 LamX
/-- known of the lambda: it stands in slot 1; its maker's slots are what they were -/
def FxT1 (c : Gx) (fx0 : Fx) (ρ : Env) (σ0 : L2.St) (f c' : Addr) (q : Str) : Fx where
  ok ι H σ := σ[1]? = some (some (V.ref f)) ∧ H c' = some (LamX.CodeO c' q) ∧ (Off ι c' ∨ ι.hid c') ∧ RS c ⟨fun _ _ _ _ => False, fx0⟩ ι H ρ σ0
  free j := j ≠ 1
  step := fun st ⟨a, b, d, r⟩ => ⟨a, d.elim (fun d => (st.keep _ _ b code_noTbl d).1) (fun d => (st.hid _ _ d b code_noTbl).1), d.elim (fun d => .inl (st.keep _ _ b code_noTbl d).2) (fun d => .inr (st.hid _ _ d b code_noTbl).2), r.step st⟩
  put := fun n ⟨a, b, d, r⟩ => ⟨by rw [List.getElem?_set_ne n]; exact a, b, d, r⟩
abbrev ME1 := D → VH → R D
/-- a(e), a the lambda -/
def mAct (θ : ME1) (ma : MA) : ME := fun ρ h => bnd (ma ρ h) fun ds h1 => match ds with
  | [d] => θ d h1
  | _ => none
theorem m_act1 {Z : Cx} {c : Gx} {E : XK} {fx0 : Fx} {m : ME} {ma : MA} {ρ : Env} {σ0 : L2.St} {f c' : Addr} {q a : Str} {e : Expr} {p1 p2 : Pos} {ip : Nat} (fr : fx0.free ip)
    (hp : PE Z (.Call (.Name a p1) [e] [] p2) (fun σZ HZ Q => σZ[1]? = some (some (V.ref f)) ∧ tA c ⟨fun cls d _ H' => E cls d H', FxT1 c fx0 ρ σ0 f c' q⟩ ma σZ HZ fun vs H1 => ∃ v, vs = [v] ∧ H1 c' = some (LamX.CodeO c' q) ∧ tE c ⟨fun cls d _ H' => E cls d H', fx0⟩ m (σ0.set ip (some v)) H1 Q)) :
    PE Z (.Call (.Name a p1) [e] [] p2) (tE c ⟨fun cls d _ H' => E cls d H', FxT1 c fx0 ρ σ0 f c' q⟩ (mAct (fun d h => m (ρ.set ip (some d)) h) ma)) := by
  refine peI hp fun σ H Q ⟨ι, ρZ, h, r, h', rs, rh, em, ke⟩ => ?_
  obtain ⟨a1, a2, a3, a4⟩ := rs.fx
  refine ⟨a1, argsE rs rh em ke fun ι1 H1 vs h1 ds st1 rs1 rh1 rv1 e1 ke1 => ?_⟩
  cases ds with
  | nil => cases e1
  | cons d t =>
    cases t with
    | cons _ _ => cases e1
    | nil =>
      obtain ⟨v, ev, rv⟩ := one_v rv1
      subst ev
      obtain ⟨b1, b2, b3, b4⟩ := rs1.fx
      have rs4 : RS c ⟨fun cls d _ H' => E cls d H', fx0⟩ ι1 H1 ρ σ0 := ⟨b4.len, b4.at_, b4.fx⟩
      refine ⟨v, rfl, b2, ι1, ρ.set ip (some d), h1, r, h', rs4.set ip rv fr, rh1, e1, ?_⟩
      cases r with
      | ok d => exact fun ι' H' v st rh' rv => ke1 ι' H' v st rh' rv
      | error x => exact fun ι' H' cls dd st rh' rx => ke1 ι' H' cls dd st rh' rx
abbrev MFT1 := ME1 → D → VH → R D
/-- a method of n names, the first the object, the second the lambda -/
def mFnT1 (n : Nat) (mb : ME1 → MS) : MFT1 := fun θ d h => match mb θ (some d :: List.replicate (n - 1) none) h with
  | some (.nx, _, h') => some (.ok .non, h')
  | some (.rt d, _, h') => some (.ok d, h')
  | _ => none
/-- o.t(lambda a: body), o of class C -/
def mLamM (t C : Str) (F : MFT1) (ip : Nat) (m mo : ME) : ME := fun ρ h => bnd (mo ρ h) fun d h1 => match clsOf h1 t d with
  | some (false, C') => if C' = C then (match F (fun x h => m (ρ.set ip (some x)) h) d h1 with
    | some (.ok z, h') => some (.ok z, h')
    | _ => none) else none
  | _ => none
/-- what the method makes of the lambda's reading -/
def TTm1 (T : List (Addr × Str)) (X : Cx) (ip : Nat) (m : ME) (F : MFT1) : (XK → V → Hp → VK → Prop) → V → Hp → VK → Prop := fun tl vo H Q => ∃ (fx : Fx) (σ0 : L2.St) (ρ : Env) (ι : Adr) (h : VH) (d0 d : D) (h' : VH),
  tl = (fun E v H' Q' => tE (gx T X) ⟨fun cls d _ H' => E cls d H', fx⟩ m (σ0.set ip (some v)) H' Q') ∧ fx.free ip ∧ RS (gx T X) ⟨fun _ _ _ _ => False, fx⟩ ι H ρ σ0 ∧ RH (gx T X) ι h H ∧ RV (gx T X) ι H d0 vo ∧ F (fun x h => m (ρ.set ip (some x)) h) d0 h = some (.ok d, h') ∧ Fin (gx T X) ι H h' d Q
/-- the method, given what a call of the lambda does -/
def GivesToM (k : Nat) (X : Cx) (Ng : List Str) (qg : Str) (sg : Scope) (g : Addr) (cdg : Value) (bg : List Stmt) (a : Str) (q : Str) (TT : (XK → V → Hp → VK → Prop) → V → Hp → VK → Prop) : Prop :=
  ∀ (f c' : Addr) (s : Shared) (H : Hp) (Q : VK) (tl : XK → V → Hp → VK → Prop) (vo : V), Room k (X.A.deeper (envOfC qg sg s.heap.objs.size g cdg)) →
    (∀ (W : WX) (pn : List (Addr × Obj)) (xe : Value → Shared → Prop) (E : XK) (e : Expr) (ta : TA) (p1 p2 : Pos), L2N.Takes ((cxOf C8.CX0 X.prog X.w X.K X.mg X.base Ng qg sg g cdg X.A X.stack s H C8.E0).tr pn xe) W → (∀ cls d σ' H', E cls d H' → W cls d σ' H') →
      PA ((cxOf C8.CX0 X.prog X.w X.K X.mg X.base Ng qg sg g cdg X.A X.stack s H C8.E0).tr pn xe) [e] ta →
      starEach [e] ((cxOf C8.CX0 X.prog X.w X.K X.mg X.base Ng qg sg g cdg X.A X.stack s H C8.E0).tr pn xe).env = (false, eval e ((cxOf C8.CX0 X.prog X.w X.K X.mg X.base Ng qg sg g cdg X.A X.stack s H C8.E0).tr pn xe).env) :: starEach [] ((cxOf C8.CX0 X.prog X.w X.K X.mg X.base Ng qg sg g cdg X.A X.stack s H C8.E0).tr pn xe).env →
      PE ((cxOf C8.CX0 X.prog X.w X.K X.mg X.base Ng qg sg g cdg X.A X.stack s H C8.E0).tr pn xe) (.Call (.Name a p1) [e] [] p2) (fun σZ HZ Q => σZ[1]? = some (some (.ref f)) ∧ ta σZ HZ fun vs H1 => ∃ v, vs = [v] ∧ H1 c' = some (CodeO c' q) ∧ tl E v H1 Q)) →
    H c' = some (CodeO c' q) → TT tl vo H Q →
    ∃ t, PSs (cxOf C8.CX0 X.prog X.w X.K X.mg X.base Ng qg sg g cdg X.A X.stack s H C8.E0).nox bg t ∧ t { nx := fun _ H' => Q .non H', rt := Q } (L2.start Ng [vo, .ref f]) H
section
variable {T : List (Addr × Str)} {X : Cx} {W : WW} {m : ME}
theorem gives_lamM {Ng : List Str} {qg a q : Str} {sg : Scope} {g : Addr} {cdg : Value} {bg : List Stmt} {ip k : Nat} {mb : ME1 → MS} (h0 : 1 < Ng.length)
    (hbody : ∀ (s : Shared) (H : Hp) (θ : ME1) (fx : Fx), Room k (X.A.deeper (envOfC qg sg s.heap.objs.size g cdg)) → (∀ j, j ≠ 1 → fx.free j) → (∀ (E : XK) (pn : List (Addr × Obj)) (xe : Value → Shared → Prop) (e : Expr) (ma : MA) (p1 p2 : Pos), L2N.Takes ((cxOf C8.CX0 X.prog X.w X.K X.mg X.base Ng qg sg g cdg X.A X.stack s H C8.E0).tr pn xe) (fun cls d _ H' => E cls d H') →
        PA ((cxOf C8.CX0 X.prog X.w X.K X.mg X.base Ng qg sg g cdg X.A X.stack s H C8.E0).tr pn xe) [e] (tA (gx T X) ⟨fun cls d _ H' => E cls d H', fx⟩ ma) →
        starEach [e] ((cxOf C8.CX0 X.prog X.w X.K X.mg X.base Ng qg sg g cdg X.A X.stack s H C8.E0).tr pn xe).env = (false, eval e ((cxOf C8.CX0 X.prog X.w X.K X.mg X.base Ng qg sg g cdg X.A X.stack s H C8.E0).tr pn xe).env) :: starEach [] ((cxOf C8.CX0 X.prog X.w X.K X.mg X.base Ng qg sg g cdg X.A X.stack s H C8.E0).tr pn xe).env →
        PE ((cxOf C8.CX0 X.prog X.w X.K X.mg X.base Ng qg sg g cdg X.A X.stack s H C8.E0).tr pn xe) (.Call (.Name a p1) [e] [] p2) (tE (gx T X) ⟨fun cls d _ H' => E cls d H', fx⟩ (mAct θ ma))) →
      PSs (cxOf C8.CX0 X.prog X.w X.K X.mg X.base Ng qg sg g cdg X.A X.stack s H C8.E0).nox bg (tS (gx T X) ⟨fun _ _ _ _ => False, fx⟩ (mb θ))) :
    GivesToM k X Ng qg sg g cdg bg a q (TTm1 T X ip m (mFnT1 Ng.length mb)) := by
  intro f c' s H Q tl vo hr act hc h
  obtain ⟨fx, σ0, ρ, ι, hh, d0, d, h', etl, fr, rs, rh, rv0, ef, fin⟩ := h
  subst etl
  refine ⟨_, hbody s H (fun x h => m (ρ.set ip (some x)) h) (FxT1 (gx T X) fx ρ σ0 f c' q) hr (fun j hj => hj) (fun E pn xe e ma p1 p2 tk ha he => m_act1 fr (act _ pn xe E e _ p1 p2 tk (fun _ _ _ _ z => z) ha he)), ?_⟩
  unfold mFnT1 at ef
  cases e : mb (fun x h => m (ρ.set ip (some x)) h) (some d0 :: List.replicate (Ng.length - 1) none) hh with
  | none => rw [e] at ef; cases ef
  | some z =>
    obtain ⟨o, ρ', h1⟩ := z
    rw [e] at ef
    have rs0 : RS (gx T X) ⟨fun _ _ _ _ => False, FxT1 (gx T X) fx ρ σ0 f c' q⟩ ι H (some d0 :: List.replicate (Ng.length - 1) none) (L2.start Ng [vo, .ref f]) := by
      refine ⟨by simp [L2.start]; omega, fun i d e => ?_, ⟨by simp [L2.start], hc, on_code rh hc, rs⟩⟩
      cases i with
      | zero =>
        simp only [List.getElem?_cons_zero, Option.some.injEq] at e
        subst e
        exact ⟨vo, by simp [L2.start], rv0⟩
      | succ j =>
        rw [List.getElem?_cons_succ, List.getElem?_replicate] at e
        split at e <;> cases e
    refine ⟨ι, _, hh, o, ρ', h1, rs0, rh, e, ?_⟩
    cases o with
    | nx => cases ef; exact fun ι' H' σ' st rs' rh' => fin ι' H' .non st rh' (st_non _ _)
    | rt d => cases ef; exact fun ι' H' v st rh' rv => fin ι' H' v st rh' rv
    | ex x => cases ef
    | bk => cases ef
    | ct => cases ef
/-- the class has the method t at g, of these words -/
structure LMeth (X : Cx) (t C a slf : Str) (g : Addr) (qg : Str) (sg : Scope) (bg : List Stmt) (Ng : List Str) : Prop where
  ex : ∃ Ca pg fd, X.mg C = some (.ref Ca) ∧ SClsK false X.K Ca ∧ Meth X.K Ca t g ∧ FunD X.K t qg pg bg sg [] [] g fd ∧
    (∀ (kV doc pm : Value) (an : Option Addr) (cdv ct : Value) (us : List Value), us.length = [slf, a].length → bindArgs (PySem.W.fnOf t qg pg bg sg .none kV doc pm an cdv ct) ⟨us, []⟩ = pure ([slf, a].zip us))
  sc : FnScope Ng [slf, a] sg
  i1 : Ng[1]? = some a
  va : Vis sg a
/-- the receiver, then the lambda is made, then the call -/
def QLam (T : List (Addr × Str)) (X : Cx) (W : WW) (t : Str) (g : Addr) (ip : Nat) (m : ME) (F : MFT1) (σ : L2.St) (Q : VK) (v : V) (H1 : Hp) : Prop := (∀ pins s1 u, Inv X pins σ H1 s1 → RelV v u →
  (∀ {pl : Sem Bool} {A : Around} {E : Value → Shared → Prop} {Q' : Value × List Value → Shared → Prop}, Q' (.ref g, [u]) s1 → wpAny (model X.prog X.w) A (getMethod u t pl) Q' E s1)) ∧
  Tabs T H1 ∧ ∀ H2, ExtN H1 H2 → Tabs T H2 → TTm1 T X ip m F (fun E v' H' Q' => tE (gx T X) ⟨fun cls d _ H' => E cls d H', W.fx⟩ m (σ.set ip (some v')) H' Q') v H2 Q
theorem imp_lamM {t C a slf qg : Str} {g : Addr} {sg : Scope} {bg : List Stmt} {Ng : List Str} {F : MFT1} {ip : Nat} {mo : ME} (fr : W.fx.free ip) (lm : LMeth X t C a slf g qg sg bg Ng) : ∀ σ H Q, tE (gx T X) W (mLamM t C F ip m mo) σ H Q → tE (gx T X) W mo σ H (QLam T X W t g ip m F σ Q) := by
  rintro σ H Q ⟨ι, ρ, h, r, h', rs, rh, em, ke⟩
  obtain ⟨Ca, pg, fd, mC, cl, me, _, _⟩ := lm.ex
  refine partE rs rh em ke fun ι1 H1 v h1 d st1 rs1 rh1 rv1 e1 ke1 => ?_
  cases q : clsOf h1 t d with
  | none => simp only [q] at e1; cases e1
  | some bC =>
    obtain ⟨b, C'⟩ := bC
    cases b with
    | true => simp only [q] at e1; cases e1
    | false =>
      simp only [q] at e1
      by_cases hC : C' = C
      · subst hC
        rw [if_pos rfl] at e1
        refine ⟨fun pins s1 u I1 ru => fun q3 => getmeth_at I1 rh1 rv1 ru q mC cl me q3, rh1.tab, fun H2 x tb => ?_⟩
        cases q2 : F (fun x h => m (ρ.set ip (some x)) h) d h1 with
        | none => rw [q2] at e1; cases e1
        | some z =>
          obtain ⟨r1, h2⟩ := z
          rw [q2] at e1
          cases r1 with
          | error x => cases e1
          | ok d2 =>
            cases e1
            have st : Stp ι1 H1 (ntb ι1 H1) H2 := extN_stp x
            have rs2 := rs1.step st
            exact ⟨W.fx, σ, ρ, ntb ι1 H1, h1, d, d2, _, rfl, fr, ⟨rs2.len, rs2.at_, rs2.fx⟩, rh1.extN x tb, RV.step st _ _ rv1, q2, fun ι' H' v s' rh' rv => ke1 ι' H' v (st.trans s') rh' rv⟩
      · rw [if_neg hC] at e1; cases e1
theorem m_lamM {t C a b slf qg : Str} {g c P : Addr} {k ip : Nat} {sg : Scope} {bg : List Stmt} {Ng : List Str} {F : MFT1} {o body : Expr} {mo : ME}
    {params : Arguments} {scope : Scope} {lpos apos pos : Pos} {pl : Sem Bool} (fr : W.fx.free ip) (lm : LMeth X t C a slf g qg sg bg Ng)
    (hG : ∀ cdv, GivesToM (k + 1) X Ng qg sg g cdv bg a (X.env.qual ++ "<lambda>") (TTm1 T X ip m F)) (TB : TabB X.base X.mg c P) (hcode : X.env.code = .ref c) (hmT : (P, X.env.qual ++ "<lambda>") ∈ T) (hu : ∀ p ∈ T, p.1 = P → p.2 = X.env.qual ++ "<lambda>") (hr : Room (k + 2) X.A)
    (L : LamS1 X.env.scope scope b) (hNX : X.N.Nodup) (hip : X.N[ip]? = some b) (hdef : defaultsOf params X.env = ([], []))
    (hbind : ∀ (q : Str) (cl : List (Str × Addr)) (pm cv ctv u : Value), bindArgs (PySem.W.kla_fn "<lambda>" q params body scope cl pm cv ctv) ⟨[u], []⟩ = pure [(b, u)])
    (ho : PE X o (tE (gx T X) W mo))
    (hbody : ∀ (A : Around) (outer : List PySem.Env) (s : Shared) (H : Hp) (E : XK) (f c' : Addr), Room k (A.deeper (lamEnv X scope s.heap.objs.size f c')) → PE (lamCx X A outer s H E scope f c') body (tE (gx T X) ⟨fun cls d _ H' => E cls d H', W.fx⟩ m))
    (ht : eval (.Call (.Attribute o t apos) [.Lambda params body scope lpos] [] pos) X.env = (do
      let ov ← eval o X.env
      standAt apos.atName
      let (f, first) ← holding [ov] (getMethod ov t pl)
      callWith pos f first (backTo pos (starEach [.Lambda params body scope lpos] X.env)) (backToKw pos (keywordEach [] X.env))) := by rfl)
    (hd : (a == ("__debug__" : Str)) = false := by decide) (hcd : (a == ("__classdict__" : Str)) = false := by decide) :
    PE X (.Call (.Attribute o t apos) [.Lambda params body scope lpos] [] pos) (tE (gx T X) W (mLamM t C F ip m mo)) := by
  refine ⟨fun pins s σ H Q I h => ?_⟩
  refine PySem.W.methodCall_KW (pl := pl) (thn (ho.run pins s σ H _ I (imp_lamM fr lm σ H Q h)) fun u s1 ⟨v, H1, I1, rv, qq⟩ => ?_) ht
  obtain ⟨gm, hT, h⟩ := qq
  obtain ⟨Ca, pg, fd, mC, cl, me, FD, hb⟩ := lm.ex
  refine gm pins s1 u I1 rv ?_
  have hB := FD.bindsN (ps := [slf, a]) hb
  have kp := me.kp
  obtain ⟨oc, od, dV, kV, doc, pm, an, cdv, ct, osl, rfl, lk, hcg, _, _⟩ := FD.ex
  refine PySem.W.callWith_K (first := [u]) (h₀ := X.base) I1.ok.mod.kin kp ?_ (by rfl) (by rfl)
  show wpAny _ _ (spliced ((false, eval (.Lambda params body scope lpos) X.env) :: backTo pos (starEach [] X.env))) _ _ s1
  refine Calls.spliced_cons (lam_make2 I1 TB hcode hmT hu hT hdef (L.has I1.ok) fun f c' pm' ctv H2 s' I2 eN T1 hf hfn hfr hco => ?_)
  refine Calls.spliced_nil ⟨I2.kIn, ?_⟩
  have rc : codeAny (model X.prog X.w) X.A (.call (.ref g) ⟨[u, .ref f], []⟩) (CR C8.CX0 X.stack X.prog X.w H2 s' Q C8.E0) s' := by
    refine run_ofS (N := Ng) (ps := [slf, a]) (us := [u, .ref f]) (vs := [v, .ref f]) lk hcg lm.sc hr I2.env0 (hB s' [u, .ref f] I2.kIn rfl) (.cons rv (.cons rfl .nil)) rfl fun hr' => ?_
    obtain ⟨t', ht', hq'⟩ := hG cdv f c' s' H2 Q (fun E v' H' Q' => tE (gx T X) ⟨fun cls d _ H' => E cls d H', W.fx⟩ m (σ.set ip (some v')) H' Q') v hr'
      (fun W pn xe E e ta p1 p2 tk hW ha he => pe_act1 (i := 1) I2 L hNX hip hf hfn hfr (fun u => hbind _ _ _ _ _ u) tk hW hr' (fun A outer s H hr2 => hbody A outer s H E f c' hr2) lm.i1 lm.va ha (he := he) (hd := hd) (hcd := hcd)) hco (h H2 eN T1)
    exact ⟨t', ht'.nox, hq'⟩
  show wpAny _ _ (call (.ref g) [u, .ref f]) _ _ _
  refine wpAny_call (codeAny_mono rc fun r s2 hq => ?_)
  cases r with
  | error e => exact (show False from hq).elim
  | ok fl =>
    cases fl with
    | ret u => exact I2.after hq
    | next => exact False.elim hq
    | brk => exact False.elim hq
    | cont => exact False.elim hq
end
end ML
/-! the text M49 -/
/-! M49: with o as x: body, o an instance of an own class; no errors within. -/
namespace ML
open PySem PySem.Spec PyProof.Rows L2
def mWith (C : Str) (Fe Fq : MF) (i : Nat) (mo : ME) (mb : MS) : MS := fun ρ h => match mo ρ h with
  | some (.ok d, h1) => if clsB h1 d = some (false, C) then (match Fe [d] h1 with
    | some (.ok z, h2) => (match mb (ρ.set i (some z)) h2 with
      | some (.nx, ρ3, h3) => (match Fq [d, .non, .non, .non] h3 with
        | some (.ok _, h4) => some (.nx, ρ3, h4)
        | _ => none)
      | some (.rt w, ρ3, h3) => (match Fq [d, .non, .non, .non] h3 with
        | some (.ok _, h4) => some (.rt w, ρ3, h4)
        | _ => none)
      | _ => none)
    | _ => none) else none
  | some (.error x, h1) => some (.ex x, ρ, h1)
  | none => none
section
variable {T : List (Addr × Str)} {X : Cx} {W : WW} {C y : Str} {Fe Fq : MF} {i : Nat} {mo : ME} {mb : MS} {ctx : Expr} {py pos : Pos} {body : List Stmt}
theorem s_with (he : DOk T X "__enter__" C Fe) (hx : DOk T X "__exit__" C Fq) (ho : PE X ctx (tE (gx T X) W mo))
    (hg : ∀ pn xe, PG (X.tr pn xe) (.Name y py) (tG (gx T X) ⟨fun _ _ _ _ => False, W.fx⟩ (gName i)))
    (hb : ∀ (pn : List (Addr × Obj)) (xe : Value → Shared → Prop), PSs (X.tr pn xe) body (tS (gx T X) ⟨fun _ _ _ _ => False, W.fx⟩ mb)) :
    PS X (.With [⟨ctx, some (.Name y py)⟩] body pos) (tS (gx T X) W (mWith C Fe Fq i mo mb)) := by
  refine ⟨fun pins s σ H D' I h => ?_⟩
  obtain ⟨ι, ρ, h, o, ρ', h', rs, rh, em, ks⟩ := h
  obtain ⟨Ca, ge, ke, mC, fe1, fe2, _, _, pe, re⟩ := he.ex
  obtain ⟨Ca2, gx', kx, mC2, fx1, fx2, _, _, px, rx⟩ := hx.ex
  have e3 := mC.symm.trans mC2
  cases e3
  have tk0 : L2N.Takes X (⟨fun _ _ _ _ => False, Fx.no⟩ : WW).w := takes0
  refine PySem.W.kw_execN (thn (ho.run pins s σ H (fun v H1 => ∃ ι1 h1 d, Stp ι H ι1 H1 ∧ RS (gx T X) W ι1 H1 ρ σ ∧ RH (gx T X) ι1 h1 H1 ∧ RV (gx T X) ι1 H1 d v ∧ clsB h1 d = some (false, C) ∧ ∃ z h2, Fe [d] h1 = some (.ok z, h2) ∧
      (match mb (ρ.set i (some z)) h2 with
      | some (.nx, ρ3, h3) => (match Fq [d, .non, .non, .non] h3 with
        | some (.ok _, h4) => some (Out.nx, ρ3, h4)
        | _ => none)
      | some (.rt w, ρ3, h3) => (match Fq [d, .non, .non, .non] h3 with
        | some (.ok _, h4) => some (Out.rt w, ρ3, h4)
        | _ => none)
      | _ => none) = some (o, ρ', h')) I ?_) fun u s1 ⟨v, H1, I1, ru, ι1, h1, d, st1, rs1, rh1, rv1, hc, z, h2, eF, er⟩ => ?_)
  · -- the reading of the object
    unfold mWith at em
    cases q : mo ρ h with
    | none => rw [q] at em; cases em
    | some r =>
      obtain ⟨r, h1⟩ := r
      rw [q] at em
      refine ⟨ι, ρ, h, r, h1, rs, rh, q, ?_⟩
      cases r with
      | error x =>
        cases em
        exact fun ι' H' cls dd st rh' rx => ks ι' H' σ cls dd st (rs.step st) rh' rx
      | ok d =>
        simp only [] at em
        by_cases hc : clsB h1 d = some (false, C)
        · rw [if_pos hc] at em
          cases q2 : Fe [d] h1 with
          | none => rw [q2] at em; cases em
          | some r2 =>
            obtain ⟨r2, h2⟩ := r2
            rw [q2] at em
            cases r2 with
            | error x => cases em
            | ok z => exact fun ι' H' v st rh' rv => ⟨ι', h1, d, st, rs.step st, rh', rv, hc, z, h2, q2, em⟩
        · rw [if_neg hc] at em; cases em
  · obtain ⟨p, ox, od, ev, J⟩ := inst_at I1 rh1 rv1 hc mC
    subst ev
    obtain rfl : u = Value.ref p := ru
    refine PySem.W.kw_core (b := assign (.Name y py) X.env) I1.kIn J fe1 fe2 fx1 fx2 ?_
    -- what follows the body
    have last : ∀ (ι3 : Adr) (H3 : Hp) (h3 : VH) (σ3 : L2.St) (s3 : Shared) (Q : VK) (w : D) (h4 : VH), Inv X pins σ3 H3 s3 → Stp ι1 H1 ι3 H3 → RH (gx T X) ι3 h3 H3 → Fq [d, .non, .non, .non] h3 = some (.ok w, h4) →
        (∀ ι4 H4 v, Stp ι3 H3 ι4 H4 → RH (gx T X) ι4 h4 H4 → Q v H4) → wpAny (model X.prog X.w) X.A (call (.ref gx') [.ref p, .none, .none, .none]) (EP X pins σ3 Q) X.xe s3 := fun ι3 H3 h3 σ3 s3 Q w h4 I3 st3 rh3 eX k =>
      wpAny_call (run_prm (W := ⟨fun _ _ _ _ => False, Fx.no⟩) (us := [.ref p, .none, .none, .none]) (vs := [.ref p, .non, .non, .non]) px (rx.mono (by omega)) tk0 I3 (.cons rfl (.cons rfl (.cons rfl (.cons rfl .nil))))
        ⟨ι3, h3, [d, .non, .non, .non], .ok w, h4, rh3, .cons (RV.step st3 _ _ rv1) (.cons (st_non _ _) (.cons (st_non _ _) (.cons (st_non _ _) .nil))), eX, fun ι4 H4 v st4 rh4 rv4 => k ι4 H4 v st4 rh4⟩)
    refine thn (wpAny_call (run_prm (W := ⟨fun _ _ _ _ => False, Fx.no⟩) (us := [.ref p]) (vs := [.ref p]) (Q := fun v H2 => ∃ ι2, Stp ι1 H1 ι2 H2 ∧ RH (gx T X) ι2 h2 H2 ∧ RV (gx T X) ι2 H2 z v) pe (re.mono (by omega)) tk0 I1 (.cons rfl .nil)
      ⟨ι1, h1, [d], .ok z, h2, rh1, .cons rv1 .nil, eF, fun ι2 H2 v st2 rh2 rv2 => ⟨ι2, st2, rh2, rv2⟩⟩)) fun u2 s2 ⟨v2, H2, I2, ru2, ι2, st2, rh2, rv2⟩ => ?_
    have rs2 : RS (gx T X) ⟨fun _ _ _ _ => False, W.fx⟩ ι2 H2 ρ σ := let r := rs1.step st2; ⟨r.len, r.at_, r.fx⟩
    refine wpAny_mono ((hg (X.pn ++ pins) (fun _ _ => False)).run [] s2 σ H2 v2 u2 (fun σ3 H3 => ∃ ι3, Stp ι2 H2 ι3 H3 ∧ RS (gx T X) ⟨fun _ _ _ _ => False, W.fx⟩ ι3 H3 (ρ.set i (some z)) σ3 ∧ RH (gx T X) ι3 h2 H3) (I2.toTry _) ru2 ⟨ι2, ρ, h2, z, _, _, rs2, rh2, rv2, rfl, fun ι3 H3 σ3 st3 rs3 rh3 => ⟨ι3, st3, rs3, rh3⟩⟩) (fun _ s3 ⟨σ3, H3, I3, ι3, st3, rs3, rh3⟩ => ?_) fun _ _ z => z.elim
    cases qb : mb (ρ.set i (some z)) h2 with
    | none => rw [qb] at er; cases er
    | some r =>
      obtain ⟨o3, ρ4, h4⟩ := r
      rw [qb] at er
      have go : ∀ (w : D) (h5 : VH), Fq [d, .non, .non, .non] h4 = some (.ok w, h5) → (∀ (o' : Out), o' = o3 → (o3 = .nx ∨ ∃ w', o3 = .rt w') → KS (gx T X) W ι H D' ρ4 h5 o') → (o3 = .nx ∨ ∃ w', o3 = .rt w') →
          wpAny (model X.prog X.w) X.A (execs body X.env) (fun f s₄ => wpAny (model X.prog X.w) X.A (call (.ref gx') [.ref p, .none, .none, .none]) (fun _ s₅ => SP X pins D' f s₅) X.xe s₄) (fun _ _ => False) s3 := fun w h5 eX kk two => by
        have body := (hb (X.pn ++ pins) (fun _ _ => False)).run [] s3 σ3 H3
          { nx := fun σ4 H4 => o3 = .nx ∧ ∃ ι4, Stp ι3 H3 ι4 H4 ∧ RS (gx T X) ⟨fun _ _ _ _ => False, W.fx⟩ ι4 H4 ρ4 σ4 ∧ RH (gx T X) ι4 h4 H4, rt := fun v H4 => ∃ w', o3 = .rt w' ∧ ∃ ι4, Stp ι3 H3 ι4 H4 ∧ RH (gx T X) ι4 h4 H4 ∧ RV (gx T X) ι4 H4 w' v } I3
          ⟨ι3, ρ.set i (some z), h2, o3, ρ4, h4, rs3, rh3, qb, by
            rcases two with q | ⟨w', q⟩
            · subst q; exact fun ι' H' σ' st rs' rh' => ⟨rfl, ι', st, rs', rh'⟩
            · subst q; exact fun ι' H' v st rh' rv => ⟨w', rfl, ι', st, rh', rv⟩⟩
        refine wpAny_mono body (fun f s4 hs => ?_) fun _ _ z => z
        cases f with
        | next =>
          obtain ⟨σ4, H4, I4, e3, ι4, st4, rs4, rh4⟩ := hs
          have I4 := I4.ofTry I1.ok
          refine thn (last ι4 H4 h4 σ4 s4 (fun _ H5 => ∃ ι5, Stp ι4 H4 ι5 H5 ∧ RH (gx T X) ι5 h5 H5) w h5 I4 ((st2.trans st3).trans st4) rh4 eX fun ι5 H5 v st5 rh5 => ⟨ι5, st5, rh5⟩) fun u5 s5 ⟨v5, H5, I5, _, ι5, st5, rh5⟩ => ?_
          have k := kk .nx e3.symm (.inl e3)
          have r5 := rs4.step st5
          exact ⟨σ4, H5, I5, k ι5 H5 σ4 (((st1.trans (st2.trans st3)).trans st4).trans st5) ⟨r5.len, r5.at_, r5.fx⟩ rh5⟩
        | ret u4 =>
          obtain ⟨v4, σ4, H4, I4, ru4, w', e3, ι4, st4, rh4, rv4⟩ := hs
          have I4 := I4.ofTry I1.ok
          refine thn (last ι4 H4 h4 σ4 s4 (fun _ H5 => ∃ ι5, Stp ι4 H4 ι5 H5 ∧ RH (gx T X) ι5 h5 H5) w h5 I4 ((st2.trans st3).trans st4) rh4 eX fun ι5 H5 v st5 rh5 => ⟨ι5, st5, rh5⟩) fun u5 s5 ⟨v5, H5, I5, _, ι5, st5, rh5⟩ => ?_
          have k := kk (.rt w') e3.symm (.inr ⟨w', e3⟩)
          exact ⟨v4, σ4, H5, I5, ru4, k ι5 H5 v4 (((st1.trans (st2.trans st3)).trans st4).trans st5) rh5 (RV.step st5 _ _ rv4)⟩
        | brk => obtain ⟨_, _, _, q⟩ := hs; exact q.elim
        | cont => obtain ⟨_, _, _, q⟩ := hs; exact q.elim
      cases o3 with
      | nx =>
        simp only [] at er
        cases qx : Fq [d, .non, .non, .non] h4 with
        | none => rw [qx] at er; cases er
        | some r5 =>
          obtain ⟨r5, h5⟩ := r5
          rw [qx] at er
          cases r5 with
          | error x => cases er
          | ok w =>
            cases er
            exact go w _ qx (fun o' e _ => by subst e; exact ks) (.inl rfl)
      | rt w' =>
        simp only [] at er
        cases qx : Fq [d, .non, .non, .non] h4 with
        | none => rw [qx] at er; cases er
        | some r5 =>
          obtain ⟨r5, h5⟩ := r5
          rw [qx] at er
          cases r5 with
          | error x => cases er
          | ok w =>
            cases er
            exact go w _ qx (fun o' e _ => by subst e; exact ks) (.inr ⟨w', rfl⟩)
      | bk => cases er
      | ct => cases er
      | ex x => cases er
end
end ML
/-! the text M50 -/
/-! M50: x != y where the class has its own == alone. -/
namespace OwY
open PySem PySem.Spec PyProof.Rows
section
variable {prog : Program} {w : World} {A : Around} {E : Value → Shared → Prop} {s : Shared} {K : PySem.W.Frag} {x y C f : Addr} {ox oy : Obj} {od od' : Option Obj}
theorem neEntry {Q : Fin → Shared → Prop} (hu : A.units < cLine) (X : K.In s.heap) (I : PySem.W.InstAt s.heap x ox C od) (hs : PySem.W.findIn K (.ref C) "__eq__" = some (some (.ref f))) (hf : PySem.W.isFn K (.ref f) = true)
    (h : wpAny (model prog w) A (call (.ref f) [.ref x, .ref y]) (fun v s' => ∃ b, v = .bool b ∧ Q (.done (.ret (.bool (!b)))) s') E s) : wpAny (model prog w) A (Builtin.«object.__ne__» ⟨[.ref x, .ref y], []⟩) Q E s := by
  unfold Builtin.«object.__ne__»
  have go : wpAny (model prog w) A (callSpecialIfBound? (.ref x) (Str.ofString "__eq__") [.ref y]) (fun r s' => ∃ b, r = some (.bool b) ∧ Q (.done (.ret (.bool (!b)))) s') E s :=
    PySem.W.ifBound_K X I hs hf (wpAny_mono h (fun v s' ⟨b, e, q⟩ => ⟨b, by rw [e], q⟩) fun _ _ z => z)
  repeat (first | with_reducible refine wpAny_cRoomFor hu ?_ | (refine wpAny_bind (m := callSpecialIfBound? (.ref x) (Str.ofString "__eq__") [.ref y]) (wpAny_mono go (fun r s' z => ?_) fun _ _ z => z)) | wp_step)
  obtain ⟨b, e, q⟩ := z
  subst e
  exact wpAny_bind (wpAny_truthy_bool (wpAny_pure q))
theorem tryNe {Q : Option Value → Shared → Prop} (hu : A.units + 1 < cLine) (X : K.In s.heap) (I : PySem.W.InstAt s.heap x ox C od) (hm : PySem.W.mroIn K C (.type "object") = some true) (hn : PySem.W.findIn K (.ref C) "__ne__" = some (some (.builtin "object.__ne__"))) (hs : PySem.W.findIn K (.ref C) "__eq__" = some (some (.ref f))) (hf : PySem.W.isFn K (.ref f) = true)
    (h : wpAny (model prog w) A.in1 (call (.ref f) [.ref x, .ref y]) (fun v s' => ∃ b, v = .bool b ∧ Q (some (.bool (!b))) s') E s) : wpAny (model prog w) A (tryCompare (.ref x) "__ne__" (.ref y)) Q E s := by
  unfold tryCompare
  have go : wpAny (model prog w) A (callSpecialIfBound? (.ref x) (Str.ofString "__ne__") [.ref y]) (fun r s' => ∃ b, r = some (.bool (!b)) ∧ Q (some (.bool (!b))) s') E s := by
    refine bound_ne X I hn ?_
    refine wpAny_call (codeAny_call_builtin F.cmp_object.ne.plain F.cmpEntry_ne (PySem.W.check_slot F.cmpKind_ne F.cmpSplit_ne (I.type.andThen (PySem.W.looks_mroIn X hm)) (F.cmpArgs_ne _ _) ?_))
    exact neEntry (A := A.in1) hu X I hs hf (wpAny_mono h (fun v s' ⟨b, e, q⟩ => ⟨b, e, b, rfl, q⟩) fun _ _ z => z)
  refine wpAny_bind (wpAny_mono go (fun r s' ⟨b, e, q⟩ => ?_) fun _ _ z => z)
  subst e
  exact wpAny_pure q
theorem richNeOwn {Q : Value → Shared → Prop} (hu : A.units + 1 < cLine) (X : K.In s.heap) (I : PySem.W.InstAt s.heap x ox C od) (J : PySem.W.InstAt s.heap y oy C od') (hm : PySem.W.mroIn K C (.type "object") = some true) (hn : PySem.W.findIn K (.ref C) "__ne__" = some (some (.builtin "object.__ne__"))) (hs : PySem.W.findIn K (.ref C) "__eq__" = some (some (.ref f))) (hf : PySem.W.isFn K (.ref f) = true)
    (h : wpAny (model prog w) A.in1 (call (.ref f) [.ref x, .ref y]) (fun v s' => ∃ b, v = .bool b ∧ Q (.bool (!b)) s') E s) : wpAny (model prog w) A (richCompare .NotEq (.ref x) (.ref y)) Q E s := by
  simp only [richCompare, cmpInfo_NotEq, oneThing_ref]
  refine wpAny_holding (wpAny_bind (wpAny_cRoomFor (by omega) ?_))
  refine wpAny_bind (I.type.here (wpAny_bind (J.type.here ?_)))
  rw [if_neg (by simp)]
  refine wpAny_bind (wpAny_pure ?_)
  simp only [Bool.false_eq_true, if_false, Bool.not_false, if_true]
  refine wpAny_bind (m := tryCompare (.ref x) _ (.ref y)) (tryNe (Q := fun r s' => ∃ b, r = some (.bool (!b)) ∧ Q (.bool (!b)) s') hu X I hm hn hs hf (wpAny_mono h (fun v s' ⟨b, e, q⟩ => ⟨b, e, b, rfl, q⟩) fun _ _ z => z) |> fun g => wpAny_mono g (fun r s' ⟨b, e, q⟩ => ?_) fun _ _ z => z)
  subst e
  exact wpAny_pure q
end
end OwY
namespace ML
open PySem PySem.Spec PyProof.Rows L2 SlX
/-- x != y of two instances of one class with slots, whose == is at g -/
def rOwnNe (C : Addr) (sp : Sp) (E : XK) : R2 := fun x y H Q => ∃ a dx vs b dy ws, x = .ref a ∧ y = .ref b ∧ Slt H a C dx vs ∧ Slt H b C dy ws ∧ sp [x, y] H (fun z H' => ∃ b, z = .bl b ∧ Q (.bl (!b)) H') E
section
variable {T : List (Addr × Str)} {X : Cx} {W : WW}
theorem op_ownNe {CX : CXT} {C g : Addr} {n : Nat} {sp : Sp} {E : XK} {op : CmpOp} (hop : ∀ a b, compareOp op a b = richCompare .NotEq a b) (hm : PySem.W.mroIn X.K C (.type "object") = some true) (hn : PySem.W.findIn X.K (.ref C) "__ne__" = some (some (.builtin "object.__ne__"))) (hs : PySem.W.findIn X.K (.ref C) "__eq__" = some (some (.ref g))) (hf : PySem.W.isFn X.K (.ref g) = true)
    (F : FnR X.prog X.w X.K X.mg X.base CX n g sp) (hr : Room (n + 1) X.A) (hx : Passes CX X E) : OpR X (compareOp op) (rOwnNe C sp E) := by
  intro pins s σ H x y v u Q I rx ry h
  obtain ⟨a, dx, vs, b, dy, ws, rfl, rfl, ha, hb, q⟩ := h
  cases (show v = Value.ref a from rx)
  cases (show u = Value.ref b from ry)
  obtain ⟨sl, od, _, J, _⟩ := slt_inst I ha
  obtain ⟨sl', od', _, J', _⟩ := slt_inst I hb
  rw [hop]
  have hu : X.A.units + 1 < cLine := (Room.in1 hr).units0
  refine OwY.richNeOwn hu I.kIn J J' hm hn hs hf (wpAny_mono (wpAny_call (run_at (us := [.ref a, .ref b]) (ws := [.ref a, .ref b]) F hr.in1 I.env0.in1 hx I (.cons rfl (.cons rfl .nil)) q)) (fun w s' z => ?_) fun _ _ x => x)
  obtain ⟨z', H', I', rz, b', ez, qz⟩ := z
  subst ez
  have ew : w = Value.bool b' := rz
  exact ⟨b', ew, .bl (!b'), H', I', rfl, qz⟩
open Classical in
noncomputable def bOwnNe (C : Str) (F : MF) : B2 := fun x y h => match sltOf h x, sltOf h y with
  | some (C1, _), some (C2, _) => if C1 = C ∧ C2 = C then (match F [x, y] h with
    | some (.ok (.bl b), h') => if h' = h then some (.bl (!b)) else none
    | _ => none) else none
  | _, _ => none
theorem o_ownNe {op : CmpOp} {C : Str} {Ca g : Addr} {k : Nat} {F : MF} (hop : ∀ a b, compareOp op a b = richCompare .NotEq a b) (mC : X.mg C = some (.ref Ca)) (hm : PySem.W.mroIn X.K Ca (.type "object") = some true) (hn : PySem.W.findIn X.K (.ref Ca) "__ne__" = some (some (.builtin "object.__ne__"))) (hs : PySem.W.findIn X.K (.ref Ca) "__eq__" = some (some (.ref g)) ∧ PySem.W.isFn X.K (.ref g) = true)
    (pr : Prm X.prog X.w (gx T X) X.base k g F) (hr : Room (k + 1) X.A) : Op2 T X (compareOp op) (bOwnNe C F) := by
  refine ⟨_, op_ownNe (C := Ca) (E := fun _ _ _ => False) hop hm hn hs.1 hs.2 pr hr (L2N.passes_call takes0 fun _ _ _ _ z => z), fun ι H h x y v w z Q rh rv rw_ e fin => ?_⟩
  unfold bOwnNe at e
  cases q1 : sltOf h x with
  | none => rw [q1] at e; cases e
  | some p1 =>
  obtain ⟨C1, xs⟩ := p1
  cases q2 : sltOf h y with
  | none => rw [q1, q2] at e; cases e
  | some p2 =>
  obtain ⟨C2, ys⟩ := p2
  rw [q1, q2] at e
  simp only [] at e
  by_cases hc : C1 = C ∧ C2 = C
  · rw [if_pos hc] at e
    obtain ⟨c1, c2⟩ := hc
    subst c1 c2
    cases q3 : F [x, y] h with
    | none => rw [q3] at e; cases e
    | some p3 =>
      obtain ⟨r3, h3⟩ := p3
      rw [q3] at e
      cases r3 with
      | error _ => cases e
      | ok z3 =>
        cases z3 <;> first | (cases e; done) | skip
        rename_i b3
        simp only [] at e
        split at e
        · rename_i hh
          subst hh
          cases e
          obtain ⟨p, Ca1, dx, vs, ev, m1, h1, rl⟩ := slt_at rh rv q1
          obtain ⟨p', Ca2, dx', vs', ev', m2, h1', rl'⟩ := slt_at rh rw_ q2
          have m1' : X.mg _ = some (.ref Ca1) := m1
          have m2' : X.mg _ = some (.ref Ca2) := m2
          rw [mC] at m1' m2'
          cases m1'
          cases m2'
          subst ev ev'
          refine ⟨p, dx, _, p', dx', _, rfl, rfl, h1, h1', ι, h3, [x, y], .ok (.bl b3), h3, rh, .cons rv (.cons rw_ .nil), q3, fun ι' H' v st rh' rv' => ?_⟩
          have ev : v = .bl b3 := by simpa only [RV] using rv'
          exact ⟨b3, ev, fin ι' H' (.bl (!b3)) st rh' (by simp only [RV])⟩
        · cases e
  · rw [if_neg hc] at e; cases e
end
end ML
/-! the text M51 -/
/-! M51: str(o) by the own def, count, three names at once. -/
namespace ML
open PySem PySem.Spec PyProof.Rows L2
section
variable {T : List (Addr × Str)} {X : Cx} {l : MSel}
theorem h_str (ml : DOks T X "__str__" l) : CalH T X (.type "str") (fDun l okStr) := ⟨_, fun pins s σ H xs us Q I r ⟨v, ι, h, d, F, z, h', ev, rh, rv, q, q2, hk, fin⟩ => by
  subst ev
  obtain ⟨u, eu, ru⟩ := vals_one r
  subst eu
  obtain ⟨p, ox, od, Ca, g, k, ep, J, f1, f2, f3, f4, pr, hr⟩ := dun_at ml I rh rv q
  subst ep
  obtain rfl : u = Value.ref p := ru
  have hr2 : Room k X.A.in1.in1 := (show Room (k + 1) X.A.in1 from Room.in1 hr).in1
  cases z <;> first | (cases hk; done) | skip
  rename_i y
  have fin' : Fin (gx T X) ι H h' (.str y) (fun v H1 => v = .str y ∧ Q v H1) := fun ι' H' v st rh' rv' => ⟨by simp only [RV] at rv'; exact rv', fin ι' H' v st rh' rv'⟩
  refine PySem.W.kso_call hr2.units0 I.kIn J f1 f2 (wpAny_mono (dun_run (E := X.xe) pr hr2 I.env0.in1.in1 I rh rv q2 fin') (fun w s' hz => ?_) fun _ _ x => x)
  obtain ⟨zv, H', I', rz, ez, qz⟩ := hz
  subst ez
  obtain ⟨t, ew⟩ := (show ∃ t, w = Value.str y t from rz)
  subst ew
  exact ⟨.str y, H', I', ⟨t, rfl⟩, qz⟩, sem_dun⟩
/-- l.count(x) of data -/
def rCntD (X : Cx) : V → List V → Hp → VK → Prop := fun x xs H Q => ∃ p vs v ds d, x = .ref p ∧ xs = [v] ∧ SqL X.K H p vs ∧ DpAll X.K H vs ds ∧ Dp X.K H v d ∧ PyData.plainAll ds = true ∧ d.plain = true ∧ d.depth ≤ 60 ∧ Q (.int ((ds.countP fun y => PyData.eqv y d : Nat) : Int)) H
theorem mt_countD (hu : X.A.units + 64 < cLine) : MtR X "list.count" (rCntD X) := by
  intro pins s σ H x xs v us Q I rx rxs h
  obtain ⟨p, vs, w, ds, d, rfl, rfl, hs, hd, hw, h1, h2, h3, q⟩ := h
  cases rx
  obtain ⟨u, rfl, ru⟩ := rxs.one
  obtain ⟨its, rv, ⟨⟨cls, dd, data, sl⟩, n, ho, hc, hdn, hdt⟩, hlen⟩ := I.list hs
  obtain ⟨as, ra⟩ := Dp.readsAll I ds vs its hd rv
  obtain ⟨bs, rb⟩ := Dp.reads I d w u hw ru
  refine PySem.SeqAt.count_list_data (vs := its.toArray) ⟨⟨cls, dd, data, sl⟩, ho, hc, n, hdt⟩ (by simpa using ra) rb h1 h2 (by have := Nat.min_le_right (PyData.depthAll ds) d.depth; omega) ?_
  exact ⟨.int _, H, I.tok _, ⟨s.toks, rfl⟩, q⟩
/-- o.m(e) of a list, which gives a value and leaves the objects -/
def mLV (f : D → D → VH → Option D) (o a : ME) : ME := fun ρ h => bnd (o ρ h) fun x h1 => match exl h1 x with
  | some _ => bnd (a ρ h1) fun y h2 => (match f x y h2 with
    | some z => ok z h2
    | none => none)
  | none => none
def cntD (x y : D) (h : VH) : Option D := match exl h x, dat h y with
  | some xs, some d => (match dats h xs with
    | some ds => if PyData.plainAll ds = true ∧ d.plain = true ∧ d.depth ≤ 60 then some (.int ((ds.countP fun y => PyData.eqv y d : Nat) : Int)) else none
    | none => none)
  | _, _ => none
variable {W : WW} {mo me : ME}
theorem imp_lv {f : D → D → VH → Option D} {r : V → List V → Hp → VK → Prop} (hr : ∀ ι H h x y v w z Q, RH (gx T X) ι h H → RV (gx T X) ι H x v → RV (gx T X) ι H y w → f x y h = some z → Fin (gx T X) ι H h z Q → r v [w] H Q) :
    ∀ σ H Q, tE (gx T X) W (mLV f mo me) σ H Q → tBM X.K "list" r (tE (gx T X) W mo) (tA (gx T X) W (maCons me maNil)) σ H Q := by
  rintro σ H Q ⟨ι, ρ, h, rr, h', rs, rh, em, ke⟩
  refine partE rs rh em ke fun ι1 H1 v h1 d st1 rs1 rh1 rv1 e1 ke1 => ?_
  cases q : exl h1 d with
  | none => rw [q] at e1; cases e1
  | some xs =>
    rw [q] at e1
    obtain ⟨p, vs, ev, hp, rl⟩ := exl_at rh1 rv1 q
    subst ev
    refine ⟨.inl ⟨rfl, _, SqL.of hp⟩, ?_⟩
    cases q1 : me ρ h1 with
    | none => rw [q1] at e1; cases e1
    | some z =>
      obtain ⟨r1, h2⟩ := z
      rw [q1] at e1
      cases r1 with
      | error x =>
        have e' : some ((Except.error x : Except Xc D), h2) = some (rr, h') := e1
        cases e'
        exact ⟨ι1, ρ, h1, .error x, _, rs1, rh1, by simp [maCons, q1], fun ι' H' cls dd st a b => ke1 ι' H' cls dd st a b⟩
      | ok y =>
        simp only [bnd_ok] at e1
        refine ⟨ι1, ρ, h1, .ok [y], h2, rs1, rh1, by simp [maCons, q1, maNil, ok], fun ι2 H2 ws st2 rh2 rv2 => ?_⟩
        obtain ⟨w, ew, rw2⟩ := one_v rv2
        subst ew
        cases q2 : f d y h2 with
        | none => rw [q2] at e1; cases e1
        | some z =>
          rw [q2] at e1
          obtain ⟨er, eh⟩ := ok_eq e1
          subst er; subst eh
          exact hr ι2 H2 _ d y _ w z Q rh2 (RV.step st2 _ _ rv1) rw2 q2 fun ι' H' v st rh' rv' => ke1 ι' H' v (st2.trans st) rh' rv'
theorem cnt_ok : ∀ ι H h x y v w z Q, RH (gx T X) ι h H → RV (gx T X) ι H x v → RV (gx T X) ι H y w → cntD x y h = some z → Fin (gx T X) ι H h z Q → rCntD X v [w] H Q := by
  intro ι H h x y v w z Q rh rv rw_ e fin
  unfold cntD at e
  cases q1 : exl h x with
  | none => rw [q1] at e; cases e
  | some xs =>
  cases q2 : dat h y with
  | none => rw [q1, q2] at e; cases e
  | some d =>
    rw [q1, q2] at e
    simp only [] at e
    cases q3 : dats h xs with
    | none => rw [q3] at e; cases e
    | some ds =>
      rw [q3] at e
      simp only [] at e
      by_cases hc : PyData.plainAll ds = true ∧ d.plain = true ∧ d.depth ≤ 60
      · rw [if_pos hc] at e
        cases e
        obtain ⟨p, vs, ev, hp, rl⟩ := exl_at rh rv q1
        exact ⟨p, vs, w, ds, d, ev, rfl, SqL.of hp, dats_ok rh xs vs ds rl q3, dat_ok rh y w d rw_ q2, hc.1, hc.2.1, hc.2.2, fin ι H _ (Stp.refl _ _) rh (by simp only [RV])⟩
      · rw [if_neg hc] at e; cases e
theorem m_count {e o : Expr} {apos cpos : Pos} (hu : X.A.units + 64 < cLine) (ho : PE X o (tE (gx T X) W mo)) (he : PE X e (tE (gx T X) W me)) (hs : starEach [e] X.env = (false, eval e X.env) :: starEach [] X.env := by rfl) (hbase : attributeBase o "count" X.env (eval o X.env) = eval o X.env := by rfl)
    (hfew : ((backTo cpos (starEach [e] X.env)).all (fun x => !x.1) && (backToKw cpos (keywordEach [] X.env)).all (fun x => x.1.isSome) && decide ([e].length + ([] : List Keyword).length + (if ([] : List Keyword).isEmpty then 0 else 1) < 30)) = true := by rfl) (hline : (apos.endLine == cpos.line) = true := by rfl) (hplain : (backTo cpos (starEach [] X.env)).any (·.1) = false := by rfl) :
    PE X (.Call (.Attribute o "count" apos) [e] [] cpos) (tE (gx T X) W (mLV cntD mo me)) :=
  peI (pe_bm PySem.F.plainAttrs_list PySem.F.slot_list_count PySem.F.type_list_count (mt_countD hu) ho (a_cons he a_nil hs) hbase hfew hline hs hplain) (imp_lv cnt_ok)
def mPar3 (i j k : Nat) (m : MA) : MS := fun ρ h => match m ρ h with
  | some (.ok [d, e, f], h1) => some (.nx, ((ρ.set i (some d)).set j (some e)).set k (some f), h1)
  | some (.ok _, _) => none
  | some (.error x, h1) => some (.ex x, ρ, h1)
  | none => none
theorem s_par3 {i j l : Nat} {x y z : Str} {a b c : Expr} {px py pz pt pos : Pos} {kt k2 pt2} {ma : MA} (hc : X.calm = true) (hN : X.N.Nodup) (hi : X.N[i]? = some x) (hj : X.N[j]? = some y) (hl : X.N[l]? = some z) (hij : i ≠ j) (hil : i ≠ l) (hjl : j ≠ l)
    (hx : X.env.scope.names.lookup x = some .local) (hy : X.env.scope.names.lookup y = some .local) (hz : X.env.scope.names.lookup z = some .local) (ha : PA X [a, b, c] (tA (gx T X) W ma))
    (hw : swappedStores [.Tuple [.Name x px, .Name y py, .Name z pz] kt pt] (.Tuple [a, b, c] k2 pt2) X.env = pure (some [x, y, z]))
    (hs : swapsWithSole [.Tuple [.Name x px, .Name y py, .Name z pz] kt pt] (.Tuple [a, b, c] k2 pt2) pos.line X.env = pure false := by rfl) (fr : W.fx.free i := by first | exact True.intro | decide) (fr2 : W.fx.free j := by first | exact True.intro | decide) (fr3 : W.fx.free l := by first | exact True.intro | decide) :
    PS X (.Assign [.Tuple [.Name x px, .Name y py, .Name z pz] kt pt] (.Tuple [a, b, c] k2 pt2) pos) (tS (gx T X) W (mPar3 i j l ma)) := by
  refine psI (ps_par3 hc hN hi hj hl hij hil hjl hx hy hz ha hw hs) fun D' σ H ⟨ι, ρ, h, o, ρ', h', rs, rh, em, ks⟩ => ?_
  unfold mPar3 at em
  cases q : ma ρ h with
  | none => simp only [q] at em; cases em
  | some p =>
    obtain ⟨r, h1⟩ := p
    refine ⟨ι, ρ, h, r, h1, rs, rh, q, ?_⟩
    cases r with
    | error x => simp only [q] at em; cases em; exact fun ι' H' cls dd st rh' rx => ks ι' H' σ cls dd st (rs.step st) rh' rx
    | ok ds =>
      intro ι1 H1 vs st1 rh1 rv1
      match ds, rv1, em with
      | [d, e, f], rv1, em =>
        simp only [q] at em
        cases em
        obtain ⟨v, vr, ev, r1, r2⟩ := rv1.inv_cons
        obtain ⟨w, vr2, ew, r3, r4⟩ := r2.inv_cons
        obtain ⟨w3, vr3, ew3, r5, r6⟩ := r4.inv_cons
        have r7 := r6.inv_nil
        subst r7; subst ew3; subst ew; subst ev
        exact ⟨v, w, w3, rfl, ks ι1 H1 _ st1 ((((rs.step st1).set i r1 fr).set j r3 fr2).set l r5 fr3) rh1⟩
      | [], _, em => simp only [q] at em; cases em
      | [_], _, em => simp only [q] at em; cases em
      | [_, _], _, em => simp only [q] at em; cases em
      | _ :: _ :: _ :: _ :: _, _, em => simp only [q] at em; cases em
end
end ML
/-! the text M52 -/
/-! M52: list(x); facts of == and != of a class, as checks. -/
namespace ML
open PySem PySem.Spec PyProof.Rows L2
section
variable {T : List (Addr × Str)} {X : Cx}
def cList : List D → VH → Option D := fun xs h => match xs with
  | [d] => (match seqOf h d with
    | some (_, ys) => some (.lst ys)
    | none => none)
  | _ => none
theorem c_list : Cal T X (.type "list") cList := ⟨_, call_list_of, fun ι H h xs vs z Q rh rv e fin => by
  match xs, rv, e with
  | [d], rv, e =>
    obtain ⟨v, vr, ev, r1, r2⟩ := rv.inv_cons
    have r3 := r2.inv_nil
    subst r3; subst ev
    unfold cList at e
    simp only [] at e
    cases q : seqOf h d with
    | none => rw [q] at e; cases e
    | some bx =>
      obtain ⟨b, ys⟩ := bx
      rw [q] at e
      cases e
      obtain ⟨p, ws, ev, sq, rl⟩ := seq_at rh r1 q
      subst ev
      refine ⟨p, ws, rfl, ?_, fun l n => fin _ _ _ (rh.newStp n) (rh.new n) (rv_lst rh n rl)⟩
      cases b with
      | true => exact .inl sq
      | false => exact .inr sq⟩
end
section
open PySem.W
variable {K : Frag} {C : Addr}
def qNe (K : Frag) (C : Addr) : Bool := decide (mroIn K C (.type "object") = some true) && decide (findIn K (.ref C) "__ne__" = some (some (.builtin "object.__ne__")))
theorem qNe_ok (h : qNe K C = true) : mroIn K C (.type "object") = some true ∧ findIn K (.ref C) "__ne__" = some (some (.builtin "object.__ne__")) := by
  obtain ⟨h1, h2⟩ := band h
  exact ⟨of_decide_eq_true h1, of_decide_eq_true h2⟩
end
end ML
/-! the text M60 -/
/-! M60: within an except suite: a list walked to its end, a comprehension of a list. -/
namespace ML
open PySem PySem.Spec PyProof.Rows L2 HotX
open L2H (HotC Hot1 RoomH)
/-- the end of a list's walk, while an error is handled -/
theorem list_end_hot {prog : Program} {w : World} {A : Around} {E : Value → Shared → Prop} {s : Shared} {it l x1 : Addr} {i : Nat} {items : Array Value} {Q : Option Value → Shared → Prop} (hot : HotAt A x1 s.heap) (nx : x1 ≠ it)
    (hit : s.heap.IsListIter it l i) (hl : s.heap.IsList l items) (hx : items[i]? = none) (hQ : ∀ h', (∀ b o, b ≠ it → s.heap.get? b = some o → h'.get? b = some o) → Q none { s with heap := h' }) : wpAny (model prog w) A (pyNext (.ref it)) Q E s := by
  obtain ⟨o, ho, hc, hd⟩ := id hit
  obtain ⟨ol, hol, _, nl, hdl⟩ := hl
  obtain ⟨hh, o1, vs1, h1, d1, c1⟩ := hot
  unfold pyNext
  refine wpAny_bind (wpAny_attempt (wpAny_callSpecial?_slot (name := Str.ofString "__next__") hit.typeIs slot_listiter_next (wpAny_call_entry slot_listiter_next hit.typeIs entry_listiter_next ?_ (args_listiter_next _))))
  show wpAny _ _ (field (.ref it) 0 >>= _) _ _ s
  refine wpAny_bind (wpAny_field ho hd (x := .ref l) rfl ?_)
  show wpAny _ _ (if (Value.ref l == Value.none) = true then _ else _) _ _ s
  rw [if_neg (show ¬ ((Value.ref l == Value.none) = true) from Bool.false_ne_true)]
  show wpAny _ _ (field (.ref it) 1 >>= _) _ _ s
  refine wpAny_bind (wpAny_field ho hd (x := .int i 0) rfl ?_)
  show wpAny _ _ (seqItems? (.ref l) >>= _) _ _ s
  refine wpAny_bind (wpAny_seqItems hol hdl ?_)
  simp only [Int.toNat_natCast, hx]
  refine wpAny_bind (wpAny_rule (wpAny_bind (wpAny_setField ho hd (by simp) ?_)))
  show wpAny _ _ (newExc (.type "StopIteration") [] >>= _) _ _ _
  refine wpAny_bind ?_
  simp only [newExc, newTuple]
  refine wpAny_bind (wpAny_newObj_type ?_ (by size_fits))
  refine wpAny_bind (m := firstArgMember _ _) (wpAny_of_eq (a := Value.none) (by first | rfl | (simp only [firstArgMember]; rfl)) ?_)
  refine wpAny_newObj_type ?_ (by size_fits)
  have k1 : ∀ f, (s.heap.update it f).get? x1 = some o1 := fun f => (Heap.get?_update_ne s.heap x1 it f nx).trans h1
  refine raiseNew_hot ⟨hh, o1, vs1, Heap.get?_push_of_some _ (Heap.get?_push_of_some _ (k1 _)), d1, c1⟩ (Nat.ne_of_lt (Heap.lt_size (Heap.get?_push_of_some _ (k1 _)))) (Heap.get?_push_size _ rfl) rfl (by first | (simp; done) | (simp; omega)) ?_
  refine wpAny_bind (wpAny_isInstance (T := "StopIteration") (b := true) ⟨_, Heap.get?_update_self _ (Heap.get?_push_size _ rfl) rfl, rfl⟩ isSubtype_stop ?_)
  refine wpAny_pure (hQ _ fun b o hb e => ?_)
  have k2 : ∀ f, (s.heap.update it f).get? b = some o := fun f => (Heap.get?_update_ne s.heap b it f hb).trans e
  rw [Heap.get?_update_other _ _ (Nat.ne_of_gt (Heap.lt_size (Heap.get?_push_of_some _ (k2 _))))]
  exact Heap.get?_push_of_some _ (Heap.get?_push_of_some _ (k2 _))

/-! ### a list's comprehension -/
section
variable {X : Cx}
/-- a list has come, and its iterator -/
def PILe (X : Cx) (pins : List (Addr × Obj)) (σ : L2.St) (R : It → Hp → Prop) (v : Value) (s : Shared) : Prop :=
  ∃ it a H, v = .ref it ∧ Inv X pins σ H s ∧ s.heap.IsListIter it a 0 ∧ FpOk X pins H it ∧ R (Itl X.K a) H
theorem pil_of {l : Expr} {tl : TE} (hl : PE X l tl) {pins : List (Addr × Obj)} {s : Shared} {σ : L2.St} {H : Hp} {R : It → Hp → Prop} (I : Inv X pins σ H s) (h : iList X.K tl σ H R) :
    wpAny (model X.prog X.w) X.A (eval l X.env) (fun v s1 => wpAny (model X.prog X.w) X.A (pyIter v) (PILe X pins σ R) X.xe s1) X.xe s := by
  refine thn (hl.run pins s σ H _ I h) fun v s1 ⟨x, H1, I1, r1, a, e, ⟨xs, hq⟩, q⟩ => ?_
  subst e
  cases r1
  obtain ⟨its, rv, p, hz⟩ := I1.list hq
  exact wpAny_pyIter_list p.isList ⟨s1.heap.objs.size, a, H1, rfl, I1.kept (t' := s1.toks) fun b o e => Heap.get?_push_of_some _ e, ⟨_, Heap.get?_push_size _ rfl, rfl, rfl⟩, I1.fpOk (Nat.le_refl _) (I1.hok.fresh (Nat.le_refl _)), q⟩
theorem lc_hot {elt tg iter : Expr} {ifs : List Expr} {scope : Scope} {own : List (Str × Nat)} {pos : Pos} {tl : TE} {g : TG} {tt : TT} {te : TE} (hot : HotC X) (hN : X.N.Nodup) (hl : PE X iter tl) (ok : BlkOk X.N X.env.scope scope own)
    (hg : ∀ (s : Shared) (H : Hp) (C : Addr) (cl : List (Str × Addr)) (fp : List Addr), PG (X.blk s H scope (compEnvC scope cl C X.env) fp) tg g)
    (ht : ∀ (s : Shared) (H : Hp) (C : Addr) (cl : List (Str × Addr)) (fp : List Addr), PTs (X.blk s H scope (compEnvC scope cl C X.env) fp) ifs tt)
    (he : ∀ (s : Shared) (H : Hp) (C : Addr) (cl : List (Str × Addr)) (fp : List Addr), PE (X.blk s H scope (compEnvC scope cl C X.env) fp) elt te) (hs : ∀ x, foldedSetIterable iter X.env x = pure x := by intro _; rfl) :
    PE X (.ListComp elt [⟨tg, iter, ifs, 0⟩] scope pos) (tLc (iList X.K tl) g tt te (own.map (·.2))) := by
  refine ⟨fun pins s σ H Q I h => ?_⟩
  obtain ⟨pe, ⟨hh, ve, de, ce⟩, hpe⟩ := hot
  rw [eval_ListComp]
  have hfree : ∀ y ∈ scope.names, y.2 = .free → ∃ c, X.env.cells.lookup y.1 = some c := fun y hy e => (ok.free y hy e).elim (fun k => I.ok.has _ (.inl k)) fun k => I.ok.has _ (.inr k)
  refine wpAny_comprehension_free (use := none) rfl hs (closure_ok hfree) ok.kind (fun y hy e => by rw [ok.uniq y hy, e]) (thn (pil_of hl I h) fun xv s1 hx => thn hx fun itv s2 h2 => ?_)
  obtain ⟨it, a, H2, e, I2, st2, f2, q⟩ := h2
  subst e
  refine wpAny_newObj_type (newEnv_comp ?_) (by show 0 ≤ sizeLine; decide)
  obtain ⟨W, ⟨m0, w0⟩, turn⟩ := q s2.heap.objs.size (I2.hok.fresh (Nat.le_refl _))
  have hD := I2.hok.fresh (Nat.le_refl s2.heap.objs.size)
  have itl : it < s2.heap.objs.size := by obtain ⟨o, e, _⟩ := st2; exact Heap.lt_size e
  generalize hs3 : ({ s2 with heap := s2.heap.push { cls := .type "list", data := .seq ([] : List Value).toArray } } : Shared) = s3
  have h3 : s3.heap = s2.heap.push { cls := .type "list", data := .seq ([] : List Value).toArray } := by rw [← hs3]
  have I3 : Inv X pins σ (upd H2 s2.heap.objs.size (.lst [])) s3 := by
    rw [← hs3]
    exact I2.laid (t' := s2.toks) (fun b o e => Heap.get?_push_of_some _ e) (Nat.le_refl _) ⟨Nat.zero_le _, [], 0, .nil, Heap.get?_push_size _ rfl⟩
  have st3 : s3.heap.IsListIter it a 0 := st2.at fun o e => by rw [h3]; exact Heap.get?_push_of_some _ e
  generalize hHD : upd H2 s2.heap.objs.size (.lst []) = H3 at I3 w0
  have f3 : FpOk X pins H3 it := ⟨by rw [← hHD, upd_ne (Nat.ne_of_lt itl)]; exact f2.1, f2.2⟩
  have I4 := block_start (fp := [it]) I3 ok hN fun b hb => by
    rw [List.mem_singleton.mp hb]
    exact ⟨f3, by rw [h3, Heap.size_push]; exact Nat.lt_succ_of_lt itl⟩
  have pg := hg s3 H3 s3.heap.objs.size (cellsFrom (s3.heap.objs.size + 1) scope.names (cloFrom X.env.cells scope.names [])) [it]
  have pt := ht s3 H3 s3.heap.objs.size (cellsFrom (s3.heap.objs.size + 1) scope.names (cloFrom X.env.cells scope.names [])) [it]
  have pv := he s3 H3 s3.heap.objs.size (cellsFrom (s3.heap.objs.size + 1) scope.names (cloFrom X.env.cells scope.names [])) [it]
  show codeAny _ _ (.compStart (.ListComp elt [⟨tg, iter, ifs, 0⟩] scope pos) 0 (.ref it) (.ref s2.heap.objs.size) (compEnvC scope (cellsFrom (s3.heap.objs.size + 1) scope.names (cloFrom X.env.cells scope.names [])) s3.heap.objs.size X.env)) (compPost (model X.prog X.w) X.A X.xe none (EP X pins σ Q) (.ref s2.heap.objs.size) s3.heap.objs.size) { s3 with heap := pushCells (s3.heap.push { cls := .type "dict", data := .dict #[] }) scope.names }
  generalize hce : compEnvC scope (cellsFrom (s3.heap.objs.size + 1) scope.names (cloFrom X.env.cells scope.names [])) s3.heap.objs.size X.env = cv at I4 pg pt pv ⊢
  have cL : cv.locals = s3.heap.objs.size := by subst hce; rfl
  generalize hs4 : ({ s3 with heap := pushCells (s3.heap.push { cls := .type "dict", data := .dict #[] }) scope.names } : Shared) = s4 at I4 ⊢
  have kp34 : ∀ b o, s3.heap.get? b = some o → s4.heap.get? b = some o := fun b o e => by rw [← hs4]; exact pushCells_keeps _ _ _ _ (Heap.get?_push_of_some _ e)
  have st4 : s4.heap.IsListIter it a 0 := st3.at fun o e => kp34 _ _ e
  -- the handled error stays pinned within the block
  obtain ⟨x1, x2, x3, x4, x5⟩ := I3.pin pe (List.mem_append_left _ hpe)
  have xlt := Heap.lt_size x1
  have I5 := I4.pins_of (pins' := [pe]) fun p hp => by
    rw [List.mem_singleton.mp hp]
    refine ⟨kp34 _ _ x1, x2, ?_, fun z => ?_, x5⟩
    · show pe.1 ≠ cv.locals
      rw [cL]
      exact Nat.ne_of_lt xlt
    · exact (List.mem_cons.mp (I3.stkSub _ z)).elim x3 x4
  have hotAt : ∀ {σ' : L2.St} {H' : Hp} {s' : Shared}, Inv (X.blk s3 H3 scope cv [it]) [pe] σ' H' s' → HotAt X.A pe.1 s'.heap := fun J => ⟨hh, pe.2, ve, (J.pin pe (by simp)).1, de, ce⟩
  have npi : pe.1 ≠ it := f3.2.2.2.2.2 pe (List.mem_append_left _ hpe)
  have stat : ∀ {σ' : L2.St} {H' : Hp} {s' : Shared}, Inv (X.blk s3 H3 scope cv [it]) [pe] σ' H' s' → H' it = none → FpOk (X.blk s3 H3 scope cv [it]) [pe] H' it := fun {σ' H' s'} J hn =>
    ⟨hn, (J.ok.exf it (by simp)).1, J.ok.exfs it (by simp), .inl (by simp), fun x c e => (J.ok.exf it (by simp)).2 x c e, fun p hp => by
      rw [List.mem_singleton.mp hp]
      exact npi⟩
  have loop : codeAny (model X.prog X.w) X.A (.compLoop (.ListComp elt [⟨tg, iter, ifs, 0⟩] scope pos) 0 (.ref it) (.ref s2.heap.objs.size) cv) (compPost (model X.prog X.w) X.A X.xe none (EP X pins σ Q) (.ref s2.heap.objs.size) s3.heap.objs.size) s4 := by
    refine compLoop_any (fun n s' => ∃ i H', Inv (X.blk s3 H3 scope cv [it]) [pe] (wipe σ (own.map (·.2))) H' s' ∧ s'.heap.IsListIter it a i ∧ H' it = none ∧ W i n H') ?_ m0 ⟨0, H3, I5, st4, f3.1, w0⟩
    rintro n s5 ⟨i, H5, J5, st5, n5, w5⟩
    obtain ⟨f0, f1, f1', f3', f4', f5'⟩ := stat J5 n5
    rcases turn i n H5 w5 with ⟨⟨xs, hq, hx⟩, qq⟩ | ⟨⟨xs, x, hq, hx⟩, Nx, hNx, step⟩
    · obtain ⟨its, rv, pl, hz⟩ := J5.list hq
      have hlen := rv.length
      refine list_end_hot (hotAt J5) npi st5 pl.isList (by simp; omega) fun h' eb => ?_
      have J6 : Inv (X.blk s3 H3 scope cv [it]) [pe] (wipe σ (own.map (·.2))) H5 { s5 with heap := h' } := J5.turned (t' := s5.toks) (fun b o hb e => eb b o hb e) f0 f1 f3' f4' f5'
      have I7 : Inv X pins σ H5 { s5 with heap := h' } := I3.call' (ch := [it]) J6.os J6.base J6.hok J6.bare fun b hb => by
        rw [List.mem_singleton.mp hb]
        exact ⟨f3.2.2.2.1, f3.2.1, f3.2.2.2.2.1, f3.2.2.2.2.2⟩
      have nC : H5 s3.heap.objs.size = none := by rw [← cL]; exact J6.free
      obtain ⟨m, hn, _⟩ := J6.loc
      have hn : h'.Ns cv.locals m := hn
      rw [cL] at hn
      obtain ⟨g0, g1, g2, g3, g4, g5⟩ := I3.fpOk (Nat.le_refl _) nC
      exact ⟨m, hn, fun h'' sb => ⟨.ref s2.heap.objs.size, H5, I7.turned (t' := s5.toks) (fun b o hb e => (sb.2 b hb).trans e) g0 g1 g3 g4 g5, rfl, qq⟩⟩
    · obtain ⟨its, rv, pl, hz⟩ := J5.list hq
      obtain ⟨u, hu, ru⟩ := rv.get hx
      refine wpAny_pyNext_list_item st5 pl.isList (x := u) (by simpa using hu) fun h' st' sb => ?_
      have J6 : Inv (X.blk s3 H3 scope cv [it]) [pe] (wipe σ (own.map (·.2))) H5 { s5 with heap := h' } := J5.turned (t' := s5.toks) (fun b o hb e => (sb.2 b hb).trans e) f0 f1 f3' f4' f5'
      obtain ⟨oi, ei, ci, di⟩ := id st'
      refine go_of (s := { s5 with heap := h' }) ei ci di (by decide) ?_
      have J6' : Inv (X.blk s3 H3 scope cv [it]) [pe, (it, oi)] (wipe σ (own.map (·.2))) H5 { s5 with heap := h' } := J6.pins_of fun p hp => by
        rcases List.mem_cons.mp hp with z | z
        · rw [z]; exact J6.pin pe (by simp)
        · rw [List.mem_singleton.mp z]
          exact ⟨ei, n5, f1, f1', fun v y => by rw [di] at y; cases y⟩
      refine thnF (pg.run _ _ _ H5 x u _ J6' ru (step x H5 ⟨rfl, fun ys hy => by rw [J5.list_inj hy hq]; exact hx⟩)) fun _ s8 ⟨σ8, H8, J8, hw8, q8⟩ => ?_
      refine thnF (pt.run _ s8 σ8 H8 _ J8 q8) fun b s9 ⟨H9, J9, q9⟩ => ?_
      have fin : ∀ {s' : Shared} {H' : Hp}, Inv (X.blk s3 H3 scope cv [it]) [pe, (it, oi)] σ8 H' s' → Nx H' → ∃ m, m < n ∧ ∃ i H', Inv (X.blk s3 H3 scope cv [it]) [pe] (wipe σ (own.map (·.2))) H' s' ∧ s'.heap.IsListIter it a i ∧ H' it = none ∧ W i m H' := fun {s' H'} J' nx => by
        obtain ⟨m', hm, w'⟩ := hNx H' nx
        obtain ⟨y1, y2, _⟩ := J'.pin (it, oi) (by simp)
        refine ⟨m', hm, i + 1, H', (J'.pins_of (pins' := [pe]) fun p hp => J'.pin p (by rw [List.mem_singleton.mp hp]; simp)).weak (by rw [← hw8, wipe_length]) (fun j v e => ?_), ⟨oi, y1, ci, di⟩, y2, w'⟩
        rw [← hw8] at e
        exact (wipe_some e).1
      cases b with
      | false =>
        simp only [Bool.false_eq_true, if_false] at q9 ⊢
        exact fin J9 q9
      | true =>
        simp only [if_true] at q9 ⊢
        refine thnF (pv.run _ s9 σ8 H9 _ J9 q9) fun z s10 ⟨yv, H10, J10, r10, acc, hD10, hz10, nx⟩ => ?_
        exact app_ok (X := X.blk s3 H3 scope cv [it]) J10 hD10 hz10 r10 fun s11 J11 => fin J11 nx
  exact codeAny_compStart_list loop (wpAny_pyIter_listiter st4 loop)
end
end ML
/-! the text M61 -/
/-! M61: what a def promises while an error is handled; repr there; comprehensions of lists there. -/
namespace ML
open PySem PySem.Spec PyProof.Rows L2 HotX
open L2H (HotC Hot1 RoomH PinOk FnH fn_ofH cxH)
def PrmH (P : Program) (w : World) (c : Gx) (base : Heap) (k : Nat) (f : Addr) (F : MF) : Prop :=
  ∀ (A : Around) (outer : List PySem.Env) (s : Shared) (H : Hp) (us : List Value) (vs : List V) (Q : VK) (E : XK) (p : Addr × Obj), RoomH k A → Hot1 A p → PinOk outer H s p → Env0 P w c.K c.mg base A outer s H → Vals vs us → spM c F vs H Q E →
    codeAny (model P w) A (.call (.ref f) ⟨us, []⟩) (CR (L2N.CX P w) outer P w H s Q E) s
/-- the context of its body -/
abbrev hotCx (P : Program) (w : World) (c : Gx) (base : Heap) (N : List Str) (qual : Str) (scope : Scope) (f : Addr) (cd : Value) (A : Around) (outer : List PySem.Env) (s : Shared) (H : Hp) (E : XK) (p : Addr × Obj) : Cx := cxH (L2N.CX P w) P w c.K c.mg base N qual scope f cd A outer s H E p
theorem hu64H {k : Nat} {A : Around} (r : RoomH k A) : A.units + 64 < cLine := by have := r.un; omega
section
variable {P : Program} {w : World} {c : Gx} {base : Heap} {k : Nat} {f : Addr} {x qual : Str} {params : Arguments} {body : List Stmt} {scope : Scope} {fd : FuncData} {N ps : List Str} {m : MS} {F : MF}
theorem PrmH.mono {j : Nat} (p : PrmH P w c base j f F) (h : j ≤ k) : PrmH P w c base k f F := fun A outer s H us vs Q E q hr => p A outer s H us vs Q E q (hr.mono h)
theorem prmh_def (F : FunD c.K x qual params body scope [] [] f fd) (S : FnScope N ps scope)
    (hb : ∀ (kV doc pm : Value) (an : Option Addr) (cdv ct : Value) (us : List Value), us.length = ps.length → bindArgs (PySem.W.fnOf x qual params body scope .none kV doc pm an cdv ct) ⟨us, []⟩ = pure (ps.zip us))
    (hbody : ∀ (cdv : Value) (A : Around) (outer : List PySem.Env) (s : Shared) (H : Hp) (E : XK) (p : Addr × Obj), Hot1 A p → RoomH k (A.deeper (envOfC qual scope s.heap.objs.size f cdv)) →
      PSs (hotCx P w c base N qual scope f cdv A outer s H E p) body (tS c (WD E) m)) :
    PrmH P w c base (k + 1) f (mFn ps.length N.length m) := by
  have hB := F.bindsN (ps := ps) hb
  obtain ⟨oc, od, dV, kV, doc, pm, an, cdv, ct, osl, rfl, lk, hcd, _, _⟩ := F.ex
  have G : FnH P w c.K c.mg base (L2N.CX P w) (k + 1) f (PySem.W.fnOf x qual params body scope dV kV doc pm an cdv ct) ps (spM c (mFn ps.length N.length m)) := by
    refine fn_ofH lk hcd S (fun vs H Q E ⟨ι, h, ds, r, h', rh, rv, e, k⟩ => ?_) fun A outer s H vs Q E p hot hr hs => ⟨_, hbody cdv A outer s H E p hot hr, ?_⟩
    · unfold mFn at e
      by_cases hl : ds.length = ps.length
      · rw [rv.len, hl]
      · rw [if_neg hl] at e; cases e
    · obtain ⟨ι, h, ds, r, h', rh, rv, e, kf⟩ := hs
      unfold mFn at e
      by_cases hl : ds.length = ps.length
      · rw [if_pos hl] at e
        cases q : m (startD N.length ds) h with
        | none => rw [q] at e; cases e
        | some z =>
          obtain ⟨o, ρ', h1⟩ := z
          rw [q] at e
          refine ⟨ι, _, h, o, ρ', h1, rs_start rv, rh, q, ?_⟩
          cases o with
          | nx => cases e; exact fun ι' H' σ' st rs' rh' => kf ι' H' .non st rh' (st_non _ _)
          | rt d => cases e; exact fun ι' H' v st rh' rv' => kf ι' H' v st rh' rv'
          | ex x => cases e; exact fun ι' H' σ' cls dd st rs' rh' rx => kf ι' H' cls dd st rh' rx
          | bk => cases e
          | ct => cases e
      · rw [if_neg hl] at e; cases e
  intro A outer s H us vs Q E p hr hot hpin e0 r h
  have hl : us.length = ps.length := by rw [← r.length]; exact G.len _ _ _ _ h
  have b := hB s us (e0.mod.kin.keeps fun b o e => (e0.bs b o e).1) (by rw [List.append_nil]; exact hl)
  rw [List.append_nil] at b
  exact G.run A outer s H ⟨us, []⟩ us vs Q E p hr hot hpin e0 b r h
theorem takes_hot {cd : Value} {A : Around} {outer : List PySem.Env} {s : Shared} {H : Hp} {E : XK} {p : Addr × Obj} : L2N.Takes (hotCx P w c base N qual scope f cd A outer s H E p) (WD E).w := L2N.takes_of rfl rfl rfl rfl
theorem hot_hot {cd : Value} {A : Around} {outer : List PySem.Env} {s : Shared} {H : Hp} {E : XK} {p : Addr × Obj} (h : Hot1 A p) : HotC (hotCx P w c base N qual scope f cd A outer s H E p) := ⟨p, ⟨h.1, h.2⟩, List.mem_singleton.mpr rfl⟩
theorem hot_suite {X : Cx} {a : Addr} {oe : Obj} {cls : Value} {d : Option Addr} {pn : List (Addr × Obj)} (hz : L2N.Zn cls d oe) (hf : ∃ vs, oe.data = .fields vs) : HotC (X.suite a ((a, oe) :: pn)) := by
  obtain ⟨vs, e⟩ := hf
  exact ⟨(a, oe), ⟨rfl, vs, e, hz.2.2 vs e⟩, List.mem_cons_self⟩
end
theorem roomH_in1 {k : Nat} {A : Around} (r : RoomH (k + 1) A) : RoomH k A.in1 := ⟨by have := r.dp; first | (show A.depth + 3 * k + 5 < _; omega) | (show A.depth + 1 + 3 * k + 5 < _; omega), by have := r.un; first | (show A.units + 1 + 16 * k + 200 < _; omega) | (show A.units + 16 * k + 200 < _; omega)⟩
theorem roomH_tup {k : Nat} {A : Around} (r : RoomH (k + 1) A) (args : Args) : RoomH k (A.under (.builtin "tuple.__repr__" args)) := by
  have hd : (A.under (.builtin "tuple.__repr__" args)).depth ≤ A.depth + 1 := by
    first | exact Nat.le_refl _ | exact Nat.le_succ _ | simp [Around.under, Code.weight, Code.isCreation, Code.isGuard, Code.isCaller, Code.frames, Code.isFrame, guardIds]
  exact ⟨by have := r.dp; omega, by have := r.un; rw [units_under_tuple_repr]; omega⟩
/-! ### own defs of a class, there -/
structure DOkH (T : List (Addr × Str)) (X : Cx) (m : Str) (C : Str) (F : MF) : Prop where
  ex : ∃ Ca g k, X.mg C = some (.ref Ca) ∧ PySem.W.findIn X.K (.ref Ca) m = some (some (.ref g)) ∧ PySem.W.isFn X.K (.ref g) = true ∧ PySem.W.fnIn X.K g = true ∧ PySem.W.noSeq X.K Ca = true ∧ PrmH X.prog X.w (gx T X) X.base k g F ∧ RoomH (k + 2) X.A
inductive DOksH (T : List (Addr × Str)) (X : Cx) (m : Str) : MSel → Prop
  | nil : DOksH T X m []
  | cons {b C F r} (h : DOkH T X m C F) (t : DOksH T X m r) : DOksH T X m ((b, C, F) :: r)
section
variable {T : List (Addr × Str)} {X : Cx} {m : Str} {l : MSel} {F : MF}
theorem DOksH.pick {b : Bool} {C : Str} : ∀ {l : MSel}, DOksH T X m l → pick b C l = some F → DOkH T X m C F
  | _, .nil, e => by cases e
  | _, .cons (b := b') (C := C') (F := F') h t, e => by
    unfold ML.pick at e
    by_cases hc : b' = b ∧ C' = C
    · rw [if_pos hc] at e
      cases e
      rw [← hc.2]
      exact h
    · rw [if_neg hc] at e
      exact t.pick e
theorem dunH_at {pins : List (Addr × Obj)} {σ : L2.St} {H : Hp} {s : Shared} {ι : Adr} {h : VH} {x : D} {v : V} (ml : DOksH T X m l) (I : Inv X pins σ H s) (rh : RH (gx T X) ι h H) (rv : RV (gx T X) ι H x v) (e : dunF l h x = some F) :
    ∃ p ox od Ca g k, v = .ref p ∧ PySem.W.InstAt s.heap p ox Ca od ∧ PySem.W.findIn X.K (.ref Ca) m = some (some (.ref g)) ∧ PySem.W.isFn X.K (.ref g) = true ∧ PrmH X.prog X.w (gx T X) X.base k g F ∧ RoomH (k + 2) X.A := by
  unfold dunF at e
  cases q : clsB h x with
  | none => rw [q] at e; cases e
  | some bC =>
    obtain ⟨b, C⟩ := bC
    rw [q] at e
    obtain ⟨Ca, g, k, m1, f1, f2, _, _, pr, hr⟩ := (ml.pick e).ex
    obtain ⟨p, ox, od, ev, J⟩ := inst_at I rh rv q m1
    exact ⟨p, ox, od, Ca, g, k, ev, J, f1, f2, pr, hr⟩
theorem dunH_run {A : Around} {pins : List (Addr × Obj)} {σ : L2.St} {H : Hp} {s : Shared} {ι : Adr} {h h' : VH} {d z : D} {p g : Addr} {k : Nat} {E : Value → Shared → Prop} {Q : VK} (pr : PrmH X.prog X.w (gx T X) X.base k g F) (hr : RoomH k A) (hc : HotC X) (eh : A.handled = X.A.handled) (e0 : Env0 X.prog X.w X.K X.mg X.base A X.stack s H) (I : Inv X pins σ H s)
    (rh : RH (gx T X) ι h H) (rv : RV (gx T X) ι H d (.ref p)) (e : F [d] h = some (.ok z, h')) (fin : Fin (gx T X) ι H h' z Q) : wpAny (model X.prog X.w) A (call (.ref g) [.ref p]) (EP X pins σ Q) E s := by
  obtain ⟨q, ⟨h1, h2⟩, hp⟩ := hc
  have P1 := I.pin q (List.mem_append_left _ hp)
  have hpin : PinOk X.stack H s q := ⟨P1.1, P1.2.1, fun hm => (List.mem_cons.mp (I.stkSub q.1 hm)).elim P1.2.2.1 P1.2.2.2.1, P1.2.2.2.2⟩
  refine wpAny_call (codeAny_mono (pr A X.stack s H [.ref p] [.ref p] Q (fun _ _ _ => False) q hr ⟨eh.trans h1, h2⟩ hpin e0 (.cons rfl .nil) ⟨ι, h, [d], .ok z, h', rh, .cons rv .nil, e, fin⟩) fun r s' hq => ?_)
  match r, hq with
  | .error e, hq => obtain ⟨_, _, _, _, _, _, _, _, _, _, _, _, z⟩ := hq; exact z.elim
  | .ok (.ret u), hq => exact I.after hq
theorem h_reprH (hc : HotC X) (hu : X.A.units + 64 < cLine) (ml : DOksH T X "__repr__" l) : CalH T X (.builtin "repr") (fDun l okStr) := ⟨_, fun pins s σ H xs us Q I r ⟨v, ι, h, d, F, z, h', ev, rh, rv, q, q2, hk, fin⟩ => by
  subst ev
  obtain ⟨u, eu, ru⟩ := vals_one r
  subst eu
  obtain ⟨p, ox, od, Ca, g, k, ep, J, f1, f2, pr, hr⟩ := dunH_at ml I rh rv q
  subst ep
  obtain rfl : u = Value.ref p := ru
  obtain ⟨m, hF⟩ := I.fr
  cases z <;> first | (cases hk; done) | skip
  rename_i y
  have fin' : Fin (gx T X) ι H h' (.str y) (fun v H1 => v = .str y ∧ Q v H1) := fun ι' H' v st rh' rv' => ⟨by simp only [RV] at rv'; exact rv', fin ι' H' v st rh' rv'⟩
  refine PySem.W.repr_K (show X.A.units + 1 < cLine by omega) hF I.ok.mod.kin J f1 f2 (wpAny_mono (dunH_run (E := X.xe) pr ((roomH_in1 hr).mono (by omega)) hc rfl I.env0.in1 I rh rv q2 fin') (fun w s' hz => ?_) fun _ _ x => x)
  obtain ⟨zv, H', I', rz, ez, qz⟩ := hz
  subst ez
  obtain ⟨t, ew⟩ := (show ∃ t, w = Value.str y t from rz)
  subst ew
  exact ⟨.str y, H', I', ⟨t, rfl⟩, qz⟩, sem_dun⟩
end
/-! ### comprehensions of lists, there -/
def mLI (m : ME) : MI := fun ρ h => bnd (m ρ h) fun d h1 => match seqOf h1 d with
  | some (true, xs) => ok (xs.length + 1, nxSeq d) h1
  | _ => none
section
variable {T : List (Addr × Str)} {X : Cx} {W : WW}
theorem imp_li {m : ME} {R : It → Hp → Prop} {σ : L2.St} {H : Hp} (q : tI (gx T X) W (mLI m) σ H R) : iList X.K (tE (gx T X) W m) σ H R := by
  obtain ⟨ι, ρ, h, r, h', rs, rh, em, ke⟩ := q
  cases q : m ρ h with
  | none => unfold mLI at em; rw [q] at em; cases em
  | some z =>
    obtain ⟨z, h1⟩ := z
    unfold mLI at em
    rw [q] at em
    refine ⟨ι, ρ, h, z, h1, rs, rh, q, ?_⟩
    cases z with
    | error x => cases em; exact ke
    | ok d =>
      simp only [bnd_ok] at em
      cases q2 : seqOf h1 d with
      | none => rw [q2] at em; cases em
      | some bx =>
        obtain ⟨b, xs⟩ := bx
        rw [q2] at em
        cases b with
        | false => cases em
        | true =>
          obtain ⟨er, eh⟩ := ok_eq em
          subst er; subst eh
          intro ι1 H1 v st1 rh1 rv1
          obtain ⟨p, vs, ev, sq, rl⟩ := seq_at rh1 rv1 q2
          subst ev
          exact ⟨p, rfl, ⟨vs, sq⟩, ke ι1 H1 _ st1 rh1 (steady_seq (b := true) rv1 (fun h2 b' ys e2 => seqOf_kind q2 e2) rfl)⟩
theorem m_lcH {elt tg iter : Expr} {ifs : List Expr} {scope : Scope} {own : List (Str × Nat)} {pos : Pos} {m : ME} {t : Tg} {mt me : ME} (hot : HotC X) (hN : X.N.Nodup) (hi : PE X iter (tE (gx T X) W m)) (ok_ : BlkOk X.N X.env.scope scope own) (hx : ∀ i ∈ t.ix, i ∈ own.map (·.2))
    (hg : ∀ (s : Shared) (H : Hp) (C : Addr) (cl : List (Str × Addr)) (fp : List Addr), PG (X.blk s H scope (compEnvC scope cl C X.env) fp) tg (t.tg X.K))
    (ht : ∀ (s : Shared) (H : Hp) (C : Addr) (cl : List (Str × Addr)) (fp : List Addr), PTs (X.blk s H scope (compEnvC scope cl C X.env) fp) ifs (tT (gx T X) WF mt))
    (he : ∀ (s : Shared) (H : Hp) (C : Addr) (cl : List (Str × Addr)) (fp : List Addr), PE (X.blk s H scope (compEnvC scope cl C X.env) fp) elt (tE (gx T X) WF me)) (hs : ∀ x, foldedSetIterable iter X.env x = pure x := by intro _; rfl) :
    PE X (.ListComp elt [⟨tg, iter, ifs, 0⟩] scope pos) (tE (gx T X) W (mLc (mLI m) t (own.map (·.2)) mt me)) :=
  peI (lc_hot hot hN hi ok_ hg ht he hs) fun σ H Q q => imp_li (imp_lc hx σ H Q q)
end
/-! ### repr({}) -/
section
variable {T : List (Addr × Str)} {X : Cx}
def cRepr0 : List D → VH → Option D := fun xs _ => match xs with
  | [.dic [] []] => some (.str "{}")
  | _ => none
def rRepr0 : List V → Hp → VK → Prop := fun xs H Q => ∃ a, xs = [V.ref a] ∧ Rd H a (.dK []) ∧ Q (.str "{}") H
theorem call_repr0 (hg : X.A.guards = some []) (hu : X.A.units + 64 < cLine) : CallR X (.builtin "repr") rRepr0 := by
  intro pins s σ H xs us Q I r ⟨a, ev, hd, q⟩
  subst ev
  obtain ⟨u, eu, ru⟩ := vals_one r
  subst eu
  obtain rfl : u = Value.ref a := ru
  obtain ⟨hz, hS, vs, kv, dd⟩ := dk_rd I.hok hd
  cases kv
  obtain ⟨o, es, ep, h1, h2, h3, h4, h5, h6⟩ := dd
  have e0 : es.toList = [] := by cases e : es.toList with
    | nil => rfl
    | cons z zs => rw [e] at h5; cases h5
  have rd : Reads s.heap (.ref a) (.dict []) ([a] ++ []) := Reads.dict (as := []) h1 h2.1 h3 (by rw [e0]; exact .nil) (by rw [e0]; exact .nil)
  exact repr_of_reads' rd (by decide) (fun _ z => by
    have z' : sysModules = a := by simpa using z
    rw [z'] at hS
    simp at hS) hg (by show X.A.units + (_ + 1) < _; have : (PyData.dict []).depth ≤ 60 := by decide
                       omega) (fun _ _ e => e) (fun h' u tk k => ⟨.str "{}", H, I.kept (t' := tk) k, ⟨_, rfl⟩, q⟩) (by show _ ≤ sizeLine; rw [sizeLine_eq]; decide)
theorem c_repr0 (hg : X.A.guards = some []) (hu : X.A.units + 64 < cLine) : Cal T X (.builtin "repr") cRepr0 := ⟨_, call_repr0 hg hu, fun ι H h xs vs z Q rh rv e fin => by
  cases xs with
  | nil => cases e
  | cons d ds =>
  cases ds with
  | cons _ _ => cases d <;> simp [cRepr0] at e
  | nil =>
    obtain ⟨v, ev, rv1⟩ := one_v rv
    subst ev
    cases d <;> first | (simp [cRepr0] at e; done) | skip
    rename_i ks ys
    cases ks with
    | cons _ _ => simp [cRepr0] at e
    | nil =>
      cases ys with
      | cons _ _ => simp [cRepr0] at e
      | nil =>
        simp only [cRepr0, Option.some.injEq] at e
        subst e
        simp only [RV] at rv1
        obtain ⟨p, od, ws, ev, rl, l, ho, _⟩ := rv1
        subst ev
        rw [rl.inv_nil] at ho
        exact ⟨p, rfl, .inr ⟨od, ho⟩, fin ι H _ (Stp.refl _ _) rh (st_str _ _)⟩⟩
end
end ML
/-! the text M62 -/
/-! M62: in and not in of texts and flat values; repr of any value that the laws hand to it. -/
namespace ML
open PySem PySem.Spec PyProof.Rows L2 HotX
open L2H (HotC Hot1 RoomH)
section
variable {T : List (Addr × Str)} {X : Cx}
def bNoSign : B2 := fun x y _ => match x, y with
  | .str a, .str z => (match oneSign a with
    | some c => some (.bl (!decide (c ∈ z.cps.toList)))
    | none => none)
  | _, _ => none
theorem o_nosign : Op2 T X (compareOp .NotIn) bNoSign := ⟨_, op_notIn_sign, fun ι H h x y v w z Q rh rv rw_ e fin => by
  cases x <;> first | (cases e; done) | skip
  cases y <;> first | (cases e; done) | skip
  rename_i a b
  simp only [bNoSign] at e
  cases q : oneSign a with
  | none => rw [q] at e; cases e
  | some c =>
    rw [q] at e
    cases e
    simp only [RV] at rv rw_
    subst rv; subst rw_
    exact ⟨c, b, by rw [oneSign_eq q], rfl, fin ι H _ (Stp.refl _ _) rh (st_bl _ _)⟩⟩
def flatOf : D → Option V
  | .non => some .non
  | .bl b => some (.bl b)
  | .int i => some (.int i)
  | .str x => some (.str x)
  | _ => none
def flatsOf : List D → Option (List V)
  | [] => some []
  | d :: ds => (match flatOf d, flatsOf ds with
    | some v, some vs => some (v :: vs)
    | _, _ => none)
theorem flat_rv {c : Gx} {ι : Adr} {H : Hp} {d : D} {v u : V} (rv : RV c ι H d v) (e : flatOf d = some u) : v = u ∧ flatV u = true := by
  cases d <;> first | (cases e; done) | skip
  all_goals (cases e; simp only [RV] at rv; exact ⟨rv, rfl⟩)
theorem flats_rv {c : Gx} {ι : Adr} {H : Hp} : ∀ {ds : List D} {vs us : List V}, RVL c ι H ds vs → flatsOf ds = some us → vs = us ∧ us.all flatV = true
  | [], vs, us, r, e => by cases e; rw [r.inv_nil]; exact ⟨rfl, rfl⟩
  | d :: ds, vs, us, r, e => by
    obtain ⟨v, vr, ev, r1, r2⟩ := r.inv_cons
    subst ev
    simp only [flatsOf] at e
    cases q1 : flatOf d with
    | none => rw [q1] at e; cases e
    | some a =>
      cases q2 : flatsOf ds with
      | none => rw [q1, q2] at e; cases e
      | some as =>
        rw [q1, q2] at e
        cases e
        obtain ⟨e1, f1⟩ := flat_rv r1 q1
        obtain ⟨e2, f2⟩ := flats_rv r2 q2
        rw [e1, e2]
        exact ⟨rfl, by rw [List.all_cons, f1, f2]; rfl⟩
def bInF (neg : Bool) : B2 := fun x y h => match flatOf x, seqOf h y with
  | some v, some (_, ys) => (match flatsOf ys with
    | some vs => some (.bl (if neg then !inV v vs else inV v vs))
    | none => none)
  | _, _ => none
theorem sem_inF {neg : Bool} : Sem2 (gx T X) (rIn X.K neg) (bInF neg) := fun ι H h x y v w z Q rh rv rw_ e fin => by
  unfold bInF at e
  cases q1 : flatOf x with
  | none => rw [q1] at e; cases e
  | some a =>
    cases q2 : seqOf h y with
    | none => rw [q1, q2] at e; cases e
    | some bx =>
      obtain ⟨b, ys⟩ := bx
      rw [q1, q2] at e
      simp only [] at e
      cases q3 : flatsOf ys with
      | none => rw [q3] at e; cases e
      | some as =>
        rw [q3] at e
        cases e
        obtain ⟨e1, f1⟩ := flat_rv rv q1
        obtain ⟨p, vs, ev, sq, rl⟩ := seq_at rh rw_ q2
        obtain ⟨e2, f2⟩ := flats_rv rl q3
        subst e1 e2 ev
        refine ⟨p, _, rfl, ?_, f1, f2, fin ι H _ (Stp.refl _ _) rh (st_bl _ _)⟩
        cases b with
        | true => exact .inl sq
        | false => exact .inr sq
theorem o_inF : Op2 T X (compareOp .In) (bInF false) := ⟨_, op_in_seq, sem_inF⟩
theorem o_ninF : Op2 T X (compareOp .NotIn) (bInF true) := ⟨_, op_notIn_seq, sem_inF⟩
/-! ### one of several readings of a call -/
def liftH (f : List D → VH → Option D) : List D → VH → Option (D × VH) := fun ds h => (f ds h).map fun d => (d, h)
def orH (f g : List D → VH → Option (D × VH)) : List D → VH → Option (D × VH) := fun ds h => match f ds h with
  | some z => some z
  | none => g ds h
theorem calH_lift {u : Value} {f : List D → VH → Option D} (h : Cal T X u f) : CalH T X u (liftH f) := by
  obtain ⟨r, h1, h2⟩ := h
  refine ⟨r, h1, fun ι H h xs vs z h' Q rh rv e fin => ?_⟩
  simp only [liftH, Option.map_eq_some_iff, Prod.mk.injEq] at e
  obtain ⟨d, e1, e2, e3⟩ := e
  subst e2 e3
  exact h2 ι H h xs vs d Q rh rv e1 fin
theorem calH_or {u : Value} {f g : List D → VH → Option (D × VH)} (hf : CalH T X u f) (hg : CalH T X u g) : CalH T X u (orH f g) := by
  obtain ⟨r, f1, f2⟩ := hf
  obtain ⟨r', g1, g2⟩ := hg
  refine ⟨fun xs H Q => r xs H Q ∨ r' xs H Q, fun pins s σ H xs us Q I rv q => q.elim (f1 pins s σ H xs us Q I rv) (g1 pins s σ H xs us Q I rv), fun ι H h xs vs z h' Q rh rv e fin => ?_⟩
  unfold orH at e
  cases q : f xs h with
  | some z' => rw [q] at e; cases e; exact .inl (f2 ι H h xs vs _ _ Q rh rv q fin)
  | none => rw [q] at e; exact .inr (g2 ι H h xs vs _ _ Q rh rv e fin)
variable {l : MSel}
/-- repr((x,)) while an error is handled -/
theorem h_repr1H (hc : HotC X) (hgd : X.A.guards = some []) (hu : X.A.units + 64 < cLine) (ml : DOksH T X "__repr__" l) : CalH T X (.builtin "repr") (fTup1 l) := ⟨rTup1 T X l, fun pins s σ H xs us Q I r ⟨a, v, ι, h, d, F, y, h', ev, sq, rh, rv, q, q2, hk, fin⟩ => by
  subst ev
  obtain ⟨u, eu, ru⟩ := vals_one r
  subst eu
  obtain rfl : u = Value.ref a := ru
  obtain ⟨p, ox, od, Ca, g, k, ep, J, f1, f2, pr, hr⟩ := dunH_at ml I rh rv q
  subst ep
  obtain ⟨its, rr, pl, hz⟩ := I.tuple sq
  obtain ⟨u2, e2, ru2⟩ := vals_one rr
  subst e2
  obtain rfl : u2 = Value.ref p := ru2
  obtain ⟨o, ha, hcl, n, hd⟩ := pl
  have fin' : Fin (gx T X) ι H h' (.str y) (fun v H1 => v = .str y ∧ Q (.str (tupleText [y])) H1) := fun ι' H' v st rh' rv' => ⟨by simp only [RV] at rv'; exact rv', fin ι' H' _ st rh' (st_str _ _)⟩
  refine OwZ.tuple1_own hgd (by omega) I.kIn J f1 f2 ha hcl hd (wpAny_mono (dunH_run (E := X.xe) pr (roomH_tup (roomH_in1 hr) _) hc (by first | rfl | simp [Around.under, Around.in1]) (env0_tup I.env0.in1 _) I rh rv q2 fin') (fun w s' hz => ?_) fun _ _ x => x)
  obtain ⟨zv, H', I', rz, ez, qz⟩ := hz
  subst ez
  obtain ⟨t, ew⟩ := (show ∃ t, w = Value.str y t from rz)
  subst ew
  exact ⟨y, t, rfl, ten_line hk, fun u tk => ⟨.str (tupleText [y]), H', I'.tok _, ⟨u, rfl⟩, qz⟩⟩, sem_tup1⟩
/-- repr of plain data, {}, an own instance, a tuple of one -/
def fRep (l : MSel) : List D → VH → Option (D × VH) := orH (liftH cRepr) (orH (liftH cRepr0) (orH (fDun l okStr) (fTup1 l)))
theorem h_rep (hgd : X.A.guards = some []) (hu : X.A.units + 64 < cLine) (ml : DOks T X "__repr__" l) : CalH T X (.builtin "repr") (fRep l) :=
  calH_or (calH_lift (c_repr hgd hu)) (calH_or (calH_lift (c_repr0 hgd hu)) (calH_or (h_repr hu ml) (h_repr1 hgd hu ml)))
theorem h_repH (hc : HotC X) (hgd : X.A.guards = some []) (hu : X.A.units + 64 < cLine) (ml : DOksH T X "__repr__" l) : CalH T X (.builtin "repr") (fRep l) :=
  calH_or (calH_lift (c_repr hgd hu)) (calH_or (calH_lift (c_repr0 hgd hu)) (calH_or (h_reprH hc hu ml) (h_repr1H hc hgd hu ml)))
end
end ML
/-! the text M63 -/
/-! M63: own errors with a field, defs called by name: from what the head says. -/
namespace ML
open PySem PySem.Spec PyProof.Rows L2
open PySem.W (Frag findIn subIn typeIn keepIn hasDictIn)
theorem xok_of {T : List (Addr × Str)} {X : Cx} {x f g qual : Str} {C fI : Addr} {B nw ini : String} {bm : List Value} {params : Arguments} {scope : Scope} {fd : FuncData} {p1 p2 p3 p4 : Pos} (mC : X.mg x = some (.ref C)) (F : ExcBaseFacts B nw ini bm) (SF : StoreFacts B bm "object.__setattr__" "object") (E : ExK X.K C B nw ini bm f fI)
    (FD : FunD X.K "__init__" qual params [.Assign [.Attribute (.Name "self" p1) f p2] (.Name g p3) p4] scope [] [] fI fd) (S : FnScope ["self", g] ["self", g] scope)
    (hb : ∀ (kV doc pm : Value) (an : Option Addr) (cdv ct : Value) (us : List Value), us.length = ([("self" : Str), g] : List Str).length → bindArgs (PySem.W.fnOf "__init__" qual params [.Assign [.Attribute (.Name "self" p1) f p2] (.Name g p3) p4] scope .none kV doc pm an cdv ct) ⟨us, []⟩ = pure (([("self" : Str), g] : List Str).zip us)) (hr : Room 2 X.A)
    (hg : (g == ("__debug__" : Str)) = false := by decide) (hg2 : (g == ("__classdict__" : Str)) = false := by decide) : XOk T X x f := by
  have hB := FD.bindsN (ps := ["self", g]) hb
  obtain ⟨oc, od, dV, kV, doc, pm, an, cdv, ct, osl, rfl, lk, hcd, _, _⟩ := FD.ex
  exact ⟨C, fI, B, nw, ini, bm, 1, mC, F, E, x_init (k := 0) lk hcd S E SF hg hg2 hB, hr⟩
section
variable {P : Program} {w : World} {c : Gx} {base : Heap} {k np : Nat} {f : Addr} {x qual : Str} {params : Arguments} {body : List Stmt} {scope : Scope} {fd : FuncData} {N ps ks : List Str} {pi : List Nat} {m : MS}
theorem prmk_def (F : FunD c.K x qual params body scope [] [] f fd) (S : FnScope N ps scope)
    (hb : ∀ (kV doc pm : Value) (an : Option Addr) (cdv ct : Value) (us ws : List Value), us.length = np → ws.length = ks.length → bindArgs (PySem.W.fnOf x qual params body scope .none kV doc pm an cdv ct) ⟨us, ks.zip ws⟩ = pure (ps.zip (us ++ ordL pi ws)))
    (hbody : ∀ (cdv : Value) (A : Around) (outer : List PySem.Env) (s : Shared) (H : Hp) (E : XK), Room k (A.deeper (envOfC qual scope s.heap.objs.size f cdv)) →
      PSs (defCx P w c base N qual scope f cdv A outer s H E) body (tS c (WD E) m)) :
    PrmK P w c base (k + 1) f np ks pi (mFn ps.length N.length m) := by
  obtain ⟨oc, od, dV, kV, doc, pm, an, cdv, ct, osl, rfl, lk, hcd, hD, _⟩ := F.ex
  rcases hD with ⟨_, rfl⟩ | ⟨e, _⟩
  · exact prmk_of lk hcd S (fun s us ws h1 h2 => .of_eq (hb kV doc pm an cdv ct us ws h1 h2)) fun A outer s H E hr => hbody cdv A outer s H E hr
  · exact absurd rfl e
end
theorem roomH_suite {j k : Nat} {A : Around} {v : Option Value} (r : Room j A) (h : k ≤ j) : L2H.RoomH k (A.mark v) := ⟨(r.mono h).dp, (r.mono h).un⟩
theorem huS {k : Nat} {A : Around} {v : Option Value} (r : Room k A) : (A.mark v).units + 64 < cLine := by have := hu64 r; exact this
end ML
/-! the text M64 -/
/-! M64: what a def, an expression leaves behind is left out, where objects that were there change. -/
namespace ML
open PySem PySem.Spec PyProof.Rows L2
/-- G tells F without the objects that it leaves -/
def Told2 (F G : MF) : Prop := ∀ ds h r h1, G ds h = some (r, h1) → F ds h = some (r, h1) ∨ (h1.length = h.length ∧ (∀ o ∈ h1, o ∈ h ∨ o.sc h1.length = true) ∧ ∃ r0 g, F ds h = some (r0, h1 ++ g) ∧
  ((∃ k d0 d, r0 = .ok d0 ∧ r = .ok d ∧ frz (h1 ++ g) h1.length k d0 = some d) ∨ ∃ k x ys, r0 = .error x ∧ r = .error { x with xs := ys } ∧ frzs (h1 ++ g) h1.length k x.xs = some ys))
theorem sc_of {c : Gx} {ι : Adr} {H : Hp} {h h1 : VH} (rh : RH c ι h H) (l : h1.length = h.length) (s : ∀ o ∈ h1, o ∈ h ∨ o.sc h1.length = true) : ∀ o ∈ h1, o.sc h1.length = true := fun o ho =>
  (s o ho).elim (fun z => by rw [l]; exact rh.scd o z) id
theorem kf_cut2 {c : Gx} {ι : Adr} {H : Hp} {Q : VK} {E : XK} {h h1 g : VH} {r r0 : Except Xc D} (rh : RH c ι h H) (l : h1.length = h.length) (s : ∀ o ∈ h1, o ∈ h ∨ o.sc h1.length = true) (k : KF c ι H Q E h1 r)
    (q : (∃ k d0 d, r0 = .ok d0 ∧ r = .ok d ∧ frz (h1 ++ g) h1.length k d0 = some d) ∨ ∃ k x ys, r0 = .error x ∧ r = .error { x with xs := ys } ∧ frzs (h1 ++ g) h1.length k x.xs = some ys) : KF c ι H Q E (h1 ++ g) r0 := by
  have sc := sc_of rh l s
  rcases q with ⟨kk, d0, d, e1, e2, e3⟩ | ⟨kk, x, ys, e1, e2, e3⟩
  · subst e1; subst e2
    intro ι' H' v st rh' rv
    exact k (cut ι' h1.length) H' v (st.cut rh (Nat.le_of_eq l.symm)) (rh'.cut sc) (frz_ok rh' kk d0 d v e3 rv)
  · subst e1; subst e2
    intro ι' H' cls dd st rh' rx
    exact k (cut ι' h1.length) H' cls dd (st.cut rh (Nat.le_of_eq l.symm)) (rh'.cut sc) ⟨rx.1, rx.2.imp id fun ⟨a, vs, z1, z2, z3, z4, z5⟩ => ⟨a, vs, z1, z2, z3, frzs_ok rh' kk _ _ vs e3 z4, z5.cut⟩⟩
section
variable {P : Program} {w : World} {c : Gx} {base : Heap} {k : Nat} {f : Addr} {F G : MF}
theorem spM_told2 (t : Told2 F G) {vs : List V} {H : Hp} {Q : VK} {E : XK} (q : spM c G vs H Q E) : spM c F vs H Q E := by
  obtain ⟨ι, h, ds, r, h', rh, rv, e, kf⟩ := q
  rcases t ds h r h' e with z | ⟨l, s, r0, g, z, q⟩
  · exact ⟨ι, h, ds, r, h', rh, rv, z, kf⟩
  · exact ⟨ι, h, ds, r0, h' ++ g, rh, rv, z, kf_cut2 rh l s kf q⟩
theorem Prm.told2 (p : Prm P w c base k f F) (t : Told2 F G) : Prm P w c base k f G := FnR.imp p fun vs H Q E q => spM_told2 t q
theorem PrmG.told2 (p : PrmG P w c base k f F) (t : Told2 F G) : PrmG P w c base k f G := fun A outer s H us vs Q E hr hg e0 r q => p A outer s H us vs Q E hr hg e0 r (spM_told2 t q)
end
open Classical in
/-- F, what it leaves left out -/
noncomputable def gcF (F : MF) : MF := fun ds h => match F ds h with
  | some (.ok d0, h') => if h.length ≤ h'.length ∧ ∀ o ∈ h'.take h.length, o ∈ h ∨ o.sc h.length = true then (match frz h' h.length 400 d0 with
    | some d => some (.ok d, h'.take h.length)
    | none => none) else some (.ok d0, h')
  | some (.error x, h') => if h.length ≤ h'.length ∧ ∀ o ∈ h'.take h.length, o ∈ h ∨ o.sc h.length = true then (match frzs h' h.length 400 x.xs with
    | some ys => some (.error { x with xs := ys }, h'.take h.length)
    | none => none) else some (.error x, h')
  | none => none
theorem told_gc (F : MF) : Told2 F (gcF F) := by
  intro ds h r h1 e
  unfold gcF at e
  cases q : F ds h with
  | none => rw [q] at e; cases e
  | some p =>
    obtain ⟨r0, h'⟩ := p
    rw [q] at e
    cases r0 with
    | ok d0 =>
      simp only [] at e
      split at e
      · rename_i hc
        split at e
        · rename_i d hd
          cases e
          have l : (h'.take h.length).length = h.length := by rw [List.length_take]; omega
          refine .inr ⟨l, by rw [l]; exact hc.2, .ok d0, h'.drop h.length, by rw [List.take_append_drop], .inl ⟨400, d0, d, rfl, rfl, by rw [List.take_append_drop, l]; exact hd⟩⟩
        · cases e
      · exact .inl e
    | error x =>
      simp only [] at e
      split at e
      · rename_i hc
        split at e
        · rename_i d hd
          cases e
          have l : (h'.take h.length).length = h.length := by rw [List.length_take]; omega
          refine .inr ⟨l, by rw [l]; exact hc.2, .error x, h'.drop h.length, by rw [List.take_append_drop], .inr ⟨400, x, d, rfl, rfl, by rw [List.take_append_drop, l]; exact hd⟩⟩
        · cases e
      · exact .inl e
theorem Prm.gc {P : Program} {w : World} {c : Gx} {base : Heap} {k : Nat} {f : Addr} {F : MF} (p : Prm P w c base k f F) : Prm P w c base k f (gcF F) := p.told2 (told_gc F)
theorem PrmG.gc {P : Program} {w : World} {c : Gx} {base : Heap} {k : Nat} {f : Addr} {F : MF} (p : PrmG P w c base k f F) : PrmG P w c base k f (gcF F) := p.told2 (told_gc F)
theorem gc_ok {F : MF} {ds : List D} {h h1 g : VH} {d0 d : D} (e : F ds h = some (.ok d0, h1 ++ g)) (l : h1.length = h.length) (s : ∀ o ∈ h1, o ∈ h ∨ o.sc h.length = true) (z : frz (h1 ++ g) h.length 400 d0 = some d) : gcF F ds h = some (.ok d, h1) := by
  unfold gcF
  rw [e]
  have t : (h1 ++ g).take h.length = h1 := by rw [← l]; simp
  simp only []
  rw [if_pos ⟨by rw [List.length_append]; omega, by rw [t]; exact s⟩, z, t]
/-! ### an expression -/
open Classical in
noncomputable def gcE (m : ME) : ME := fun ρ h => match m ρ h with
  | some (.ok d0, h') => if h.length ≤ h'.length ∧ ∀ o ∈ h'.take h.length, o ∈ h ∨ o.sc h.length = true then (match frz h' h.length 400 d0 with
    | some d => some (.ok d, h'.take h.length)
    | none => none) else some (.ok d0, h')
  | r => r
theorem m_gc {T : List (Addr × Str)} {X : Cx} {W : WW} {e : Expr} {m : ME} (he : PE X e (tE (gx T X) W m)) : PE X e (tE (gx T X) W (gcE m)) := by
  refine peI he fun σ H Q ⟨ι, ρ, h, r, h1, rs, rh, em, ke⟩ => ?_
  unfold gcE at em
  cases q : m ρ h with
  | none => rw [q] at em; cases em
  | some p =>
    obtain ⟨r0, h'⟩ := p
    rw [q] at em
    cases r0 with
    | error x => cases em; exact ⟨ι, ρ, h, _, _, rs, rh, q, ke⟩
    | ok d0 =>
      simp only [] at em
      split at em
      · rename_i hc
        split at em
        · rename_i d hd
          cases em
          refine ⟨ι, ρ, h, .ok d0, h', rs, rh, q, fun ι' H' v st rh' rv => ?_⟩
          have l : (h'.take h.length).length = h.length := by rw [List.length_take]; omega
          have eh : h' = h'.take h.length ++ h'.drop h.length := (List.take_append_drop _ _).symm
          have sc := sc_of rh l (by rw [l]; exact hc.2)
          rw [eh] at rh' hd
          refine ke (cut ι' (h'.take h.length).length) H' v (st.cut rh (Nat.le_of_eq l.symm)) (rh'.cut sc) (frz_ok rh' 400 d0 d v (by rw [l]; exact hd) rv)
        · cases em
      · cases em
        exact ⟨ι, ρ, h, _, _, rs, rh, q, ke⟩
theorem gcE_ok {m : ME} {ρ : Env} {h h1 g : VH} {d0 d : D} (e : m ρ h = some (.ok d0, h1 ++ g)) (l : h1.length = h.length) (s : ∀ o ∈ h1, o ∈ h ∨ o.sc h.length = true) (z : frz (h1 ++ g) h.length 400 d0 = some d) : gcE m ρ h = some (.ok d, h1) := by
  unfold gcE
  rw [e]
  have t : (h1 ++ g).take h.length = h1 := by rw [← l]; simp
  simp only []
  rw [if_pos ⟨by rw [List.length_append]; omega, by rw [t]; exact s⟩, z, t]
/-- nothing was there: nothing stays -/
theorem gcE_nil {m : ME} {ρ : Env} {h' : VH} {d0 d : D} (e : m ρ [] = some (.ok d0, h')) (z : frz h' 0 400 d0 = some d) : gcE m ρ [] = some (.ok d, []) :=
  gcE_ok (h1 := []) (g := h') e rfl (fun o ho => by cases ho) z
end ML
/-! the text M65 -/
/-! printed by base.py -/
namespace ML
open PySem PySem.Spec PyProof.Rows L2
theorem gcd_loop {t : ME} {b : MS} (ht : ∀ (x y : Int) (h : VH), t [some (.int x), some (.int y)] h = some (.ok (.bl (decide (0 < y))), h))
    (hb : ∀ (x y : Int) (h : VH), y ≠ 0 → b [some (.int x), some (.int y)] h = some (.nx, [some (.int y), some (.int (x.fmod y))], h)) :
    ∀ (k n x y : Nat) (h : VH), y < 2 ^ k → 2 * k + 1 < n → mWhile t b n [some (.int x), some (.int y)] h = some (.nx, [some (.int (Nat.gcd x y)), some (.int 0)], h)
  | k, 0, x, y, h, _, hn => by omega
  | k, n + 1, x, y, h, hy, hn => by
    unfold mWhile
    rw [ht]
    by_cases h0 : y = 0
    · subst h0
      simp
    · have d1 : decide ((0 : Int) < (y : Int)) = true := decide_eq_true (by omega)
      rw [d1]
      simp only []
      rw [hb _ _ _ (by omega)]
      simp only []
      rw [show Int.fmod (x : Int) (y : Int) = ((x % y : Nat) : Int) from by rw [Int.fmod_eq_emod_of_nonneg _ (by omega)]; exact (Int.natCast_emod x y).symm]
      cases n with
      | zero => omega
      | succ n =>
        unfold mWhile
        rw [ht]
        by_cases h1 : x % y = 0
        · rw [h1]
          simp only [Int.natCast_zero, Int.lt_irrefl, decide_false]
          rw [show Nat.gcd x y = y from by rw [Nat.gcd_comm, Nat.gcd_rec, h1, Nat.gcd_zero_left]]
        · have d2 : decide ((0 : Int) < ((x % y : Nat) : Int)) = true := decide_eq_true (by omega)
          rw [d2]
          simp only []
          rw [hb _ _ _ (by omega)]
          simp only []
          rw [show Int.fmod (y : Int) ((x % y : Nat) : Int) = ((y % (x % y) : Nat) : Int) from by rw [Int.fmod_eq_emod_of_nonneg _ (by omega)]; exact (Int.natCast_emod y _).symm]
          have hk : k ≠ 0 := by intro z; subst z; simp at hy; omega
          obtain ⟨j, ej⟩ : ∃ j, k = j + 1 := ⟨k - 1, by omega⟩
          subst ej
          have hlt : x % y < y := Nat.mod_lt _ (by omega)
          have := mod_half (x := y) (r := x % y) (by omega) hlt
          rw [gcd_loop ht hb j n (x % y) (y % (x % y)) h (by rw [Nat.pow_succ] at hy; omega) (by omega)]
          rw [show Nat.gcd x y = Nat.gcd (x % y) (y % (x % y)) from by
            rw [Nat.gcd_comm x y, Nat.gcd_rec y x, Nat.gcd_rec (x % y) y]
            exact Nat.gcd_comm _ _]
theorem int_fr {t : Int} {b : Nat} (hb : b ≠ 0) : D.tup [.int (t / (t.natAbs.gcd b : Nat)), .int ((b : Int) / (t.natAbs.gcd b : Nat))] = fr (mkRat t b) := by
  obtain ⟨e1, e2⟩ := mk_parts (t := t) hb
  unfold fr
  rw [e1, e2]
  rfl
theorem gcd_small {a b k : Nat} (hb0 : b ≠ 0) (hb : b < 2 ^ k) (hk : 0 < k) : (Nat.gcd a b).log2 < k :=
  log2_small (Nat.lt_of_le_of_lt (Nat.le_of_dvd (Nat.pos_of_ne_zero hb0) (Nat.gcd_dvd_right a b)) hb) hk
theorem div_ok {i : Int} {g : Nat} {h : VH} (g0 : g ≠ 0) (gl : g.log2 < 9000) : bDiv (.int i) (.int (g : Int)) h = some (.int (i / (g : Int))) :=
  bDiv_int (by omega) (by simpa using gl)
theorem mul_ok {i j : Int} {m n : Nat} {h : VH} (h1 : i.natAbs < 2 ^ m) (h2 : j.natAbs < 2 ^ n) (hm : m + n ≤ 900000) : bMul (.int i) (.int j) h = some (.int (i * j)) := by
  have a := log2_small (lt_pow_mono h1 (Nat.le_succ m)) (Nat.succ_pos m)
  have b := log2_small (lt_pow_mono h2 (Nat.le_succ n)) (Nat.succ_pos n)
  exact bMul_int (by omega)
@[simp] theorem seq_fr {q : Rat} {h : VH} : seqOf h (fr q) = some (false, [.int q.num, .int q.den]) := rfl
@[simp] theorem fr_0 {q : Rat} {h : VH} : bIx (fr q) (.int 0) h = some (.int q.num) := by unfold fr; simp
@[simp] theorem fr_1 {q : Rat} {h : VH} : bIx (fr q) (.int 1) h = some (.int q.den) := by unfold fr; simp
def accQ (a : Rat) (qs : List Rat) : Rat := qs.foldl (· + ·) a
theorem accQ_eq (a : Rat) (qs : List Rat) : accQ a qs = a + sumQ qs := by
  induction qs generalizing a with
  | nil => simp [accQ, sumQ, Rat.add_zero]
  | cons q qs ih => unfold accQ at *; rw [List.foldl_cons, ih, sumQ, Rat.add_assoc]
/-- ways to choose -/
def ch : Nat → Nat → Nat
  | _, 0 => 1
  | 0, _ + 1 => 0
  | n + 1, k + 1 => ch n k + ch n (k + 1)
theorem le5 {n : Nat} (h : n ≤ 5) : n = 0 ∨ n = 1 ∨ n = 2 ∨ n = 3 ∨ n = 4 ∨ n = 5 := by omega
def gcdF (g : Nat) (ns : List Int) : Nat := ns.foldl (fun g n => Nat.gcd g n.natAbs) g
def gcds (ns : List Int) : Nat := gcdF 0 ns
theorem gcdF_dvd (ns : List Int) (g : Nat) : gcdF g ns ∣ g ∧ ∀ n ∈ ns, gcdF g ns ∣ n.natAbs := by
  induction ns generalizing g with
  | nil => exact ⟨Nat.dvd_refl _, fun n hn => by simp at hn⟩
  | cons n ns ih =>
    obtain ⟨h1, h2⟩ := ih (Nat.gcd g n.natAbs)
    refine ⟨Nat.dvd_trans h1 (Nat.gcd_dvd_left _ _), fun m hm => ?_⟩
    rcases List.mem_cons.mp hm with e | e
    · subst e; exact Nat.dvd_trans h1 (Nat.gcd_dvd_right _ _)
    · exact h2 m e
theorem dvd_gcdF (ns : List Int) (g d : Nat) (h0 : d ∣ g) (h : ∀ n ∈ ns, d ∣ n.natAbs) : d ∣ gcdF g ns := by
  induction ns generalizing g with
  | nil => exact h0
  | cons n ns ih => exact ih (Nat.gcd g n.natAbs) (Nat.dvd_gcd h0 (h n (by simp))) fun m hm => h m (by simp [hm])
theorem gcds_dvd {ns : List Int} {n : Int} (h : n ∈ ns) : gcds ns ∣ n.natAbs := (gcdF_dvd ns 0).2 n h
theorem dvd_gcds {ns : List Int} {d : Nat} (h : ∀ n ∈ ns, d ∣ n.natAbs) : d ∣ gcds ns := dvd_gcdF ns 0 d (Nat.dvd_zero d) h
theorem gcds_ne {ns : List Int} {n : Int} (h : n ∈ ns) (hn : n ≠ 0) : gcds ns ≠ 0 := fun z => by
  have := gcds_dvd h
  rw [z] at this
  have := Nat.eq_zero_of_zero_dvd this
  omega
theorem gcds_le {ns : List Int} {n : Int} (h : n ∈ ns) (hn : n ≠ 0) : gcds ns ≤ n.natAbs := Nat.le_of_dvd (by omega) (gcds_dvd h)
/-- divided by the greatest common divisor -/
def plainI (ns : List Int) : List Int := ns.map fun n => n / (gcds ns : Int)
/-- ns are the qs, multiplied, without a common divisor -/
structure Canon (ns : List Int) (qs : List Rat) : Prop where
  prop : ∃ c : Rat, 0 < c ∧ ns.map (fun n : Int => (n : Rat)) = qs.map (fun q => c * q)
  gcd : gcds ns = 1
theorem Canon.len {ns : List Int} {qs : List Rat} (c : Canon ns qs) : ns.length = qs.length := by
  obtain ⟨c, _, e⟩ := c.prop
  simpa using congrArg List.length e
theorem Canon.at {ns : List Int} {qs : List Rat} (c : Canon ns qs) : ∃ c : Rat, 0 < c ∧ ∀ (i : Nat) (n : Int) (q : Rat), ns[i]? = some n → qs[i]? = some q → (n : Rat) = c * q := by
  obtain ⟨c, hc, e⟩ := c.prop
  refine ⟨c, hc, fun i n q h1 h2 => ?_⟩
  have := congrArg (·[i]?) e
  simp only [List.getElem?_map, h1, h2, Option.map_some] at this
  exact Option.some.inj this
theorem gcdF_scale (k : Nat) (ns : List Int) (g : Nat) : gcdF (k * g) (ns.map fun n => (k : Int) * n) = k * gcdF g ns := by
  induction ns generalizing g with
  | nil => rfl
  | cons n ns ih =>
    show gcdF (Nat.gcd (k * g) ((k : Int) * n).natAbs) _ = k * gcdF (Nat.gcd g n.natAbs) ns
    rw [Int.natAbs_mul, Int.natAbs_natCast, Nat.gcd_mul_left]
    exact ih _
theorem gcds_scale (k : Nat) (ns : List Int) : gcds (ns.map fun n => (k : Int) * n) = k * gcds ns := gcdF_scale k ns 0
theorem plainI_mul {ns : List Int} : (plainI ns).map (fun n => (gcds ns : Int) * n) = ns := by
  unfold plainI
  rw [List.map_map]
  conv => rhs; rw [← List.map_id ns]
  refine List.map_congr_left fun n hn => ?_
  exact Int.mul_ediv_cancel' (Int.ofNat_dvd_left.mpr (gcds_dvd hn))
theorem plainI_gcd {ns : List Int} (hne : ∃ n ∈ ns, n ≠ 0) : gcds (plainI ns) = 1 := by
  obtain ⟨n, hn, hz⟩ := hne
  have g0 := gcds_ne hn hz
  have h := gcds_scale (gcds ns) (plainI ns)
  rw [plainI_mul] at h
  exact (Nat.mul_eq_left g0).mp h.symm
theorem cast_pos {n : Nat} (h : n ≠ 0) : (0 : Rat) < ((n : Int) : Rat) := Rat.intCast_pos.mpr (by omega)
theorem rat_div_pos {a b : Rat} (h1 : 0 < a) (h2 : 0 < b) : 0 < a / b := by
  rw [Rat.div_def]; exact Rat.mul_pos h1 (Rat.inv_pos.mpr h2)
theorem num_eq (a : Rat) : (a.num : Rat) = a * ((a.den : Int) : Rat) := by
  have h := Rat.mkRat_self a
  rw [Rat.mkRat_eq_div] at h
  have hd : ((a.den : Int) : Rat) ≠ 0 := Rat.ne_of_gt (cast_pos a.den_nz)
  have h2 : (a.num : Rat) / ((a.den : Int) : Rat) = a := h
  grind
theorem canon_plain {ns : List Int} {qs : List Rat} {L : Rat} (hL : 0 < L) (hne : ∃ n ∈ ns, n ≠ 0) (h : ns.map (fun n : Int => (n : Rat)) = qs.map fun q => L * q) : Canon (plainI ns) qs := by
  refine ⟨?_, plainI_gcd hne⟩
  obtain ⟨n, hn, hz⟩ := hne
  have g0 := gcds_ne hn hz
  have gp := cast_pos g0
  have gn : ((gcds ns : Int) : Rat) ≠ 0 := Rat.ne_of_gt gp
  refine ⟨L / ((gcds ns : Int) : Rat), rat_div_pos hL gp, ?_⟩
  have e : ns.map (fun n : Int => (n : Rat)) = ((plainI ns).map fun n : Int => (n : Rat)).map fun x => ((gcds ns : Int) : Rat) * x := by
    conv => lhs; rw [← plainI_mul (ns := ns)]
    rw [List.map_map, List.map_map]
    refine List.map_congr_left fun n _ => ?_
    exact Rat.intCast_mul _ _
  rw [e] at h
  have h2 := congrArg (List.map fun x => x / ((gcds ns : Int) : Rat)) h
  rw [List.map_map (f := fun x => ((gcds ns : Int) : Rat) * x)] at h2
  have h3 : ((plainI ns).map fun n : Int => (n : Rat)) = ((plainI ns).map fun n : Int => (n : Rat)).map ((fun x => x / ((gcds ns : Int) : Rat)) ∘ fun x => ((gcds ns : Int) : Rat) * x) := by
    conv => lhs; rw [← List.map_id ((plainI ns).map fun n : Int => (n : Rat))]
    refine List.map_congr_left fun x _ => ?_
    show x = ((gcds ns : Int) : Rat) * x / ((gcds ns : Int) : Rat)
    grind
  rw [h3, h2, List.map_map]
  refine List.map_congr_left fun q _ => ?_
  show L * q / ((gcds ns : Int) : Rat) = L / ((gcds ns : Int) : Rat) * q
  grind
/-- what is canonical is one -/
theorem canon_one {ns ms : List Int} {qs ps : List Rat} {r : Rat} (h1 : Canon ns qs) (h2 : Canon ms ps) (hr : 0 < r) (hp : ps = qs.map fun q => r * q) : ns = ms := by
  have l1 := h1.len
  have l2 := h2.len
  obtain ⟨c, hc, e1⟩ := h1.at
  obtain ⟨d, hd, e2⟩ := h2.at
  have cz : c ≠ 0 := Rat.ne_of_gt hc
  -- ms = a * ns, a = d r / c
  have ap : 0 < d * r / c := rat_div_pos (Rat.mul_pos hd hr) hc
  generalize ha : d * r / c = a at ap
  have rel : ∀ (i : Nat) (n m : Int), ns[i]? = some n → ms[i]? = some m → (m : Rat) = a * n := fun i n m hn hm => by
    have hi : i < qs.length := by rw [← l1]; exact (List.getElem?_eq_some_iff.mp hn).1
    have q1 := List.getElem?_eq_getElem hi
    have x1 := e1 i n _ hn q1
    have x2 := e2 i m (r * qs[i]) hm (by rw [hp, List.getElem?_map, q1]; rfl)
    rw [x1, x2, ← ha]
    grind
  have an : 0 < a.num := by
    have h1 := Rat.num_nonneg.mpr (Rat.le_of_lt ap)
    have h2 : a.num ≠ 0 := fun z => Rat.ne_of_gt ap (Rat.num_eq_zero.mp z)
    omega
  have len : ns.length = ms.length := by rw [l1, l2, hp, List.length_map]
  have both : ns.map (fun n => ((a.num.natAbs : Nat) : Int) * n) = ms.map fun m => ((a.den : Nat) : Int) * m := by
    refine List.ext_getElem? fun i => ?_
    rw [List.getElem?_map, List.getElem?_map]
    cases hn : ns[i]? with
    | none =>
      have : ms[i]? = none := by rw [List.getElem?_eq_none_iff] at hn ⊢; omega
      rw [this]; rfl
    | some n =>
      have hi : i < ms.length := by rw [← len]; exact (List.getElem?_eq_some_iff.mp hn).1
      have hm := List.getElem?_eq_getElem hi
      rw [hm]
      have x := rel i n _ hn hm
      simp only [Option.map_some]
      congr 1
      have e3 := num_eq a
      have : ((a.num * n : Int) : Rat) = (((a.den : Int) * ms[i] : Int) : Rat) := by
        rw [Rat.intCast_mul, Rat.intCast_mul, x, e3]
        grind
      have y := Rat.intCast_inj.mp this
      rw [show ((a.num.natAbs : Nat) : Int) = a.num from by omega]
      exact y
  have g := congrArg gcds both
  rw [gcds_scale, gcds_scale, h1.gcd, h2.gcd, Nat.mul_one, Nat.mul_one] at g
  rw [g] at both
  refine List.ext_getElem? fun i => ?_
  have z := congrArg (·[i]?) both
  simp only [List.getElem?_map] at z
  cases hn : ns[i]? with
  | none =>
    rw [hn] at z
    cases hm : ms[i]? with
    | none => rfl
    | some m => rw [hm] at z; simp at z
  | some n =>
    rw [hn] at z
    cases hm : ms[i]? with
    | none => rw [hm] at z; simp at z
    | some m =>
      rw [hm] at z
      simp only [Option.map_some, Option.some.injEq] at z
      have dz : ((a.den : Nat) : Int) ≠ 0 := by have := a.den_nz; omega
      rw [Int.eq_of_mul_eq_mul_left dz z]
def lcmF (b : Nat) (qs : List Rat) : Nat := qs.foldl (fun b q => b * (q.den / Nat.gcd b q.den)) b
theorem lcm_step {b d : Nat} (hb : b ≠ 0) (hd : d ≠ 0) : b ∣ b * (d / Nat.gcd b d) ∧ d ∣ b * (d / Nat.gcd b d) ∧ b * (d / Nat.gcd b d) ≠ 0 := by
  have e : b * (d / Nat.gcd b d) = Nat.lcm b d := by
    rw [Nat.lcm, Nat.mul_div_assoc _ (Nat.gcd_dvd_right b d)]
  rw [e]
  exact ⟨Nat.dvd_lcm_left b d, Nat.dvd_lcm_right b d, Nat.lcm_ne_zero hb hd⟩
theorem lcmF_ok (qs : List Rat) (b : Nat) (hb : b ≠ 0) : b ∣ lcmF b qs ∧ (∀ q ∈ qs, q.den ∣ lcmF b qs) ∧ lcmF b qs ≠ 0 := by
  induction qs generalizing b with
  | nil => exact ⟨Nat.dvd_refl _, fun q hq => by simp at hq, hb⟩
  | cons q qs ih =>
    obtain ⟨h1, h2, h3⟩ := lcm_step hb q.den_nz
    obtain ⟨i1, i2, i3⟩ := ih (b * (q.den / Nat.gcd b q.den)) h3
    refine ⟨Nat.dvd_trans h1 i1, fun p hp => ?_, i3⟩
    rcases List.mem_cons.mp hp with e | e
    · subst e; exact Nat.dvd_trans h2 i1
    · exact i2 p e
theorem lcmF_lt {B : Nat} (qs : List Rat) (b m : Nat) (hb : b < 2 ^ m) (hq : ∀ q ∈ qs, Bd B q) : lcmF b qs < 2 ^ (m + qs.length * B) := by
  induction qs generalizing b m with
  | nil => simpa [lcmF] using hb
  | cons q qs ih =>
    have h1 : b * (q.den / Nat.gcd b q.den) < 2 ^ (m + B) := mul_lt_pow hb (Nat.lt_of_le_of_lt (Nat.div_le_self _ _) (hq q (by simp)).den)
    have := ih (b * (q.den / Nat.gcd b q.den)) (m + B) h1 fun p hp => hq p (by simp [hp])
    rw [show m + (q :: qs).length * B = m + B + qs.length * B from by simp [Nat.add_mul]; omega]
    exact this
theorem lcmF_snoc (qs : List Rat) (q : Rat) (b : Nat) : lcmF b (qs ++ [q]) = lcmF b qs * (q.den / Nat.gcd (lcmF b qs) q.den) := by
  unfold lcmF; rw [List.foldl_append]; rfl
/-- integers over the common bottom -/
def topsI (qs : List Rat) : List Int := qs.map fun q => q.num * ((lcmF 1 qs : Int) / (q.den : Int))
theorem tops_mul {qs : List Rat} : (topsI qs).map (fun n : Int => (n : Rat)) = qs.map fun q => ((lcmF 1 qs : Int) : Rat) * q := by
  unfold topsI
  rw [List.map_map]
  refine List.map_congr_left fun q hq => ?_
  obtain ⟨_, h2, _⟩ := lcmF_ok qs 1 (by omega)
  obtain ⟨k, hk⟩ := h2 q hq
  show ((q.num * ((lcmF 1 qs : Int) / (q.den : Int)) : Int) : Rat) = ((lcmF 1 qs : Int) : Rat) * q
  have dz : (q.den : Int) ≠ 0 := by have := q.den_nz; omega
  have e1 : (lcmF 1 qs : Int) = (q.den : Int) * (k : Int) := by rw [hk, Int.natCast_mul]
  rw [e1, Int.mul_ediv_cancel_left _ dz, Rat.intCast_mul, Rat.intCast_mul, num_eq]
  grind
theorem tops_ne {qs : List Rat} (h : ∃ q ∈ qs, q ≠ 0) : ∃ n ∈ topsI qs, n ≠ 0 := by
  obtain ⟨q, hq, hz⟩ := h
  obtain ⟨_, h2, h3⟩ := lcmF_ok qs 1 (by omega)
  refine ⟨_, List.mem_map_of_mem hq, fun z => ?_⟩
  have dz : (0 : Int) < (q.den : Int) := by have := q.den_nz; omega
  rcases Int.mul_eq_zero.mp z with z | z
  · exact hz (Rat.num_eq_zero.mp z)
  · obtain ⟨k, hk⟩ := h2 q hq
    rw [hk, Int.natCast_mul, Int.mul_ediv_cancel_left _ (by omega)] at z
    have : k = 0 := by omega
    subst this
    omega
theorem tops_bd {B : Nat} {qs : List Rat} (hq : ∀ q ∈ qs, Bd B q) : ∀ n ∈ topsI qs, n.natAbs < 2 ^ (B + (1 + qs.length * B)) := fun n hn => by
  obtain ⟨q, hm, rfl⟩ := List.mem_map.mp hn
  rw [Int.natAbs_mul]
  refine mul_lt_pow (hq q hm).num ?_
  have h1 := lcmF_lt qs 1 1 (by decide) hq
  rw [show ((lcmF 1 qs : Int) / (q.den : Int)) = ((lcmF 1 qs / q.den : Nat) : Int) from rfl, Int.natAbs_natCast]
  exact Nat.lt_of_le_of_lt (Nat.div_le_self _ _) h1
/-- what common gives -/
def canonI (qs : List Rat) : List Int := plainI (topsI qs)
theorem canonI_ok {qs : List Rat} (h : ∃ q ∈ qs, q ≠ 0) : Canon (canonI qs) qs :=
  canon_plain (cast_pos (lcmF_ok qs 1 (by omega)).2.2) (tops_ne h) tops_mul
theorem take_snoc {α : Type} {l : List α} {i : Nat} {x : α} (h : l[i]? = some x) : l.take (i + 1) = l.take i ++ [x] := by
  rw [List.take_succ, h]; rfl
def tupI (ns : List Int) : D := .tup (ns.map .int)
def rowD (ns : List Int) : D := .slt "Row" [tupI ns]
@[simp] theorem seq_tupI {ns : List Int} {h : VH} : seqOf h (tupI ns) = some (false, ns.map .int) := rfl
structure Cnt (ns : List Int) : Prop where
  two : 2 ≤ ns.length
  six : ns.length ≤ 6
  nn : ∀ n ∈ ns, 0 ≤ n
  pos : 0 < ns.sum
  bd : ∀ n ∈ ns, n.natAbs < 2 ^ 800
theorem intsOf_ints : ∀ ns : List Int, intsOf (ns.map D.int) = some ns
  | [] => rfl
  | n :: ns => by simp [intsOf, intsOf_ints ns]
theorem sum_tupI {ns : List Int} {h : VH} : cSum [tupI ns] h = some (.int ns.sum) := by simp [cSum, intsOf_ints]
theorem sum_pos_ne {ns : List Int} (h : 0 < ns.sum) : ∃ n ∈ ns, n ≠ 0 := by
  apply Classical.byContradiction
  intro hn
  have : ∀ l : List Int, (∀ n ∈ l, n = 0) → l.sum = 0 := fun l => by
    induction l with
    | nil => intro _; rfl
    | cons x xs ih => intro hx; rw [List.sum_cons, hx x (by simp), ih fun y hy => hx y (by simp [hy])]; rfl
  have := this ns fun n hm => Classical.byContradiction fun z => hn ⟨n, hm, z⟩
  omega
theorem blsOf_bls : ∀ bs : List Bool, blsOf (bs.map D.bl) = some bs
  | [] => rfl
  | b :: bs => by simp [blsOf, blsOf_bls bs]
theorem forL_enum {g : MG} {b : MS} {h : VH} {ρ : Env} (ds : List D) (hg : ∀ d ∈ ds, ∀ ρ, ∃ ρ1, g d ρ h = some (ρ1, h) ∧ b ρ1 h = some (.nx, ρ1, h)) : ∃ ρ', forL g b ds ρ h = some (.nx, ρ', h) := by
  induction ds generalizing ρ with
  | nil => exact ⟨ρ, rfl⟩
  | cons d ds ih =>
    obtain ⟨ρ1, e1, e2⟩ := hg d (by simp) ρ
    obtain ⟨ρ', e⟩ := ih (ρ := ρ1) fun x hx => hg x (by simp [hx])
    refine ⟨ρ', ?_⟩
    unfold forL
    rw [e1]
    simp only [e2]
    exact e
theorem enumL_mem {xs : List D} {i : Nat} {d : D} (h : d ∈ enumL i xs) : ∃ j x, d = .tup [.int (j : Nat), x] ∧ x ∈ xs ∧ i ≤ j ∧ j < i + xs.length := by
  induction xs generalizing i with
  | nil => simp [enumL] at h
  | cons x xs ih =>
    rcases List.mem_cons.mp h with e | e
    · exact ⟨i, x, e, by simp, Nat.le_refl _, by simp⟩
    · obtain ⟨j, y, e1, e2, e3, e4⟩ := ih e
      exact ⟨j, y, e1, by simp [e2], by omega, by simp; omega⟩
theorem frzs_ints (hh : VH) (n : Nat) : ∀ (ns : List Int) (k : Nat), ns.length < k → frzs hh n k (ns.map .int) = some (ns.map .int)
  | [], k + 1, _ => rfl
  | x :: xs, k + 1, hk => by
    simp only [List.map_cons, frzs]
    rw [frzs_ints hh n xs k (by simp at hk; omega)]
    cases k with
    | zero => simp at hk
    | succ k => rfl
theorem plainI_len {ns : List Int} : (plainI ns).length = ns.length := by simp [plainI]
structure Small (s : List Int) : Prop where
  two : 2 ≤ s.length
  six : s.length ≤ 6
  nn : ∀ n ∈ s, 0 ≤ n
  pos : 0 < s.sum
  bd : ∀ n ∈ s, n.natAbs < 2 ^ 100
theorem Small.cnt {s : List Int} (c : Small s) : Cnt s := ⟨c.two, c.six, c.nn, c.pos, fun n hn => lt_pow_mono (c.bd n hn) (by omega)⟩
theorem Cnt.sum_lt {ns : List Int} (c : Cnt ns) : ns.sum.toNat < 2 ^ 803 := by
  have key : ∀ l : List Int, (∀ n ∈ l, n.natAbs < 2 ^ 800) → l.sum.natAbs ≤ l.length * 2 ^ 800 := fun l => by
    induction l with
    | nil => intro _; simp
    | cons x xs ih =>
      intro hx
      have h1 := hx x (by simp)
      have h2 := ih fun y hy => hx y (by simp [hy])
      have h3 := Int.natAbs_add_le x xs.sum
      rw [List.sum_cons, List.length_cons, Nat.add_mul]
      omega
  have h1 := key ns c.bd
  have h2 : ns.length * 2 ^ 800 ≤ 6 * 2 ^ 800 := Nat.mul_le_mul_right _ c.six
  have h3 : ns.sum.toNat ≤ ns.sum.natAbs := by omega
  have h4 : (6 : Nat) * 2 ^ 800 < 2 ^ 803 := by decide
  omega
def rateQ (ns : List Int) : List Rat := ns.map fun n => mkRat n ns.sum.toNat
@[simp] theorem slot_row {ns : List Int} {h : VH} : selSlot "Row" 0 (rowD ns) h = some (.ok (tupI ns), h) := rfl
@[simp] theorem sprop_row {ns : List Int} {h : VH} {F : MF} : selSProp "Row" F (rowD ns) h = F [rowD ns] h := rfl
theorem rate_bd {ns : List Int} (c : Cnt ns) : ∀ q ∈ rateQ ns, Bd 803 q := fun q hq => by
  obtain ⟨n, hn, rfl⟩ := List.mem_map.mp hq
  exact bd_mk (by have := c.pos; omega) (lt_pow_mono (c.bd n hn) (by omega)) c.sum_lt
def yesL (R : Nat) : Nat → List Rat → List Rat
  | _, [] => []
  | i, q :: qs => q * mkRat (i : Int) R :: yesL R (i + 1) qs
theorem ch_1 {k : Nat} (h : k ≤ 5) : ch k 1 = k := by rcases le5 h with e | e | e | e | e | e <;> subst e <;> rfl
theorem bd_k {i R : Nat} (hi : i ≤ 5) (hR : R ≠ 0) (h5 : R ≤ 5) : Bd 3 (mkRat (i : Int) R) := bd_mk hR (by simp; omega) (by omega)
theorem enum_map {f : D → D} {g : Nat → Rat → Rat} : ∀ (qs : List Rat) (i : Nat), (∀ j q, f (.tup [.int (j : Nat), fr q]) = fr (g j q)) → (enumL i (qs.map fr)).map f = ((qs.zipIdx i).map fun p => g p.2 p.1).map fr
  | [], i, _ => rfl
  | q :: qs, i, h => by
    simp only [List.map_cons, enumL, List.zipIdx_cons, h, enum_map qs (i + 1) h]
theorem yesL_eq (R : Nat) : ∀ (qs : List Rat) (i : Nat), yesL R i qs = (qs.zipIdx i).map fun p => p.1 * mkRat (p.2 : Int) R
  | [], _ => rfl
  | q :: qs, i => by simp only [yesL, List.zipIdx_cons, List.map_cons, yesL_eq R qs (i + 1)]
/-- x.append(y), x an object -/
theorem ev_app {o a : ME} {ρ : Env} {h h1 h2 : VH} {n : Nat} {xs : List D} {y : D} (e1 : o ρ h = some (.ok (.obj n), h1)) (e2 : h1[n]? = some (.lst xs)) (e3 : a ρ h1 = some (.ok y, h2)) (e4 : h2[n]? = some (.lst xs)) (hl : xs.length < 10000000) :
    mExpr (mLM doApp o a) ρ h = some (.nx, ρ, h2.set n (.lst (xs ++ [y]))) := by
  simp only [ev_expr]
  unfold mLM
  rw [e1]
  simp only [bnd_ok, exl, e2]
  rw [e3]
  simp only [bnd_ok, doApp, e4, if_pos hl, ev_ok]
theorem frz_fr (hh : VH) (n k : Nat) (q : Rat) : frz hh n (k + 4) (fr q) = some (fr q) := rfl
theorem frzs_fr (hh : VH) (n : Nat) : ∀ (qs : List Rat) (k : Nat), qs.length + 4 < k → frzs hh n k (qs.map fr) = some (qs.map fr)
  | [], k + 1, _ => rfl
  | q :: qs, k + 1, hk => by
    simp only [List.length_cons] at hk
    simp only [List.map_cons, frzs]
    rw [frzs_fr hh n qs k (by omega)]
    obtain ⟨j, rfl⟩ : ∃ j, k = j + 4 := ⟨k - 4, by omega⟩
    rw [frz_fr]
def behindQ (qs : List Rat) (R y : Nat) : List Rat := (List.range R).map fun k => qs.getD (y + k) 0 * mkRat ((ch 1 y * ch (R - 1) k : Nat) : Int) (ch R (y + k))
theorem ch_pos {n k : Nat} (hn : n ≤ 5) (hk : k ≤ n) : 0 < ch n k ∧ ch n k < 16 := by
  have hk5 : k ≤ 5 := by omega
  rcases le5 hn with e | e | e | e | e | e <;> subst e <;> rcases le5 hk5 with e | e | e | e | e | e <;> subst e <;> first | omega | decide
theorem ch_lt {n k : Nat} (hn : n ≤ 5) (hk : k ≤ 5) : ch n k < 16 := by
  rcases le5 hn with e | e | e | e | e | e <;> subst e <;> rcases le5 hk with e | e | e | e | e | e <;> subst e <;> decide
theorem set_last {h : VH} {a b : O} : (h ++ [a]).set h.length b = h ++ [b] := by simp
theorem get_last {h : VH} {a : O} : (h ++ [a])[h.length]? = some a := by simp
theorem bEqG_dat {g : Bool → Bool} {x y : D} {p q : PyData} {h : VH} (e1 : dat h x = some p) (e2 : dat h y = some q) (s1 : SeqAt.shaped p = true) (s2 : SeqAt.shaped q = true) : bEqG g x y h = some (.bl (g (PyData.eqv p q))) := by
  unfold bEqG
  rw [e1, e2]
  simp only [s1, s2, and_self, if_true]
@[simp] theorem eq_int {a b : Int} {h : VH} : bEq (.int a) (.int b) h = some (.bl (a == b)) := by
  unfold bEq; rw [bEqG_dat (p := .int a) (q := .int b) rfl rfl rfl rfl]; rfl
def frP (q : Rat) : PyData := .tuple [.int q.num, .int q.den]
theorem dat_fr {q : Rat} {h : VH} : dat h (fr q) = some (frP q) := rfl
theorem eq_fr {p q : Rat} {h : VH} : bEq (fr p) (fr q) h = some (.bl (decide (p = q))) := by
  unfold bEq
  rw [bEqG_dat (dat_fr (q := p)) (dat_fr (q := q)) rfl rfl]
  congr 2
  unfold frP
  simp only [PyData.eqv, PyData.eqvAll, Bool.and_true, id_eq]
  by_cases hz : p = q
  · subst hz; simp
  · rw [decide_eq_false hz]
    by_cases h1 : p.num = q.num
    · have h2 : p.den ≠ q.den := fun z => hz (Rat.ext h1 z)
      have : ((p.den : Int) == (q.den : Int)) = false := beq_eq_false_iff_ne.mpr fun z => h2 (Int.ofNat_inj.mp z)
      rw [this, Bool.and_false]
    · have : (p.num == q.num) = false := by simpa using h1
      rw [this, Bool.false_and]
mutual
def D.dep : D → Nat
  | .tup xs => D.deps xs + 1
  | .lst xs => D.deps xs + 1
  | .bls xs => D.deps xs + 1
  | .slt _ xs => D.deps xs + 1
  | .ins _ _ xs => D.deps xs + 1
  | .dic _ xs => D.deps xs + 1
  | _ => 1
def D.deps : List D → Nat
  | [] => 1
  | d :: ds => max d.dep (D.deps ds) + 1
end
mutual
theorem frz_dep (hh : VH) (n : Nat) : ∀ (d : D) (k : Nat), d.sc 0 = true → d.dep ≤ k → frz hh n k d = some d
  | d, 0, _, hk => by cases d <;> simp [D.dep] at hk
  | .non, k + 1, _, _ => rfl
  | .bl _, k + 1, _, _ => rfl
  | .int _, k + 1, _, _ => rfl
  | .str _, k + 1, _, _ => rfl
  | .ty _, k + 1, _, _ => rfl
  | .glo _, k + 1, _, _ => rfl
  | .obj a, k + 1, hs, _ => by simp [D.sc] at hs
  | .tup xs, k + 1, hs, hk => by simp only [D.sc] at hs; simp only [D.dep] at hk; simp only [frz]; rw [frzs_dep hh n xs k hs (by omega)]; rfl
  | .lst xs, k + 1, hs, hk => by simp only [D.sc] at hs; simp only [D.dep] at hk; simp only [frz]; rw [frzs_dep hh n xs k hs (by omega)]; rfl
  | .bls xs, k + 1, hs, hk => by simp only [D.sc] at hs; simp only [D.dep] at hk; simp only [frz]; rw [frzs_dep hh n xs k hs (by omega)]; rfl
  | .slt _ xs, k + 1, hs, hk => by simp only [D.sc] at hs; simp only [D.dep] at hk; simp only [frz]; rw [frzs_dep hh n xs k hs (by omega)]; rfl
  | .ins _ _ xs, k + 1, hs, hk => by simp only [D.sc] at hs; simp only [D.dep] at hk; simp only [frz]; rw [frzs_dep hh n xs k hs (by omega)]; rfl
  | .dic _ xs, k + 1, hs, hk => by simp only [D.sc] at hs; simp only [D.dep] at hk; simp only [frz]; rw [frzs_dep hh n xs k hs (by omega)]; rfl
theorem frzs_dep (hh : VH) (n : Nat) : ∀ (ds : List D) (k : Nat), D.scs 0 ds = true → D.deps ds ≤ k → frzs hh n k ds = some ds
  | [], 0, _, hk => by simp [D.deps] at hk
  | [], k + 1, _, _ => rfl
  | d :: ds, 0, _, hk => by simp [D.deps] at hk
  | d :: ds, k + 1, hs, hk => by
    simp only [D.scs, Bool.and_eq_true] at hs
    simp only [D.deps] at hk
    simp only [frzs]
    rw [frz_dep hh n d k hs.1 (by omega), frzs_dep hh n ds k hs.2 (by omega)]
end
theorem deps_le {b : Nat} : ∀ (ds : List D), (∀ d ∈ ds, d.dep ≤ b) → D.deps ds ≤ b + ds.length + 1
  | [], _ => by simp [D.deps]
  | d :: ds, h => by
    have h1 := h d (by simp)
    have h2 := deps_le ds fun x hx => h x (by simp [hx])
    simp only [D.deps, List.length_cons]
    omega
theorem scs_all {n : Nat} : ∀ (ds : List D), (∀ d ∈ ds, d.sc n = true) → D.scs n ds = true
  | [], _ => rfl
  | d :: ds, h => by simp only [D.scs, Bool.and_eq_true]; exact ⟨h d (by simp), scs_all ds fun x hx => h x (by simp [hx])⟩
theorem tupI_closed {ns : List Int} : (tupI ns).sc 0 = true ∧ (tupI ns).dep ≤ ns.length + 3 := by
  refine ⟨by unfold tupI; simp only [D.sc]; exact scs_all _ fun d hd => by obtain ⟨n, _, rfl⟩ := List.mem_map.mp hd; rfl, ?_⟩
  unfold tupI
  simp only [D.dep]
  have := deps_le (b := 1) (ns.map D.int) fun d hd => by obtain ⟨n, _, rfl⟩ := List.mem_map.mp hd; exact Nat.le_refl _
  simp at this
  omega
theorem rowD_closed {ns : List Int} : (rowD ns).sc 0 = true ∧ (rowD ns).dep ≤ ns.length + 7 := by
  obtain ⟨h1, h2⟩ := tupI_closed (ns := ns)
  refine ⟨by unfold rowD; simp [D.sc, D.scs, h1], ?_⟩
  unfold rowD
  simp only [D.dep, D.deps]
  omega
def tupB (bs : List Bool) : D := .tup (bs.map .bl)
theorem tupB_closed {bs : List Bool} : (tupB bs).sc 0 = true ∧ (tupB bs).dep ≤ bs.length + 3 := by
  refine ⟨by unfold tupB; simp only [D.sc]; exact scs_all _ fun d hd => by obtain ⟨n, _, rfl⟩ := List.mem_map.mp hd; rfl, ?_⟩
  unfold tupB
  simp only [D.dep]
  have := deps_le (b := 1) (bs.map D.bl) fun d hd => by obtain ⟨n, _, rfl⟩ := List.mem_map.mp hd; exact Nat.le_refl _
  simp at this
  omega
def lookD (left truths ahead : D) : D := .ins "Look" ["left", "truths", "ahead"] [left, truths, ahead]
theorem lookD_closed {a b c : D} {k : Nat} (hk : 1 ≤ k) (ha : a.sc 0 = true) (hb : b.sc 0 = true) (hc : c.sc 0 = true) (da : a.dep ≤ k) (db : b.dep ≤ k) (dc : c.dep ≤ k) : (lookD a b c).sc 0 = true ∧ (lookD a b c).dep ≤ k + 4 := by
  refine ⟨by unfold lookD; simp [D.sc, D.scs, ha, hb, hc], ?_⟩
  unfold lookD
  simp only [D.dep, D.deps]
  omega
@[simp] theorem look_left {a b c : D} {h : VH} : selFld "Look" "left" (lookD a b c) h = some (.ok a, h) := rfl
@[simp] theorem look_truths {a b c : D} {h : VH} : selFld "Look" "truths" (lookD a b c) h = some (.ok b, h) := rfl
@[simp] theorem look_ahead {a b c : D} {h : VH} : selFld "Look" "ahead" (lookD a b c) h = some (.ok c, h) := rfl
def watchO (row look : D) : O := .ins "Watch" ["own_row", "look"] [row, look]
theorem watch_look {n : Nat} {row look : D} {h : VH} (e : h[n]? = some (watchO row look)) : selFld "Watch" "look" (.obj n) h = some (.ok look, h) := by
  simp only [selFld, insOf, e, watchO]; rfl
theorem watch_row {n : Nat} {row look : D} {h : VH} (e : h[n]? = some (watchO row look)) : selFld "Watch" "own_row" (.obj n) h = some (.ok row, h) := by
  simp only [selFld, insOf, e, watchO]; rfl
theorem watch_set {n : Nat} {row look l2 : D} {h : VH} (e : h[n]? = some (watchO row look)) : setFld ["Watch"] "look" (.obj n) l2 h = some (h.set n (watchO row l2)) := by
  simp only [setFld, e, watchO]; rfl
section
variable {ρ ρ1 : Env} {h h1 : VH} {a b : MS} {x : Xc} {d : D}
theorem seq_nx (e : a ρ h = some (.nx, ρ1, h1)) : mSeq a b ρ h = b ρ1 h1 := by rw [ev_seq, e]
theorem seq_ex (e : a ρ h = some (.ex x, ρ1, h1)) : mSeq a b ρ h = some (.ex x, ρ1, h1) := by rw [ev_seq, e]
theorem seq_rt (e : a ρ h = some (.rt d, ρ1, h1)) : mSeq a b ρ h = some (.rt d, ρ1, h1) := by rw [ev_seq, e]
theorem fn_rt {np n : Nat} {m : MS} {ds : List D} (hl : ds.length = np) (e : m (startD n ds) h = some (.rt d, ρ1, h1)) : mFn np n m ds h = some (.ok d, h1) := by rw [ev_fn, if_pos hl, e]
theorem fn_nx {np n : Nat} {m : MS} {ds : List D} (hl : ds.length = np) (e : m (startD n ds) h = some (.nx, ρ1, h1)) : mFn np n m ds h = some (.ok .non, h1) := by rw [ev_fn, if_pos hl, e]
theorem fn_ex {np n : Nat} {m : MS} {ds : List D} (hl : ds.length = np) (e : m (startD n ds) h = some (.ex x, ρ1, h1)) : mFn np n m ds h = some (.error x, h1) := by rw [ev_fn, if_pos hl, e]
theorem ifS_t {t : ME} {a b : MS} (e : t ρ h = some (.ok (.bl true), h1)) : mIfS t a b ρ h = a ρ h1 := by rw [ev_ifS, e]
theorem ifS_f {t : ME} {a b : MS} (e : t ρ h = some (.ok (.bl false), h1)) : mIfS t a b ρ h = b ρ h1 := by rw [ev_ifS, e]
theorem set_ok {i : Nat} {m : ME} (e : m ρ h = some (.ok d, h1)) : mSet i m ρ h = some (.nx, ρ.set i (some d), h1) := by rw [ev_set, e]
end
section
variable {ρ ρ1 : Env} {h h1 : VH} {a b : MS} {x : Xc} {d : D}
variable {h2 h3 : VH} {m m2 m3 : ME} {ma : MA} {x y z : D} {ds : List D}
theorem op2_ok {f : D → D → VH → Option D} (e1 : m ρ h = some (.ok x, h1)) (e2 : m2 ρ h1 = some (.ok y, h2)) (e3 : f x y h2 = some z) : mOp2 f m m2 ρ h = some (.ok z, h2) := by rw [ev_op2, e1, bnd_ok, e2, bnd_ok, e3]; rfl
theorem op1_ok {f : D → VH → Option D} (e1 : m ρ h = some (.ok x, h1)) (e3 : f x h1 = some z) : mOp1 f m ρ h = some (.ok z, h1) := by rw [ev_op1, e1, bnd_ok, e3]; rfl
theorem cons_ok (e1 : m ρ h = some (.ok x, h1)) (e2 : ma ρ h1 = some (.ok ds, h2)) : maCons m ma ρ h = some (.ok (x :: ds), h2) := by rw [ev_cons, e1, bnd_ok, e2]; rfl
theorem one_ok (e1 : m ρ h = some (.ok x, h1)) : maCons m maNil ρ h = some (.ok [x], h1) := cons_ok e1 rfl
theorem call_ok {F : MF} (e1 : ma ρ h = some (.ok ds, h1)) (e2 : F ds h1 = some (.ok z, h2)) : mCall F ma ρ h = some (.ok z, h2) := by rw [ev_call, e1, bnd_ok, e2]
theorem ch_ok {f : List D → VH → Option (D × VH)} (e1 : ma ρ h = some (.ok ds, h1)) (e2 : f ds h1 = some (z, h2)) : mCH f ma ρ h = some (.ok z, h2) := by rw [ev_ch, e1, bnd_ok, e2]
theorem cb_ok {f : List D → VH → Option D} (e1 : ma ρ h = some (.ok ds, h1)) (e2 : f ds h1 = some z) : mCB f ma ρ h = some (.ok z, h1) := by rw [ev_cb, e1, bnd_ok, e2]; rfl
theorem attr_ok {sel : Sel} (e1 : m ρ h = some (.ok x, h1)) (e2 : sel x h1 = some (.ok z, h2)) : mAttr sel m ρ h = some (.ok z, h2) := by rw [ev_attr, e1, bnd_ok, e2]
theorem if_t (e1 : m ρ h = some (.ok (.bl true), h1)) (e2 : m2 ρ h1 = some (.ok z, h2)) : mIf m m2 m3 ρ h = some (.ok z, h2) := by rw [ev_if, e1, bnd_ok]; exact e2
theorem if_f (e1 : m ρ h = some (.ok (.bl false), h1)) (e2 : m3 ρ h1 = some (.ok z, h2)) : mIf m m2 m3 ρ h = some (.ok z, h2) := by rw [ev_if, e1, bnd_ok]; exact e2
theorem tup_ok (e1 : ma ρ h = some (.ok ds, h1)) (hl : ds.length ≤ 10000000) : mTup ma ρ h = some (.ok (.tup ds), h1) := by rw [ev_tup, e1, bnd_ok, if_pos hl]
theorem lst_ok (e1 : ma ρ h = some (.ok ds, h1)) (hl : ds.length ≤ 10000000) : mLst ma ρ h = some (.ok (.lst ds), h1) := by rw [ev_lst, e1, bnd_ok, if_pos hl]
theorem star_ok {b : Bool} {es : List D} (e1 : m ρ h = some (.ok x, h1)) (e2 : seqOf h1 x = some (b, ds)) (e3 : ma ρ h1 = some (.ok es, h2)) : maStar m ma ρ h = some (.ok (ds ++ es), h2) := by unfold maStar; rw [e1, bnd_ok, e2]; simp only []; rw [e3]; rfl
theorem seta_ok {sel : SSel} (e1 : m ρ h = some (.ok x, h1)) (e2 : m2 ρ h1 = some (.ok y, h2)) (e3 : sel y x h2 = some h3) : mSetA sel m m2 ρ h = some (.nx, ρ, h3) := by unfold mSetA; rw [e1]; simp only []; rw [e2]; simp only []; rw [e3]
theorem not_ok {b : Bool} (e1 : m ρ h = some (.ok (.bl b), h1)) : mNot m ρ h = some (.ok (.bl !b), h1) := by rw [ev_not, e1]; rfl
end
section
variable {ρ ρ1 : Env} {h h1 : VH} {a b : MS} {x : Xc} {d : D}
theorem ret_ok {m : ME} (e : m ρ h = some (.ok d, h1)) : mRet m ρ h = some (.rt d, ρ, h1) := by rw [ev_ret, e]
end
section
variable {s : List Int} {bs : List Bool} {y : Bool} {b : Nat} {h : VH} {row : D}
theorem isN_row {ns : List Int} : bIsN (rowD ns) .non h = some (.bl false) := rfl
theorem mul_nz {r q : Rat} (hr : 0 < r) (hq : q ≠ 0) : r * q ≠ 0 := by
  have : r ≠ 0 := by grind
  grind
theorem plain_canon {ns : List Int} {qs : List Rat} (c : Canon ns qs) : plainI ns = ns := by
  unfold plainI
  rw [c.gcd]
  exact (List.map_congr_left fun n _ => Int.ediv_one n).trans (List.map_id ns)
end
def vatO (g s c : Int) : O := .lst [.int g, .int s, .int c]
structure Vat (a B : Nat) (h : VH) : Prop where
  ex : ∃ g s c : Int, h[a]? = some (vatO g s c) ∧ 0 ≤ g ∧ 0 ≤ s ∧ s < 2147483323 ∧ 0 ≤ c ∧ c ≤ B
structure Same (a : Nat) (h h' : VH) : Prop where
  len : h'.length = h.length
  at_ : ∀ b, b ≠ a → h'[b]? = h[b]?
theorem Same.refl {a : Nat} {h : VH} : Same a h h := ⟨rfl, fun _ _ => rfl⟩
theorem Same.trans {a : Nat} {h1 h2 h3 : VH} (x : Same a h1 h2) (y : Same a h2 h3) : Same a h1 h3 := ⟨y.len.trans x.len, fun b hb => (y.at_ b hb).trans (x.at_ b hb)⟩
theorem same_set {a : Nat} {h : VH} {o : O} : Same a h (h.set a o) := ⟨by simp, fun b hb => List.getElem?_set_ne (Ne.symm hb)⟩
theorem Vat.mono {a B C : Nat} {h : VH} (v : Vat a B h) (hc : B ≤ C) : Vat a C h := by
  obtain ⟨g, s, c, e, h1, h2, h3, h4, h5⟩ := v.ex
  exact ⟨g, s, c, e, h1, h2, h3, h4, by omega⟩
theorem Vat.lt {a B : Nat} {h : VH} (v : Vat a B h) : a < h.length := by
  obtain ⟨g, s, c, e, _⟩ := v.ex
  exact (List.getElem?_eq_some_iff.mp e).1
theorem ix_obj {a : Nat} {h : VH} {xs : List D} {i : Int} (e : h[a]? = some (.lst xs)) : bIx (.obj a) (.int i) h = atI xs i := by
  simp only [bIx, seqOf, e]
theorem set_self {a : Nat} {h : VH} {o o' : O} (e : h[a]? = some o) : (h.set a o')[a]? = some o' := by
  rw [List.getElem?_set_self]; exact (List.getElem?_eq_some_iff.mp e).1
theorem log_lt {n : Nat} {k : Nat} (hn : n < 2 ^ k) (hk : 0 < k) : n.log2 < k := log2_small hn hk
theorem gsub_ok {ρ : Env} {h h1 : VH} {mo mi : ME} {a : Nat} {i : Int} {d : D} (e1 : mo ρ h = some (.ok (.obj a), h)) (e2 : mi ρ h = some (.ok (.int i), h)) (e3 : setAt (.obj a) (.int i) d h = some h1) : gSub mo mi d ρ h = some (ρ, h1) := by
  unfold gSub; rw [e1]; simp only []; rw [e2]; simp only []; rw [e3]
theorem set3_0 {a : Nat} {h : VH} {x y z d : D} (e : h[a]? = some (.lst [x, y, z])) : setAt (.obj a) (.int 0) d h = some (h.set a (.lst [d, y, z])) := by simp only [setAt, e]; rfl
theorem set3_1 {a : Nat} {h : VH} {x y z d : D} (e : h[a]? = some (.lst [x, y, z])) : setAt (.obj a) (.int 1) d h = some (h.set a (.lst [x, d, z])) := by simp only [setAt, e]; rfl
theorem set3_2 {a : Nat} {h : VH} {x y z d : D} (e : h[a]? = some (.lst [x, y, z])) : setAt (.obj a) (.int 2) d h = some (h.set a (.lst [x, y, d])) := by simp only [setAt, e]; rfl
theorem asg_ok {ρ ρ1 : Env} {h h1 h2 : VH} {m : ME} {g : MG} {d : D} (e1 : m ρ h = some (.ok d, h1)) (e2 : g d ρ h1 = some (ρ1, h2)) : mAsg m g ρ h = some (.nx, ρ1, h2) := by rw [ev_asg, e1]; simp only []; rw [e2]
theorem small_div {g : Int} {k : Nat} (hk : 0 < k) (h7 : k ≤ 7) : dvOk g (k : Int) = true := by
  unfold dvOk Builtin.divisionGoesByPylong
  have : ¬ ((if ((k : Int) == 0) = true then 0 else (k : Int).natAbs.log2 / 30 + 1) > 300) := by
    rw [if_neg (by simp; omega)]
    have := log_lt (n := (k : Int).natAbs) (k := 3) (by simp; omega) (by omega)
    omega
  simp only [this, decide_false, Bool.false_and, Bool.not_false, Bool.and_true, decide_eq_true_eq]
  omega
theorem cut_map {α β : Type} {f : α → β} {xs : List α} {lo hi : Option Int} : cutD (xs.map f) lo hi = (cutD xs lo hi).map f := by
  simp [cutD, List.map_take, List.map_drop]
theorem cut_len {α : Type} {xs : List α} {lo hi : Option Int} : (cutD xs lo hi).length ≤ xs.length := by
  unfold cutD; simp only [List.length_take, List.length_drop]; omega
theorem sl_ok {ρ : Env} {h h1 : VH} {m m2 : ME} {d z : D} {i : Int} (e1 : m ρ h = some (.ok d, h1)) (e2 : m2 ρ h1 = some (.ok (.int i), h1)) (e3 : slD d none (some i) h1 = some z) : mSl m none (some m2) ρ h = some (.ok z, h1) := by
  rw [ev_sl, e1, bnd_ok, ev_part0, bnd_ok, ev_part1, e2, bnd_ok]
  simp only [bnd_ok, e3]
  rfl
theorem new_ok {ρ : Env} {h h1 : VH} {ma : MA} {ds : List D} (e1 : ma ρ h = some (.ok ds, h1)) (hl : ds.length ≤ 10000000) : mNew ma ρ h = some (.ok (.obj h1.length), h1 ++ [.lst ds]) := by rw [ev_new, e1, bnd_ok, if_pos hl]
/-- a value that the heap does not hold comes back as it is -/
theorem frz_either {F : MF} {ds : List D} {h h' : VH} {d : D} (e : F ds h = some (.ok d, h')) (hs : d.sc 0 = true) (hd : d.dep ≤ 400) : frzF F ds h = some (.ok d, h') ∨ frzF F ds h = some (.ok d, h) := by
  unfold frzF
  rw [e]
  simp only []
  by_cases c1 : h' = h
  · rw [if_pos c1]; exact .inr rfl
  · rw [if_neg c1]
    by_cases c2 : h'.take h.length = h
    · rw [if_pos c2, frz_dep _ _ d 400 hs hd]; exact .inr rfl
    · rw [if_neg c2]; exact .inl rfl
theorem sOk_app {a b : Str} (ha : PyData.strOk a = true) (hb : PyData.strOk b = true) : PyData.strOk (a ++ b) = true := by
  show (a.cps ++ b.cps).all (fun c => decide (c < 0x110000)) = true
  rw [Array.all_append]
  exact Bool.and_eq_true_iff.mpr ⟨ha, hb⟩
theorem sOk_of (s : String) : PyData.strOk (Str.ofString s) = true := by
  rw [Str.ofString_eq_toList]
  show ((s.toList.map Char.toNat).toArray).all (fun c => decide (c < 0x110000)) = true
  rw [List.all_toArray, List.all_map, List.all_eq_true]
  intro c _
  have := c.valid
  simp only [Function.comp_apply, decide_eq_true_eq]
  rcases this with h | ⟨_, h⟩
  · have : c.toNat < 0xd800 := h
    omega
  · exact h
theorem sOk_from : ∀ (ts : List Str) (k : Nat) (acc : Str), PyData.strOk acc = true → (∀ t ∈ ts, PyData.strOk t = true) → PyData.strOk (textFrom k acc ts) = true
  | [], _, acc, ha, _ => ha
  | t :: ts, k, acc, ha, h => sOk_from ts (k + 1) _ (sOk_app (sOk_app ha (sOk_of _)) (h t (by simp))) fun u hu => h u (by simp [hu])
theorem sOk_list {ts : List Str} (h : ∀ t ∈ ts, PyData.strOk t = true) : PyData.strOk (listText ts) = true := sOk_app (sOk_from ts 0 _ (sOk_of _) h) (sOk_of _)
theorem sOk_join {x : String} : ∀ ts : List Str, (∀ t ∈ ts, PyData.strOk t = true) → PyData.strOk (Str.join x ts) = true
  | [], _ => by show PyData.strOk Str.empty = true; simp [PyData.strOk, Str.empty]
  | [t], h => h t (by simp)
  | t :: u :: ts, h => by
    have ih := sOk_join (x := x) (u :: ts) fun v hv => h v (by simp [hv])
    exact sOk_app (sOk_app (h t (by simp)) (sOk_of _)) ih
theorem sOk_tuple {ts : List Str} (h : ∀ t ∈ ts, PyData.strOk t = true) : PyData.strOk (tupleText ts) = true := sOk_app (sOk_app (sOk_of _) (sOk_join ts h)) (sOk_of _)
structure Shw (B k w : Nat) (p : PyData) : Prop where
  short : p.leavesShort B = true
  show_ : p.showable = true
  dict : p.hasDict = false
  depth : p.depth ≤ k
  weight : p.weight ≤ w
  ok : PyData.strOk p.shown = true
structure Shws (B k w : Nat) (ps : List PyData) : Prop where
  short : PyData.leavesShortAll B ps = true
  show_ : PyData.showableAll ps = true
  dict : PyData.hasDictAll ps = false
  depth : PyData.depthAll ps ≤ k
  weight : PyData.weightAll ps ≤ w
  ok : ∀ t ∈ PyData.shownAll ps, PyData.strOk t = true
theorem shws_nil {B k : Nat} : Shws B k 0 [] := ⟨rfl, rfl, rfl, Nat.zero_le _, Nat.le_refl _, fun t ht => by simp [PyData.shownAll] at ht⟩
theorem Shw.cons {B k w1 w2 : Nat} {p : PyData} {ps : List PyData} (a : Shw B k w1 p) (b : Shws B k w2 ps) : Shws B k (w1 + 1 + w2) (p :: ps) := by
  refine ⟨?_, ?_, ?_, ?_, ?_, ?_⟩
  · simp only [PyData.leavesShortAll, a.short, b.short, Bool.and_self]
  · simp only [PyData.showableAll, a.show_, b.show_, Bool.and_self]
  · simp only [PyData.hasDictAll, a.dict, b.dict, Bool.or_self]
  · simp only [PyData.depthAll]; exact Nat.max_le.mpr ⟨a.depth, b.depth⟩
  · simp only [PyData.weightAll]; have := a.weight; have := b.weight; omega
  · intro t ht
    simp only [PyData.shownAll, List.mem_cons] at ht
    rcases ht with q | q
    · rw [q]; exact a.ok
    · exact b.ok t q
theorem Shws.list {B k w : Nat} {ps : List PyData} (a : Shws B k w ps) : Shw B (k + 1) w (.list ps) := by
  refine ⟨?_, ?_, ?_, ?_, ?_, ?_⟩
  · simpa only [PyData.leavesShort] using a.short
  · simpa only [PyData.showable] using a.show_
  · simpa only [PyData.hasDict] using a.dict
  · simp only [PyData.depth]; have := a.depth; omega
  · simpa only [PyData.weight] using a.weight
  · simp only [PyData.shown]; exact sOk_list fun t ht => a.ok t ht
theorem Shws.tuple {B k w : Nat} {ps : List PyData} (a : Shws B k w ps) : Shw B (k + 1) w (.tuple ps) := by
  refine ⟨?_, ?_, ?_, ?_, ?_, ?_⟩
  · simpa only [PyData.leavesShort] using a.short
  · simpa only [PyData.showable] using a.show_
  · simpa only [PyData.hasDict] using a.dict
  · simp only [PyData.depth]; have := a.depth; omega
  · simpa only [PyData.weight] using a.weight
  · simp only [PyData.shown]; exact sOk_tuple fun t ht => a.ok t ht
theorem Shw.mono {B k w k' w' : Nat} {p : PyData} (a : Shw B k w p) (hk : k ≤ k') (hw : w ≤ w') : Shw B k' w' p := ⟨a.short, a.show_, a.dict, Nat.le_trans a.depth hk, Nat.le_trans a.weight hw, a.ok⟩
theorem shw_none {B k : Nat} : Shw B k 0 .none := ⟨by simp [PyData.leavesShort], by simp [PyData.showable], by simp [PyData.hasDict], by simp [PyData.depth], by simp [PyData.weight], by simp only [PyData.shown]; exact sOk_of _⟩
theorem shw_bool {B k : Nat} {b : Bool} : Shw B k 0 (.bool b) := ⟨by simp [PyData.leavesShort], by simp [PyData.showable], by simp [PyData.hasDict], by simp [PyData.depth], by simp [PyData.weight], by cases b <;> (simp only [PyData.shown]; exact sOk_of _)⟩
theorem shw_int {B k j : Nat} {i : Int} (hi : i.natAbs < 2 ^ j) (hj : 0 < j) (h2 : j ≤ 1920) (hB : j + 1 ≤ B) : Shw B k j (.int i) := by
  have hl := log2_small hi hj
  have e := int_text_length_le hj hl
  refine ⟨?_, ?_, by simp [PyData.hasDict], by simp [PyData.depth], ?_, by simp only [PyData.shown]; exact sOk_of _⟩
  · simp only [PyData.leavesShort, decide_eq_true_eq]
    have : (PyData.shown (.int i)).length = (toString i).length := by
      simp only [PyData.shown]; exact PySem.ofString_length _
    omega
  · simp only [PyData.showable, decide_eq_true_eq]; omega
  · simp only [PyData.weight]
    split <;> omega
theorem shw_str {B k w : Nat} {x : Str} (h1 : x.cps.toList.all (fun c => decide (c < 16 ^ 8)) = true) (h2 : x.cps.size ≤ w) (h3 : PyData.strOk (reprText x) = true) : Shw B k w (.str x) :=
  ⟨by simpa only [PyData.leavesShort] using h1, by simp [PyData.showable], by simp [PyData.hasDict], by simp [PyData.depth], by simpa only [PyData.weight] using h2, by simpa only [PyData.shown] using h3⟩
theorem repr_ok {B k w : Nat} {p : PyData} {d : D} {h : VH} (e : dat h d = some p) (s : Shw B k w p) (hk : k ≤ 60) (hB : 8 ≤ B) (hw : (B + 2) * w + B ≤ 10000000) : ∃ x, cRepr [d] h = some (.str x) ∧ PyData.strOk x = true := by
  have h1 := PyData.shown_le B hB p s.short
  have h2 : (B + 2) * p.weight ≤ (B + 2) * w := Nat.mul_le_mul_left _ s.weight
  refine ⟨p.shown, ?_, s.ok⟩
  unfold cRepr
  simp only [on1, e]
  rw [if_pos ⟨s.show_, s.dict, Nat.le_trans s.depth hk, by omega⟩]
theorem ne_str {x : Str} {h : VH} (hx : PyData.strOk x = true) : bNe (.str x) (.str x) h = some (.bl false) := by
  unfold bNe
  rw [bEqG_dat (p := .str x) (q := .str x) rfl rfl (by simpa [SeqAt.shaped, PyData.canLay0, PyData.depth] using hx) (by simpa [SeqAt.shaped, PyData.canLay0, PyData.depth] using hx)]
  simp [PyData.eqv]
theorem dats_bls {h : VH} : ∀ bs : List Bool, dats h (bs.map .bl) = some (bs.map .bool)
  | [] => rfl
  | b :: bs => by simp only [List.map_cons, dats, dat, dats_bls bs]
theorem dats_ints {h : VH} : ∀ ns : List Int, dats h (ns.map .int) = some (ns.map .int)
  | [] => rfl
  | n :: ns => by simp only [List.map_cons, dats, dat, dats_ints ns]
theorem shws_bls {B k : Nat} : ∀ bs : List Bool, Shws B k bs.length (bs.map .bool)
  | [] => shws_nil
  | b :: bs => by
    have := shw_bool.cons (B := B) (k := k) (p := .bool b) (shws_bls bs)
    rw [List.length_cons, Nat.add_comm, ← Nat.zero_add 1]
    exact this
theorem shws_ints {B k j : Nat} (hj : 0 < j) (h2 : j ≤ 1920) (hB : j + 1 ≤ B) : ∀ ns : List Int, (∀ n ∈ ns, n.natAbs < 2 ^ j) → Shws B k (ns.length * (j + 1)) (ns.map .int)
  | [], _ => by rw [List.length_nil, Nat.zero_mul]; exact shws_nil
  | n :: ns, h => by
    have := (shw_int (k := k) (h n (by simp)) hj h2 hB).cons (shws_ints hj h2 hB ns fun m hm => h m (by simp [hm]))
    rw [List.length_cons, Nat.add_mul, Nat.one_mul, Nat.add_comm]
    exact this
theorem set_er {ρ : Env} {h h1 : VH} {i : Nat} {m : ME} {x : Xc} (e : m ρ h = some (.error x, h1)) : mSet i m ρ h = some (.ex x, ρ, h1) := by rw [ev_set, e]
theorem lam_ok {F : MFT} {m : ME} {ρ : Env} {h h1 : VH} {d : D} (e : F (fun h => m ρ h) h = some (.ok d, h1)) : mLam F m ρ h = some (.ok d, h1) := by unfold mLam; rw [e]
theorem meth_watch {m : Str} {F : MF} {o : ME} {a : MA} {ρ : Env} {h h1 : VH} {b : Nat} {row look : D} {ds : List D} (hm : ((["own_row", "look"] : List Str).zip [row, look]).lookup m = none) (e1 : o ρ h = some (.ok (.obj b), h)) (eb : h[b]? = some (watchO row look)) (ea : a ρ h = some (.ok ds, h1)) :
    mMeth m [(false, "Watch", F)] o a ρ h = F (.obj b :: ds) h1 := by
  unfold mMeth
  rw [e1, bnd_ok]
  have : clsOf h m (.obj b) = some (false, ("Watch" : Str)) := by
    have i : insOf h (.obj b) = some (("Watch" : Str), (["own_row", "look"] : List Str), [row, look]) := by simp only [insOf, eb, watchO]
    simp only [clsOf, i]
    rw [if_pos hm]
  rw [this]
  have p : pick false "Watch" [(false, "Watch", F)] = some F := by simp [pick]
  simp only [p]
  rw [ea, bnd_ok]
theorem strsOf_strs : ∀ ts : List Str, strsOf (ts.map D.str) = some ts
  | [] => rfl
  | t :: ts => by simp [strsOf, strsOf_strs ts]
theorem strLen_app (a b : Str) : (a ++ b).length = a.length + b.length := by
  show (a.cps ++ b.cps).size = _
  rw [Array.size_append]
  rfl
theorem fmt_ok {ρ : Env} {h h1 : VH} {m : ME} {i : Int} (e : m ρ h = some (.ok (.int i), h1)) (hi : i.natAbs.log2 < 1920) : mFmt m ρ h = some (.ok (.str (toString i)), h1) := by
  unfold mFmt
  rw [e, bnd_ok]
  simp only []
  rw [if_pos hi]
  rfl
theorem js_cons {ρ : Env} {h h1 : VH} {m : ME} {ms : List ME} {acc y : Str} (e : m ρ h = some (.ok (.str y), h1)) (hl : (acc ++ y).length ≤ 10000000) : mJs (m :: ms) acc ρ h = mJs ms (acc ++ y) ρ h1 := by
  show bnd (m ρ h) _ = _
  rw [e, bnd_ok]
  simp only []
  rw [if_pos hl]
theorem intLen {i : Int} {k : Nat} (hk : 0 < k) (h : i.natAbs.log2 < k) : (Str.ofString (toString i)).length ≤ k + 1 := by
  rw [PySem.ofString_length]; exact int_text_length_le hk h
def line0 (n : Int) : Str := Str.empty ++ Str.ofString "draws " ++ Str.ofString (toString n)
def lineI (at_ n : Int) : Str := Str.empty ++ Str.ofString "yes " ++ Str.ofString (toString at_) ++ Str.ofString " " ++ Str.ofString (toString n)
def rowLines (ns : List Int) : List Str := line0 ((ns.length : Int) - 1) :: (ns.zipIdx.map fun p => lineI (p.2 : Int) p.1)
def rowTxt (ns : List Int) : Str := Txt.join "\n" (rowLines ns)
theorem len_of (z : String) : (Str.ofString z).length = z.length := PySem.ofString_length z
theorem line0_len {n : Int} (h : n.natAbs < 2 ^ 900) : (line0 n).length ≤ 1000 := by
  unfold line0
  rw [strLen_app, strLen_app, len_of]
  have := intLen (i := n) (k := 900) (by omega) (log2_small h (by omega))
  have e : (Str.empty).length = 0 := rfl
  have e2 : ("draws " : String).length = 6 := by decide
  omega
theorem lineI_len {a n : Int} (ha : a.natAbs < 2 ^ 900) (h : n.natAbs < 2 ^ 900) : (lineI a n).length ≤ 2000 := by
  unfold lineI
  rw [strLen_app, strLen_app, strLen_app, strLen_app, len_of, len_of " "]
  have h1 := intLen (i := n) (k := 900) (by omega) (log2_small h (by omega))
  have h2 := intLen (i := a) (k := 900) (by omega) (log2_small ha (by omega))
  have e : (Str.empty).length = 0 := rfl
  have e2 : ("yes " : String).length = 4 := by decide
  have e3 : (" " : String).length = 1 := by decide
  omega
theorem sOk_empty : PyData.strOk Str.empty = true := by simp [PyData.strOk, Str.empty]
theorem lines_ok {ns : List Int} : ∀ t ∈ rowLines ns, PyData.strOk t = true := by
  intro t ht
  unfold rowLines at ht
  rcases List.mem_cons.mp ht with q | q
  · subst q; exact sOk_app (sOk_app sOk_empty (sOk_of _)) (sOk_of _)
  · obtain ⟨p, _, rfl⟩ := List.mem_map.mp q
    exact sOk_app (sOk_app (sOk_app (sOk_app sOk_empty (sOk_of _)) (sOk_of _)) (sOk_of _)) (sOk_of _)
theorem txt_ok {ns : List Int} : PyData.strOk (rowTxt ns) = true := by
  unfold rowTxt Txt.join
  rw [PySem.StrLaws.glued_eq_join]
  exact sOk_join (x := "\n") _ lines_ok
theorem frzs_strs (hh : VH) (n : Nat) : ∀ (ts : List Str) (k : Nat), ts.length < k → frzs hh n k (ts.map .str) = some (ts.map .str)
  | [], k + 1, _ => rfl
  | t :: ts, k + 1, h => by
    cases k with
    | zero => simp at h
    | succ k =>
      simp only [List.map_cons, frzs, frz]
      rw [frzs_strs hh n ts (k + 1) (by simp at h; omega)]
theorem lines_len {ns : List Int} (hl : ns.length ≤ 100) (hb : ∀ n ∈ ns, n.natAbs < 2 ^ 900) : ((rowLines ns).map (·.length)).sum ≤ (rowLines ns).length * 2000 := by
  have key : ∀ l : List Str, (∀ t ∈ l, t.length ≤ 2000) → (l.map (·.length)).sum ≤ l.length * 2000 := fun l => by
    induction l with
    | nil => intro _; simp
    | cons t l ih =>
      intro h
      have h1 := h t (by simp)
      have h2 := ih fun x hx => h x (by simp [hx])
      simp only [List.map_cons, List.sum_cons, List.length_cons]
      omega
  refine key _ fun t ht => ?_
  unfold rowLines at ht
  rcases List.mem_cons.mp ht with q | q
  · subst q
    have := line0_len (n := (ns.length : Int) - 1) (lt_pow_mono (a := 8) (by omega) (by omega))
    omega
  · obtain ⟨p, hp, rfl⟩ := List.mem_map.mp q
    have := List.mem_zipIdx hp
    exact lineI_len (by rw [Int.natAbs_natCast]; exact lt_pow_mono (a := 8) (by omega) (by omega)) (hb p.1 (by rw [this.2.2]; exact List.getElem_mem _))
theorem lc_all {ρ : Env} {t : Tg} {vs : List Nat} {te : ME} : ∀ (ds : List D) (h : VH), (∀ d ∈ ds, ∃ ρ1, t.set d (wipeD ρ vs) = some ρ1 ∧ ∀ h, ∃ h', te ρ1 h = some (.ok (.bl true), h')) → ∃ h', lcL t vs mYes te ρ ds h = some (List.replicate ds.length (.bl true), h')
  | [], h, _ => ⟨h, rfl⟩
  | d :: ds, h, hd => by
    obtain ⟨ρ1, e1, e2⟩ := hd d (by simp)
    obtain ⟨h1, e2⟩ := e2 h
    obtain ⟨h2, ih⟩ := lc_all (ρ := ρ) (te := te) ds h1 fun x hx => hd x (by simp [hx])
    refine ⟨h2, ?_⟩
    unfold lcL
    rw [e1]
    simp only [show mYes ρ1 h = some (.ok (.bl true), h) from rfl, e2, ih]
    rfl
theorem all_true {n : Nat} {h : VH} : cAllG (fun ns => ns.all id) [.lst (List.replicate n (.bl true))] h = some (.bl true) := by
  have e : blsOf (List.replicate n (D.bl true)) = some (List.replicate n true) := by
    have := blsOf_bls (List.replicate n true)
    rwa [List.map_replicate] at this
  simp [cAllG, e]
end ML
/-! the text M66 -/
/-! M66: texts that are shown; == of data that are the same; errors that are caught, forward. -/
namespace ML
open PySem PySem.Spec PyProof.Rows L2
theorem sOk_iff {x : Str} : PyData.strOk x = true ↔ ∀ c ∈ x.cps.toList, c < 0x110000 := by
  unfold PyData.strOk
  rw [← Array.all_toList, List.all_eq_true]
  exact ⟨fun h c hc => of_decide_eq_true (h c hc), fun h c hc => decide_eq_true (h c hc)⟩
theorem char_lt (c : Char) : c.toNat < 0x110000 := by
  have h := c.valid
  rcases h with h | ⟨_, h⟩
  · have : c.toNat < 0xd800 := h
    omega
  · exact h
theorem reprChar_ok {q c : Nat} (hq : q < 0x110000) (hc : c < 0x110000) : ∀ d ∈ Builtin.Str.reprChar q c, d < 0x110000 := by
  have hex : ∀ w, ∀ d ∈ List.replicate (w - ((Nat.toDigits 16 c).map Char.toNat).length) 48 ++ (Nat.toDigits 16 c).map Char.toNat, d < 0x110000 := fun w d hd => by
    rcases List.mem_append.mp hd with h | h
    · rw [List.eq_of_mem_replicate h]; decide
    · obtain ⟨ch, _, rfl⟩ := List.mem_map.mp h
      exact char_lt ch
  have two : ∀ a b : Nat, a < 0x110000 → b < 0x110000 → ∀ l : List Nat, (∀ d ∈ l, d < 0x110000) → ∀ d ∈ [a, b] ++ l, d < 0x110000 := fun a b ha hb l hl d hd => by
    rcases List.mem_append.mp hd with h | h
    · simp only [List.mem_cons, List.not_mem_nil, or_false] at h
      rcases h with h | h <;> omega
    · exact hl d h
  intro d hd
  unfold Builtin.Str.reprChar at hd
  dsimp only at hd
  repeat' split at hd
  all_goals first
    | (simp only [List.mem_cons, List.not_mem_nil, or_false] at hd; omega)
    | exact two _ _ (by decide) (by decide) _ (hex _) d hd
theorem sOk_repr {x : Str} (h : PyData.strOk x = true) : PyData.strOk (reprText x) = true := by
  have hx := sOk_iff.mp h
  have hq : reprQuote x < 0x110000 := by unfold reprQuote; split <;> decide
  have key : ∀ (l : List Nat) (acc : Array Nat), (∀ c ∈ l, c < 0x110000) → (∀ c ∈ acc.toList, c < 0x110000) → ∀ c ∈ (l.foldl (fun out c => out ++ (Builtin.Str.reprChar (reprQuote x) c).toArray) acc).toList, c < 0x110000 := fun l => by
    induction l with
    | nil => exact fun acc _ ha => ha
    | cons a l ih =>
      intro acc hl ha
      refine ih _ (fun c hc => hl c (by simp [hc])) fun c hc => ?_
      rw [Array.toList_append] at hc
      rcases List.mem_append.mp hc with q | q
      · exact ha c q
      · exact reprChar_ok hq (hl a (by simp)) c (by simpa using q)
  refine sOk_iff.mpr fun c hc => ?_
  unfold reprText at hc
  rw [Array.toList_push, ← Array.foldl_toList] at hc
  rcases List.mem_append.mp hc with q | q
  · exact key x.cps.toList #[reprQuote x] hx (fun d hd => by simp at hd; omega) c q
  · rw [List.mem_singleton.mp q]; exact hq
theorem shw_txt {B k w : Nat} {x : Str} (h : PyData.strOk x = true) (hl : x.length ≤ w) : Shw B k w (.str x) :=
  shw_str (List.all_eq_true.mpr fun c hc => decide_eq_true (Nat.lt_trans (sOk_iff.mp h c hc) (by decide))) hl (sOk_repr h)
/-- a text is shown -/
theorem rep_txt {x : Str} {h : VH} (hx : PyData.strOk x = true) (hl : x.length ≤ 500000) : cRepr [.str x] h = some (.str (reprText x)) := by
  have e : dat h (.str x) = some (.str x) := rfl
  have l := StrLaws.reprText_len x fun c hc => Nat.lt_trans (sOk_iff.mp hx c hc) (by decide)
  have d : (PyData.str x).depth ≤ 60 := by simp [PyData.depth]
  unfold cRepr
  simp only [on1, e]
  rw [if_pos ⟨by simp [PyData.showable], by simp [PyData.hasDict], d, by simp only [PyData.shown]; omega⟩]
  simp only [PyData.shown]
/-! ### data equal to themselves -/
mutual
theorem eqv_self : ∀ d : PyData, d.hasDict = false → PyData.eqv d d = true
  | .none, _ => by simp [PyData.eqv]
  | .bool b, _ => by cases b <;> simp [PyData.eqv]
  | .int i, _ => by simp [PyData.eqv]
  | .str x, _ => by simp [PyData.eqv]
  | .list xs, h => by simp only [PyData.hasDict] at h; simp only [PyData.eqv]; exact eqvAll_self xs h
  | .tuple xs, h => by simp only [PyData.hasDict] at h; simp only [PyData.eqv]; exact eqvAll_self xs h
  | .dict _, h => by simp [PyData.hasDict] at h
theorem eqvAll_self : ∀ ds : List PyData, PyData.hasDictAll ds = false → PyData.eqvAll ds ds = true
  | [], _ => by simp [PyData.eqvAll]
  | d :: ds, h => by
    simp only [PyData.hasDictAll, Bool.or_eq_false_iff] at h
    simp only [PyData.eqvAll, eqv_self d h.1, eqvAll_self ds h.2, Bool.and_self]
end
theorem eq_same {x y : D} {p : PyData} {h : VH} (e1 : dat h x = some p) (e2 : dat h y = some p) (hd : p.hasDict = false) (s : SeqAt.shaped p = true) : bEq x y h = some (.bl true) := by
  unfold bEq; rw [bEqG_dat e1 e2 s s, eqv_self p hd]; rfl
theorem ne_same {x y : D} {p : PyData} {h : VH} (e1 : dat h x = some p) (e2 : dat h y = some p) (hd : p.hasDict = false) (s : SeqAt.shaped p = true) : bNe x y h = some (.bl false) := by
  unfold bNe; rw [bEqG_dat e1 e2 s s, eqv_self p hd]; rfl
theorem shaped_strs {ts : List Str} (h : ∀ t ∈ ts, PyData.strOk t = true) : SeqAt.shaped (.list (ts.map .str)) = true := by
  have a : ∀ ts : List Str, (∀ t ∈ ts, PyData.strOk t = true) → PyData.canLayAll0 (ts.map .str) = true ∧ PyData.depthAll (ts.map .str) ≤ 1 := fun ts => by
    induction ts with
    | nil => intro _; exact ⟨by simp [PyData.canLayAll0], by simp [PyData.depthAll]⟩
    | cons t ts ih =>
      intro h
      obtain ⟨h1, h2⟩ := ih fun u hu => h u (by simp [hu])
      exact ⟨by simp only [List.map_cons, PyData.canLayAll0, PyData.canLay0, h t (by simp), h1, Bool.and_self], by simp only [List.map_cons, PyData.depthAll, PyData.depth]; omega⟩
  obtain ⟨h1, h2⟩ := a ts h
  unfold SeqAt.shaped
  rw [Bool.and_eq_true]
  exact ⟨by simpa only [PyData.canLay0] using h1, decide_eq_true (by simp only [PyData.depth]; omega)⟩
theorem dats_strs {h : VH} : ∀ ts : List Str, dats h (ts.map .str) = some (ts.map .str)
  | [] => rfl
  | t :: ts => by simp only [List.map_cons, dats, dat, dats_strs ts]
theorem nodict_strs : ∀ ts : List Str, PyData.hasDictAll (ts.map .str) = false
  | [] => by simp [PyData.hasDictAll]
  | t :: ts => by simp only [List.map_cons, PyData.hasDictAll, PyData.hasDict, nodict_strs ts, Bool.or_self]
theorem ne_strs {ts : List Str} {h : VH} (hs : ∀ t ∈ ts, PyData.strOk t = true) : bNe (.lst (ts.map .str)) (.lst (ts.map .str)) h = some (.bl false) := by
  have e : dat h (.lst (ts.map .str)) = some (.list (ts.map .str)) := by simp only [dat, dats_strs]; rfl
  exact ne_same e e (by simp only [PyData.hasDict, nodict_strs]) (shaped_strs hs)
/-! ### caught -/
section
variable {ρ ρ' : Env} {h h1 h' : VH} {d : D} {E : ExT} {x : Xc} {ns : List Str} {sl : Option Nat} {f : Xc → MS} {r : List ClD} {n : Nat} {b : MS} {cl : List ClD}
theorem handle_hit (e : exAny E x.C ns = some true) (s : slOk sl ρ = true) (q : f x (slotR sl ρ) h = some (.rt d, ρ', h')) : mHandle E ((ns, sl, f) :: r) x ρ h = some (.rt d, slotR sl ρ', h') := by
  unfold mHandle; rw [e]; simp only []; rw [if_pos s, q]
theorem handle_miss (e : exAny E x.C ns = some false) : mHandle E ((ns, sl, f) :: r) x ρ h = mHandle E r x ρ h := by
  conv => lhs; unfold mHandle
  rw [e]
theorem tryT_ex (e : b ρ h = some (.ex x, ρ', h1)) (q : mHandle E cl x (List.replicate n none) h1 = some (.rt d, ρ', h')) : mTryT n E b cl ρ h = some (.rt d, ρ', h') := by
  unfold mTryT; rw [e]; simp only []; rw [q]
theorem tryT_ex' {ρ2 : Env} (e : b ρ h = some (.ex x, ρ2, h1)) (q : mHandle E cl x (List.replicate n none) h1 = some (.rt d, ρ', h')) : mTryT n E b cl ρ h = some (.rt d, ρ', h') := by
  unfold mTryT; rw [e]; simp only []; rw [q]
theorem tryT_nx (e : b ρ h = some (.nx, ρ', h1)) : mTryT n E b cl ρ h = some (.nx, ρ', h1) := by
  unfold mTryT; rw [e]
theorem thunk_ex {θ : VH → R D} {i : Nat} (e : θ h = some (.error x, h1)) : mSet i (mThunk θ) ρ h = some (.ex x, ρ, h1) := by
  unfold mSet mAsg mThunk; rw [e]
theorem thunk_ok {θ : VH → R D} {i : Nat} (e : θ h = some (.ok d, h1)) : mSet i (mThunk θ) ρ h = some (.nx, ρ.set i (some d), h1) := by
  unfold mSet mAsg mThunk; rw [e]; rfl
theorem fnT_rt {mb : (VH → R D) → MS} {θ : VH → R D} (e : mb θ (List.replicate n none) h = some (.rt d, ρ', h')) : mFnT n mb θ h = some (.ok d, h') := by
  unfold mFnT; rw [e]
end
end ML
/-! the text W1Fun -/
/-! what the defs do. Printed by gen.py. -/
namespace ML
open PySem PySem.Spec PyProof.Rows L2
noncomputable def M_is_integer : MS :=
  (mRet (mAnd (mCB (fIsi isL ciL csL) (maCons (mVar 0) (maCons (mC (.ty "int")) maNil))) (mNot (mCB (fIsi isL ciL csL) (maCons (mVar 0) (maCons (mC (.ty "bool")) maNil))))))
noncomputable def F_is_integer : MF := (mFn 1 1 M_is_integer)
noncomputable def M_is_count : MS :=
  (mRet (mAnd (mCall F_is_integer (maCons (mVar 0) maNil)) (mOp2 bGe (mVar 0) (mC (.int 0)))))
noncomputable def F_is_count : MF := (mFn 1 1 M_is_count)
noncomputable def M_is_name : MS :=
  (mSeq (mIfS (mOr (mNot (mCB (fIsi isL ciL csL) (maCons (mVar 0) (maCons (mC (.ty "str")) maNil)))) (mOr (mNot (mChain bLe bLe (mC (.int 1)) (mCB cLen (maCons (mVar 0) maNil)) (mC (.int 8)))) (mOp2 bNoSign (mOp2 bIx (mVar 0) (mC (.int 0))) (mC (.str "abcdefghijklmnopqrstuvwxyz")))))
      (mRet (mC (.bl false)))
      mNext)
    (mRet (mCB (cAllG fun ns => ns.all id) (maCons (mLc (mStrI (mVar 0)) (.nm 1) [1] mYes (mOr (mOp2 bSign (mVar 1) (mC (.str "abcdefghijklmnopqrstuvwxyz"))) (mOp2 bSign (mVar 1) (mC (.str "0123456789"))))) maNil))))
noncomputable def F_is_name : MF := (mFn 1 2 M_is_name)
noncomputable def M_shared : MS :=
  (mSeq (mPar 0 1 (maCons (mCB cAbs (maCons (mVar 0) maNil)) (maCons (mCB cAbs (maCons (mVar 1) maNil)) maNil)))
    (mSeq (mWhile (mOp2 bGt (mVar 1) (mC (.int 0))) (mPar 0 1 (maCons (mVar 1) (maCons (mOp2 bMod (mVar 0) (mVar 1)) maNil))) fuel)
    (mRet (mVar 0))))
noncomputable def F_shared : MF := (mFn 2 2 M_shared)
noncomputable def M_is_fraction : MS :=
  (mSeq (mIfS (mOr (mNot (mCB (fIsi isL ciL csL) (maCons (mVar 0) (maCons (mC (.ty "tuple")) maNil)))) (mOr (mOp2 bNe (mCB cLen (maCons (mVar 0) maNil)) (mC (.int 2))) (mOr (mNot (mCall F_is_integer (maCons (mOp2 bIx (mVar 0) (mC (.int 0))) maNil))) (mNot (mCall F_is_integer (maCons (mOp2 bIx (mVar 0) (mC (.int 1))) maNil))))))
      (mRet (mC (.bl false)))
      mNext)
    (mRet (mAnd (mOp2 bGt (mOp2 bIx (mVar 0) (mC (.int 1))) (mC (.int 0))) (mOp2 bEq (mCall F_shared (maCons (mOp2 bIx (mVar 0) (mC (.int 0))) (maCons (mOp2 bIx (mVar 0) (mC (.int 1))) maNil))) (mC (.int 1))))))
noncomputable def F_is_fraction : MF := (mFn 1 1 M_is_fraction)
noncomputable def M_is_counts : MS :=
  (mSeq (mIfS (mOr (mNot (mCB (fIsi isL ciL csL) (maCons (mVar 0) (maCons (mC (.ty "tuple")) maNil)))) (mOr (mNot (mChain bLe bLe (mC (.int 2)) (mCB cLen (maCons (mVar 0) maNil)) (mC (.int 6)))) (mNot (mCB (cAllG fun ns => ns.all id) (maCons (mLc (mSeqI (mVar 0)) (.nm 1) [1] mYes (mCall F_is_count (maCons (mVar 1) maNil))) maNil)))))
      (mRet (mC (.bl false)))
      mNext)
    (mRet (mOp2 bGt (mCB cSum (maCons (mVar 0) maNil)) (mC (.int 0)))))
noncomputable def F_is_counts : MF := (mFn 1 2 M_is_counts)
noncomputable def M_lowest : MS :=
  (mSeq (mSet 2 (mCall F_shared (maCons (mVar 0) (maCons (mVar 1) maNil))))
    (mSeq (mSet 2 (mIf (mOp2 bGt (mVar 1) (mC (.int 0))) (mVar 2) (mOp1 uNeg (mVar 2))))
    (mRet (mTup (maCons (mOp2 bDiv (mVar 0) (mVar 2)) (maCons (mOp2 bDiv (mVar 1) (mVar 2)) maNil))))))
noncomputable def F_lowest : MF := (mFn 2 3 M_lowest)
noncomputable def M_is_below : MS :=
  (mRet (mOp2 bLt (mOp2 bMul (mOp2 bIx (mVar 0) (mC (.int 0))) (mOp2 bIx (mVar 1) (mC (.int 1)))) (mOp2 bMul (mOp2 bIx (mVar 1) (mC (.int 0))) (mOp2 bIx (mVar 0) (mC (.int 1))))))
noncomputable def F_is_below : MF := (mFn 2 2 M_is_below)
noncomputable def M_plain : MS :=
  (mSeq (mSet 1 (mC (.int 0)))
    (mSeq (mFor (mSeqI (mVar 0)) (gT (.nm 2))
      (mSet 1 (mCall F_shared (maCons (mVar 1) (maCons (mVar 2) maNil)))))
    (mRet (mCB cTuple (maCons (mLc (mSeqI (mVar 0)) (.nm 2) [2] mYes (mOp2 bDiv (mVar 2) (mVar 1))) maNil)))))
noncomputable def F_plain : MF := (mFn 1 3 M_plain)
noncomputable def M_wrong_count : MS :=
  (mSeq (mIfS (mOr (mNot (mCB (fIsi isL ciL csL) (maCons (mVar 0) (maCons (mC (.ty "tuple")) maNil)))) (mOp2 bLt (mCB cLen (maCons (mVar 0) maNil)) (mC (.int 2))))
      (mRet (mOp1 uNeg (mC (.int 1))))
      mNext)
    (mSeq (mFor (mEnumI (maCons (mVar 0) maNil)) (gT (.tp [(.nm 1), (.nm 2)]))
      (mIfS (mOr (mOp2 bGt (mVar 1) (mC (.int 5))) (mNot (mCall F_is_count (maCons (mVar 2) maNil))))
      (mRet (mVar 1))
      mNext))
    (mRet (mIf (mCall F_is_counts (maCons (mVar 0) maNil)) (mC .non) (mOp1 uNeg (mC (.int 1)))))))
noncomputable def F_wrong_count : MF := (mFn 1 3 M_wrong_count)
noncomputable def M_Row___init__ : MS :=
  (mSeq (mSet 2 (mCall F_wrong_count (maCons (mVar 1) maNil)))
    (mSeq (mIfS (mOp2 bNotN (mVar 2) (mC .non))
      (sStuck)
      mNext)
    (mSetA (setSlot "Row") (mCall F_plain (maCons (mVar 1) maNil)) (mVar 0))))
noncomputable def F_Row___init__ : MF := (mFn 2 3 M_Row___init__)
noncomputable def G_Row : MF := frzF (mkF "Row" F_Row___init__)
theorem told_Row : Told (mkF "Row" F_Row___init__) G_Row := told_frz _
noncomputable def M_Row_counts : MS :=
  (mRet (mAttr (selSlot "Row" 0) (mVar 0)))
noncomputable def F_Row_counts : MF := (mFn 1 1 M_Row_counts)
noncomputable def M_Row_rates : MS :=
  (mSeq (mSet 1 (mCB cSum (maCons (mAttr (selSlot "Row" 0) (mVar 0)) maNil)))
    (mRet (mCB cTuple (maCons (mLc (mSeqI (mAttr (selSlot "Row" 0) (mVar 0))) (.nm 2) [2] mYes (mCall F_lowest (maCons (mVar 2) (maCons (mVar 1) maNil)))) maNil))))
noncomputable def F_Row_rates : MF := (mFn 1 3 M_Row_rates)
noncomputable def M_row_lines : MS :=
  (mSeq (mSet 1 (mNew (maCons (mJs [(mC (.str "draws ")), (mFmt (mOp2 bSub (mCB cLen (maCons (mAttr (selSlot "Row" 0) (mVar 0)) maNil)) (mC (.int 1))))] Str.empty) maNil)))
    (mSeq (mExpr (mLM doExt (mVar 1) (mLc (mEnumI (maCons (mAttr (selSlot "Row" 0) (mVar 0)) maNil)) (.tp [(.nm 2), (.nm 3)]) [2, 3] mYes (mJs [(mC (.str "yes ")), (mFmt (mVar 2)), (mC (.str " ")), (mFmt (mVar 3))] Str.empty))))
    (mRet (mVar 1))))
noncomputable def F_row_lines : MF := frzF (mFn 1 4 M_row_lines)
noncomputable def M_Row___str__ : MS :=
  (mRet (mJoin (mC (.str "\n")) (mCall F_row_lines (maCons (mVar 0) maNil))))
noncomputable def F_Row___str__ : MF := (mFn 1 1 M_Row___str__)
noncomputable def M_Row_text : MS :=
  (mRet (mCH (fDun [(true, "Row", F_Row___str__)] okStr) (maCons (mVar 0) maNil)))
noncomputable def F_Row_text : MF := (mFn 1 1 M_Row_text)
noncomputable def M_Row___len__ : MS :=
  (mRet (mCB cLen (maCons (mSl (mAttr (selSlot "Row" 0) (mVar 0)) (some (mC (.int 1))) none) maNil)))
noncomputable def F_Row___len__ : MF := (mFn 1 1 M_Row___len__)
noncomputable def M_Row___repr__ : MS :=
  (mRet (mJs [(mC (.str "Row of ")), (mFmt (mOp2 bSub (mCB cLen (maCons (mAttr (selSlot "Row" 0) (mVar 0)) maNil)) (mC (.int 1)))), (mC (.str " draws"))] Str.empty))
noncomputable def F_Row___repr__ : MF := (mFn 1 1 M_Row___repr__)
noncomputable def M_check_row : MS :=
  (mIfS (mNot (mCB (fIsi isL ciL csL) (maCons (mVar 0) (maCons (mC (.glo "Row")) maNil))))
      (mRaise1 "NotRow" "given" (mVar 0))
      mNext)
noncomputable def F_check_row : MF := (mFn 1 1 M_check_row)
noncomputable def M_is_wish : MS :=
  (mSeq (mIfS (mOr (mNot (mCB (fIsi isL ciL csL) (maCons (mVar 0) (maCons (mC (.ty "tuple")) maNil)))) (mOr (mOp2 bEq (mCB cLen (maCons (mVar 0) maNil)) (mC (.int 0))) (mNot (mCB (fIsi isL ciL csL) (maCons (mOp2 bIx (mVar 0) (mC (.int 0))) (maCons (mC (.ty "str")) maNil))))))
      (mRet (mC (.bl false)))
      mNext)
    (mSeq (mIfS (mOp2 (bInF false) (mOp2 bIx (mVar 0) (mC (.int 0))) (mTup (maCons (mC (.str "comes")) (maCons (mC (.str "misses")) maNil))))
      (mRet (mAnd (mOp2 bEq (mCB cLen (maCons (mVar 0) maNil)) (mC (.int 2))) (mAnd (mCall F_is_count (maCons (mOp2 bIx (mVar 0) (mC (.int 1))) maNil)) (mOp2 bGe (mOp2 bIx (mVar 0) (mC (.int 1))) (mC (.int 1))))))
      mNext)
    (mSeq (mIfS (mOp2 bEq (mOp2 bIx (mVar 0) (mC (.int 0))) (mC (.str "likely")))
      (mRet (mAnd (mOp2 bEq (mCB cLen (maCons (mVar 0) maNil)) (mC (.int 3))) (mAnd (mCall F_is_count (maCons (mOp2 bIx (mVar 0) (mC (.int 1))) maNil)) (mCall F_is_fraction (maCons (mOp2 bIx (mVar 0) (mC (.int 2))) maNil)))))
      mNext)
    (mRet (mAnd (mOp2 bEq (mOp2 bIx (mVar 0) (mC (.int 0))) (mC (.str "always"))) (mOp2 bEq (mCB cLen (maCons (mVar 0) maNil)) (mC (.int 1))))))))
noncomputable def F_is_wish : MF := (mFn 1 1 M_is_wish)
noncomputable def M_keeps : MS :=
  (mSeq (mIfS (mOp2 bEq (mOp2 bIx (mVar 1) (mC (.int 0))) (mC (.str "always")))
      (sStuck)
      mNext)
    (mSeq (mIfS (mOp2 bEq (mOp2 bIx (mVar 1) (mC (.int 0))) (mC (.str "likely")))
      (mSeq (mSet 2 (mIf (mOp2 bLe (mOp2 bIx (mVar 1) (mC (.int 1))) (mCH (fDun [(true, "Row", F_Row___len__)] okLen) (maCons (mVar 0) maNil))) (mOp2 bIx (mAttr (selSProp "Row" F_Row_rates) (mVar 0)) (mOp2 bIx (mVar 1) (mC (.int 1)))) (mC (.tup [.int 0, .int 1]))))
    (mRet (mNot (mCall F_is_below (maCons (mVar 2) (maCons (mOp2 bIx (mVar 1) (mC (.int 2))) maNil))))))
      mNext)
    (sStuck)))
noncomputable def F_keeps : MF := (mFn 2 3 M_keeps)
noncomputable def M_Shelf___init__ : MS :=
  (mSeq (mSetA (setFld ["Shelf"] "rows") (mVar 1) (mVar 0))
    (mSeq (mSetA (setFld ["Shelf"] "pairs") (mVar 2) (mVar 0))
    (mSeq (mSetA (setFld ["Shelf"] "ahead") (mVar 3) (mVar 0))
    (mSetA (setFld ["Shelf"] "many") (mIf (mOp2 bIsN (mVar 3) (mC .non)) (mC (.int 0)) (mOp2 bAdd (mAttr (selFld "Shelf" "many") (mVar 3)) (mC (.int 1)))) (mVar 0)))))
noncomputable def F_Shelf___init__ : MF := (mFn 4 4 M_Shelf___init__)
noncomputable def G_Shelf : MF := mkF "Shelf" F_Shelf___init__
theorem told_Shelf : Told (mkF "Shelf" F_Shelf___init__) G_Shelf := Told.refl
noncomputable def M_check_kept : MS :=
  (mFor (mEnumI (maCons (mVar 1) maNil)) (gT (.tp [(.nm 2), (.tp [(.nm 3), (.nm 4)])]))
      (mIfS (mNot (mCall F_keeps (maCons (mDGet (mVar 0) (mVar 3)) (maCons (mVar 4) maNil))))
      (mRaise1 "Broken" "index" (mVar 2))
      mNext))
noncomputable def F_check_kept : MF := (mFn 2 5 M_check_kept)
noncomputable def M_Library___init__ : MS :=
  (mSetA (setFld ["Library"] "shelf") (mCall G_Shelf (maCons (mC (.dic [] [])) (maCons (mTup maNil) (maCons (mC .non) maNil)))) (mVar 0))
noncomputable def F_Library___init__ : MF := (mFn 1 1 M_Library___init__)
noncomputable def G_Library : MF := mkF "Library" F_Library___init__
theorem told_Library : Told (mkF "Library" F_Library___init__) G_Library := Told.refl
noncomputable def M_Library_names : MS :=
  (mRet (mCB cTuple (maCons (mCB cSortD (maCons (mAttr (selFld "Shelf" "rows") (mAttr (selFld "Library" "shelf") (mVar 0))) maNil)) maNil)))
noncomputable def F_Library_names : MF := (mFn 1 1 M_Library_names)
noncomputable def M_Library_wishes : MS :=
  (mRet (mAttr (selFld "Shelf" "pairs") (mAttr (selFld "Library" "shelf") (mVar 0))))
noncomputable def F_Library_wishes : MF := (mFn 1 1 M_Library_wishes)
noncomputable def M_Library_changes : MS :=
  (mRet (mAttr (selFld "Shelf" "many") (mAttr (selFld "Library" "shelf") (mVar 0))))
noncomputable def F_Library_changes : MF := (mFn 1 1 M_Library_changes)
noncomputable def M_Library_become : MS :=
  (mSetA (setFld ["Library"] "shelf") (mCall G_Shelf (maCons (mVar 1) (maCons (mVar 2) (maCons (mAttr (selFld "Library" "shelf") (mVar 0)) maNil)))) (mVar 0))
noncomputable def F_Library_become : MF := (mFn 3 3 M_Library_become)
noncomputable def M_Library___contains__ : MS :=
  (mRet (mAnd (mCB (fIsi isL ciL csL) (maCons (mVar 1) (maCons (mC (.ty "str")) maNil))) (mDIn id (mVar 1) (mAttr (selFld "Shelf" "rows") (mAttr (selFld "Library" "shelf") (mVar 0))))))
noncomputable def F_Library___contains__ : MF := (mFn 2 2 M_Library___contains__)
noncomputable def M_Library_remove : MS :=
  (mSeq (mIfS (mDHas not [(false, "Library", F_Library___contains__)] (mVar 1) (mVar 0))
      (mRaise1 "UnknownName" "given" (mVar 1))
      mNext)
    (mSeq (mFor (mEnumI (maCons (mAttr (selFld "Shelf" "pairs") (mAttr (selFld "Library" "shelf") (mVar 0))) maNil)) (gT (.tp [(.nm 2), (.nm 3)]))
      (mIfS (mOp2 bEq (mOp2 bIx (mVar 3) (mC (.int 0))) (mVar 1))
      (mRaise1 "InUse" "index" (mVar 2))
      mNext))
    (mExpr (mMeth "become" [(false, "Library", F_Library_become)] (mVar 0) (maCons (mDc (mItems (mAttr (selFld "Shelf" "rows") (mAttr (selFld "Library" "shelf") (mVar 0)))) (.tp [(.nm 4), (.nm 5)]) [4, 5] (mOp2 bNe (mVar 4) (mVar 1)) (mVar 4) (mVar 5)) (maCons (mAttr (selFld "Shelf" "pairs") (mAttr (selFld "Library" "shelf") (mVar 0))) maNil))))))
noncomputable def F_Library_remove : MF := (mFn 2 6 M_Library_remove)
noncomputable def M_Library_wish : MS :=
  (mSeq (mIfS (mDHas not [(false, "Library", F_Library___contains__)] (mVar 1) (mVar 0))
      (mRaise1 "UnknownName" "given" (mVar 1))
      mNext)
    (mSeq (mIfS (mNot (mCall F_is_wish (maCons (mVar 2) maNil)))
      (mRaise1 "InvalidWish" "given" (mVar 2))
      mNext)
    (mSeq (mSet 3 (mTup (maStar (mAttr (selFld "Shelf" "pairs") (mAttr (selFld "Library" "shelf") (mVar 0))) (maCons (mTup (maCons (mVar 1) (maCons (mVar 2) maNil))) maNil))))
    (mSeq (mExpr (mCall F_check_kept (maCons (mAttr (selFld "Shelf" "rows") (mAttr (selFld "Library" "shelf") (mVar 0))) (maCons (mVar 3) maNil))))
    (mExpr (mMeth "become" [(false, "Library", F_Library_become)] (mVar 0) (maCons (mAttr (selFld "Shelf" "rows") (mAttr (selFld "Library" "shelf") (mVar 0))) (maCons (mVar 3) maNil))))))))
noncomputable def F_Library_wish : MF := (mFn 3 4 M_Library_wish)
noncomputable def M_Library_lift : MS :=
  (mSeq (mSet 2 (mAttr (selFld "Shelf" "pairs") (mAttr (selFld "Library" "shelf") (mVar 0))))
    (mSeq (mIfS (mOr (mNot (mCall F_is_integer (maCons (mVar 1) maNil))) (mNot (mChain bLe bLt (mC (.int 0)) (mVar 1) (mCB cLen (maCons (mVar 2) maNil)))))
      (mRaise1 "InvalidIndex" "given" (mVar 1))
      mNext)
    (mExpr (mMeth "become" [(false, "Library", F_Library_become)] (mVar 0) (maCons (mAttr (selFld "Shelf" "rows") (mAttr (selFld "Library" "shelf") (mVar 0))) (maCons (mOp2 bCatT (mSl (mVar 2) none (some (mVar 1))) (mSl (mVar 2) (some (mOp2 bAdd (mVar 1) (mC (.int 1)))) none)) maNil))))))
noncomputable def F_Library_lift : MF := (mFn 2 3 M_Library_lift)
noncomputable def M_Library_undo : MS :=
  (mSeq (mIfS (mOp2 bIsN (mAttr (selFld "Shelf" "ahead") (mAttr (selFld "Library" "shelf") (mVar 0))) (mC .non))
      (mRaise0 "NothingToUndo")
      mNext)
    (mSetA (setFld ["Library"] "shelf") (mAttr (selFld "Shelf" "ahead") (mAttr (selFld "Library" "shelf") (mVar 0))) (mVar 0)))
noncomputable def F_Library_undo : MF := (mFn 1 1 M_Library_undo)
noncomputable def M_Library___getitem__ : MS :=
  (mSeq (mIfS (mDHas not [(false, "Library", F_Library___contains__)] (mVar 1) (mVar 0))
      (mRaise1 "UnknownName" "given" (mVar 1))
      mNext)
    (mRet (mDGet (mAttr (selFld "Shelf" "rows") (mAttr (selFld "Library" "shelf") (mVar 0))) (mVar 1))))
noncomputable def F_Library___getitem__ : MF := (mFn 2 2 M_Library___getitem__)
noncomputable def M_Library___setitem__ : MS :=
  (mSeq (mIfS (mNot (mCall F_is_name (maCons (mVar 1) maNil)))
      (mRaise1 "InvalidName" "given" (mVar 1))
      mNext)
    (mSeq (mExpr (mCall F_check_row (maCons (mVar 2) maNil)))
    (mSeq (mSet 3 (mDStar (mAttr (selFld "Shelf" "rows") (mAttr (selFld "Library" "shelf") (mVar 0))) (mVar 1) (mVar 2)))
    (mSeq (mExpr (mCall F_check_kept (maCons (mVar 3) (maCons (mAttr (selFld "Shelf" "pairs") (mAttr (selFld "Library" "shelf") (mVar 0))) maNil))))
    (mExpr (mMeth "become" [(false, "Library", F_Library_become)] (mVar 0) (maCons (mVar 3) (maCons (mAttr (selFld "Shelf" "pairs") (mAttr (selFld "Library" "shelf") (mVar 0))) maNil))))))))
noncomputable def F_Library___setitem__ : MF := (mFn 3 4 M_Library___setitem__)
noncomputable def M_Library___len__ : MS :=
  (mRet (mCB cLenD (maCons (mAttr (selFld "Shelf" "rows") (mAttr (selFld "Library" "shelf") (mVar 0))) maNil)))
noncomputable def F_Library___len__ : MF := (mFn 1 1 M_Library___len__)
noncomputable def M_Library___bool__ : MS :=
  (mRet (mC (.bl true)))
noncomputable def F_Library___bool__ : MF := (mFn 1 1 M_Library___bool__)
noncomputable def M__law_vat : MS :=
  (mSeq (mSet 2 (mIf (mOp2 bLt (mVar 1) (mCB cLen (maCons (mVar 0) maNil))) (mOp2 bIx (mVar 0) (mVar 1)) (mOp2 bAdd (mOp2 bMul (mC (.int 47)) (mVar 1)) (mC (.int 5)))))
    (mSeq (mSet 3 (mOp2 bAdd (mC (.int 141650939)) (mOp2 bMul (mC (.int 39019)) (mVar 1))))
    (mSeq (mFor (mSeqI (mOp2 bCatL (mLst (maCons (mVar 2) maNil)) (mSl (mVar 0) none (some (mC (.int 6)))))) (gT (.nm 4))
      (mSet 3 (mOp2 bMod (mCB cInt (maCons (mOp2 bAdd (mOp2 bMul (mVar 3) (mC (.int 57041))) (mVar 4)) maNil)) (mC (.int 2147483323)))))
    (mRet (mNew (maCons (mIf (mOp2 bGe (mCB cAbs (maCons (mVar 2) maNil)) (mOp2 bPow (mC (.int 10)) (mC (.int 18)))) (mCB cAbs (maCons (mVar 2) maNil)) (mC (.int 0))) (maCons (mVar 3) (maCons (mC (.int 0)) maNil))))))))
noncomputable def F__law_vat : MF := (mFn 2 5 M__law_vat)
noncomputable def M__law_dip : MS :=
  (mSeq (mIfS (mOp2 bGt (mOp2 bIx (mVar 0) (mC (.int 0))) (mC (.int 0)))
      (mSeq (mAsg (mCB cDivmod (maCons (mOp2 bIx (mVar 0) (mC (.int 0))) (maCons (mVar 1) maNil))) (gTup 2 (gCons (gSub (mVar 0) (mC (.int 0))) (gCons (gName 2) gNil))))
    (mRet (mVar 2)))
      mNext)
    (mSeq (mAsg (mOp2 bAdd (mOp2 bIx (mVar 0) (mC (.int 2))) (mC (.int 1))) (gSub (mVar 0) (mC (.int 2))))
    (mSeq (mAsg (mOp2 bMod (mCB cInt (maCons (mOp2 bAdd (mOp2 bMul (mOp2 bIx (mVar 0) (mC (.int 1))) (mC (.int 45007))) (mOp2 bMul (mC (.int 27017)) (mOp2 bIx (mVar 0) (mC (.int 2))))) maNil)) (mC (.int 2147483323))) (gSub (mVar 0) (mC (.int 1))))
    (mRet (mOp2 bMod (mCB cInt (maCons (mOp2 bDiv (mOp2 bIx (mVar 0) (mC (.int 1))) (mC (.int 1024))) maNil)) (mVar 1))))))
noncomputable def F__law_dip : MF := (mFn 2 3 M__law_dip)
noncomputable def M__law_counts : MS :=
  (mSeq (mSet 2 (mOp2 bAdd (mC (.int 2)) (mCall F__law_dip (maCons (mVar 0) (maCons (mC (.int 5)) maNil)))))
    (mSeq (mSet 3 (mNew maNil))
    (mSeq (mFor (mRng1I (maCons (mVar 2) maNil)) (gT (.nm 4))
      (mSeq (mSet 5 (mOp2 bIx (mLst (maCons (mC (.int 0)) (maCons (mC (.int 1)) (maCons (mC (.int 2)) (maCons (mC (.int 3)) (maCons (mC (.int 4)) (maCons (mC (.int 7)) (maCons (mC (.int 12)) maNil)))))))) (mCall F__law_dip (maCons (mVar 0) (maCons (mC (.int 7)) maNil)))))
    (mExpr (mLM doApp (mVar 3) (mIf (mOp2 bEq (mVar 1) (mC (.int 0))) (mVar 5) (mOp2 bIx (mLst (maCons (mVar 5) (maCons (mOp2 bAdd (mOp2 bPow (mC (.int 10)) (mC (.int 9))) (mVar 5)) (maCons (mOp2 bSub (mOp2 bPow (mC (.int 10)) (mC (.int 30))) (mVar 5)) maNil)))) (mCall F__law_dip (maCons (mVar 0) (maCons (mC (.int 3)) maNil)))))))))
    (mRet (mIf (mOp2 bGt (mCB cSum (maCons (mVar 3) maNil)) (mC (.int 0))) (mCB cTuple (maCons (mVar 3) maNil)) (mCB cTuple (maCons (mOp2 bRepL (mLst (maCons (mC (.int 1)) maNil)) (mVar 2)) maNil)))))))
noncomputable def F__law_counts : MF := gcF (mFn 2 6 M__law_counts)
noncomputable def M__law_outcome (θ : VH → R D) : MS :=
  (mSeq (mTryT 6 exL (mSet 1 (mThunk θ)) [(["InvalidName", "InvalidWish", "InvalidIndex", "NotRow", "UnknownName"], (some 2), fun x => (mSeq (mSet 3 (mLst (maCons (mLst (maCons (mIsX exL xaL x "InvalidName") (maCons (mC (.str "name")) maNil))) (maCons (mLst (maCons (mIsX exL xaL x "InvalidWish") (maCons (mC (.str "wish")) maNil))) maNil))))
    (mSeq (mSet 3 (mOp2 bCatL (mVar 3) (mLst (maCons (mLst (maCons (mIsX exL xaL x "InvalidIndex") (maCons (mC (.str "index")) maNil))) (maCons (mLst (maCons (mIsX exL xaL x "NotRow") (maCons (mC (.str "row")) maNil))) maNil)))))
    (mSeq (mSet 4 (mJoin (mC (.str "")) (mLc (mLI (mOp2 bCatL (mVar 3) (mLst (maCons (mLst (maCons (mIsX exL xaL x "UnknownName") (maCons (mC (.str "unknown")) maNil))) maNil)))) (.nm 5) [5] (mOp2 bIx (mVar 5) (mC (.int 0))) (mOp2 bIx (mVar 5) (mC (.int 1))))))
    (mRet (mLst (maCons (mVar 4) (maCons (mCH (fRep [(true, "Row", F_Row___repr__)]) (maCons (mXf xf_given_L x "given") maNil)) maNil)))))))), (["InUse", "Broken"], (some 2), fun x => (mRet (mLst (maCons (mIf (mIsX exL xaL x "InUse") (mC (.str "in use")) (mC (.str "broken"))) (maCons (mCB cRepr (maCons (mXf xf_index_L x "index") maNil)) maNil))))), (["NothingToUndo"], none, fun x => (mRet (mLst (maCons (mC (.str "nothing")) (maCons (mC (.str "")) maNil)))))])
    (mRet (mLst (maCons (mC (.str "told")) (maCons (mCB cRepr (maCons (mVar 1) maNil)) maNil)))))
noncomputable def F__law_outcome : MFT := mFnT 6 M__law_outcome
noncomputable def M__law_store : MS :=
  (mDSet [(false, "Library", F_Library___setitem__)] (mVar 2) (mVar 0) (mVar 1))
noncomputable def F__law_store : MF := (mFn 3 3 M__law_store)
noncomputable def M__law_right : MS :=
  (mSeq (mSet 1 (mCall G_Library maNil))
    (mSeq (mSet 2 (mLst (maCons (mAttr (selProp "Library" F_Library_names) (mVar 1)) (maCons (mAttr (selProp "Library" F_Library_wishes) (mVar 1)) (maCons (mAttr (selProp "Library" F_Library_changes) (mVar 1)) (maCons (mCH (fDun [(true, "Row", F_Row___len__), (false, "Library", F_Library___len__)] okLen) (maCons (mVar 1) maNil)) (maCons (mCH (fDun [(false, "Library", F_Library___bool__)] okBool) (maCons (mVar 1) maNil)) (maCons (mOp2 (bIdn "Library" false) (mVar 1) (mCall G_Library maNil)) (maCons (mOp2 (bIdn "Library" true) (mVar 1) (mCall G_Library maNil)) maNil)))))))))
    (mSeq (mIfS (mOr (mOp2 bNe (mCB cRepr (maCons (mVar 2) maNil)) (mCB cRepr (maCons (mLst (maCons (mTup maNil) (maCons (mTup maNil) (maCons (mC (.int 0)) (maCons (mC (.int 0)) (maCons (mC (.bl true)) (maCons (mC (.bl false)) (maCons (mC (.bl true)) maNil)))))))) maNil))) (mOp2 bNe (mLam F__law_outcome (mMeth "undo" [(false, "Library", F_Library_undo)] (mVar 1) maNil)) (mLst (maCons (mC (.str "nothing")) (maCons (mC (.str "")) maNil)))))
      (mRet (mC (.bl false)))
      mNext)
    (mSeq (mPar 3 4 (maCons (mCall G_Row (maCons (mCall F__law_counts (maCons (mVar 0) (maCons (mC (.int 0)) maNil))) maNil)) (maCons (mCall G_Row (maCons (mCall F__law_counts (maCons (mVar 0) (maCons (mC (.int 1)) maNil))) maNil)) maNil)))
    (mSeq (mExpr (mCall F__law_store (maCons (mVar 1) (maCons (mC (.str "one")) (maCons (mVar 3) maNil)))))
    (mSeq (mExpr (mCall F__law_store (maCons (mVar 1) (maCons (mC (.str "b2345678")) (maCons (mVar 4) maNil)))))
    (mSeq (mSet 5 (mTup (maCons (mC (.str "likely")) (maCons (mC (.int 0)) (maCons (mTup (maCons (mC (.int 0)) (maCons (mC (.int 1)) maNil))) maNil)))))
    (mSeq (mIfS (mOp2 bNotN (mMeth "wish" [(false, "Library", F_Library_wish)] (mVar 1) (maCons (mC (.str "one")) (maCons (mVar 5) maNil))) (mC .non))
      (mRet (mC (.bl false)))
      mNext)
    (mSeq (mFor (mSeqI (mLst (maCons (mC .non) (maCons (mC (.str "")) (maCons (mC (.str "A")) (maCons (mC (.str "1a")) (maCons (mC (.str "a b")) (maCons (mC (.str "abcdefghi")) (maCons (mC (.str "a-")) (maCons (mC (.int 3)) (maCons (mTup (maCons (mC (.str "one")) maNil)) (maCons (mLst maNil) (maCons (mC (.dic [] [])) (maCons (mC (.bl true)) (maCons (mVar 3) maNil))))))))))))))) (gT (.nm 6))
      (mIfS (mOp2 bNe (mLam F__law_outcome (mCall F__law_store (maCons (mVar 1) (maCons (mVar 6) (maCons (mC .non) maNil))))) (mLst (maCons (mC (.str "name")) (maCons (mCH (fRep [(true, "Row", F_Row___repr__)]) (maCons (mVar 6) maNil)) maNil))))
      (mRet (mC (.bl false)))
      mNext))
    (mSeq (mFor (mSeqI (mLst (maCons (mC .non) (maCons (mAttr (selSProp "Row" F_Row_text) (mVar 3)) (maCons (mAttr (selSProp "Row" F_Row_counts) (mVar 3)) (maCons (mTup (maCons (mVar 3) maNil)) (maCons (mC (.int 5)) (maCons (mC (.bl true)) (maCons (mC (.dic [] [])) (maCons (mC (.str "one")) maNil)))))))))) (gT (.nm 6))
      (mIfS (mOp2 bNe (mLam F__law_outcome (mCall F__law_store (maCons (mVar 1) (maCons (mOp2 bIx (mLst (maCons (mC (.str "one")) (maCons (mC (.str "new")) maNil))) (mCall F__law_dip (maCons (mVar 0) (maCons (mC (.int 2)) maNil)))) (maCons (mVar 6) maNil))))) (mLst (maCons (mC (.str "row")) (maCons (mCH (fRep [(true, "Row", F_Row___repr__)]) (maCons (mVar 6) maNil)) maNil))))
      (mRet (mC (.bl false)))
      mNext))
    (mSeq (mFor (mSeqI (mLst (maCons (mC .non) (maCons (mC (.str "")) (maCons (mC (.str "nowhere")) (maCons (mC (.str "One")) (maCons (mC (.int 3)) (maCons (mC (.bl true)) (maCons (mTup (maCons (mC (.str "one")) maNil)) (maCons (mLst (maCons (mC (.str "one")) maNil)) (maCons (mC (.dic [] [])) (maCons (mVar 3) maNil)))))))))))) (gT (.nm 6))
      (mSeq (mSet 7 (mNew (maCons (mLam F__law_outcome (mDSub [(false, "Library", F_Library___getitem__)] (mVar 1) (mVar 6))) maNil)))
    (mSeq (mExpr (mLM doApp (mVar 7) (mLam F__law_outcome (mMeth "remove" [(false, "Library", F_Library_remove)] (mVar 1) (maCons (mVar 6) maNil)))))
    (mSeq (mExpr (mLM doApp (mVar 7) (mLam F__law_outcome (mMeth "wish" [(false, "Library", F_Library_wish)] (mVar 1) (maCons (mVar 6) (maCons (mC .non) maNil))))))
    (mIfS (mOr (mOp2 bNe (mVar 7) (mOp2 bRepL (mLst (maCons (mLst (maCons (mC (.str "unknown")) (maCons (mCH (fRep [(true, "Row", F_Row___repr__)]) (maCons (mVar 6) maNil)) maNil))) maNil)) (mC (.int 3)))) (mDHas id [(false, "Library", F_Library___contains__)] (mVar 6) (mVar 1)))
      (mRet (mC (.bl false)))
      mNext)))))
    (mSeq (mFor (mSeqI (mLst (maCons (mC .non) (maCons (mC (.bl true)) (maCons (mC (.bl false)) (maCons (mOp1 uNeg (mC (.int 1))) (maCons (mC (.int 1)) (maCons (mC (.int 7)) (maCons (mC (.str "0")) (maCons (mTup (maCons (mC (.int 0)) maNil)) (maCons (mLst (maCons (mC (.int 0)) maNil)) (maCons (mC (.dic [] [])) (maCons (mOp2 bPow (mC (.int 10)) (mC (.int 30))) maNil))))))))))))) (gT (.nm 6))
      (mSeq (mSet 7 (mNew (maCons (mLam F__law_outcome (mMeth "lift" [(false, "Library", F_Library_lift)] (mVar 1) (maCons (mVar 6) maNil))) maNil)))
    (mSeq (mExpr (mLM doApp (mVar 7) (mLam F__law_outcome (mMethK "lift" [(false, "Library", F_Library_lift)] 1 [0] (mVar 1) (maCons (mVar 6) maNil)))))
    (mIfS (mOp2 bNe (mVar 7) (mOp2 bRepL (mLst (maCons (mLst (maCons (mC (.str "index")) (maCons (mCH (fRep [(true, "Row", F_Row___repr__)]) (maCons (mVar 6) maNil)) maNil))) maNil)) (mC (.int 2))))
      (mRet (mC (.bl false)))
      mNext))))
    (mSeq (mSet 7 (mLst (maCons (mAttr (selProp "Library" F_Library_names) (mVar 1)) (maCons (mAttr (selProp "Library" F_Library_wishes) (mVar 1)) (maCons (mAttr (selProp "Library" F_Library_changes) (mVar 1)) (maCons (mAttr (selSProp "Row" F_Row_text) (mDSub [(false, "Library", F_Library___getitem__)] (mVar 1) (mC (.str "one")))) (maCons (mDHas id [(false, "Library", F_Library___contains__)] (mC (.str "b2345678")) (mVar 1)) maNil)))))))
    (mSeq (mIfS (mOp2 bNe (mVar 7) (mLst (maCons (mTup (maCons (mC (.str "b2345678")) (maCons (mC (.str "one")) maNil))) (maCons (mTup (maCons (mTup (maCons (mC (.str "one")) (maCons (mVar 5) maNil))) maNil)) (maCons (mC (.int 3)) (maCons (mAttr (selSProp "Row" F_Row_text) (mVar 3)) (maCons (mC (.bl true)) maNil)))))))
      (mRet (mC (.bl false)))
      mNext)
    (mSeq (mIfS (mOr (mOp2 bNe (mLam F__law_outcome (mMeth "remove" [(false, "Library", F_Library_remove)] (mVar 1) (maCons (mC (.str "one")) maNil))) (mLst (maCons (mC (.str "in use")) (maCons (mC (.str "0")) maNil)))) (mOp2 bNotN (mMeth "remove" [(false, "Library", F_Library_remove)] (mVar 1) (maCons (mC (.str "b2345678")) maNil)) (mC .non)))
      (mRet (mC (.bl false)))
      mNext)
    (mRet (mOp2 bEq (mLst (maCons (mMethK "lift" [(false, "Library", F_Library_lift)] 1 [0] (mVar 1) (maCons (mC (.int 0)) maNil)) (maCons (mMeth "remove" [(false, "Library", F_Library_remove)] (mVar 1) (maCons (mC (.str "one")) maNil)) (maCons (mAttr (selProp "Library" F_Library_names) (mVar 1)) (maCons (mCH (fDun [(true, "Row", F_Row___len__), (false, "Library", F_Library___len__)] okLen) (maCons (mVar 1) maNil)) (maCons (mAttr (selProp "Library" F_Library_changes) (mVar 1)) maNil)))))) (mLst (maCons (mC .non) (maCons (mC .non) (maCons (mTup maNil) (maCons (mC (.int 0)) (maCons (mC (.int 6)) maNil)))))))))))))))))))))))
noncomputable def F__law_right : MF := (mFn 1 8 M__law_right)
noncomputable def M__law_quiet : MS :=
  (mSeq (mTry exL (mSet 1 (mCall F__law_right (maCons (mVar 0) maNil))) [(["WrongValue", "WrongName", "NotPossible"], none, fun x => (mRet (mC (.bl false))))])
    (mRet (mVar 1)))
noncomputable def F__law_quiet : MF := (mFn 1 2 M__law_quiet)
noncomputable def M_law : MS :=
  (mRet (mCB (cAllG fun ns => ns.all id) (maCons (mLc (mRng1I (maCons (mCB (cInt2 fun i j => if j > i then j else i) (maCons (mC (.int 2)) (maCons (mCB (cInt2 fun i j => if j < i then j else i) (maCons (mCB cLen (maCons (mVar 0) maNil)) (maCons (mC (.int 4)) maNil))) maNil))) maNil)) (.nm 1) [1] mYes (gcE (mCall F__law_quiet (maCons (mCall F__law_vat (maCons (mVar 0) (maCons (mVar 1) maNil))) maNil)))) maNil)))
noncomputable def F_law : MF := (mFn 1 2 M_law)
end ML
/-! the text B1 -/
/-! printed by base.py -/
namespace ML
open PySem PySem.Spec PyProof.Rows L2
theorem shared_eq (a b : Int) (h : VH) (hb : b.natAbs < 2 ^ 40000) : F_shared [.int a, .int b] h = some (.ok (.int (Nat.gcd a.natAbs b.natAbs)), h) := by
  have abs_eq : ∀ i : Int, (if i < 0 then -i else i) = (i.natAbs : Int) := fun i => by split <;> omega
  unfold F_shared M_shared
  simp only [ev_fn, List.length_cons, List.length_nil, if_true, start_eq, List.map_cons, List.map_nil, ev_seq, ev_par, ev_cons, ev_cb, ev_var, ev_nil, List.replicate, List.append_nil, Nat.sub_self,
    List.getElem?_cons_zero, List.getElem?_cons_succ, bnd_ok, abs_int, got_some, ev_ok, abs_eq, List.set_cons_zero, List.set_cons_succ]
  rw [gcd_loop (fun x y h => by simp) (fun x y h hy => by simp [bMod_int hy]) 40000 fuel a.natAbs b.natAbs h hb (by unfold fuel; omega)]
  simp
theorem lowest_eq {t : Int} {b : Nat} {h : VH} (hb0 : b ≠ 0) (hb : b < 2 ^ 8000) : F_lowest [.int t, .int (b : Int)] h = some (.ok (fr (mkRat t b)), h) := by
  have g0 : t.natAbs.gcd b ≠ 0 := fun z => hb0 (Nat.eq_zero_of_gcd_eq_zero_right z)
  have gl := gcd_small (a := t.natAbs) hb0 hb (by omega)
  have gl9 : (t.natAbs.gcd b).log2 < 9000 := by omega
  have hp : 0 < b := Nat.pos_of_ne_zero hb0
  unfold F_lowest M_lowest
  simp [shared_eq t (b : Int) h (by simpa using lt_pow_mono hb (by omega)), hp, div_ok g0 gl9, int_fr hb0]
theorem plain_eq {d : D} {c : Bool} {ns : List Int} {h : VH} (hd : seqOf h d = some (c, ns.map .int)) (hne : ∃ n ∈ ns, n ≠ 0) (hb : ∀ n ∈ ns, n.natAbs < 2 ^ 8000) (hl : ns.length ≤ 1000) : F_plain [d] h = some (.ok (.tup ((plainI ns).map .int)), h) := by
  obtain ⟨n0, hn0, hz⟩ := hne
  have g0 := gcds_ne hn0 hz
  have gl : (gcds ns).log2 < 9000 := by
    have := log2_small (Nat.lt_of_le_of_lt (gcds_le hn0 hz) (hb n0 hn0)) (by omega)
    omega
  obtain ⟨ρ', e, i⟩ := for_seqI (ρ := [some d, some (.int 0), none]) (h := h) (m := mVar 0) (g := gT (.nm 2)) (b := mSet 1 (mCall F_shared (maCons (mVar 1) (maCons (mVar 2) maNil)))) rfl hd
    (fun j ρ => ∃ x, ρ = [some d, some (.int ((gcdF 0 (ns.take j) : Nat) : Int)), x]) ⟨none, rfl⟩ (fun j x ρ hx ⟨y, er⟩ => by
      subst er
      rw [List.getElem?_map] at hx
      cases q : ns[j]? with
      | none => rw [q] at hx; cases hx
      | some n =>
        rw [q] at hx
        cases hx
        refine ⟨_, _, rfl, ?_, some (.int n), rfl⟩
        simp only [ev_set, ev_call, ev_cons, ev_var, ev_nil, List.set_cons_zero, List.set_cons_succ, List.getElem?_cons_zero, List.getElem?_cons_succ, bnd_ok]
        rw [shared_eq _ n h (lt_pow_mono (hb n (List.mem_of_getElem? q)) (by omega))]
        have hj : j < ns.length := (List.getElem?_eq_some_iff.mp q).1
        rw [show gcdF 0 (ns.take (j + 1)) = Nat.gcd (gcdF 0 (ns.take j)) n.natAbs from by
          rw [List.take_succ, q]
          unfold gcdF
          rw [List.foldl_append]
          rfl]
        simp)
  obtain ⟨x, er⟩ := i
  subst er
  unfold F_plain M_plain
  simp only [ev_fn, start_eq, ev_seq, ev_set, ev_c, List.length_cons, List.length_nil, if_true, List.map_cons, List.map_nil, List.replicate, List.cons_append, List.nil_append, List.set_cons_zero, List.set_cons_succ, e]
  simp only [ev_ret, ev_cb, ev_cons, ev_nil]
  rw [lc_seqM (fun x => match x with | .int n => .int (n / (gcds ns : Int)) | x => x) rfl hd (by simpa using by omega) (fun x hx => by
    obtain ⟨n, hn, rfl⟩ := List.mem_map.mp hx
    refine ⟨_, rfl, ?_⟩
    simp only [wipeD, List.map_map, List.length_map, List.take_length, ev_op2, ev_var, List.set_cons_zero, List.set_cons_succ, List.getElem?_cons_zero, List.getElem?_cons_succ, bnd_ok]
    rw [show gcdF 0 ns = gcds ns from rfl, div_ok g0 gl]
    rfl)]
  simp [plainI, Function.comp_def]
theorem is_integer_eq {n : Int} {h : VH} : F_is_integer [.int n] h = some (.ok (.bl true), h) := by rfl
theorem is_count_eq {n : Int} {h : VH} : F_is_count [.int n] h = some (.ok (.bl (decide (0 ≤ n))), h) := by
  unfold F_is_count M_is_count
  simp [is_integer_eq]
theorem isi_tup {xs : List D} {h : VH} : fIsi isL ciL csL [.tup xs, .ty "tuple"] h = some (.bl true) := by rfl
theorem is_counts_eq {ns : List Int} {h : VH} (c : Cnt ns) : F_is_counts [tupI ns] h = some (.ok (.bl true), h) := by
  have c2 := c.two
  have c6 := c.six
  unfold F_is_counts M_is_counts
  have lc := lc_seqM (ρ := [some (tupI ns), none]) (h := h) (m := mVar 0) (t := .nm 1) (vs := [1]) (te := mCall F_is_count (maCons (mVar 1) maNil)) (fun x => match x with | .int n => .bl (decide (0 ≤ n)) | x => x) rfl seq_tupI (by simp; omega) (fun x hx => by
    obtain ⟨n, hn, rfl⟩ := List.mem_map.mp hx
    refine ⟨_, rfl, ?_⟩
    simp [wipeD, is_count_eq])
  have al : (List.map (fun x => match x with | .int n => D.bl (decide (0 ≤ n)) | x => x) (List.map D.int ns)) = (ns.map fun n => decide (0 ≤ n)).map D.bl := by simp [Function.comp_def]
  rw [al] at lc
  have allT : ((ns.map fun n => decide (0 ≤ n)).all id) = true := by
    rw [List.all_eq_true]
    intro b hb
    obtain ⟨n, hn, rfl⟩ := List.mem_map.mp hb
    exact decide_eq_true (c.nn n hn)
  have h1 : cLen [tupI ns] h = some (.int ns.length) := by simp [tupI]
  have h2 : bLe (.int 2) (.int (ns.length : Int)) h = some (.bl true) := by rw [bLe_int]; simp; omega
  have h3 : bLe (.int (ns.length : Int)) (.int 6) h = some (.bl true) := by rw [bLe_int]; simp; omega
  simp only [ev_fn, start_eq, ev_seq, ev_ifS, ev_or, ev_not, ev_cb, ev_cons, ev_var, ev_c, ev_nil, List.length_cons, List.length_nil, if_true, List.map_cons, List.map_nil, List.replicate, List.cons_append, List.nil_append, List.getElem?_cons_zero, bnd_ok, ev_ok,
    show fIsi isL ciL csL [tupI ns, .ty "tuple"] h = some (.bl true) from rfl, got_some, Bool.not_true, mChain, h1, h2, h3, lc]
  have hall : cAllG (fun ns => ns.all id) [D.lst (List.map D.bl (List.map (fun n => decide (0 ≤ n)) ns))] h = some (.bl true) := by simp only [cAllG, seqOf_lst, blsOf_bls, Option.map_some, allT]
  simp only [hall, bnd_ok, got_some, ev_ok, Bool.not_true, ev_next, ev_ret, ev_op2, ev_cb, ev_cons, ev_var, ev_nil, ev_c, List.getElem?_cons_zero, sum_tupI, bGt_int, decide_eq_true c.pos]
theorem wrong_count_eq {ns : List Int} {h : VH} (c : Cnt ns) : F_wrong_count [tupI ns] h = some (.ok .non, h) := by
  have c2 := c.two
  have c6 := c.six
  have h1 : cLen [tupI ns] h = some (.int ns.length) := by simp [tupI]
  have h2 : bLt (.int (ns.length : Int)) (.int 2) h = some (.bl false) := by rw [bLt_int]; simp; omega
  have tail : forL (gT (.tp [.nm 1, .nm 2])) (mIfS (mOr (mOp2 bGt (mVar 1) (mC (.int 5))) (mNot (mCall F_is_count (maCons (mVar 2) maNil)))) (mRet (mVar 1)) mNext) (enumL 0 (ns.map .int)) [some (tupI ns), none, none] h = forL (gT (.tp [.nm 1, .nm 2])) (mIfS (mOr (mOp2 bGt (mVar 1) (mC (.int 5))) (mNot (mCall F_is_count (maCons (mVar 2) maNil)))) (mRet (mVar 1)) mNext) (enumL 0 (ns.map .int)) [some (tupI ns), none, none] h := rfl
  have inv := forL_inv (g := gT (.tp [.nm 1, .nm 2])) (b := mIfS (mOr (mOp2 bGt (mVar 1) (mC (.int 5))) (mNot (mCall F_is_count (maCons (mVar 2) maNil)))) (mRet (mVar 1)) mNext) (enumL 0 (ns.map .int))
    (fun _ ρ h' => h' = h ∧ ∃ x y, ρ = [some (tupI ns), x, y]) 0 [some (tupI ns), none, none] h (fun j x ρ h' hx ⟨eh, y, z, er⟩ => by
      subst eh er
      obtain ⟨i, w, e1, e2, e3, e4⟩ := enumL_mem (List.mem_of_getElem? hx)
      obtain ⟨n, hn, rfl⟩ := List.mem_map.mp e2
      subst e1
      refine ⟨_, _, _, _, rfl, ?_, rfl, some (.int (i : Nat)), some (.int n), rfl⟩
      have i5 : bGt (.int (i : Int)) (.int 5) h' = some (.bl false) := by rw [bGt_int]; simp at e4 ⊢; omega
      simp only [ev_ifS, ev_or, ev_not, ev_op2, ev_call, ev_cons, ev_var, ev_nil, ev_c, List.set_cons_zero, List.set_cons_succ, List.getElem?_cons_zero, List.getElem?_cons_succ, bnd_ok, i5, got_some, ev_ok, is_count_eq, decide_eq_true (c.nn n hn), Bool.not_true, ev_next]) ⟨rfl, _, _, rfl⟩
  obtain ⟨ρ', h', e, eh, x, y, er⟩ := inv
  subst eh er
  unfold F_wrong_count M_wrong_count
  simp only [ev_fn, start_eq, ev_seq, ev_ifS, ev_or, ev_not, ev_op2, ev_cb, ev_cons, ev_var, ev_c, ev_nil, List.length_cons, List.length_nil, if_true, List.map_cons, List.map_nil, List.replicate, List.cons_append, List.nil_append, List.getElem?_cons_zero, bnd_ok, ev_ok,
    show fIsi isL ciL csL [tupI ns, .ty "tuple"] h' = some (.bl true) from rfl, got_some, Bool.not_true, h1, h2, ev_next]
  rw [for_enum (d := tupI ns) (c := false) (xs := ns.map .int) rfl (fun _ => rfl), e]
  simp only [ev_ret, ev_if, ev_call, ev_cons, ev_var, ev_nil, ev_c, List.getElem?_cons_zero, bnd_ok, is_counts_eq c]
theorem row_made {ns : List Int} {h : VH} (c : Cnt ns) : G_Row [tupI ns] h = some (.ok (rowD (plainI ns)), h) := by
  have c6 := c.six
  have ini : F_Row___init__ [.obj h.length, tupI ns] (h ++ [.ins "Row" [] []]) = some (.ok .non, (h ++ [.slt "Row" [tupI (plainI ns)]])) := by
    unfold F_Row___init__ M_Row___init__
    have pl := plain_eq (d := tupI ns) (c := false) (ns := ns) (h := h ++ [.ins "Row" [] []]) rfl (sum_pos_ne c.pos) (fun n hn => lt_pow_mono (c.bd n hn) (by omega)) (by omega)
    simp only [ev_fn, start_eq, ev_seq, ev_set, ev_ifS, ev_op2, ev_call, ev_cons, ev_var, ev_c, ev_nil, List.length_cons, List.length_nil, if_true, List.map_cons, List.map_nil, List.replicate, List.cons_append, List.nil_append, List.getElem?_cons_zero, List.getElem?_cons_succ, List.set_cons_zero, List.set_cons_succ, bnd_ok, ev_ok,
      wrong_count_eq c, show ∀ h, bNotN .non .non h = some (.bl false) from fun _ => rfl, got_some, ev_next, mSetA, pl, setSlot]
    simp [tupI]
  unfold G_Row frzF mkF
  rw [ini]
  simp only []
  rw [if_neg (by intro z; have := congrArg List.length z; simp at this), if_pos (by simp)]
  simp only [frz, List.getElem?_append_right (Nat.le_refl _), Nat.sub_self, List.getElem?_cons_zero, if_neg (Nat.lt_irrefl _)]
  simp only [frzs, frz, tupI]
  rw [frzs_ints _ _ _ _ (by rw [plainI_len]; omega)]
  rfl
theorem row_counts {ns : List Int} {h : VH} : F_Row_counts [rowD ns] h = some (.ok (tupI ns), h) := by rfl
theorem row_rates {ns : List Int} {h : VH} (c : Cnt ns) : F_Row_rates [rowD ns] h = some (.ok (.tup ((rateQ ns).map fr)), h) := by
  have s0 : ns.sum.toNat ≠ 0 := by have := c.pos; omega
  have se : ns.sum = (ns.sum.toNat : Int) := by have := c.pos; omega
  have c6 := c.six
  unfold F_Row_rates M_Row_rates
  simp only [ev_fn, start_eq, ev_seq, ev_set, ev_cb, ev_cons, ev_attr, ev_var, ev_c, ev_nil, List.length_cons, List.length_nil, if_true, List.map_cons, List.map_nil, List.replicate, List.cons_append, List.nil_append, List.getElem?_cons_zero, List.getElem?_cons_succ, List.set_cons_zero, List.set_cons_succ, bnd_ok, ev_ok, slot_row, sum_tupI, got_some, ev_ret]
  rw [lc_seqM (d := tupI ns) (c := false) (xs := ns.map .int) (fun x => match x with | .int n => fr (mkRat n ns.sum.toNat) | x => x) rfl rfl (by simp; omega) (fun x hx => by
    obtain ⟨n, hn, rfl⟩ := List.mem_map.mp hx
    refine ⟨_, rfl, ?_⟩
    simp only [wipeD, ev_call, ev_cons, ev_var, ev_nil, List.set_cons_zero, List.set_cons_succ, List.getElem?_cons_zero, List.getElem?_cons_succ, bnd_ok]
    rw [se, lowest_eq s0 (lt_pow_mono c.sum_lt (by omega))]
    rfl)]
  simp [rateQ, Function.comp_def]
theorem row_len {ns : List Int} {h : VH} (c : Cnt ns) : F_Row___len__ [rowD ns] h = some (.ok (.int ((ns.length - 1 : Nat) : Int)), h) := by
  have c2 := c.two
  unfold F_Row___len__ M_Row___len__
  simp only [ev_fn, start_eq, ev_ret, ev_cb, ev_cons, ev_sl, ev_attr, ev_var, ev_c, ev_nil, ev_part0, ev_part1, List.length_cons, List.length_nil, if_true, List.map_cons, List.map_nil, List.replicate, List.cons_append, List.nil_append, List.getElem?_cons_zero, bnd_ok, ev_ok, slot_row, slD, seq_tupI, got_some, len_tup, cutD, HT.sIx]
  rw [if_neg (by decide)]
  simp
  omega
section
variable {s : List Int} {bs : List Bool} {y : Bool} {b : Nat} {h : VH} {row : D}
theorem isi_bl : fIsi isL ciL csL [.bl y, .ty "bool"] h = some (.bl true) := by cases y <;> rfl
theorem dun_row {ns : List Int} (c : Cnt ns) : fDun [(true, "Row", F_Row___len__)] okLen [rowD ns] h = some (.int ((ns.length - 1 : Nat) : Int), h) := by
  have e : dunF [(true, "Row", F_Row___len__)] h (rowD ns) = some F_Row___len__ := rfl
  unfold fDun
  simp only [e, row_len c]
  have h6 := c.six
  rw [if_pos (by simp [okLen]; omega)]
end
theorem dip_eq {a B k : Nat} {h : VH} (v : Vat a B h) (hB : B ≤ 100000) (hk : 0 < k) (h7 : k ≤ 7) :
    ∃ (r : Nat) (h' : VH), F__law_dip [.obj a, .int (k : Int)] h = some (.ok (.int (r : Int)), h') ∧ r < k ∧ Vat a (B + 1) h' ∧ Same a h h' := by
  obtain ⟨g, s, c, e, g0, s0, s1, c0, c1⟩ := v.ex
  have i0 : bIx (.obj a) (.int 0) h = some (.int g) := (ix_obj e).trans atI_0
  have tst : mOp2 bGt (mOp2 bIx (mVar 0) (mC (.int 0))) (mC (.int 0)) [some (.obj a), some (.int (k : Int)), none] h = some (.ok (.bl (decide (0 < g))), h) :=
    op2_ok (op2_ok rfl rfl i0) rfl bGt_int
  by_cases hg : 0 < g
  · rw [decide_eq_true hg] at tst
    have r0 : 0 ≤ g % (k : Int) := Int.emod_nonneg _ (by omega)
    have r1 : g % (k : Int) < k := Int.emod_lt_of_pos _ (by omega)
    refine ⟨(g % (k : Int)).toNat, h.set a (vatO (g / (k : Int)) s c), ?_, by omega, ⟨_, _, _, set_self e, Int.ediv_nonneg g0 (by omega), s0, s1, c0, by omega⟩, same_set⟩
    rw [Int.toNat_of_nonneg r0]
    refine fn_rt (ρ1 := [some (.obj a), some (.int (k : Int)), some (.int (g % (k : Int)))]) rfl ?_
    refine seq_rt ((ifS_t tst).trans ?_)
    refine (seq_nx (asg_ok (cb_ok (cons_ok (op2_ok rfl rfl i0) (one_ok (x := .int (k : Int)) rfl)) (z := .tup [.int (g / (k : Int)), .int (g % (k : Int))]) ?_) (h2 := h.set a (vatO (g / (k : Int)) s c)) (ρ1 := [some (.obj a), some (.int (k : Int)), some (.int (g % (k : Int)))]) ?_)).trans (ret_ok rfl)
    · show (if dvOk g (k : Int) = true then some _ else none) = _
      rw [if_pos (small_div hk h7)]
    · have gs := gsub_ok (ρ := [some (.obj a), some (.int (k : Int)), none]) (mo := mVar 0) (mi := mC (.int 0)) rfl rfl (set3_0 (d := .int (g / (k : Int))) e)
      show (match gSub (mVar 0) (mC (.int 0)) (.int (g / (k : Int))) [some (.obj a), some (.int (k : Int)), none] h with | some (ρ1, h1) => _ | none => none) = _
      rw [gs]
      rfl
  · rw [decide_eq_false hg] at tst
    have c' : (27017 * (c + 1)).natAbs < 2 ^ 60 := by omega
    have e2 : (h.set a (vatO g s (c + 1)))[a]? = some (vatO g s (c + 1)) := set_self e
    have m1 : ∀ h, bMul (.int s) (.int 45007) h = some (.int (s * 45007)) := fun h => mul_ok (m := 32) (n := 32) (by omega) (by decide) (by omega)
    have m2 : ∀ h, bMul (.int 27017) (.int (c + 1)) h = some (.int (27017 * (c + 1))) := fun h => mul_ok (m := 32) (n := 32) (by decide) (by omega) (by omega)
    have md0 : 0 ≤ (s * 45007 + 27017 * (c + 1)).fmod 2147483323 := Int.fmod_nonneg_of_pos _ (by decide)
    have md1 : (s * 45007 + 27017 * (c + 1)).fmod 2147483323 < 2147483323 := Int.fmod_lt_of_pos _ (by decide)
    generalize hs : (s * 45007 + 27017 * (c + 1)).fmod 2147483323 = s' at md0 md1
    have e3 : ((h.set a (vatO g s (c + 1))).set a (vatO g s' (c + 1)))[a]? = some (vatO g s' (c + 1)) := set_self e2
    have q0 : 0 ≤ s' / 1024 := Int.ediv_nonneg md0 (by decide)
    have r0 : 0 ≤ (s' / 1024).fmod (k : Int) := Int.fmod_nonneg_of_pos _ (by omega)
    have r1 : (s' / 1024).fmod (k : Int) < k := Int.fmod_lt_of_pos _ (by omega)
    refine ⟨((s' / 1024).fmod (k : Int)).toNat, (h.set a (vatO g s (c + 1))).set a (vatO g s' (c + 1)), ?_, by omega, ⟨_, _, _, e3, g0, md0, md1, by omega, by omega⟩, same_set.trans same_set⟩
    rw [Int.toNat_of_nonneg r0]
    refine fn_rt (ρ1 := [some (.obj a), some (.int (k : Int)), none]) rfl ?_
    refine (seq_nx (h1 := h) (ρ1 := [some (.obj a), some (.int (k : Int)), none]) ((ifS_f tst).trans rfl)).trans ?_
    refine (seq_nx (asg_ok (op2_ok (op2_ok rfl rfl ((ix_obj e).trans atI_2)) rfl bAdd_int) (gsub_ok rfl rfl (set3_2 e)))).trans ?_
    refine (seq_nx (asg_ok (op2_ok (cb_ok (one_ok (op2_ok (op2_ok (op2_ok rfl rfl ((ix_obj e2).trans atI_1)) rfl (m1 _)) (op2_ok rfl (op2_ok rfl rfl ((ix_obj e2).trans atI_2)) (m2 _)) bAdd_int)) int_int) rfl ((bMod_int (by decide)).trans (congrArg (fun z => some (D.int z)) hs))) (gsub_ok rfl rfl (set3_1 e2)))).trans ?_
    refine ret_ok (op2_ok (cb_ok (one_ok (op2_ok (op2_ok rfl rfl ((ix_obj e3).trans atI_1)) rfl (bDiv_int (by decide) (by decide)))) int_int) rfl (bMod_int (by omega)))
theorem vat_eq {ns : List Int} {t : Nat} {h : VH} (hl : ns.length ≤ 63) (ht : t < 5) : ∃ h', F__law_vat [.bls (ns.map .int), .int (t : Int)] h = some (.ok (.obj h.length), h') ∧ Vat h.length 0 h' := by
  have m1 : bMul (.int 47) (.int (t : Int)) h = some (.int (47 * (t : Int))) := mul_ok (m := 10) (n := 10) (by decide) (by omega) (by omega)
  have m2 : bMul (.int 39019) (.int (t : Int)) h = some (.int (39019 * (t : Int))) := mul_ok (m := 32) (n := 10) (by decide) (by omega) (by omega)
  have own : ∃ o : Int, mIf (mOp2 bLt (mVar 1) (mCB cLen (maCons (mVar 0) maNil))) (mOp2 bIx (mVar 0) (mVar 1)) (mOp2 bAdd (mOp2 bMul (mC (.int 47)) (mVar 1)) (mC (.int 5)))
      [some (.bls (ns.map .int)), some (.int (t : Int)), none, none, none] h = some (.ok (.int o), h) := by
    have tst : mOp2 bLt (mVar 1) (mCB cLen (maCons (mVar 0) maNil)) [some (.bls (ns.map .int)), some (.int (t : Int)), none, none, none] h = some (.ok (.bl (decide ((t : Int) < (((ns.map D.int).length : Nat) : Int)))), h) :=
      op2_ok rfl (cb_ok (one_ok (x := .bls (ns.map .int)) rfl) len_bls) bLt_int
    by_cases hc : t < ns.length
    · rw [decide_eq_true (by simp; omega)] at tst
      refine ⟨ns[t], if_t tst (op2_ok (x := .bls (ns.map .int)) (y := .int (t : Int)) rfl rfl ?_)⟩
      rw [bIx_bls, atI_nat (by simp; omega), List.getElem?_map, List.getElem?_eq_getElem hc]
      rfl
    · rw [decide_eq_false (by simp; omega)] at tst
      exact ⟨_, if_f tst (op2_ok (op2_ok rfl rfl m1) rfl bAdd_int)⟩
  obtain ⟨o, own⟩ := own
  have lst : mOp2 bCatL (mLst (maCons (mVar 2) maNil)) (mSl (mVar 0) none (some (mC (.int 6)))) [some (.bls (ns.map .int)), some (.int (t : Int)), some (.int o), some (.int (141650939 + 39019 * (t : Int))), none] h =
      some (.ok (.lst ((o :: cutD ns none (some 6)).map .int)), h) := by
    refine op2_ok (x := .lst [.int o]) (y := .lst ((cutD ns none (some 6)).map .int)) (lst_ok (one_ok (x := .int o) rfl) (by simp)) (sl_ok (d := .bls (ns.map .int)) (i := 6) rfl rfl ?_) ?_
    · simp only [slD, seqOf, cut_map]
    · have := cut_len (xs := ns) (lo := none) (hi := some 6)
      simp only [bCatL, exl]
      rw [if_pos (by simp; omega)]
      rfl
  obtain ⟨ρ', e, s, x, er, s0, s1⟩ := for_seqI (g := gT (.nm 4)) (b := mSet 3 (mOp2 bMod (mCB cInt (maCons (mOp2 bAdd (mOp2 bMul (mVar 3) (mC (.int 57041))) (mVar 4)) maNil)) (mC (.int 2147483323)))) lst (seqOf_lst (h := h))
    (fun j ρ => ∃ (s : Int) (x : Option D), ρ = [some (.bls (ns.map .int)), some (.int (t : Int)), some (.int o), some (.int s), x] ∧ 0 ≤ s ∧ s < 2147483323) ⟨_, _, rfl, by omega, by omega⟩ (fun j x ρ hx ⟨s, y, er, s0, s1⟩ => by
      subst er
      obtain ⟨n, hn, rfl⟩ := List.mem_map.mp (List.mem_of_getElem? hx)
      have m3 : bMul (.int s) (.int 57041) h = some (.int (s * 57041)) := mul_ok (m := 32) (n := 32) (by omega) (by decide) (by omega)
      refine ⟨_, _, rfl, set_ok (op2_ok (cb_ok (one_ok (op2_ok (op2_ok rfl rfl m3) rfl bAdd_int)) int_int) rfl (bMod_int (by decide))), _, some (.int n), rfl, Int.fmod_nonneg_of_pos _ (by decide), Int.fmod_lt_of_pos _ (by decide)⟩)
  subst er
  have ab : mCB cAbs (maCons (mVar 2) maNil) [some (.bls (ns.map .int)), some (.int (t : Int)), some (.int o), some (.int s), x] h = some (.ok (.int (if o < 0 then -o else o)), h) := cb_ok (one_ok (x := .int o) rfl) abs_int
  have gg : ∃ g : Int, 0 ≤ g ∧ mIf (mOp2 bGe (mCB cAbs (maCons (mVar 2) maNil)) (mOp2 bPow (mC (.int 10)) (mC (.int 18)))) (mCB cAbs (maCons (mVar 2) maNil)) (mC (.int 0)) [some (.bls (ns.map .int)), some (.int (t : Int)), some (.int o), some (.int s), x] h = some (.ok (.int g), h) := by
    have tst : mOp2 bGe (mCB cAbs (maCons (mVar 2) maNil)) (mOp2 bPow (mC (.int 10)) (mC (.int 18))) [some (.bls (ns.map .int)), some (.int (t : Int)), some (.int o), some (.int s), x] h = some (.ok (.bl (decide ((10 : Int) ^ 18 ≤ (if o < 0 then -o else o)))), h) :=
      op2_ok ab (op2_ok (z := .int (10 ^ 18)) rfl rfl (by rfl)) bGe_int
    by_cases hc : (10 : Int) ^ 18 ≤ (if o < 0 then -o else o)
    · rw [decide_eq_true hc] at tst
      exact ⟨_, by split <;> omega, if_t tst ab⟩
    · rw [decide_eq_false hc] at tst
      exact ⟨0, Int.le_refl _, if_f tst rfl⟩
  obtain ⟨g, g0, gg⟩ := gg
  refine ⟨h ++ [vatO g s 0], ?_, g, s, 0, get_last, g0, s0, s1, Int.le_refl _, Int.le_refl _⟩
  refine fn_rt (ρ1 := [some (.bls (ns.map .int)), some (.int (t : Int)), some (.int o), some (.int s), x]) rfl ?_
  refine (seq_nx (set_ok own)).trans ?_
  refine (seq_nx (set_ok (op2_ok rfl (op2_ok rfl rfl m2) bAdd_int))).trans ?_
  refine (seq_nx e).trans ?_
  exact ret_ok (new_ok (cons_ok gg (cons_ok (x := .int s) rfl (one_ok (x := .int 0) rfl))) (by simp))
theorem row_lines_eq {ns : List Int} {h : VH} (hl : ns.length ≤ 100) (hb : ∀ n ∈ ns, n.natAbs < 2 ^ 900) : F_row_lines [rowD ns] h = some (.ok (.lst ((rowLines ns).map .str)), h) := by
  have sl : ∀ ρ h, ρ[0]? = some (some (rowD ns)) → mAttr (selSlot "Row" 0) (mVar 0) ρ h = some (.ok (tupI ns), h) := fun ρ h e => attr_ok (x := rowD ns) (by rw [ev_var, e]) slot_row
  have first : ∀ h, mJs [(mC (.str "draws ")), (mFmt (mOp2 bSub (mCB cLen (maCons (mAttr (selSlot "Row" 0) (mVar 0)) maNil)) (mC (.int 1))))] Str.empty [some (rowD ns), none, none, none] h = some (.ok (.str (line0 ((ns.length : Int) - 1))), h) := fun h => by
    have hn : ((ns.length : Int) - 1).natAbs < 2 ^ 900 := lt_pow_mono (a := 8) (by omega) (by omega)
    have l0 := line0_len hn
    unfold line0 at l0 ⊢
    rw [js_cons (y := Str.ofString "draws ") rfl (by rw [strLen_app] at l0; omega)]
    rw [js_cons (h1 := h) (y := Str.ofString (toString ((ns.length : Int) - 1))) (fmt_ok (op2_ok (x := .int (ns.length : Int)) (y := .int 1) (cb_ok (one_ok (sl _ _ rfl)) (by unfold tupI; rw [len_tup, List.length_map])) rfl bSub_int) (log2_small (lt_pow_mono hn (by omega)) (by omega))) (by omega)]
    rfl
  have comp : ∀ h, mLc (mEnumI (maCons (mAttr (selSlot "Row" 0) (mVar 0)) maNil)) (.tp [(.nm 2), (.nm 3)]) [2, 3] mYes (mJs [(mC (.str "yes ")), (mFmt (mVar 2)), (mC (.str " ")), (mFmt (mVar 3))] Str.empty) [some (rowD ns), some (.obj h.length), none, none] (h ++ [.lst [.str (line0 ((ns.length : Int) - 1))]]) =
      some (.ok (.lst ((ns.zipIdx.map fun p => lineI (p.2 : Int) p.1).map .str)), h ++ [.lst [.str (line0 ((ns.length : Int) - 1))]]) := fun h => by
    rw [lc_enumM (d := tupI ns) (c := false) (xs := ns.map .int) (fun x => match x with | .tup [.int j, .int n] => .str (lineI j n) | x => x) (one_ok (sl _ _ rfl)) rfl (by simp; omega) (fun x hx => by
      obtain ⟨j, y, rfl, e2, _, e4⟩ := enumL_mem hx
      obtain ⟨n, hnm, rfl⟩ := List.mem_map.mp e2
      have hj : ((j : Nat) : Int).natAbs < 2 ^ 900 := by rw [Int.natAbs_natCast]; exact lt_pow_mono (a := 8) (by simp at e4; omega) (by omega)
      have ll := lineI_len hj (hb n hnm)
      refine ⟨[some (rowD ns), some (.obj h.length), some (.int (j : Int)), some (.int n)], rfl, ?_⟩
      show _ = some ((Except.ok (D.str (lineI (j : Int) n)) : Except Xc D), _)
      unfold lineI at ll ⊢
      rw [strLen_app, strLen_app, strLen_app] at ll
      rw [js_cons (y := Str.ofString "yes ") rfl (by omega)]
      rw [js_cons (y := Str.ofString (toString (j : Int))) (fmt_ok (i := (j : Int)) rfl (log2_small (lt_pow_mono hj (by omega)) (by omega))) (by rw [strLen_app]; omega)]
      rw [js_cons (y := Str.ofString " ") rfl (by rw [strLen_app, strLen_app]; omega)]
      rw [js_cons (y := Str.ofString (toString n)) (fmt_ok (i := n) rfl (log2_small (lt_pow_mono (hb n hnm) (by omega)) (by omega))) (by rw [strLen_app, strLen_app, strLen_app]; omega)]
      rfl)]
    congr 4
    have key : ∀ (ns : List Int) (i : Nat), (enumL i (ns.map .int)).map (fun x => match x with | .tup [.int j, .int n] => D.str (lineI j n) | x => x) = ((ns.zipIdx i).map fun p => lineI (p.2 : Int) p.1).map .str := fun ns => by
      induction ns with
      | nil => intro i; rfl
      | cons n ns ih => intro i; simp only [List.map_cons, enumL, List.zipIdx_cons, ih (i + 1)]
    exact key ns 0
  have inner : mFn 1 4 M_row_lines [rowD ns] h = some (.ok (.obj h.length), h ++ [.lst ((rowLines ns).map .str)]) := by
    refine fn_rt (ρ1 := [some (rowD ns), some (.obj h.length), none, none]) rfl ?_
    refine (seq_nx (h1 := h ++ [.lst [.str (line0 ((ns.length : Int) - 1))]]) (ρ1 := [some (rowD ns), some (.obj h.length), none, none]) (set_ok (new_ok (one_ok (first h)) (by simp)))).trans ?_
    refine (seq_nx (h1 := h ++ [.lst ((rowLines ns).map .str)]) (ρ1 := [some (rowD ns), some (.obj h.length), none, none]) ?_).trans (ret_ok rfl)
    rw [ev_expr]
    have lm : mLM doExt (mVar 1) (mLc (mEnumI (maCons (mAttr (selSlot "Row" 0) (mVar 0)) maNil)) (.tp [(.nm 2), (.nm 3)]) [2, 3] mYes (mJs [(mC (.str "yes ")), (mFmt (mVar 2)), (mC (.str " ")), (mFmt (mVar 3))] Str.empty)) [some (rowD ns), some (.obj h.length), none, none] (h ++ [.lst [.str (line0 ((ns.length : Int) - 1))]]) =
        some (.ok .non, h ++ [.lst ((rowLines ns).map .str)]) := by
      unfold mLM
      show bnd (some (.ok (D.obj h.length), _)) _ = _
      rw [bnd_ok]
      simp only [exl, get_last]
      rw [comp h, bnd_ok]
      simp only [doExt, exl, get_last]
      rw [if_pos (by simp; omega), set_last]
      simp only [ev_ok]
      rfl
    rw [lm]
  unfold F_row_lines frzF
  rw [inner]
  simp only []
  rw [if_neg (by intro z; have := congrArg List.length z; simp at this), if_pos (by simp)]
  simp only [frz, get_last, if_neg (Nat.lt_irrefl _)]
  rw [frzs_strs _ _ _ _ (by simp [rowLines]; omega)]
  rfl
theorem row_text {ns : List Int} {h : VH} (hl : ns.length ≤ 100) (hb : ∀ n ∈ ns, n.natAbs < 2 ^ 900) : F_Row_text [rowD ns] h = some (.ok (.str (rowTxt ns)), h) := by
  have st : F_Row___str__ [rowD ns] h = some (.ok (.str (rowTxt ns)), h) := by
    refine fn_rt (ρ1 := [some (rowD ns)]) rfl (ret_ok ?_)
    unfold mJoin
    show bnd (some (.ok (D.str (Str.ofString "\n")), h)) _ = _
    rw [bnd_ok]
    simp only []
    rw [call_ok (one_ok (x := rowD ns) rfl) (row_lines_eq hl hb), bnd_ok]
    simp only [seqOf_lst, strsOf_strs]
    have h1 := lines_len hl hb
    have h2 : (rowLines ns).length ≤ 101 := by simp [rowLines]; omega
    have h3 : (Str.ofString "\n").length = 1 := by rw [len_of]; decide
    rw [if_pos (by rw [h3]; have := Nat.mul_le_mul_right 2000 h2; omega)]
    rfl
  refine fn_rt (ρ1 := [some (rowD ns)]) rfl (ret_ok (ch_ok (one_ok (x := rowD ns) rfl) ?_))
  have e : dunF [(true, "Row", F_Row___str__)] h (rowD ns) = some F_Row___str__ := rfl
  simp only [fDun, e, st]
  rfl
end ML
/-! the text CN -/
/-! CN: counts that are drawn; nothing stays behind but the vat. -/
namespace ML
open PySem PySem.Spec PyProof.Rows L2
theorem counts_eq {a B kind : Nat} {h : VH} (v : Vat a B h) (hB : B ≤ 90000) (hk : kind < 2) :
    ∃ (ns : List Int) (h' : VH), F__law_counts [.obj a, .int (kind : Int)] h = some (.ok (tupI ns), h') ∧ Small ns ∧ (∀ n ∈ ns, n.natAbs + 5 < 2 ^ 100) ∧ Vat a (B + 13) h' ∧ Same a h h' := by
  have key : ∃ (ns : List Int) (h' : VH), mFn 2 6 M__law_counts [.obj a, .int (kind : Int)] h = some (.ok (tupI ns), h') ∧ Small ns ∧ (∀ n ∈ ns, n.natAbs + 5 < 2 ^ 100) ∧ Vat a (B + 13) h' ∧ h'.length = h.length + 1 ∧ ∀ b, b ≠ a → b < h.length → h'[b]? = h[b]? := by
    obtain ⟨r, h1, e1, r5, v1, sm1⟩ := dip_eq (k := 5) v (by omega) (by omega) (by omega)
    have al := v1.lt
    obtain ⟨ρ', h', e, hI⟩ := forL_inv (g := gT (.nm 4)) (b := (mSeq (mSet 5 (mOp2 bIx (mLst (maCons (mC (.int 0)) (maCons (mC (.int 1)) (maCons (mC (.int 2)) (maCons (mC (.int 3)) (maCons (mC (.int 4)) (maCons (mC (.int 7)) (maCons (mC (.int 12)) maNil)))))))) (mCall F__law_dip (maCons (mVar 0) (maCons (mC (.int 7)) maNil)))))
    (mExpr (mLM doApp (mVar 3) (mIf (mOp2 bEq (mVar 1) (mC (.int 0))) (mVar 5) (mOp2 bIx (mLst (maCons (mVar 5) (maCons (mOp2 bAdd (mOp2 bPow (mC (.int 10)) (mC (.int 9))) (mVar 5)) (maCons (mOp2 bSub (mOp2 bPow (mC (.int 10)) (mC (.int 30))) (mVar 5)) maNil)))) (mCall F__law_dip (maCons (mVar 0) (maCons (mC (.int 3)) maNil)))))))))
      (rngL 0 (2 + r)) (fun j ρ h' => ∃ (ns : List Int) (x y : Option D), ρ = [some (.obj a), some (.int (kind : Int)), some (.int ((2 + r : Nat) : Int)), some (.obj h1.length), x, y] ∧ Vat a (B + 1 + 2 * j) h' ∧ h'[h1.length]? = some (.lst (ns.map .int)) ∧ ns.length = j ∧ (∀ n ∈ ns, 0 ≤ n ∧ n.natAbs + 5 < 2 ^ 100) ∧ h'.length = h1.length + 1 ∧ ∀ b, b ≠ a → b < h1.length → h'[b]? = h1[b]?)
      0 [some (.obj a), some (.int (kind : Int)), some (.int ((2 + r : Nat) : Int)), some (.obj h1.length), none, none] (h1 ++ [.lst []]) (fun j x ρ h' hx ⟨ns, x0, y0, er, vj, el, hn, hb, hln, hfr⟩ => by
        subst er
        simp only [Nat.zero_add] at vj hn ⊢
        have hj : j < 2 + r := by have := (List.getElem?_eq_some_iff.mp hx).1; rwa [rngL_len] at this
        obtain ⟨w, h2, e2, w7, v2, sm2⟩ := dip_eq (k := 7) vj (by omega) (by omega) (by omega)
        have hal : h1.length ≠ a := by omega
        have el2 : h2[h1.length]? = some (.lst (ns.map .int)) := by rw [sm2.at_ _ hal]; exact el
        have val : ∃ n : Int, 0 ≤ n ∧ n < 13 ∧ mOp2 bIx (mLst (maCons (mC (.int 0)) (maCons (mC (.int 1)) (maCons (mC (.int 2)) (maCons (mC (.int 3)) (maCons (mC (.int 4)) (maCons (mC (.int 7)) (maCons (mC (.int 12)) maNil)))))))) (mCall F__law_dip (maCons (mVar 0) (maCons (mC (.int 7)) maNil)))
            [some (.obj a), some (.int (kind : Int)), some (.int ((2 + r : Nat) : Int)), some (.obj h1.length), some x, y0] h' = some (.ok (.int n), h2) := by
          have ix : ∃ n : Int, 0 ≤ n ∧ n < 13 ∧ bIx (.lst [.int 0, .int 1, .int 2, .int 3, .int 4, .int 7, .int 12]) (.int (w : Int)) h2 = some (.int n) := by
            rw [bIx_lst, atI_nat (by simp; omega)]
            rcases (show w = 0 ∨ w = 1 ∨ w = 2 ∨ w = 3 ∨ w = 4 ∨ w = 5 ∨ w = 6 from by omega) with q | q | q | q | q | q | q <;> subst q <;> exact ⟨_, by decide, by decide, rfl⟩
          obtain ⟨n, n0, n1, ix⟩ := ix
          exact ⟨n, n0, n1, op2_ok (x := .lst [.int 0, .int 1, .int 2, .int 3, .int 4, .int 7, .int 12]) rfl (call_ok (cons_ok (x := .obj a) rfl (one_ok (x := .int 7) rfl)) e2) ix⟩
        obtain ⟨n, n0, n1, val⟩ := val
        have fin : ∃ (m : Int) (h3 : VH), 0 ≤ m ∧ m.natAbs + 5 < 2 ^ 100 ∧ mIf (mOp2 bEq (mVar 1) (mC (.int 0))) (mVar 5) (mOp2 bIx (mLst (maCons (mVar 5) (maCons (mOp2 bAdd (mOp2 bPow (mC (.int 10)) (mC (.int 9))) (mVar 5)) (maCons (mOp2 bSub (mOp2 bPow (mC (.int 10)) (mC (.int 30))) (mVar 5)) maNil)))) (mCall F__law_dip (maCons (mVar 0) (maCons (mC (.int 3)) maNil))))
            [some (.obj a), some (.int (kind : Int)), some (.int ((2 + r : Nat) : Int)), some (.obj h1.length), some x, some (.int n)] h2 = some (.ok (.int m), h3) ∧ Vat a (B + 1 + 2 * j + 2) h3 ∧ Same a h2 h3 := by
          have tst : mOp2 bEq (mVar 1) (mC (.int 0)) [some (.obj a), some (.int (kind : Int)), some (.int ((2 + r : Nat) : Int)), some (.obj h1.length), some x, some (.int n)] h2 = some (.ok (.bl ((kind : Int) == 0)), h2) := op2_ok (x := .int (kind : Int)) rfl rfl eq_int
          by_cases kz : kind = 0
          · subst kz
            exact ⟨n, h2, n0, by omega, if_t tst rfl, v2.mono (by omega), .refl⟩
          · have k1 : kind = 1 := by omega
            subst k1
            obtain ⟨u, h3, e3, u3, v3, sm3⟩ := dip_eq (k := 3) v2 (by omega) (by omega) (by omega)
            have ix : ∃ m : Int, 0 ≤ m ∧ m.natAbs + 5 < 2 ^ 100 ∧ bIx (.lst [.int n, .int (10 ^ 9 + n), .int (10 ^ 30 - n)]) (.int (u : Int)) h3 = some (.int m) := by
              rw [bIx_lst, atI_nat (by simp; omega)]
              rcases (show u = 0 ∨ u = 1 ∨ u = 2 from by omega) with q | q | q <;> subst q <;> exact ⟨_, by omega, by omega, rfl⟩
            obtain ⟨m, m0, m1, ix⟩ := ix
            refine ⟨m, h3, m0, m1, if_f tst (op2_ok (x := .lst [.int n, .int (10 ^ 9 + n), .int (10 ^ 30 - n)]) (lst_ok (cons_ok (x := .int n) rfl (cons_ok (op2_ok (op2_ok (z := .int (10 ^ 9)) rfl rfl (by rfl)) rfl bAdd_int) (one_ok (op2_ok (op2_ok (z := .int (10 ^ 30)) rfl rfl (by rfl)) rfl bSub_int)))) (by simp)) (call_ok (cons_ok (x := .obj a) rfl (one_ok (x := .int 3) rfl)) e3) ix), v3, sm3⟩
        obtain ⟨m, h3, m0, m1, fe, v3, sm3⟩ := fin
        have el3 : h3[h1.length]? = some (.lst (ns.map .int)) := by rw [sm3.at_ _ hal]; exact el2
        refine ⟨_, _, _, _, rfl, (seq_nx (set_ok val)).trans (ev_app (o := mVar 3) (n := h1.length) rfl el2 fe el3 (by simp; omega)), ns ++ [m], _, _, rfl, ?_, ?_, by simp [hn], ?_, by rw [List.length_set, sm3.len, sm2.len, hln], fun b hb1 hb2 => by rw [List.getElem?_set_ne (by omega), sm3.at_ _ hb1, sm2.at_ _ hb1, hfr b hb1 hb2]⟩
        · obtain ⟨g, s, c, e, rst⟩ := v3.ex
          exact Vat.mono ⟨g, s, c, by rw [List.getElem?_set_ne hal]; exact e, rst⟩ (by omega)
        · rw [set_self el3, List.map_append]; rfl
        · intro z hz
          rcases List.mem_append.mp hz with q | q
          · exact hb z q
          · rw [List.mem_singleton.mp q]; exact ⟨m0, m1⟩) (by
        refine ⟨[], none, none, rfl, ?_, get_last, rfl, by simp, by simp, fun b _ hb2 => List.getElem?_append_left hb2⟩
        obtain ⟨g, s, c, e, rst⟩ := v1.ex
        exact ⟨g, s, c, by rw [List.getElem?_append_left al]; exact e, by simpa using rst⟩)
    obtain ⟨ns, x, y, er, ve, el, hl, hb, hln, hfr⟩ := hI
    have fr1 : h'.length = h.length + 1 := by rw [hln, sm1.len]
    have fr2 : ∀ b, b ≠ a → b < h.length → h'[b]? = h[b]? := fun b hb1 hb2 => by rw [hfr b hb1 (by rw [sm1.len]; exact hb2), sm1.at_ _ hb1]
    subst er
    rw [Nat.zero_add, rngL_len] at hl ve
    have sq : seqOf h' (.obj h1.length) = some (true, ns.map .int) := by simp only [seqOf, el]
    have su : cSum [.obj h1.length] h' = some (.int ns.sum) := by simp only [cSum, sq, intsOf_ints]; rfl
    have tst : mOp2 bGt (mCB cSum (maCons (mVar 3) maNil)) (mC (.int 0)) [some (.obj a), some (.int (kind : Int)), some (.int ((2 + r : Nat) : Int)), some (.obj h1.length), x, y] h' = some (.ok (.bl (decide (0 < ns.sum))), h') :=
      op2_ok (cb_ok (one_ok (x := .obj h1.length) rfl) su) rfl bGt_int
    have run : ∀ d, mIf (mOp2 bGt (mCB cSum (maCons (mVar 3) maNil)) (mC (.int 0))) (mCB cTuple (maCons (mVar 3) maNil)) (mCB cTuple (maCons (mOp2 bRepL (mLst (maCons (mC (.int 1)) maNil)) (mVar 2)) maNil)) [some (.obj a), some (.int (kind : Int)), some (.int ((2 + r : Nat) : Int)), some (.obj h1.length), x, y] h' = some (.ok d, h') →
        mFn 2 6 M__law_counts [.obj a, .int (kind : Int)] h = some (.ok d, h') := fun d ed => by
      refine fn_rt (ρ1 := [some (.obj a), some (.int (kind : Int)), some (.int ((2 + r : Nat) : Int)), some (.obj h1.length), x, y]) rfl ?_
      refine (seq_nx (set_ok (d := .int ((2 + r : Nat) : Int)) (op2_ok (x := .int 2) (y := .int (r : Int)) rfl (call_ok (cons_ok (x := .obj a) rfl (one_ok (x := .int 5) rfl)) e1) (by rw [bAdd_int, Int.natCast_add]; rfl)))).trans ?_
      refine (seq_nx (set_ok (new_ok rfl (by simp)))).trans ?_
      refine (seq_nx (h1 := h') ((for_rng1 (j := ((2 + r : Nat) : Int)) (one_ok rfl) (small_iff.mpr (by omega))).trans ?_)).trans (ret_ok ed)
      rw [Int.toNat_natCast]
      exact e
    by_cases hp : 0 < ns.sum
    · rw [decide_eq_true hp] at tst
      refine ⟨ns, h', run _ (if_t tst (cb_ok (one_ok (x := .obj h1.length) rfl) (by simp only [cTuple, sq]; rfl))), ⟨by omega, by omega, fun n hn => (hb n hn).1, hp, fun n hn => by have := (hb n hn).2; omega⟩, fun n hn => (hb n hn).2, ve.mono (by omega), fr1, fr2⟩
    · rw [decide_eq_false hp] at tst
      have rp : bRepL (.lst [.int 1]) (.int ((2 + r : Nat) : Int)) h' = some (.lst ((List.replicate (2 + r) (1 : Int)).map .int)) := by
        simp only [bRepL, exl]
        rw [if_pos ⟨by simp [small63]; omega, by simp; omega⟩]
        simp [List.flatten_replicate_singleton]
        omega
      refine ⟨List.replicate (2 + r) 1, h', run _ (if_f tst (cb_ok (one_ok (op2_ok (x := .lst [.int 1]) (lst_ok (one_ok (x := .int 1) rfl) (by simp)) rfl rp)) tuple_lst)), ⟨by simp, by simp; omega, fun n hn => by rw [List.eq_of_mem_replicate hn]; decide, ?_, fun n hn => by rw [List.eq_of_mem_replicate hn]; decide⟩, fun n hn => by rw [List.eq_of_mem_replicate hn]; decide, ve.mono (by omega), fr1, fr2⟩
      rcases (show r = 0 ∨ r = 1 ∨ r = 2 ∨ r = 3 ∨ r = 4 from by omega) with q | q | q | q | q <;> subst q <;> decide
  obtain ⟨ns, h', e, sm, bb, ve, l, fr⟩ := key
  have tc := tupI_closed (ns := ns)
  have h6 := sm.six
  have al := v.lt
  have eh : h' = h'.take h.length ++ h'.drop h.length := (List.take_append_drop _ _).symm
  have lt : (h'.take h.length).length = h.length := by rw [List.length_take]; omega
  have at_ : ∀ b, b < h.length → (h'.take h.length)[b]? = h'[b]? := fun b hb => List.getElem?_take_of_lt hb
  refine ⟨ns, h'.take h.length, ?_, sm, bb, ?_, ⟨lt, fun b hb => ?_⟩⟩
  · unfold F__law_counts
    refine gc_ok (g := h'.drop h.length) (by rw [← eh]; exact e) lt (fun o ho => ?_) (frz_dep _ _ _ 400 tc.1 (by omega))
    obtain ⟨b, hb⟩ := List.mem_iff_getElem?.mp ho
    have hbl : b < h.length := by have := (List.getElem?_eq_some_iff.mp hb).1; omega
    by_cases q : b = a
    · subst q
      obtain ⟨g, s, c, e1, _⟩ := ve.ex
      rw [at_ b hbl, e1] at hb
      cases hb
      exact .inr rfl
    · rw [at_ b hbl, fr b q hbl] at hb
      exact .inl (List.mem_of_getElem? hb)
  · obtain ⟨g, s, c, e1, rst⟩ := ve.ex
    exact ⟨g, s, c, by rw [at_ a al]; exact e1, rst⟩
  · by_cases q : b < h.length
    · rw [at_ b q, fr b hb q]
    · rw [List.getElem?_eq_none (by omega), List.getElem?_eq_none (by omega)]
end ML
/-! the text VE -/
/-! the vat; the law out of its quiet part. Printed by mkve.py. -/
namespace ML
open PySem PySem.Spec PyProof.Rows L2
theorem vat_new {ns : List Int} {t : Nat} {h : VH} (hl : ns.length ≤ 63) (ht : t < 5) : ∃ v, F__law_vat [.bls (ns.map .int), .int (t : Int)] h = some (.ok (.obj h.length), h ++ [v]) ∧ Vat h.length 0 (h ++ [v]) := by
  have m1 : bMul (.int 47) (.int (t : Int)) h = some (.int (47 * (t : Int))) := mul_ok (m := 10) (n := 10) (by decide) (by omega) (by omega)
  have m2 : bMul (.int 39019) (.int (t : Int)) h = some (.int (39019 * (t : Int))) := mul_ok (m := 32) (n := 10) (by decide) (by omega) (by omega)
  have own : ∃ o : Int, mIf (mOp2 bLt (mVar 1) (mCB cLen (maCons (mVar 0) maNil))) (mOp2 bIx (mVar 0) (mVar 1)) (mOp2 bAdd (mOp2 bMul (mC (.int 47)) (mVar 1)) (mC (.int 5)))
      [some (.bls (ns.map .int)), some (.int (t : Int)), none, none, none] h = some (.ok (.int o), h) := by
    have tst : mOp2 bLt (mVar 1) (mCB cLen (maCons (mVar 0) maNil)) [some (.bls (ns.map .int)), some (.int (t : Int)), none, none, none] h = some (.ok (.bl (decide ((t : Int) < (((ns.map D.int).length : Nat) : Int)))), h) :=
      op2_ok rfl (cb_ok (one_ok (x := .bls (ns.map .int)) rfl) len_bls) bLt_int
    by_cases hc : t < ns.length
    · rw [decide_eq_true (by simp; omega)] at tst
      refine ⟨ns[t], if_t tst (op2_ok (x := .bls (ns.map .int)) (y := .int (t : Int)) rfl rfl ?_)⟩
      rw [bIx_bls, atI_nat (by simp; omega), List.getElem?_map, List.getElem?_eq_getElem hc]
      rfl
    · rw [decide_eq_false (by simp; omega)] at tst
      exact ⟨_, if_f tst (op2_ok (op2_ok rfl rfl m1) rfl bAdd_int)⟩
  obtain ⟨o, own⟩ := own
  have lst : mOp2 bCatL (mLst (maCons (mVar 2) maNil)) (mSl (mVar 0) none (some (mC (.int 6)))) [some (.bls (ns.map .int)), some (.int (t : Int)), some (.int o), some (.int (141650939 + 39019 * (t : Int))), none] h =
      some (.ok (.lst ((o :: cutD ns none (some 6)).map .int)), h) := by
    refine op2_ok (x := .lst [.int o]) (y := .lst ((cutD ns none (some 6)).map .int)) (lst_ok (one_ok (x := .int o) rfl) (by simp)) (sl_ok (d := .bls (ns.map .int)) (i := 6) rfl rfl ?_) ?_
    · simp only [slD, seqOf, cut_map]
    · have := cut_len (xs := ns) (lo := none) (hi := some 6)
      simp only [bCatL, exl]
      rw [if_pos (by simp; omega)]
      rfl
  obtain ⟨ρ', e, s, x, er, s0, s1⟩ := for_seqI (g := gT (.nm 4)) (b := mSet 3 (mOp2 bMod (mCB cInt (maCons (mOp2 bAdd (mOp2 bMul (mVar 3) (mC (.int 57041))) (mVar 4)) maNil)) (mC (.int 2147483323)))) lst (seqOf_lst (h := h))
    (fun j ρ => ∃ (s : Int) (x : Option D), ρ = [some (.bls (ns.map .int)), some (.int (t : Int)), some (.int o), some (.int s), x] ∧ 0 ≤ s ∧ s < 2147483323) ⟨_, _, rfl, by omega, by omega⟩ (fun j x ρ hx ⟨s, y, er, s0, s1⟩ => by
      subst er
      obtain ⟨n, hn, rfl⟩ := List.mem_map.mp (List.mem_of_getElem? hx)
      have m3 : bMul (.int s) (.int 57041) h = some (.int (s * 57041)) := mul_ok (m := 32) (n := 32) (by omega) (by decide) (by omega)
      refine ⟨_, _, rfl, set_ok (op2_ok (cb_ok (one_ok (op2_ok (op2_ok rfl rfl m3) rfl bAdd_int)) int_int) rfl (bMod_int (by decide))), _, some (.int n), rfl, Int.fmod_nonneg_of_pos _ (by decide), Int.fmod_lt_of_pos _ (by decide)⟩)
  subst er
  have ab : mCB cAbs (maCons (mVar 2) maNil) [some (.bls (ns.map .int)), some (.int (t : Int)), some (.int o), some (.int s), x] h = some (.ok (.int (if o < 0 then -o else o)), h) := cb_ok (one_ok (x := .int o) rfl) abs_int
  have gg : ∃ g : Int, 0 ≤ g ∧ mIf (mOp2 bGe (mCB cAbs (maCons (mVar 2) maNil)) (mOp2 bPow (mC (.int 10)) (mC (.int 18)))) (mCB cAbs (maCons (mVar 2) maNil)) (mC (.int 0)) [some (.bls (ns.map .int)), some (.int (t : Int)), some (.int o), some (.int s), x] h = some (.ok (.int g), h) := by
    have tst : mOp2 bGe (mCB cAbs (maCons (mVar 2) maNil)) (mOp2 bPow (mC (.int 10)) (mC (.int 18))) [some (.bls (ns.map .int)), some (.int (t : Int)), some (.int o), some (.int s), x] h = some (.ok (.bl (decide ((10 : Int) ^ 18 ≤ (if o < 0 then -o else o)))), h) :=
      op2_ok ab (op2_ok (z := .int (10 ^ 18)) rfl rfl (by rfl)) bGe_int
    by_cases hc : (10 : Int) ^ 18 ≤ (if o < 0 then -o else o)
    · rw [decide_eq_true hc] at tst
      exact ⟨_, by split <;> omega, if_t tst ab⟩
    · rw [decide_eq_false hc] at tst
      exact ⟨0, Int.le_refl _, if_f tst rfl⟩
  obtain ⟨g, g0, gg⟩ := gg
  refine ⟨vatO g s 0, ?_, g, s, 0, get_last, g0, s0, s1, Int.le_refl _, Int.le_refl _⟩
  refine fn_rt (ρ1 := [some (.bls (ns.map .int)), some (.int (t : Int)), some (.int o), some (.int s), x]) rfl ?_
  refine (seq_nx (set_ok own)).trans ?_
  refine (seq_nx (set_ok (op2_ok rfl (op2_ok rfl rfl m2) bAdd_int))).trans ?_
  refine (seq_nx e).trans ?_
  exact ret_ok (new_ok (cons_ok gg (cons_ok (x := .int s) rfl (one_ok (x := .int 0) rfl))) (by simp))
theorem lc_still {ρ : Env} {t : Tg} {vs : List Nat} {te : ME} {h : VH} : ∀ (ds : List D), (∀ d ∈ ds, ∃ ρ1, t.set d (wipeD ρ vs) = some ρ1 ∧ te ρ1 h = some (.ok (.bl true), h)) → lcL t vs mYes te ρ ds h = some (List.replicate ds.length (.bl true), h)
  | [], _ => rfl
  | d :: ds, hd => by
    obtain ⟨ρ1, e1, e2⟩ := hd d (by simp)
    have ih := lc_still (ρ := ρ) (te := te) ds fun x hx => hd x (by simp [hx])
    unfold lcL
    rw [e1]
    simp only [show mYes ρ1 h = some (.ok (.bl true), h) from rfl, e2, ih]
    rfl
theorem law_of (quiet : ∀ v, Vat 0 0 [v] → ∃ h', F__law_quiet [.obj 0] [v] = some (.ok (.bl true), h')) : ∀ ns : List Int, ns.length ≤ 63 → (∀ z ∈ ns, PySem.Builtin.Int.intBits z ≤ 1048576) → ∃ h', F_law [.bls (ns.map D.int)] [] = some (.ok (.bl true), h') := by
  intro ns hl _
  have bound : ∃ k : Nat, k ≤ 4 ∧ mCB (cInt2 fun i j => if j > i then j else i) (maCons (mC (.int 2)) (maCons (mCB (cInt2 fun i j => if j < i then j else i) (maCons (mCB cLen (maCons (mVar 0) maNil)) (maCons (mC (.int 4)) maNil))) maNil)) [some (.bls (ns.map .int)), none] [] = some (.ok (.int (k : Int)), []) := by
    have l : mCB cLen (maCons (mVar 0) maNil) [some (.bls (ns.map .int)), none] [] = some (.ok (.int (ns.length : Int)), []) := cb_ok (one_ok (x := .bls (ns.map .int)) rfl) (by rw [len_bls, List.length_map])
    have m : mCB (cInt2 fun i j => if j < i then j else i) (maCons (mCB cLen (maCons (mVar 0) maNil)) (maCons (mC (.int 4)) maNil)) [some (.bls (ns.map .int)), none] [] = some (.ok (.int (if (4 : Int) < (ns.length : Int) then 4 else (ns.length : Int))), []) := cb_ok (cons_ok l (one_ok (x := .int 4) rfl)) rfl
    refine ⟨(if (if (4 : Int) < (ns.length : Int) then 4 else (ns.length : Int)) > 2 then (if (4 : Int) < (ns.length : Int) then 4 else (ns.length : Int)) else 2).toNat, by split <;> split at * <;> omega, ?_⟩
    refine cb_ok (cons_ok (x := .int 2) rfl (one_ok m)) ?_
    show some (D.int _) = _
    congr 2
    rw [Int.toNat_of_nonneg (by split <;> split at * <;> omega)]
  obtain ⟨k, k5, bd⟩ := bound
  have lc := lc_still (h := []) (ρ := [some (.bls (ns.map .int)), none]) (t := .nm 1) (vs := [1]) (te := gcE (mCall F__law_quiet (maCons (mCall F__law_vat (maCons (mVar 0) (maCons (mVar 1) maNil))) maNil))) (rngL 0 k) (fun d hd => by
    unfold rngL at hd
    obtain ⟨t, ht, rfl⟩ := List.mem_map.mp hd
    have ht := List.mem_range.mp ht
    refine ⟨[some (.bls (ns.map .int)), some (.int (0 + (t : Int)))], rfl, ?_⟩
    obtain ⟨v, e1, v1⟩ := vat_new (t := t) (h := []) hl (by omega)
    obtain ⟨h2, e2⟩ := quiet v v1
    rw [Int.zero_add]
    exact gcE_nil (call_ok (one_ok (call_ok (cons_ok (x := .bls (ns.map .int)) rfl (one_ok (x := .int (t : Int)) rfl)) e1)) e2) rfl)
  refine ⟨[], fn_rt (ρ1 := [some (.bls (ns.map .int)), none]) rfl ?_⟩
  refine ret_ok (cb_ok (one_ok (x := .lst (List.replicate k (.bl true))) ?_) all_true)
  show mLc (mRng1I (maCons (mCB (cInt2 fun i j => if j > i then j else i) (maCons (mC (.int 2)) (maCons (mCB (cInt2 fun i j => if j < i then j else i) (maCons (mCB cLen (maCons (mVar 0) maNil)) (maCons (mC (.int 4)) maNil))) maNil))) maNil)) (.nm 1) [1] mYes (gcE (mCall F__law_quiet (maCons (mCall F__law_vat (maCons (mVar 0) (maCons (mVar 1) maNil))) maNil))) [some (.bls (ns.map .int)), none] [] = _
  rw [lc_rng1 (h1 := []) (one_ok bd) (small_iff.mpr (by omega)), Int.toNat_natCast, lc, lcEnd_some, rngL_len, if_pos (by simp; omega)]
theorem quiet_of {v : O} {h' : VH} (e : F__law_right [.obj 0] [v] = some (.ok (.bl true), h')) : F__law_quiet [.obj 0] [v] = some (.ok (.bl true), h') := by
  refine fn_rt (ρ1 := [some (.obj 0), some (.bl true)]) rfl ?_
  refine (seq_nx (h1 := h') (ρ1 := [some (.obj 0), some (.bl true)]) ?_).trans (ret_ok rfl)
  unfold mTry
  rw [set_ok (d := .bl true) (h1 := h') (call_ok (one_ok (x := .obj 0) rfl) e)]
  rfl
end ML
/-! the text K1 -/
/-! K1: k61: the wish that holds; the library's stands. -/
namespace ML
open PySem PySem.Spec PyProof.Rows L2
def sureD : D := .tup [.str "likely", .int 0, .tup [.int 0, .int 1]]
theorem is_below_zero {q : Rat} {h : VH} (n0 : 0 ≤ q.num) (hb : Bd 4000 q) : F_is_below [fr q, .tup [.int 0, .int 1]] h = some (.ok (.bl false), h) := by
  refine fn_rt (ρ1 := [some (fr q), some (.tup [.int 0, .int 1])]) rfl (ret_ok (op2_ok (x := .int (q.num * 1)) (y := .int (0 * (q.den : Int))) (op2_ok (x := .int q.num) (y := .int 1) (op2_ok rfl rfl fr_0) rfl (mul_ok (m := 4000) (n := 2) hb.num (by decide) (by omega))) (op2_ok (x := .int 0) (y := .int q.den) rfl (op2_ok rfl rfl fr_1) (mul_ok (m := 2) (n := 4000) (by decide) (by simpa using hb.den) (by omega))) ?_))
  rw [bLt_int, decide_eq_false (by omega)]
theorem keeps_sure {ns : List Int} {h : VH} (c : Cnt ns) : F_keeps [rowD ns, sureD] h = some (.ok (.bl true), h) := by
  have h2 := c.two
  have h6 := c.six
  obtain ⟨n0, hn0⟩ : ∃ n0, ns[0]? = some n0 := ⟨ns[0], List.getElem?_eq_getElem (by omega)⟩
  have q0 : (rateQ ns)[0]? = some (mkRat n0 ns.sum.toNat) := by unfold rateQ; rw [List.getElem?_map, hn0]; rfl
  have m0 : mkRat n0 ns.sum.toNat ∈ rateQ ns := List.mem_of_getElem? q0
  have nn : 0 ≤ (mkRat n0 ns.sum.toNat).num := by
    have p := c.nn n0 (List.mem_of_getElem? hn0)
    have hp := c.pos
    rw [(mk_parts (t := n0) (b := ns.sum.toNat) (by omega)).1]
    exact Int.ediv_nonneg p (Int.natCast_nonneg _)
  have ix : bIx (.tup ((rateQ ns).map fr)) (.int 0) h = some (fr (mkRat n0 ns.sum.toNat)) := by
    show atI _ 0 = _
    have := atI_nat (xs := (rateQ ns).map fr) (n := 0) (by simp [rateQ]; omega)
    rw [show ((0 : Nat) : Int) = 0 from rfl] at this
    rw [this, List.getElem?_map, q0]; rfl
  refine fn_rt (ρ1 := [some (rowD ns), some sureD, some (fr (mkRat n0 ns.sum.toNat))]) rfl ?_
  refine (seq_nx (h1 := h) (ρ1 := [some (rowD ns), some sureD, none]) ((ifS_f (h1 := h) (by kernel_rfl)).trans rfl)).trans ?_
  refine seq_rt ((ifS_t (h1 := h) (by kernel_rfl)).trans ?_)
  have lt : bLe (.int 0) (.int ((ns.length - 1 : Nat) : Int)) h = some (.bl true) := by rw [bLe_int, decide_eq_true (by omega)]
  refine (seq_nx (h1 := h) (ρ1 := [some (rowD ns), some sureD, some (fr (mkRat n0 ns.sum.toNat))]) (set_ok (if_t (op2_ok (x := .int 0) (y := .int ((ns.length - 1 : Nat) : Int)) (by kernel_rfl) (ch_ok (one_ok (x := rowD ns) rfl) (dun_row c)) lt) (op2_ok (x := .tup ((rateQ ns).map fr)) (y := .int 0) (attr_ok (x := rowD ns) rfl (sprop_row.trans (row_rates c))) (by kernel_rfl) ix)))).trans ?_
  exact ret_ok (not_ok (b := false) (call_ok (cons_ok (x := fr (mkRat n0 ns.sum.toNat)) rfl (one_ok (x := .tup [.int 0, .int 1]) (by kernel_rfl))) (is_below_zero nn ((rate_bd c _ m0).mono (by omega)))))
end ML
/-! the text K2 -/
/-! K2: k61: what the law's outcome tells of errors. -/
namespace ML
open PySem PySem.Spec PyProof.Rows L2
noncomputable abbrev rl : MSel := [(true, "Row", F_Row___repr__)]
theorem out_name {θ : VH → R D} {h h1 : VH} {y : Str} {x : D} (e : θ h = some (.error ⟨"InvalidName", ["given"], [x]⟩, h1)) (r : fRep rl [x] h1 = some (.str y, h1)) : F__law_outcome θ h = some (.ok (.lst [.str "name", .str y]), h1) := by
  refine fnT_rt (seq_rt (tryT_ex' (thunk_ex e) ?_)) (ρ' := slotR (some 2) [none, none, none, some (.lst [.lst [.bl true, .str "name"], .lst [.bl false, .str "wish"], .lst [.bl false, .str "index"], .lst [.bl false, .str "row"]]), some (.str "name"), none])
  refine handle_hit (by kernel_rfl) (by kernel_rfl) (ρ' := [none, none, none, some (.lst [.lst [.bl true, .str "name"], .lst [.bl false, .str "wish"], .lst [.bl false, .str "index"], .lst [.bl false, .str "row"]]), some (.str "name"), none]) ?_
  refine (seq_nx (h1 := h1) (ρ1 := [none, none, none, some (.lst [.lst [.bl true, .str "name"], .lst [.bl false, .str "wish"]]), none, none]) (by kernel_rfl)).trans ?_
  refine (seq_nx (h1 := h1) (ρ1 := [none, none, none, some (.lst [.lst [.bl true, .str "name"], .lst [.bl false, .str "wish"], .lst [.bl false, .str "index"], .lst [.bl false, .str "row"]]), none, none]) (by kernel_rfl)).trans ?_
  refine (seq_nx (h1 := h1) (ρ1 := [none, none, none, some (.lst [.lst [.bl true, .str "name"], .lst [.bl false, .str "wish"], .lst [.bl false, .str "index"], .lst [.bl false, .str "row"]]), some (.str "name"), none]) (by kernel_rfl)).trans ?_
  exact ret_ok (lst_ok (cons_ok (x := .str "name") rfl (one_ok (ch_ok (one_ok (x := x) (h1 := h1) (by kernel_rfl)) r))) (by simp))
theorem out_wish {θ : VH → R D} {h h1 : VH} {y : Str} {x : D} (e : θ h = some (.error ⟨"InvalidWish", ["given"], [x]⟩, h1)) (r : fRep rl [x] h1 = some (.str y, h1)) : F__law_outcome θ h = some (.ok (.lst [.str "wish", .str y]), h1) := by
  refine fnT_rt (seq_rt (tryT_ex' (thunk_ex e) ?_)) (ρ' := slotR (some 2) [none, none, none, some (.lst [.lst [.bl false, .str "name"], .lst [.bl true, .str "wish"], .lst [.bl false, .str "index"], .lst [.bl false, .str "row"]]), some (.str "wish"), none])
  refine handle_hit (by kernel_rfl) (by kernel_rfl) (ρ' := [none, none, none, some (.lst [.lst [.bl false, .str "name"], .lst [.bl true, .str "wish"], .lst [.bl false, .str "index"], .lst [.bl false, .str "row"]]), some (.str "wish"), none]) ?_
  refine (seq_nx (h1 := h1) (ρ1 := [none, none, none, some (.lst [.lst [.bl false, .str "name"], .lst [.bl true, .str "wish"]]), none, none]) (by kernel_rfl)).trans ?_
  refine (seq_nx (h1 := h1) (ρ1 := [none, none, none, some (.lst [.lst [.bl false, .str "name"], .lst [.bl true, .str "wish"], .lst [.bl false, .str "index"], .lst [.bl false, .str "row"]]), none, none]) (by kernel_rfl)).trans ?_
  refine (seq_nx (h1 := h1) (ρ1 := [none, none, none, some (.lst [.lst [.bl false, .str "name"], .lst [.bl true, .str "wish"], .lst [.bl false, .str "index"], .lst [.bl false, .str "row"]]), some (.str "wish"), none]) (by kernel_rfl)).trans ?_
  exact ret_ok (lst_ok (cons_ok (x := .str "wish") rfl (one_ok (ch_ok (one_ok (x := x) (h1 := h1) (by kernel_rfl)) r))) (by simp))
theorem out_index {θ : VH → R D} {h h1 : VH} {y : Str} {x : D} (e : θ h = some (.error ⟨"InvalidIndex", ["given"], [x]⟩, h1)) (r : fRep rl [x] h1 = some (.str y, h1)) : F__law_outcome θ h = some (.ok (.lst [.str "index", .str y]), h1) := by
  refine fnT_rt (seq_rt (tryT_ex' (thunk_ex e) ?_)) (ρ' := slotR (some 2) [none, none, none, some (.lst [.lst [.bl false, .str "name"], .lst [.bl false, .str "wish"], .lst [.bl true, .str "index"], .lst [.bl false, .str "row"]]), some (.str "index"), none])
  refine handle_hit (by kernel_rfl) (by kernel_rfl) (ρ' := [none, none, none, some (.lst [.lst [.bl false, .str "name"], .lst [.bl false, .str "wish"], .lst [.bl true, .str "index"], .lst [.bl false, .str "row"]]), some (.str "index"), none]) ?_
  refine (seq_nx (h1 := h1) (ρ1 := [none, none, none, some (.lst [.lst [.bl false, .str "name"], .lst [.bl false, .str "wish"]]), none, none]) (by kernel_rfl)).trans ?_
  refine (seq_nx (h1 := h1) (ρ1 := [none, none, none, some (.lst [.lst [.bl false, .str "name"], .lst [.bl false, .str "wish"], .lst [.bl true, .str "index"], .lst [.bl false, .str "row"]]), none, none]) (by kernel_rfl)).trans ?_
  refine (seq_nx (h1 := h1) (ρ1 := [none, none, none, some (.lst [.lst [.bl false, .str "name"], .lst [.bl false, .str "wish"], .lst [.bl true, .str "index"], .lst [.bl false, .str "row"]]), some (.str "index"), none]) (by kernel_rfl)).trans ?_
  exact ret_ok (lst_ok (cons_ok (x := .str "index") rfl (one_ok (ch_ok (one_ok (x := x) (h1 := h1) (by kernel_rfl)) r))) (by simp))
theorem out_row {θ : VH → R D} {h h1 : VH} {y : Str} {x : D} (e : θ h = some (.error ⟨"NotRow", ["given"], [x]⟩, h1)) (r : fRep rl [x] h1 = some (.str y, h1)) : F__law_outcome θ h = some (.ok (.lst [.str "row", .str y]), h1) := by
  refine fnT_rt (seq_rt (tryT_ex' (thunk_ex e) ?_)) (ρ' := slotR (some 2) [none, none, none, some (.lst [.lst [.bl false, .str "name"], .lst [.bl false, .str "wish"], .lst [.bl false, .str "index"], .lst [.bl true, .str "row"]]), some (.str "row"), none])
  refine handle_hit (by kernel_rfl) (by kernel_rfl) (ρ' := [none, none, none, some (.lst [.lst [.bl false, .str "name"], .lst [.bl false, .str "wish"], .lst [.bl false, .str "index"], .lst [.bl true, .str "row"]]), some (.str "row"), none]) ?_
  refine (seq_nx (h1 := h1) (ρ1 := [none, none, none, some (.lst [.lst [.bl false, .str "name"], .lst [.bl false, .str "wish"]]), none, none]) (by kernel_rfl)).trans ?_
  refine (seq_nx (h1 := h1) (ρ1 := [none, none, none, some (.lst [.lst [.bl false, .str "name"], .lst [.bl false, .str "wish"], .lst [.bl false, .str "index"], .lst [.bl true, .str "row"]]), none, none]) (by kernel_rfl)).trans ?_
  refine (seq_nx (h1 := h1) (ρ1 := [none, none, none, some (.lst [.lst [.bl false, .str "name"], .lst [.bl false, .str "wish"], .lst [.bl false, .str "index"], .lst [.bl true, .str "row"]]), some (.str "row"), none]) (by kernel_rfl)).trans ?_
  exact ret_ok (lst_ok (cons_ok (x := .str "row") rfl (one_ok (ch_ok (one_ok (x := x) (h1 := h1) (by kernel_rfl)) r))) (by simp))
theorem out_unknown {θ : VH → R D} {h h1 : VH} {y : Str} {x : D} (e : θ h = some (.error ⟨"UnknownName", ["given"], [x]⟩, h1)) (r : fRep rl [x] h1 = some (.str y, h1)) : F__law_outcome θ h = some (.ok (.lst [.str "unknown", .str y]), h1) := by
  refine fnT_rt (seq_rt (tryT_ex' (thunk_ex e) ?_)) (ρ' := slotR (some 2) [none, none, none, some (.lst [.lst [.bl false, .str "name"], .lst [.bl false, .str "wish"], .lst [.bl false, .str "index"], .lst [.bl false, .str "row"]]), some (.str "unknown"), none])
  refine handle_hit (by kernel_rfl) (by kernel_rfl) (ρ' := [none, none, none, some (.lst [.lst [.bl false, .str "name"], .lst [.bl false, .str "wish"], .lst [.bl false, .str "index"], .lst [.bl false, .str "row"]]), some (.str "unknown"), none]) ?_
  refine (seq_nx (h1 := h1) (ρ1 := [none, none, none, some (.lst [.lst [.bl false, .str "name"], .lst [.bl false, .str "wish"]]), none, none]) (by kernel_rfl)).trans ?_
  refine (seq_nx (h1 := h1) (ρ1 := [none, none, none, some (.lst [.lst [.bl false, .str "name"], .lst [.bl false, .str "wish"], .lst [.bl false, .str "index"], .lst [.bl false, .str "row"]]), none, none]) (by kernel_rfl)).trans ?_
  refine (seq_nx (h1 := h1) (ρ1 := [none, none, none, some (.lst [.lst [.bl false, .str "name"], .lst [.bl false, .str "wish"], .lst [.bl false, .str "index"], .lst [.bl false, .str "row"]]), some (.str "unknown"), none]) (by kernel_rfl)).trans ?_
  exact ret_ok (lst_ok (cons_ok (x := .str "unknown") rfl (one_ok (ch_ok (one_ok (x := x) (h1 := h1) (by kernel_rfl)) r))) (by simp))
theorem out_nothing {θ : VH → R D} {h h1 : VH} (e : θ h = some (.error ⟨"NothingToUndo", [], []⟩, h1)) : F__law_outcome θ h = some (.ok (.lst [.str "nothing", .str ""]), h1) := by
  refine fnT_rt (seq_rt (tryT_ex' (thunk_ex e) ?_)) (ρ' := [none, none, none, none, none, none])
  kernel_rfl
theorem out_inuse {θ : VH → R D} {h h1 : VH} (e : θ h = some (.error ⟨"InUse", ["index"], [.int 0]⟩, h1)) : F__law_outcome θ h = some (.ok (.lst [.str "in use", .str "0"]), h1) := by
  refine fnT_rt (seq_rt (tryT_ex' (thunk_ex e) ?_)) (ρ' := [none, none, none, none, none, none])
  kernel_rfl
end ML
/-! the text K3 -/
namespace ML
open PySem PySem.Spec PyProof.Rows L2
def lbO (sh : Nat) : O := .ins "Library" ["shelf"] [.obj sh]
def shO (rows pairs ahead : D) (many : Int) : O := .ins "Shelf" ["rows","pairs","ahead","many"] [rows, pairs, ahead, .int many]
def sh0 : O := shO (.dic [] []) (.tup []) .non 0
def firstD : D := .lst [.tup [], .tup [], .int 0, .int 0, .bl true, .bl false, .bl true]
def sh1 (r : D) : O := shO (.dic [.inr "one"] [r]) (.tup []) (.obj 2) 1
def sh2 (r r2 : D) : O := shO (.dic [.inr "one", .inr "b2345678"] [r, r2]) (.tup []) (.obj 7) 2
def sureP : D := .tup [.tup [.str "one", sureD]]
def sh3 (r r2 : D) : O := shO (.dic [.inr "one", .inr "b2345678"] [r, r2]) sureP (.obj 8) 3
/-- the heap behind the vat once the wish stands -/
def tl (r r2 : D) : VH := [lbO 9, sh0, lbO 4, sh0, lbO 6, sh0, sh1 r, sh2 r r2, sh3 r r2]
noncomputable def S0 : MS := (mSet 1 (mCall G_Library maNil))
noncomputable def S1 : MS := (mSet 2 (mLst (maCons (mAttr (selProp "Library" F_Library_names) (mVar 1)) (maCons (mAttr (selProp "Library" F_Library_wishes) (mVar 1)) (maCons (mAttr (selProp "Library" F_Library_changes) (mVar 1)) (maCons (mCH (fDun [(true, "Row", F_Row___len__), (false, "Library", F_Library___len__)] okLen) (maCons (mVar 1) maNil)) (maCons (mCH (fDun [(false, "Library", F_Library___bool__)] okBool) (maCons (mVar 1) maNil)) (maCons (mOp2 (bIdn "Library" false) (mVar 1) (mCall G_Library maNil)) (maCons (mOp2 (bIdn "Library" true) (mVar 1) (mCall G_Library maNil)) maNil)))))))))
noncomputable def S2 : MS := (mIfS (mOr (mOp2 bNe (mCB cRepr (maCons (mVar 2) maNil)) (mCB cRepr (maCons (mLst (maCons (mTup maNil) (maCons (mTup maNil) (maCons (mC (.int 0)) (maCons (mC (.int 0)) (maCons (mC (.bl true)) (maCons (mC (.bl false)) (maCons (mC (.bl true)) maNil)))))))) maNil))) (mOp2 bNe (mLam F__law_outcome (mMeth "undo" [(false, "Library", F_Library_undo)] (mVar 1) maNil)) (mLst (maCons (mC (.str "nothing")) (maCons (mC (.str "")) maNil)))))
      (mRet (mC (.bl false)))
      mNext)
noncomputable def S3 : MS := (mPar 3 4 (maCons (mCall G_Row (maCons (mCall F__law_counts (maCons (mVar 0) (maCons (mC (.int 0)) maNil))) maNil)) (maCons (mCall G_Row (maCons (mCall F__law_counts (maCons (mVar 0) (maCons (mC (.int 1)) maNil))) maNil)) maNil)))
noncomputable def S4 : MS := (mExpr (mCall F__law_store (maCons (mVar 1) (maCons (mC (.str "one")) (maCons (mVar 3) maNil)))))
noncomputable def S5 : MS := (mExpr (mCall F__law_store (maCons (mVar 1) (maCons (mC (.str "b2345678")) (maCons (mVar 4) maNil)))))
noncomputable def S6 : MS := (mSet 5 (mTup (maCons (mC (.str "likely")) (maCons (mC (.int 0)) (maCons (mTup (maCons (mC (.int 0)) (maCons (mC (.int 1)) maNil))) maNil)))))
noncomputable def S7 : MS := (mIfS (mOp2 bNotN (mMeth "wish" [(false, "Library", F_Library_wish)] (mVar 1) (maCons (mC (.str "one")) (maCons (mVar 5) maNil))) (mC .non))
      (mRet (mC (.bl false)))
      mNext)
noncomputable def S8 : MS := (mFor (mSeqI (mLst (maCons (mC .non) (maCons (mC (.str "")) (maCons (mC (.str "A")) (maCons (mC (.str "1a")) (maCons (mC (.str "a b")) (maCons (mC (.str "abcdefghi")) (maCons (mC (.str "a-")) (maCons (mC (.int 3)) (maCons (mTup (maCons (mC (.str "one")) maNil)) (maCons (mLst maNil) (maCons (mC (.dic [] [])) (maCons (mC (.bl true)) (maCons (mVar 3) maNil))))))))))))))) (gT (.nm 6))
      (mIfS (mOp2 bNe (mLam F__law_outcome (mCall F__law_store (maCons (mVar 1) (maCons (mVar 6) (maCons (mC .non) maNil))))) (mLst (maCons (mC (.str "name")) (maCons (mCH (fRep [(true, "Row", F_Row___repr__)]) (maCons (mVar 6) maNil)) maNil))))
      (mRet (mC (.bl false)))
      mNext))
noncomputable def S9 : MS := (mFor (mSeqI (mLst (maCons (mC .non) (maCons (mAttr (selSProp "Row" F_Row_text) (mVar 3)) (maCons (mAttr (selSProp "Row" F_Row_counts) (mVar 3)) (maCons (mTup (maCons (mVar 3) maNil)) (maCons (mC (.int 5)) (maCons (mC (.bl true)) (maCons (mC (.dic [] [])) (maCons (mC (.str "one")) maNil)))))))))) (gT (.nm 6))
      (mIfS (mOp2 bNe (mLam F__law_outcome (mCall F__law_store (maCons (mVar 1) (maCons (mOp2 bIx (mLst (maCons (mC (.str "one")) (maCons (mC (.str "new")) maNil))) (mCall F__law_dip (maCons (mVar 0) (maCons (mC (.int 2)) maNil)))) (maCons (mVar 6) maNil))))) (mLst (maCons (mC (.str "row")) (maCons (mCH (fRep [(true, "Row", F_Row___repr__)]) (maCons (mVar 6) maNil)) maNil))))
      (mRet (mC (.bl false)))
      mNext))
noncomputable def S10 : MS := (mFor (mSeqI (mLst (maCons (mC .non) (maCons (mC (.str "")) (maCons (mC (.str "nowhere")) (maCons (mC (.str "One")) (maCons (mC (.int 3)) (maCons (mC (.bl true)) (maCons (mTup (maCons (mC (.str "one")) maNil)) (maCons (mLst (maCons (mC (.str "one")) maNil)) (maCons (mC (.dic [] [])) (maCons (mVar 3) maNil)))))))))))) (gT (.nm 6))
      (mSeq (mSet 7 (mNew (maCons (mLam F__law_outcome (mDSub [(false, "Library", F_Library___getitem__)] (mVar 1) (mVar 6))) maNil)))
    (mSeq (mExpr (mLM doApp (mVar 7) (mLam F__law_outcome (mMeth "remove" [(false, "Library", F_Library_remove)] (mVar 1) (maCons (mVar 6) maNil)))))
    (mSeq (mExpr (mLM doApp (mVar 7) (mLam F__law_outcome (mMeth "wish" [(false, "Library", F_Library_wish)] (mVar 1) (maCons (mVar 6) (maCons (mC .non) maNil))))))
    (mIfS (mOr (mOp2 bNe (mVar 7) (mOp2 bRepL (mLst (maCons (mLst (maCons (mC (.str "unknown")) (maCons (mCH (fRep [(true, "Row", F_Row___repr__)]) (maCons (mVar 6) maNil)) maNil))) maNil)) (mC (.int 3)))) (mDHas id [(false, "Library", F_Library___contains__)] (mVar 6) (mVar 1)))
      (mRet (mC (.bl false)))
      mNext)))))
noncomputable def S11 : MS := (mFor (mSeqI (mLst (maCons (mC .non) (maCons (mC (.bl true)) (maCons (mC (.bl false)) (maCons (mOp1 uNeg (mC (.int 1))) (maCons (mC (.int 1)) (maCons (mC (.int 7)) (maCons (mC (.str "0")) (maCons (mTup (maCons (mC (.int 0)) maNil)) (maCons (mLst (maCons (mC (.int 0)) maNil)) (maCons (mC (.dic [] [])) (maCons (mOp2 bPow (mC (.int 10)) (mC (.int 30))) maNil))))))))))))) (gT (.nm 6))
      (mSeq (mSet 7 (mNew (maCons (mLam F__law_outcome (mMeth "lift" [(false, "Library", F_Library_lift)] (mVar 1) (maCons (mVar 6) maNil))) maNil)))
    (mSeq (mExpr (mLM doApp (mVar 7) (mLam F__law_outcome (mMethK "lift" [(false, "Library", F_Library_lift)] 1 [0] (mVar 1) (maCons (mVar 6) maNil)))))
    (mIfS (mOp2 bNe (mVar 7) (mOp2 bRepL (mLst (maCons (mLst (maCons (mC (.str "index")) (maCons (mCH (fRep [(true, "Row", F_Row___repr__)]) (maCons (mVar 6) maNil)) maNil))) maNil)) (mC (.int 2))))
      (mRet (mC (.bl false)))
      mNext))))
noncomputable def S12 : MS := (mSet 7 (mLst (maCons (mAttr (selProp "Library" F_Library_names) (mVar 1)) (maCons (mAttr (selProp "Library" F_Library_wishes) (mVar 1)) (maCons (mAttr (selProp "Library" F_Library_changes) (mVar 1)) (maCons (mAttr (selSProp "Row" F_Row_text) (mDSub [(false, "Library", F_Library___getitem__)] (mVar 1) (mC (.str "one")))) (maCons (mDHas id [(false, "Library", F_Library___contains__)] (mC (.str "b2345678")) (mVar 1)) maNil)))))))
noncomputable def S13 : MS := (mIfS (mOp2 bNe (mVar 7) (mLst (maCons (mTup (maCons (mC (.str "b2345678")) (maCons (mC (.str "one")) maNil))) (maCons (mTup (maCons (mTup (maCons (mC (.str "one")) (maCons (mVar 5) maNil))) maNil)) (maCons (mC (.int 3)) (maCons (mAttr (selSProp "Row" F_Row_text) (mVar 3)) (maCons (mC (.bl true)) maNil)))))))
      (mRet (mC (.bl false)))
      mNext)
noncomputable def S14 : MS := (mIfS (mOr (mOp2 bNe (mLam F__law_outcome (mMeth "remove" [(false, "Library", F_Library_remove)] (mVar 1) (maCons (mC (.str "one")) maNil))) (mLst (maCons (mC (.str "in use")) (maCons (mC (.str "0")) maNil)))) (mOp2 bNotN (mMeth "remove" [(false, "Library", F_Library_remove)] (mVar 1) (maCons (mC (.str "b2345678")) maNil)) (mC .non)))
      (mRet (mC (.bl false)))
      mNext)
noncomputable def S15 : MS := (mRet (mOp2 bEq (mLst (maCons (mMethK "lift" [(false, "Library", F_Library_lift)] 1 [0] (mVar 1) (maCons (mC (.int 0)) maNil)) (maCons (mMeth "remove" [(false, "Library", F_Library_remove)] (mVar 1) (maCons (mC (.str "one")) maNil)) (maCons (mAttr (selProp "Library" F_Library_names) (mVar 1)) (maCons (mCH (fDun [(true, "Row", F_Row___len__), (false, "Library", F_Library___len__)] okLen) (maCons (mVar 1) maNil)) (maCons (mAttr (selProp "Library" F_Library_changes) (mVar 1)) maNil)))))) (mLst (maCons (mC .non) (maCons (mC .non) (maCons (mTup maNil) (maCons (mC (.int 0)) (maCons (mC (.int 6)) maNil))))))))
theorem right_form : M__law_right = mSeq S0 (mSeq S1 (mSeq S2 (mSeq S3 (mSeq S4 (mSeq S5 (mSeq S6 (mSeq S7 (mSeq S8 (mSeq S9 (mSeq S10 (mSeq S11 (mSeq S12 (mSeq S13 (mSeq S14 (S15))))))))))))))) := rfl

noncomputable def thunkR (h : VH) : Prop := True
def unO (y : Str) : O := .lst [.lst [.str "unknown", .str y], .lst [.str "unknown", .str y], .lst [.str "unknown", .str y]]
def ixO (y : Str) : O := .lst [.lst [.str "index", .str y], .lst [.str "index", .str y]]
def rowN : Nat → Str
  | 2 => "Row of 1 draws"
  | 3 => "Row of 2 draws"
  | 4 => "Row of 3 draws"
  | 5 => "Row of 4 draws"
  | 6 => "Row of 5 draws"
  | _ => ""
def uns (k : Nat) : VH := [unO "None", unO "''", unO "'nowhere'", unO "'One'", unO "3", unO "True", unO "('one',)", unO "['one']", unO "{}", unO (rowN k)]
def ixs : VH := [ixO "None", ixO "True", ixO "False", ixO "-1", ixO "1", ixO "7", ixO "'0'", ixO "(0,)", ixO "[0]", ixO "{}", ixO "1000000000000000000000000000000"]
def lastU (k : Nat) : O := unO (rowN k)
def sh4 (r : D) : O := shO (.dic [.inr "one"] [r]) sureP (.obj 9) 4
def sh5 (r : D) : O := shO (.dic [.inr "one"] [r]) (.tup []) (.obj 31) 5
def sh6 : O := shO (.dic [] []) (.tup []) (.obj 32) 6
def tl2 (r r2 : D) : VH := [lbO 31, sh0, lbO 4, sh0, lbO 6, sh0, sh1 r, sh2 r r2, sh3 r r2]
def tl3 (r r2 : D) : VH := [lbO 33, sh0, lbO 4, sh0, lbO 6, sh0, sh1 r, sh2 r r2, sh3 r r2]
def env (r r2 : D) (x y : Option D) : Env := [some (.obj 0), some (.obj 1), some firstD, some r, some r2, some sureD, x, y]
variable {v : O} {ns : List Int} {r2 : D} {x y : Option D}
theorem six_shapes {ns : List Int} {P : List Int → Prop} (h2 : 2 ≤ ns.length) (h6 : ns.length ≤ 6) (p2 : ∀ a b, P [a,b]) (p3 : ∀ a b c, P [a,b,c]) (p4 : ∀ a b c d, P [a,b,c,d]) (p5 : ∀ a b c d e, P [a,b,c,d,e]) (p6 : ∀ a b c d e f, P [a,b,c,d,e,f]) : P ns := by
  rcases ns with _ | ⟨a, _ | ⟨b, _ | ⟨c, _ | ⟨d, _ | ⟨e, _ | ⟨f, _ | ⟨g, l⟩⟩⟩⟩⟩⟩⟩
  · simp at h2
  · simp at h2
  · exact p2 a b
  · exact p3 a b c
  · exact p4 a b c d
  · exact p5 a b c d e
  · exact p6 a b c d e f
  · simp at h6
theorem rep_row (h2 : 2 ≤ ns.length) (h6 : ns.length ≤ 6) {h : VH} : fRep rl [rowD ns] h = some (.str (rowN ns.length), h) :=
  six_shapes (P := fun ns => fRep rl [rowD ns] h = some (.str (rowN ns.length), h)) h2 h6 (fun _ _ => by kernel_rfl) (fun _ _ _ => by kernel_rfl) (fun _ _ _ _ => by kernel_rfl) (fun _ _ _ _ _ => by kernel_rfl) (fun _ _ _ _ _ _ => by kernel_rfl)
theorem s8 (h2 : 2 ≤ ns.length) (h6 : ns.length ≤ 6) : S8 (env (rowD ns) r2 none none) (v :: tl (rowD ns) r2) = some (.nx, env (rowD ns) r2 (some (rowD ns)) none, v :: tl (rowD ns) r2) :=
  six_shapes (P := fun ns => S8 (env (rowD ns) r2 none none) (v :: tl (rowD ns) r2) = some (.nx, env (rowD ns) r2 (some (rowD ns)) none, v :: tl (rowD ns) r2)) h2 h6 (fun _ _ => by kernel_rfl) (fun _ _ _ => by kernel_rfl) (fun _ _ _ _ => by kernel_rfl) (fun _ _ _ _ _ => by kernel_rfl) (fun _ _ _ _ _ _ => by kernel_rfl)
def hU (v : O) (r r2 : D) (k : Nat) : VH := v :: (tl r r2 ++ uns k)
theorem s10 (h2 : 2 ≤ ns.length) (h6 : ns.length ≤ 6) : S10 (env (rowD ns) r2 x none) (v :: tl (rowD ns) r2) = some (.nx, env (rowD ns) r2 (some (rowD ns)) (some (.obj 19)), hU v (rowD ns) r2 ns.length) :=
  six_shapes (P := fun ns => S10 (env (rowD ns) r2 x none) (v :: tl (rowD ns) r2) = some (.nx, env (rowD ns) r2 (some (rowD ns)) (some (.obj 19)), hU v (rowD ns) r2 ns.length)) h2 h6 (fun _ _ => by kernel_rfl) (fun _ _ _ => by kernel_rfl) (fun _ _ _ _ => by kernel_rfl) (fun _ _ _ _ _ => by kernel_rfl) (fun _ _ _ _ _ _ => by kernel_rfl)
def unsV (o : O) : VH := [unO "None", unO "''", unO "'nowhere'", unO "'One'", unO "3", unO "True", unO "('one',)", unO "['one']", unO "{}", o]
variable {r : D} {o : O}
theorem s11 : S11 (env r r2 x y) (v :: (tl r r2 ++ unsV o)) = some (.nx, env r r2 (some (.int (10 ^ 30))) (some (.obj 30)), v :: (tl r r2 ++ (unsV o ++ ixs))) := by kernel_rfl
theorem s14 : S14 (env r r2 x y) (v :: (tl r r2 ++ (unsV o ++ ixs))) = some (.nx, env r r2 x y, v :: (tl2 r r2 ++ (unsV o ++ (ixs ++ [sh4 r])))) := by kernel_rfl
theorem s15 : S15 (env r r2 x y) (v :: (tl2 r r2 ++ (unsV o ++ (ixs ++ [sh4 r])))) = some (.rt (.bl true), env r r2 x y, v :: (tl3 r r2 ++ (unsV o ++ (ixs ++ [sh4 r, sh5 r, sh6])))) := by kernel_rfl
end ML
/-! the text K4 -/
/-! K4: k61: the rows that are drawn, the wish, the things that are not rows. -/
namespace ML
open PySem PySem.Spec PyProof.Rows L2
theorem call_er {F : MF} {ma : MA} {ρ : Env} {h h1 h2 : VH} {ds : List D} {x : Xc} (e1 : ma ρ h = some (.ok ds, h1)) (e2 : F ds h1 = some (.error x, h2)) : mCall F ma ρ h = some (.error x, h2) := by rw [ev_call, e1, bnd_ok, e2]
theorem forL_nil {g : MG} {b : MS} {ρ : Env} {h : VH} : forL g b [] ρ h = some (.nx, ρ, h) := rfl
theorem forL_cons {g : MG} {b : MS} {d : D} {ds : List D} {ρ ρ1 ρ2 : Env} {h h1 h2 : VH} (e1 : g d ρ h = some (ρ1, h1)) (e2 : b ρ1 h1 = some (.nx, ρ2, h2)) : forL g b (d :: ds) ρ h = forL g b ds ρ2 h2 := by
  conv => lhs; unfold forL
  simp only [e1, e2]
theorem same_cons {v : O} {t : VH} {h' : VH} (s : Same 0 (v :: t) h') : ∃ v', h' = v' :: t := by
  cases h' with
  | nil => have := s.len; simp at this
  | cons v' t' =>
    refine ⟨v', ?_⟩
    have : t' = t := by
      apply List.ext_getElem?
      intro i
      have := s.at_ (i + 1) (by omega)
      simpa using this
    rw [this]
theorem dip0 {B k : Nat} {v : O} {t : VH} (w : Vat 0 B (v :: t)) (hB : B ≤ 100000) (hk : 0 < k) (h7 : k ≤ 7) :
    ∃ (r : Nat) (v' : O), F__law_dip [.obj 0, .int (k : Int)] (v :: t) = some (.ok (.int (r : Int)), v' :: t) ∧ r < k ∧ Vat 0 (B + 1) (v' :: t) := by
  obtain ⟨r, h', e, hr, w', s⟩ := dip_eq w hB hk h7
  obtain ⟨v', rfl⟩ := same_cons s
  exact ⟨r, v', e, hr, w'⟩
theorem counts0 {B kind : Nat} {v : O} {t : VH} (w : Vat 0 B (v :: t)) (hB : B ≤ 90000) (hk : kind < 2) :
    ∃ (ns : List Int) (v' : O), F__law_counts [.obj 0, .int (kind : Int)] (v :: t) = some (.ok (tupI ns), v' :: t) ∧ Small ns ∧ Vat 0 (B + 13) (v' :: t) := by
  obtain ⟨ns, h', e, sm, _, w', s⟩ := counts_eq w hB hk
  obtain ⟨v', rfl⟩ := same_cons s
  exact ⟨ns, v', e, sm, w'⟩
theorem vat_tail {B : Nat} {v : O} {t t' : VH} (w : Vat 0 B (v :: t)) : Vat 0 B (v :: t') := by
  obtain ⟨g, s, c, e, rst⟩ := w.ex
  exact ⟨g, s, c, by simpa using e, rst⟩
theorem sum_pos_mem {ns : List Int} (nn : ∀ n ∈ ns, 0 ≤ n) (h : ∃ n ∈ ns, n ≠ 0) : 0 < ns.sum := by
  have a : ∀ ns : List Int, (∀ n ∈ ns, 0 ≤ n) → 0 ≤ ns.sum := fun ns => by
    induction ns with
    | nil => intro _; simp
    | cons n ns ih => intro nn; rw [List.sum_cons]; have := ih fun m hm => nn m (by simp [hm]); have := nn n (by simp); omega
  induction ns with
  | nil => obtain ⟨n, hn, _⟩ := h; simp at hn
  | cons n ns ih =>
    rw [List.sum_cons]
    have p := a ns fun m hm => nn m (by simp [hm])
    have q := nn n (by simp)
    by_cases z : n = 0
    · obtain ⟨m, hm, hz⟩ := h
      rcases List.mem_cons.mp hm with e | e
      · exact absurd (e.symm ▸ z) (by omega)
      · have := ih (fun m hm => nn m (by simp [hm])) ⟨m, e, hz⟩
        omega
    · omega
theorem small_plain {ns : List Int} (c : Small ns) : Small (plainI ns) := by
  obtain ⟨n, hn, hz⟩ := sum_pos_ne c.pos
  have g0 := gcds_ne hn hz
  have nn : ∀ m ∈ plainI ns, 0 ≤ m := fun m hm => by
    obtain ⟨k, hk, rfl⟩ := List.mem_map.mp hm
    exact Int.ediv_nonneg (c.nn k hk) (Int.natCast_nonneg _)
  refine ⟨by rw [plainI_len]; exact c.two, by rw [plainI_len]; exact c.six, nn, sum_pos_mem nn ⟨n / (gcds ns : Int), List.mem_map.mpr ⟨n, hn, rfl⟩, fun z => ?_⟩, fun m hm => ?_⟩
  · have d : (gcds ns : Int) ∣ n := Int.ofNat_dvd_left.mpr (gcds_dvd hn)
    have := Int.ediv_mul_cancel d
    rw [z] at this
    omega
  · obtain ⟨k, hk, rfl⟩ := List.mem_map.mp hm
    have b := c.bd k hk
    have k0 := c.nn k hk
    have : (k / (gcds ns : Int)).natAbs ≤ k.natAbs := by
      rw [Int.natAbs_ediv_of_nonneg k0]
      simpa using Nat.div_le_self _ _
    omega
variable {B : Nat} {v : O} {r r2 : D} {x y : Option D}
theorem s3 {t : VH} {a c d e f g : Option D} (w : Vat 0 B (v :: t)) (hB : B ≤ 80000) :
    ∃ (ns ms : List Int) (v' : O), S3 [some (.obj 0), a, c, d, e, f, g, x] (v :: t) = some (.nx, [some (.obj 0), a, c, some (rowD ns), some (rowD ms), f, g, x], v' :: t) ∧ Small ns ∧ Small ms ∧ Vat 0 (B + 26) (v' :: t) := by
  obtain ⟨ns, v1, e1, sm1, w1⟩ := counts0 (kind := 0) w (by omega) (by omega)
  obtain ⟨ms, v2, e2, sm2, w2⟩ := counts0 (kind := 1) w1 (by omega) (by omega)
  refine ⟨plainI ns, plainI ms, v2, ?_, small_plain sm1, small_plain sm2, w2⟩
  have m1 : mCall G_Row (maCons (mCall F__law_counts (maCons (mVar 0) (maCons (mC (.int 0)) maNil))) maNil) [some (.obj 0), a, c, d, e, f, g, x] (v :: t) = some (.ok (rowD (plainI ns)), v1 :: t) :=
    call_ok (one_ok (call_ok (cons_ok (x := .obj 0) rfl (one_ok (x := .int 0) rfl)) e1)) (row_made sm1.cnt)
  have m2 : mCall G_Row (maCons (mCall F__law_counts (maCons (mVar 0) (maCons (mC (.int 1)) maNil))) maNil) [some (.obj 0), a, c, d, e, f, g, x] (v1 :: t) = some (.ok (rowD (plainI ms)), v2 :: t) :=
    call_ok (one_ok (call_ok (cons_ok (x := .obj 0) rfl (one_ok (x := .int 1) rfl)) e2)) (row_made sm2.cnt)
  unfold S3
  rw [ev_par, cons_ok m1 (one_ok m2)]
  rfl
theorem k1 {ns : List Int} {h : VH} : mDGet (mVar 0) (mVar 3) [some (.dic [.inr "one", .inr "b2345678"] [rowD ns, r2]), some sureP, some (.int 0), some (.str "one"), some sureD] h = some (.ok (rowD ns), h) := by kernel_rfl
theorem k2 {ns : List Int} {h : VH} : gT (.tp [(.nm 2), (.tp [(.nm 3), (.nm 4)])]) (.tup [.int (0 : Nat), .tup [.str "one", sureD]]) [some (.dic [.inr "one", .inr "b2345678"] [rowD ns, r2]), some sureP, none, none, none] h = some ([some (.dic [.inr "one", .inr "b2345678"] [rowD ns, r2]), some sureP, some (.int 0), some (.str "one"), some sureD], h) := by kernel_rfl
theorem k3 {ns : List Int} {h : VH} (c : Cnt ns) : (mIfS (mNot (mCall F_keeps (maCons (mDGet (mVar 0) (mVar 3)) (maCons (mVar 4) maNil))))
      (mRaise1 "Broken" "index" (mVar 2))
      mNext) [some (.dic [.inr "one", .inr "b2345678"] [rowD ns, r2]), some sureP, some (.int 0), some (.str "one"), some sureD] h = some (.nx, [some (.dic [.inr "one", .inr "b2345678"] [rowD ns, r2]), some sureP, some (.int 0), some (.str "one"), some sureD], h) := by
  rw [ifS_f (not_ok (call_ok (cons_ok (x := rowD ns) (k1 (ns := ns)) (one_ok (x := sureD) rfl)) (keeps_sure c)))]
  rfl
theorem k4 {ns : List Int} {h : VH} (c : Cnt ns) : M_check_kept [some (.dic [.inr "one", .inr "b2345678"] [rowD ns, r2]), some sureP, none, none, none] h = some (.nx, [some (.dic [.inr "one", .inr "b2345678"] [rowD ns, r2]), some sureP, some (.int 0), some (.str "one"), some sureD], h) := by
  unfold M_check_kept
  rw [for_enum (d := sureP) (xs := [.tup [.str "one", sureD]]) (c := false) (one_ok rfl) (fun _ => rfl)]
  exact (forL_cons k2 (k3 c)).trans forL_nil
theorem st_ck {a b : D} : startD 5 [a, b] = [some a, some b, none, none, none] := rfl
theorem st_wi {a b c : D} : startD 4 [a, b, c] = [some a, some b, some c, none] := rfl
theorem kept_one {ns : List Int} {h : VH} (c : Cnt ns) : F_check_kept [.dic [.inr "one", .inr "b2345678"] [rowD ns, r2], sureP] h = some (.ok .non, h) := by
  refine fn_nx (m := M_check_kept) (n := 5) (np := 2) rfl ?_ (ρ1 := [some (.dic [.inr "one", .inr "b2345678"] [rowD ns, r2]), some sureP, some (.int 0), some (.str "one"), some sureD])
  rw [st_ck]
  exact k4 c
def tlA (r r2 : D) : VH := [lbO 8, sh0, lbO 4, sh0, lbO 6, sh0, sh1 r, sh2 r r2]
def wE (x : Option D) : Env := [some (.obj 1), some (.str "one"), some sureD, x]
theorem w1 : (mIfS (mDHas not [(false, "Library", F_Library___contains__)] (mVar 1) (mVar 0))
      (mRaise1 "UnknownName" "given" (mVar 1))
      mNext) (wE none) (v :: tlA r r2) = some (.nx, (wE none), v :: tlA r r2) := by kernel_rfl
theorem w2 : (mIfS (mNot (mCall F_is_wish (maCons (mVar 2) maNil)))
      (mRaise1 "InvalidWish" "given" (mVar 2))
      mNext) (wE none) (v :: tlA r r2) = some (.nx, (wE none), v :: tlA r r2) := by kernel_rfl
theorem w3 : (mSet 3 (mTup (maStar (mAttr (selFld "Shelf" "pairs") (mAttr (selFld "Library" "shelf") (mVar 0))) (maCons (mTup (maCons (mVar 1) (maCons (mVar 2) maNil))) maNil)))) (wE none) (v :: tlA r r2) = some (.nx, (wE (some sureP)), v :: tlA r r2) := by kernel_rfl
theorem w4 : (mExpr (mMeth "become" [(false, "Library", F_Library_become)] (mVar 0) (maCons (mAttr (selFld "Shelf" "rows") (mAttr (selFld "Library" "shelf") (mVar 0))) (maCons (mVar 3) maNil)))) (wE (some sureP)) (v :: tlA r r2) = some (.nx, (wE (some sureP)), v :: tl r r2) := by kernel_rfl
theorem w0 : (mAttr (selFld "Shelf" "rows") (mAttr (selFld "Library" "shelf") (mVar 0))) (wE (some sureP)) (v :: tlA r r2) = some (.ok (.dic [.inr "one", .inr "b2345678"] [r, r2]), v :: tlA r r2) := by kernel_rfl
theorem y1 : maCons (mVar 3) maNil (wE (some sureP)) (v :: tlA r r2) = some (.ok [sureP], v :: tlA r r2) := one_ok (x := sureP) rfl
theorem y2 : (maCons (mAttr (selFld "Shelf" "rows") (mAttr (selFld "Library" "shelf") (mVar 0))) (maCons (mVar 3) maNil)) (wE (some sureP)) (v :: tlA r r2) = some (.ok [.dic [.inr "one", .inr "b2345678"] [r, r2], sureP], v :: tlA r r2) := cons_ok w0 y1
theorem y3 {ns : List Int} (c : Cnt ns) : (mCall F_check_kept (maCons (mAttr (selFld "Shelf" "rows") (mAttr (selFld "Library" "shelf") (mVar 0))) (maCons (mVar 3) maNil))) (wE (some sureP)) (v :: tlA (rowD ns) r2) = some (.ok .non, v :: tlA (rowD ns) r2) := call_ok y2 (kept_one c)
theorem ex_ok {m : ME} {ρ : Env} {h h1 : VH} {d : D} (e : m ρ h = some (.ok d, h1)) : mExpr m ρ h = some (.nx, ρ, h1) := by unfold mExpr; rw [e]
theorem w5 {ns : List Int} (c : Cnt ns) : (mExpr (mCall F_check_kept (maCons (mAttr (selFld "Shelf" "rows") (mAttr (selFld "Library" "shelf") (mVar 0))) (maCons (mVar 3) maNil)))) (wE (some sureP)) (v :: tlA (rowD ns) r2) = some (.nx, wE (some sureP), v :: tlA (rowD ns) r2) := ex_ok (y3 c)
theorem wish_m {ns : List Int} (c : Cnt ns) : M_Library_wish (wE none) (v :: tlA (rowD ns) r2) = some (.nx, wE (some sureP), v :: tl (rowD ns) r2) := by
  unfold M_Library_wish
  rw [seq_nx w1, seq_nx w2, seq_nx w3, seq_nx (w5 c), w4]
theorem st_w : startD 4 [.obj 1, .str "one", sureD] = wE none := rfl
theorem wish_eq {ns : List Int} (c : Cnt ns) : F_Library_wish [.obj 1, .str "one", sureD] (v :: tlA (rowD ns) r2) = some (.ok .non, v :: tl (rowD ns) r2) := by
  refine fn_nx (m := M_Library_wish) (n := 4) (np := 3) rfl ?_ (ρ1 := wE (some sureP))
  rw [st_w]
  exact wish_m c
/-- the method's call, its object found -/
theorem meth_at {m : Str} {l : MSel} {o : ME} {a : MA} {ρ : Env} {h h1 h2 : VH} {d : D} {b : Bool} {C : Str} {F : MF} {ds : List D} (e1 : o ρ h = some (.ok d, h1)) (e2 : clsOf h1 m d = some (b, C)) (e3 : pick b C l = some F) (e4 : a ρ h1 = some (.ok ds, h2)) : mMeth m l o a ρ h = F (d :: ds) h2 := by
  unfold mMeth
  rw [e1, bnd_ok]
  simp only [e2, e3]
  rw [e4, bnd_ok]
theorem s7 {ns : List Int} (c : Cnt ns) : S7 (env (rowD ns) r2 none none) (v :: tlA (rowD ns) r2) = some (.nx, env (rowD ns) r2 none none, v :: tl (rowD ns) r2) := by
  have e2 : clsOf (v :: tlA (rowD ns) r2) "wish" (.obj 1) = some (false, ("Library" : Str)) := by kernel_rfl
  have e3 : pick false "Library" [(false, "Library", F_Library_wish)] = some F_Library_wish := by kernel_rfl
  have m := (meth_at (m := "wish") (o := mVar 1) (a := maCons (mC (.str "one")) (maCons (mVar 5) maNil)) (ρ := env (rowD ns) r2 none none) (h := v :: tlA (rowD ns) r2) rfl e2 e3 (cons_ok (x := .str "one") rfl (one_ok (x := sureD) rfl))).trans (wish_eq c)
  have t : (mOp2 bNotN (mMeth "wish" [(false, "Library", F_Library_wish)] (mVar 1) (maCons (mC (.str "one")) (maCons (mVar 5) maNil))) (mC .non)) (env (rowD ns) r2 none none) (v :: tlA (rowD ns) r2) = some (.ok (.bl false), v :: tl (rowD ns) r2) := op2_ok (x := .non) (y := .non) m rfl rfl
  unfold S7
  rw [ifS_f t]
  rfl
end ML
/-! the text K5 -/
/-! K5: k61: the walk through the law's right. -/
namespace ML
open PySem PySem.Spec PyProof.Rows L2
variable {B : Nat} {v : O} {r r2 d : D} {x y : Option D} {ns ms : List Int}
noncomputable def B9 : MS := (mIfS (mOp2 bNe (mLam F__law_outcome (mCall F__law_store (maCons (mVar 1) (maCons (mOp2 bIx (mLst (maCons (mC (.str "one")) (maCons (mC (.str "new")) maNil))) (mCall F__law_dip (maCons (mVar 0) (maCons (mC (.int 2)) maNil)))) (maCons (mVar 6) maNil))))) (mLst (maCons (mC (.str "row")) (maCons (mCH (fRep [(true, "Row", F_Row___repr__)]) (maCons (mVar 6) maNil)) maNil))))
      (mRet (mC (.bl false)))
      mNext)
/-- one thing that is no row is refused under either name -/
theorem b9 {t : Str} (w : Vat 0 B (v :: tl r r2)) (hB : B ≤ 90000)
    (h1 : ∀ v, F__law_store [.obj 1, .str "one", d] (v :: tl r r2) = some (.error ⟨"NotRow", ["given"], [d]⟩, v :: tl r r2))
    (h2 : ∀ v, F__law_store [.obj 1, .str "new", d] (v :: tl r r2) = some (.error ⟨"NotRow", ["given"], [d]⟩, v :: tl r r2))
    (hr : ∀ h, fRep rl [d] h = some (.str t, h)) (ht : PyData.strOk t = true) :
    ∃ v', B9 (env r r2 (some d) y) (v :: tl r r2) = some (.nx, env r r2 (some d) y, v' :: tl r r2) ∧ Vat 0 (B + 1) (v' :: tl r r2) := by
  obtain ⟨k, v', e, hk, w'⟩ := dip0 (k := 2) w (by omega) (by omega) (by omega)
  refine ⟨v', ?_, w'⟩
  have a0 : ∃ z : Str, (z = "one" ∨ z = "new") ∧ (mOp2 bIx (mLst (maCons (mC (.str "one")) (maCons (mC (.str "new")) maNil))) (mCall F__law_dip (maCons (mVar 0) (maCons (mC (.int 2)) maNil)))) (env r r2 (some d) y) (v :: tl r r2) = some (.ok (.str z), v' :: tl r r2) := by
    have d1 : (mCall F__law_dip (maCons (mVar 0) (maCons (mC (.int 2)) maNil))) (env r r2 (some d) y) (v :: tl r r2) = some (.ok (.int (k : Int)), v' :: tl r r2) := call_ok (cons_ok (x := .obj 0) rfl (one_ok (x := .int 2) rfl)) e
    have l1 : (mLst (maCons (mC (.str "one")) (maCons (mC (.str "new")) maNil))) (env r r2 (some d) y) (v :: tl r r2) = some (.ok (.lst [.str "one", .str "new"]), v :: tl r r2) := lst_ok (cons_ok (x := .str "one") rfl (one_ok (x := .str "new") rfl)) (by simp)
    rcases (show k = 0 ∨ k = 1 from by omega) with q | q <;> subst q
    · exact ⟨"one", .inl rfl, op2_ok l1 d1 (by kernel_rfl)⟩
    · exact ⟨"new", .inr rfl, op2_ok l1 d1 (by kernel_rfl)⟩
  obtain ⟨z, hz, a0⟩ := a0
  have st : F__law_store [.obj 1, .str z, d] (v' :: tl r r2) = some (.error ⟨"NotRow", ["given"], [d]⟩, v' :: tl r r2) := by
    rcases hz with q | q <;> subst q
    · exact h1 v'
    · exact h2 v'
  have c1 := call_er (cons_ok (m := mVar 1) (ρ := env r r2 (some d) y) (h := v :: tl r r2) (x := .obj 1) rfl (cons_ok a0 (one_ok (m := mVar 6) (x := d) rfl))) st
  have o1 := lam_ok (out_row c1 (hr _))
  have t1 : (mLst (maCons (mC (.str "row")) (maCons (mCH (fRep [(true, "Row", F_Row___repr__)]) (maCons (mVar 6) maNil)) maNil))) (env r r2 (some d) y) (v' :: tl r r2) = some (.ok (.lst [.str "row", .str t]), v' :: tl r r2) := lst_ok (cons_ok (x := .str "row") rfl (one_ok (ch_ok (one_ok (x := d) rfl) (hr _)))) (by simp)
  have n1 := op2_ok o1 t1 (ne_strs (ts := ["row", t]) (fun s hs => by
    simp only [List.mem_cons, List.not_mem_nil, or_false] at hs
    rcases hs with q | q <;> subst q
    · exact sOk_of _
    · exact ht))
  exact (ifS_f n1).trans rfl
theorem g6 {h : VH} : gT (.nm 6) d (env r r2 x y) h = some (env r r2 (some d) y, h) := by kernel_rfl
theorem sOk_lit {s : String} : PyData.strOk (s : Str) = true := sOk_of s
theorem rowN_ok : ∀ n, PyData.strOk (rowN n) = true := fun n => by
  unfold rowN; split <;> exact sOk_of _
theorem rep_lift {h : VH} {z : D} (e : cRepr [d] h = some z) : fRep rl [d] h = some (z, h) := by
  unfold fRep orH liftH; rw [e]; rfl
theorem rep_shown {B k w : Nat} {p : PyData} {h : VH} (e : dat h d = some p) (s : Shw B k w p) (hk : k ≤ 60) (hB : 8 ≤ B) (hw : (B + 2) * w + B ≤ 10000000) : fRep rl [d] h = some (.str p.shown, h) := by
  refine rep_lift ?_
  have h1 := PyData.shown_le B hB p s.short
  have h2 : (B + 2) * p.weight ≤ (B + 2) * w := Nat.mul_le_mul_left _ s.weight
  unfold cRepr
  simp only [on1, e]
  rw [if_pos ⟨s.show_, s.dict, Nat.le_trans s.depth hk, by omega⟩]
theorem rep_ints (sm : Small ns) : ∃ t, PyData.strOk t = true ∧ ∀ h, fRep rl [tupI ns] h = some (.str t, h) := by
  have s := (shws_ints (B := 102) (k := 1) (j := 100) (by decide) (by decide) (by decide) ns fun n hn => sm.bd n hn).tuple
  have e : ∀ h, dat h (tupI ns) = some (.tuple (ns.map .int)) := fun h => by simp only [tupI, dat, dats_ints]; rfl
  have := sm.six
  exact ⟨_, s.ok, fun h => rep_shown (e h) s (by decide) (by decide) (by omega)⟩
theorem rowTxt_len (sm : Small ns) : (rowTxt ns).length ≤ 100000 := by
  have h1 := lines_len (ns := ns) (by have := sm.six; omega) (fun n hn => lt_pow_mono (sm.bd n hn) (by omega))
  have h2 : (rowLines ns).length ≤ 7 := by simp [rowLines]; have := sm.six; omega
  have h3 : (Str.ofString "\n").length = 1 := by rw [len_of]; decide
  unfold rowTxt Txt.join
  rw [size_glued]
  rw [h3]
  omega
theorem rep_own1 (h2 : 2 ≤ ns.length) (h6 : ns.length ≤ 6) : ∃ t, PyData.strOk t = true ∧ ∀ h, fRep rl [.tup [rowD ns]] h = some (.str t, h) :=
  ⟨tupleText [rowN ns.length], sOk_tuple (fun t ht => by rw [List.mem_singleton.mp ht]; exact rowN_ok _), fun h => six_shapes (P := fun ns => fRep rl [.tup [rowD ns]] h = some (.str (tupleText [rowN ns.length]), h)) h2 h6 (fun _ _ => by kernel_rfl) (fun _ _ _ => by kernel_rfl) (fun _ _ _ _ => by kernel_rfl) (fun _ _ _ _ _ => by kernel_rfl) (fun _ _ _ _ _ _ => by kernel_rfl)⟩
/-- the turns over the things that are no rows -/
theorem f9 (w : Vat 0 B (v :: tl r r2)) : ∀ (ds : List D), B + ds.length ≤ 80000 → (∀ d ∈ ds, (∀ v, F__law_store [.obj 1, .str "one", d] (v :: tl r r2) = some (.error ⟨"NotRow", ["given"], [d]⟩, v :: tl r r2)) ∧ (∀ v, F__law_store [.obj 1, .str "new", d] (v :: tl r r2) = some (.error ⟨"NotRow", ["given"], [d]⟩, v :: tl r r2)) ∧ ∃ t, PyData.strOk t = true ∧ ∀ h, fRep rl [d] h = some (.str t, h)) →
    ∀ x, ∃ v' x', forL (gT (.nm 6)) B9 ds (env r r2 x y) (v :: tl r r2) = some (.nx, env r r2 x' y, v' :: tl r r2) ∧ Vat 0 (B + ds.length) (v' :: tl r r2) := fun ds => by
  induction ds generalizing B v with
  | nil => exact fun _ _ x => ⟨v, x, rfl, w⟩
  | cons d ds ih =>
    intro hl hd x
    obtain ⟨a1, a2, t, ht, hr⟩ := hd d (by simp)
    simp only [List.length_cons] at hl
    obtain ⟨v1, e1, w1⟩ := b9 (y := y) w (by omega) a1 a2 hr ht
    obtain ⟨v2, x2, e2, w2⟩ := ih w1 (by omega) (fun z hz => hd z (by simp [hz])) (some d)
    exact ⟨v2, x2, (forL_cons g6 e1).trans e2, by simpa [Nat.add_comm, Nat.add_left_comm, Nat.add_assoc] using w2⟩
theorem e9_0_one {t : Str} : F__law_store [.obj 1, .str "one", .non] (v :: tl r r2) = some (.error ⟨"NotRow", ["given"], [.non]⟩, v :: tl r r2) := by kernel_rfl
theorem e9_0_new {t : Str} : F__law_store [.obj 1, .str "new", .non] (v :: tl r r2) = some (.error ⟨"NotRow", ["given"], [.non]⟩, v :: tl r r2) := by kernel_rfl
theorem e9_1_one {t : Str} : F__law_store [.obj 1, .str "one", .str t] (v :: tl r r2) = some (.error ⟨"NotRow", ["given"], [.str t]⟩, v :: tl r r2) := by kernel_rfl
theorem e9_1_new {t : Str} : F__law_store [.obj 1, .str "new", .str t] (v :: tl r r2) = some (.error ⟨"NotRow", ["given"], [.str t]⟩, v :: tl r r2) := by kernel_rfl
theorem e9_2_one {t : Str} : F__law_store [.obj 1, .str "one", tupI ns] (v :: tl r r2) = some (.error ⟨"NotRow", ["given"], [tupI ns]⟩, v :: tl r r2) := by kernel_rfl
theorem e9_2_new {t : Str} : F__law_store [.obj 1, .str "new", tupI ns] (v :: tl r r2) = some (.error ⟨"NotRow", ["given"], [tupI ns]⟩, v :: tl r r2) := by kernel_rfl
theorem e9_3_one {t : Str} : F__law_store [.obj 1, .str "one", .tup [rowD ns]] (v :: tl r r2) = some (.error ⟨"NotRow", ["given"], [.tup [rowD ns]]⟩, v :: tl r r2) := by kernel_rfl
theorem e9_3_new {t : Str} : F__law_store [.obj 1, .str "new", .tup [rowD ns]] (v :: tl r r2) = some (.error ⟨"NotRow", ["given"], [.tup [rowD ns]]⟩, v :: tl r r2) := by kernel_rfl
theorem e9_4_one {t : Str} : F__law_store [.obj 1, .str "one", .int 5] (v :: tl r r2) = some (.error ⟨"NotRow", ["given"], [.int 5]⟩, v :: tl r r2) := by kernel_rfl
theorem e9_4_new {t : Str} : F__law_store [.obj 1, .str "new", .int 5] (v :: tl r r2) = some (.error ⟨"NotRow", ["given"], [.int 5]⟩, v :: tl r r2) := by kernel_rfl
theorem e9_5_one {t : Str} : F__law_store [.obj 1, .str "one", .bl true] (v :: tl r r2) = some (.error ⟨"NotRow", ["given"], [.bl true]⟩, v :: tl r r2) := by kernel_rfl
theorem e9_5_new {t : Str} : F__law_store [.obj 1, .str "new", .bl true] (v :: tl r r2) = some (.error ⟨"NotRow", ["given"], [.bl true]⟩, v :: tl r r2) := by kernel_rfl
theorem e9_6_one {t : Str} : F__law_store [.obj 1, .str "one", .dic [] []] (v :: tl r r2) = some (.error ⟨"NotRow", ["given"], [.dic [] []]⟩, v :: tl r r2) := by kernel_rfl
theorem e9_6_new {t : Str} : F__law_store [.obj 1, .str "new", .dic [] []] (v :: tl r r2) = some (.error ⟨"NotRow", ["given"], [.dic [] []]⟩, v :: tl r r2) := by kernel_rfl
theorem e9_7_one {t : Str} : F__law_store [.obj 1, .str "one", .str "one"] (v :: tl r r2) = some (.error ⟨"NotRow", ["given"], [.str "one"]⟩, v :: tl r r2) := by kernel_rfl
theorem e9_7_new {t : Str} : F__law_store [.obj 1, .str "new", .str "one"] (v :: tl r r2) = some (.error ⟨"NotRow", ["given"], [.str "one"]⟩, v :: tl r r2) := by kernel_rfl
theorem s9 (sm : Small ns) (w : Vat 0 B (v :: tl (rowD ns) r2)) (hB : B ≤ 70000) : ∃ v' x', S9 (env (rowD ns) r2 x y) (v :: tl (rowD ns) r2) = some (.nx, env (rowD ns) r2 x' y, v' :: tl (rowD ns) r2) ∧ Vat 0 (B + 8) (v' :: tl (rowD ns) r2) := by
  have two := sm.two
  have six := sm.six
  have tx : F_Row_text [rowD ns] (v :: tl (rowD ns) r2) = some (.ok (.str (rowTxt ns)), v :: tl (rowD ns) r2) := row_text (by omega) fun n hn => lt_pow_mono (sm.bd n hn) (by omega)
  have l := rowTxt_len sm
  have a1 : (mAttr (selSProp "Row" F_Row_text) (mVar 3)) (env (rowD ns) r2 x y) (v :: tl (rowD ns) r2) = some (.ok (.str (rowTxt ns)), v :: tl (rowD ns) r2) := attr_ok (x := rowD ns) rfl (sprop_row.trans tx)
  have a2 : (mAttr (selSProp "Row" F_Row_counts) (mVar 3)) (env (rowD ns) r2 x y) (v :: tl (rowD ns) r2) = some (.ok (tupI ns), v :: tl (rowD ns) r2) := attr_ok (x := rowD ns) rfl (sprop_row.trans row_counts)
  have a3 : (mTup (maCons (mVar 3) maNil)) (env (rowD ns) r2 x y) (v :: tl (rowD ns) r2) = some (.ok (.tup [rowD ns]), v :: tl (rowD ns) r2) := tup_ok (one_ok (x := rowD ns) rfl) (by simp)
  have ls : (mLst (maCons (mC .non) (maCons (mAttr (selSProp "Row" F_Row_text) (mVar 3)) (maCons (mAttr (selSProp "Row" F_Row_counts) (mVar 3)) (maCons (mTup (maCons (mVar 3) maNil)) (maCons (mC (.int 5)) (maCons (mC (.bl true)) (maCons (mC (.dic [] [])) (maCons (mC (.str "one")) maNil))))))))) (env (rowD ns) r2 x y) (v :: tl (rowD ns) r2) = some (.ok (.lst [.non, .str (rowTxt ns), tupI ns, .tup [rowD ns], .int 5, .bl true, .dic [] [], .str "one"]), v :: tl (rowD ns) r2) :=
    lst_ok (cons_ok (x := .non) rfl (cons_ok a1 (cons_ok a2 (cons_ok a3 (cons_ok (x := .int 5) rfl (cons_ok (x := .bl true) rfl (cons_ok (x := .dic [] []) rfl (one_ok (x := .str "one") rfl)))))))) (by simp)
  obtain ⟨tc, hc, rc⟩ := rep_ints sm
  obtain ⟨to, ho, ro⟩ := rep_own1 two six
  obtain ⟨v', x', e, w'⟩ := f9 (y := y) w [.non, .str (rowTxt ns), tupI ns, .tup [rowD ns], .int 5, .bl true, .dic [] [], .str "one"] (by simp; omega) (fun d hd => by
    simp only [List.mem_cons, List.not_mem_nil, or_false] at hd
    rcases hd with q | q | q | q | q | q | q | q <;> subst q
    · exact ⟨fun _ => e9_0_one (t := ""), fun _ => e9_0_new (t := ""), "None", sOk_of _, fun h => by kernel_rfl⟩
    · exact ⟨fun _ => e9_1_one, fun _ => e9_1_new, reprText (rowTxt ns), sOk_repr txt_ok, fun h => rep_lift (rep_txt txt_ok (by omega))⟩
    · exact ⟨fun _ => e9_2_one (t := ""), fun _ => e9_2_new (t := ""), tc, hc, rc⟩
    · exact ⟨fun _ => e9_3_one (t := ""), fun _ => e9_3_new (t := ""), to, ho, ro⟩
    · exact ⟨fun _ => e9_4_one (t := ""), fun _ => e9_4_new (t := ""), "5", sOk_of _, fun h => by kernel_rfl⟩
    · exact ⟨fun _ => e9_5_one (t := ""), fun _ => e9_5_new (t := ""), "True", sOk_of _, fun h => by kernel_rfl⟩
    · exact ⟨fun _ => e9_6_one (t := ""), fun _ => e9_6_new (t := ""), "{}", sOk_of _, fun h => by kernel_rfl⟩
    · exact ⟨fun _ => e9_7_one (t := ""), fun _ => e9_7_new (t := ""), "'one'", sOk_of _, fun h => by kernel_rfl⟩) x
  refine ⟨v', x', ?_, w'⟩
  unfold S9
  exact (for_seq ls (fun _ => rfl)).trans e
end ML
/-! the text K6 -/
/-! K6: k61: the law. -/
namespace ML
open PySem PySem.Spec PyProof.Rows L2
variable {B : Nat} {v : O} {r r2 d : D} {o : O} {x y : Option D} {ns ms : List Int}
abbrev H2 (v : O) : VH := [v, lbO 2, sh0, lbO 4, sh0, lbO 6, sh0]
abbrev E0 (a b c d e : Option D) : Env := [some (.obj 0), a, b, c, d, e, none, none]
theorem s0 : S0 (E0 none none none none none) [v] = some (.nx, E0 (some (.obj 1)) none none none none, [v, lbO 2, sh0]) := by kernel_rfl
theorem s1 : S1 (E0 (some (.obj 1)) none none none none) [v, lbO 2, sh0] = some (.nx, E0 (some (.obj 1)) (some firstD) none none none, H2 v) := by kernel_rfl
theorem s2 : S2 (E0 (some (.obj 1)) (some firstD) none none none) (H2 v) = some (.nx, E0 (some (.obj 1)) (some firstD) none none none, H2 v) := by kernel_rfl
theorem s4 : S4 (E0 (some (.obj 1)) (some firstD) (some (rowD ns)) (some (rowD ms)) none) (H2 v) = some (.nx, E0 (some (.obj 1)) (some firstD) (some (rowD ns)) (some (rowD ms)) none, [v, lbO 7, sh0, lbO 4, sh0, lbO 6, sh0, sh1 (rowD ns)]) := by kernel_rfl
theorem s5 : S5 (E0 (some (.obj 1)) (some firstD) (some (rowD ns)) (some (rowD ms)) none) [v, lbO 7, sh0, lbO 4, sh0, lbO 6, sh0, sh1 (rowD ns)] = some (.nx, E0 (some (.obj 1)) (some firstD) (some (rowD ns)) (some (rowD ms)) none, v :: tlA (rowD ns) (rowD ms)) := by kernel_rfl
theorem s6 : S6 (E0 (some (.obj 1)) (some firstD) (some (rowD ns)) (some (rowD ms)) none) (v :: tlA (rowD ns) (rowD ms)) = some (.nx, env (rowD ns) (rowD ms) none none, v :: tlA (rowD ns) (rowD ms)) := by kernel_rfl
abbrev H3 (v : O) (r r2 : D) (o : O) : VH := v :: (tl r r2 ++ (unsV o ++ ixs))
def toldD (t : Str) : D := .lst [.tup [.str "b2345678", .str "one"], sureP, .int 3, .str t, .bl true]
theorem sort2 {h : VH} : cSortD [.dic [.inr "one", .inr "b2345678"] [r, r2]] h = some (.lst [.str "b2345678", .str "one"]) := by
  have e : (["b2345678", "one"] : List Str) = sortT ["one", "b2345678"] := sort_one (List.Perm.swap _ _ _) (by kernel_rfl)
  have k : strKs [.inr "one", .inr "b2345678"] = some (["one", "b2345678"] : List Str) := rfl
  simp only [cSortD, on1, k, ← e]
  rfl
theorem t0 {e : Env} : (mAttr (selFld "Shelf" "rows") (mAttr (selFld "Library" "shelf") (mVar 0))) [some (.obj 1)] (H3 v r r2 o) = some (.ok (.dic [.inr "one", .inr "b2345678"] [r, r2]), H3 v r r2 o) := by kernel_rfl
theorem names_eq : F_Library_names [.obj 1] (H3 v r r2 o) = some (.ok (.tup [.str "b2345678", .str "one"]), H3 v r r2 o) :=
  fn_rt (m := M_Library_names) (n := 1) (np := 1) (ρ1 := [some (.obj 1)]) rfl (ret_ok (cb_ok (one_ok (cb_ok (one_ok (t0 (e := []))) sort2)) (by kernel_rfl)))
theorem t1a : selProp "Library" F_Library_names (.obj 1) (H3 v r r2 o) = F_Library_names [.obj 1] (H3 v r r2 o) := by kernel_rfl
theorem t1 : (mAttr (selProp "Library" F_Library_names) (mVar 1)) (env r r2 x y) (H3 v r r2 o) = some (.ok (.tup [.str "b2345678", .str "one"]), H3 v r r2 o) := attr_ok (x := .obj 1) rfl (t1a.trans names_eq)
theorem t2 : (mAttr (selProp "Library" F_Library_wishes) (mVar 1)) (env r r2 x y) (H3 v r r2 o) = some (.ok sureP, H3 v r r2 o) := by kernel_rfl
theorem t3 : (mAttr (selProp "Library" F_Library_changes) (mVar 1)) (env r r2 x y) (H3 v r r2 o) = some (.ok (.int 3), H3 v r r2 o) := by kernel_rfl
theorem t4 : (mDSub [(false, "Library", F_Library___getitem__)] (mVar 1) (mC (.str "one"))) (env r r2 x y) (H3 v r r2 o) = some (.ok r, H3 v r r2 o) := by kernel_rfl
theorem t5 : (mDHas id [(false, "Library", F_Library___contains__)] (mC (.str "b2345678")) (mVar 1)) (env r r2 x y) (H3 v r r2 o) = some (.ok (.bl true), H3 v r r2 o) := by kernel_rfl
theorem tx (sm : Small ns) {h : VH} : F_Row_text [rowD ns] h = some (.ok (.str (rowTxt ns)), h) := row_text (by have := sm.six; omega) fun n hn => lt_pow_mono (sm.bd n hn) (by omega)
theorem s12 (sm : Small ns) : S12 (env (rowD ns) r2 x y) (H3 v (rowD ns) r2 o) = some (.nx, env (rowD ns) r2 x (some (toldD (rowTxt ns))), H3 v (rowD ns) r2 o) :=
  set_ok (d := toldD (rowTxt ns)) (lst_ok (cons_ok t1 (cons_ok t2 (cons_ok t3 (cons_ok (attr_ok t4 (sprop_row.trans (tx sm))) (one_ok t5))))) (by simp))
theorem s13 (sm : Small ns) : S13 (env (rowD ns) r2 x (some (toldD (rowTxt ns)))) (H3 v (rowD ns) r2 o) = some (.nx, env (rowD ns) r2 x (some (toldD (rowTxt ns))), H3 v (rowD ns) r2 o) := by
  have q : (mLst (maCons (mTup (maCons (mC (.str "b2345678")) (maCons (mC (.str "one")) maNil))) (maCons (mTup (maCons (mTup (maCons (mC (.str "one")) (maCons (mVar 5) maNil))) maNil)) (maCons (mC (.int 3)) (maCons (mAttr (selSProp "Row" F_Row_text) (mVar 3)) (maCons (mC (.bl true)) maNil)))))) (env (rowD ns) r2 x (some (toldD (rowTxt ns)))) (H3 v (rowD ns) r2 o) = some (.ok (toldD (rowTxt ns)), H3 v (rowD ns) r2 o) :=
    lst_ok (cons_ok (x := .tup [.str "b2345678", .str "one"]) rfl (cons_ok (x := sureP) rfl (cons_ok (x := .int 3) rfl (cons_ok (attr_ok (x := rowD ns) rfl (sprop_row.trans (tx sm))) (one_ok (x := .bl true) rfl))))) (by simp)
  have e : dat (H3 v (rowD ns) r2 o) (toldD (rowTxt ns)) = some (.list [.tuple [.str "b2345678", .str "one"], .tuple [.tuple [.str "one", .tuple [.str "likely", .int 0, .tuple [.int 0, .int 1]]]], .int 3, .str (rowTxt ns), .bool true]) := by kernel_rfl
  have n : bNe (toldD (rowTxt ns)) (toldD (rowTxt ns)) (H3 v (rowD ns) r2 o) = some (.bl false) := ne_same e e (by simp [PyData.hasDict, PyData.hasDictAll]) (by
    have a1 : PyData.strOk ("b2345678" : Str) = true := sOk_of _
    have a2 : PyData.strOk ("one" : Str) = true := sOk_of _
    have a3 : PyData.strOk ("likely" : Str) = true := sOk_of _
    have a4 : PyData.strOk (rowTxt ns) = true := txt_ok
    simp [SeqAt.shaped, PyData.canLay0, PyData.canLayAll0, PyData.depth, PyData.depthAll, a1, a2, a3, a4])
  unfold S13
  rw [ifS_f (op2_ok (x := toldD (rowTxt ns)) rfl q n)]
  rfl
theorem right_eq (w : Vat 0 0 [v]) : ∃ h', F__law_right [.obj 0] [v] = some (.ok (.bl true), h') := by
  obtain ⟨ns, ms, v1, e3, sn, sm, w1⟩ := s3 (x := none) (a := some (.obj 1)) (c := some firstD) (d := none) (e := none) (f := none) (g := none) (vat_tail (t' := [lbO 2, sh0, lbO 4, sh0, lbO 6, sh0]) w) (by omega)
  obtain ⟨v2, x9, e9, w2⟩ := s9 (x := some (rowD ns)) (y := none) sn (vat_tail (t' := tl (rowD ns) (rowD ms)) w1) (by omega)
  have two := sn.two
  have six := sn.six
  have e8 := s8 (v := v1) (r2 := rowD ms) two six
  have e10 := s10 (v := v2) (r2 := rowD ms) (x := x9) two six
  have e7 := s7 (v := v1) (r2 := rowD ms) sn.cnt
  refine ⟨v2 :: (tl3 (rowD ns) (rowD ms) ++ (unsV (unO (rowN ns.length)) ++ (ixs ++ [sh4 (rowD ns), sh5 (rowD ns), sh6]))), fn_rt (m := M__law_right) (n := 8) (np := 1) rfl ?_ (d := .bl true) (ρ1 := env (rowD ns) (rowD ms) (some (.int (10 ^ 30))) (some (toldD (rowTxt ns))))⟩
  rw [right_form, show startD 8 [.obj 0] = E0 none none none none none from rfl]
  rw [seq_nx s0, seq_nx s1, seq_nx s2, seq_nx e3, seq_nx s4, seq_nx s5, seq_nx s6, seq_nx e7, seq_nx e8, seq_nx e9, seq_nx e10, show hU v2 (rowD ns) (rowD ms) ns.length = v2 :: (tl (rowD ns) (rowD ms) ++ unsV (unO (rowN ns.length))) from rfl, seq_nx (s11 (o := unO (rowN ns.length))), seq_nx (s12 sn), seq_nx (s13 sn), seq_nx s14]
  exact s15
theorem law_plain : ∀ ns : List Int, ns.length ≤ 63 → (∀ z ∈ ns, PySem.Builtin.Int.intBits z ≤ 1048576) → ∃ h', F_law [.bls (ns.map D.int)] [] = some (.ok (.bl true), h') :=
  law_of fun v w => by
    obtain ⟨h', e⟩ := right_eq w
    exact ⟨h', quiet_of e⟩
end ML
/-! the text W1Walk -/
/-! walks. Printed by gen.py. -/
namespace ML
open PySem PySem.Spec PyProof.Rows L2
section
variable {P : Program} {w : World} {K : PySem.W.Frag} {mg : Str → Option Value} {base : Heap} {T : List (Addr × Str)}
theorem sc_NotRow___init__ : FnScope ["self", "given"] ["self", "given"] (defScope (clsS 7 0)) := ⟨rfl, rfl, rfl, by decide +kernel, rfl, by decide +kernel, by decide +kernel⟩
theorem xok_NotRow (Y : Txt K mg) {X : Cx} (eK : X.K = K) (eM : X.mg = mg) (hr : Room 2 X.A) : XOk T X "NotRow" "given" := by
  subst eK eM
  exact xok_of (params := defArgs (clsS 7 0)) (g := "given") Y.g_NotRow PySem.F.excBase_ValueError PySem.F.store_ValueError Y.xk_NotRow Y.f_NotRow___init__.choose_spec sc_NotRow___init__ (fun _ _ _ _ _ _ us hl => match us, hl with | [_, _], _ => rfl) hr
theorem sc_Broken___init__ : FnScope ["self", "index"] ["self", "index"] (defScope (clsS 14 0)) := ⟨rfl, rfl, rfl, by decide +kernel, rfl, by decide +kernel, by decide +kernel⟩
theorem xok_Broken (Y : Txt K mg) {X : Cx} (eK : X.K = K) (eM : X.mg = mg) (hr : Room 2 X.A) : XOk T X "Broken" "index" := by
  subst eK eM
  exact xok_of (params := defArgs (clsS 14 0)) (g := "index") Y.g_Broken PySem.F.excBase_ArithmeticError PySem.F.store_ArithmeticError Y.xk_Broken Y.f_Broken___init__.choose_spec sc_Broken___init__ (fun _ _ _ _ _ _ us hl => match us, hl with | [_, _], _ => rfl) hr
theorem sc_UnknownName___init__ : FnScope ["self", "given"] ["self", "given"] (defScope (clsS 10 0)) := ⟨rfl, rfl, rfl, by decide +kernel, rfl, by decide +kernel, by decide +kernel⟩
theorem xok_UnknownName (Y : Txt K mg) {X : Cx} (eK : X.K = K) (eM : X.mg = mg) (hr : Room 2 X.A) : XOk T X "UnknownName" "given" := by
  subst eK eM
  exact xok_of (params := defArgs (clsS 10 0)) (g := "given") Y.g_UnknownName PySem.F.excBase_LookupError PySem.F.store_LookupError Y.xk_UnknownName Y.f_UnknownName___init__.choose_spec sc_UnknownName___init__ (fun _ _ _ _ _ _ us hl => match us, hl with | [_, _], _ => rfl) hr
theorem sc_InUse___init__ : FnScope ["self", "index"] ["self", "index"] (defScope (clsS 11 0)) := ⟨rfl, rfl, rfl, by decide +kernel, rfl, by decide +kernel, by decide +kernel⟩
theorem xok_InUse (Y : Txt K mg) {X : Cx} (eK : X.K = K) (eM : X.mg = mg) (hr : Room 2 X.A) : XOk T X "InUse" "index" := by
  subst eK eM
  exact xok_of (params := defArgs (clsS 11 0)) (g := "index") Y.g_InUse PySem.F.excBase_LookupError PySem.F.store_LookupError Y.xk_InUse Y.f_InUse___init__.choose_spec sc_InUse___init__ (fun _ _ _ _ _ _ us hl => match us, hl with | [_, _], _ => rfl) hr
theorem sc_InvalidWish___init__ : FnScope ["self", "given"] ["self", "given"] (defScope (clsS 6 0)) := ⟨rfl, rfl, rfl, by decide +kernel, rfl, by decide +kernel, by decide +kernel⟩
theorem xok_InvalidWish (Y : Txt K mg) {X : Cx} (eK : X.K = K) (eM : X.mg = mg) (hr : Room 2 X.A) : XOk T X "InvalidWish" "given" := by
  subst eK eM
  exact xok_of (params := defArgs (clsS 6 0)) (g := "given") Y.g_InvalidWish PySem.F.excBase_ValueError PySem.F.store_ValueError Y.xk_InvalidWish Y.f_InvalidWish___init__.choose_spec sc_InvalidWish___init__ (fun _ _ _ _ _ _ us hl => match us, hl with | [_, _], _ => rfl) hr
theorem sc_InvalidIndex___init__ : FnScope ["self", "given"] ["self", "given"] (defScope (clsS 5 0)) := ⟨rfl, rfl, rfl, by decide +kernel, rfl, by decide +kernel, by decide +kernel⟩
theorem xok_InvalidIndex (Y : Txt K mg) {X : Cx} (eK : X.K = K) (eM : X.mg = mg) (hr : Room 2 X.A) : XOk T X "InvalidIndex" "given" := by
  subst eK eM
  exact xok_of (params := defArgs (clsS 5 0)) (g := "given") Y.g_InvalidIndex PySem.F.excBase_ValueError PySem.F.store_ValueError Y.xk_InvalidIndex Y.f_InvalidIndex___init__.choose_spec sc_InvalidIndex___init__ (fun _ _ _ _ _ _ us hl => match us, hl with | [_, _], _ => rfl) hr
theorem sc_InvalidName___init__ : FnScope ["self", "given"] ["self", "given"] (defScope (clsS 4 0)) := ⟨rfl, rfl, rfl, by decide +kernel, rfl, by decide +kernel, by decide +kernel⟩
theorem xok_InvalidName (Y : Txt K mg) {X : Cx} (eK : X.K = K) (eM : X.mg = mg) (hr : Room 2 X.A) : XOk T X "InvalidName" "given" := by
  subst eK eM
  exact xok_of (params := defArgs (clsS 4 0)) (g := "given") Y.g_InvalidName PySem.F.excBase_ValueError PySem.F.store_ValueError Y.xk_InvalidName Y.f_InvalidName___init__.choose_spec sc_InvalidName___init__ (fun _ _ _ _ _ _ us hl => match us, hl with | [_, _], _ => rfl) hr
theorem sc_is_integer : FnScope ["value"] ["value"] (defScope (topS 18)) := ⟨rfl, rfl, rfl, by decide +kernel, rfl, by decide +kernel, by decide +kernel⟩
theorem p_is_integer (Y : Txt K mg) : Prm P w ⟨K, mg, T⟩ base 1 (He.fAd K ("is_integer", none)) F_is_integer := by
  obtain ⟨fd, F⟩ := Y.f_is_integer
  refine (prm_def (k := 0) F sc_is_integer (fun _ _ _ _ _ _ us hl => match us, hl with | [_], _ => rfl) fun cdv A outer s H E hr => ?_)
  have tk := takes_def (P := P) (w := w) (c := ⟨K, mg, T⟩) (base := base) (N := ["value"]) (qual := "is_integer") (f := (He.fAd K ("is_integer", none))) (scope := defScope (topS 18)) (cd := cdv) (A := A) (outer := outer) (s := s) (H := H) (E := E)
  have hp := passes_def (P := P) (w := w) (c := ⟨K, mg, T⟩) (base := base) (N := ["value"]) (qual := "is_integer") (f := (He.fAd K ("is_integer", none))) (scope := defScope (topS 18)) (cd := cdv) (A := A) (outer := outer) (s := s) (H := H) (E := E)
  exact (ss_one (s_ret (m_and (o_callB (c_isi Y.ci_ok Y.cs_ok Y.is_ok) rfl Y.n_isinstance (by decide +kernel) (a_cons (v_l 0) (a_cons (m_ty rfl Y.n_int (by decide +kernel)) a_nil))) (m_one (m_not (o_callB (c_isi Y.ci_ok Y.cs_ok Y.is_ok) rfl Y.n_isinstance (by decide +kernel) (a_cons (v_l 0) (a_cons (m_ty rfl Y.n_bool (by decide +kernel)) a_nil))))))))
theorem sc_is_count : FnScope ["value"] ["value"] (defScope (topS 19)) := ⟨rfl, rfl, rfl, by decide +kernel, rfl, by decide +kernel, by decide +kernel⟩
theorem p_is_count (Y : Txt K mg) : Prm P w ⟨K, mg, T⟩ base 2 (He.fAd K ("is_count", none)) F_is_count := by
  obtain ⟨fd, F⟩ := Y.f_is_count
  refine (prm_def (k := 1) F sc_is_count (fun _ _ _ _ _ _ us hl => match us, hl with | [_], _ => rfl) fun cdv A outer s H E hr => ?_)
  have tk := takes_def (P := P) (w := w) (c := ⟨K, mg, T⟩) (base := base) (N := ["value"]) (qual := "is_count") (f := (He.fAd K ("is_count", none))) (scope := defScope (topS 19)) (cd := cdv) (A := A) (outer := outer) (s := s) (H := H) (E := E)
  have hp := passes_def (P := P) (w := w) (c := ⟨K, mg, T⟩) (base := base) (N := ["value"]) (qual := "is_count") (f := (He.fAd K ("is_count", none))) (scope := defScope (topS 19)) (cd := cdv) (A := A) (outer := outer) (s := s) (H := H) (E := E)
  exact (ss_one (s_ret (m_and (m_call (p_is_integer Y) (hr.mono (by decide)) tk rfl Y.g_is_integer Y.k_is_integer (a_cons (v_l 0) a_nil)) (m_one (o_cmp o_ge (v_l 0) (m_int) rfl)))))
theorem sc_is_name : FnScope ["value", "sign"] ["value"] (defScope (topS 20)) := ⟨rfl, rfl, rfl, by decide +kernel, rfl, by decide +kernel, by decide +kernel⟩
theorem p_is_name (Y : Txt K mg) : Prm P w ⟨K, mg, T⟩ base 1 (He.fAd K ("is_name", none)) F_is_name := by
  obtain ⟨fd, F⟩ := Y.f_is_name
  refine (prm_def (k := 0) F sc_is_name (fun _ _ _ _ _ _ us hl => match us, hl with | [_], _ => rfl) fun cdv A outer s H E hr => ?_)
  have tk := takes_def (P := P) (w := w) (c := ⟨K, mg, T⟩) (base := base) (N := ["value", "sign"]) (qual := "is_name") (f := (He.fAd K ("is_name", none))) (scope := defScope (topS 20)) (cd := cdv) (A := A) (outer := outer) (s := s) (H := H) (E := E)
  have hp := passes_def (P := P) (w := w) (c := ⟨K, mg, T⟩) (base := base) (N := ["value", "sign"]) (qual := "is_name") (f := (He.fAd K ("is_name", none))) (scope := defScope (topS 20)) (cd := cdv) (A := A) (outer := outer) (s := s) (H := H) (E := E)
  exact (ss_cons (s_if (PW.pt (t_or (t_not (t_val (o_callB (c_isi Y.ci_ok Y.cs_ok Y.is_ok) rfl Y.n_isinstance (by decide +kernel) (a_cons (v_l 0) (a_cons (m_ty rfl Y.n_str (by decide +kernel)) a_nil))))) (t_or (t_not (ot_chain o_le o_le (m_int) (o_callB c_len rfl Y.n_len (by decide +kernel) (a_cons (v_l 0) a_nil)) (m_int))) (t_or1 (ot_cmp o_nosign (o_ix o_idx (v_l 0) (m_int) (fun _ _ => rfl)) (m_gstr rfl Y.s_LETTERS) rfl)))))
      (ss_one (s_ret (m_bl)))
      ss_nil)
    (ss_one (s_ret (o_callB (c_all rfl) rfl Y.n_all (by decide +kernel) (a_cons (m_lc rfl sc_is_name.nd (i_str (v_l 0)) (own := [("sign", 1)]) (blk_by (N := ["value", "sign"]) (sc := defScope (topS 20)) (by decide +kernel)) (by decide) (fun s H C cl fp => (q_nm (i := 1) sc_is_name.nd rfl (.inl rfl))) (fun s H C cl fp => pts_no) (fun s H C cl fp => (m_or (o_cmp o_sign (v_l 1) (m_gstr rfl Y.s_LETTERS) rfl) (m_one (o_cmp o_sign (v_l 1) (m_gstr rfl Y.s_DIGITS) rfl))))) a_nil)))))
theorem sc_shared : FnScope ["one", "other"] ["one", "other"] (defScope (topS 23)) := ⟨rfl, rfl, rfl, by decide +kernel, rfl, by decide +kernel, by decide +kernel⟩
theorem p_shared (Y : Txt K mg) : Prm P w ⟨K, mg, T⟩ base 1 (He.fAd K ("shared", none)) F_shared := by
  obtain ⟨fd, F⟩ := Y.f_shared
  refine (prm_def (k := 0) F sc_shared (fun _ _ _ _ _ _ us hl => match us, hl with | [_, _], _ => rfl) fun cdv A outer s H E hr => ?_)
  have tk := takes_def (P := P) (w := w) (c := ⟨K, mg, T⟩) (base := base) (N := ["one", "other"]) (qual := "shared") (f := (He.fAd K ("shared", none))) (scope := defScope (topS 23)) (cd := cdv) (A := A) (outer := outer) (s := s) (H := H) (E := E)
  have hp := passes_def (P := P) (w := w) (c := ⟨K, mg, T⟩) (base := base) (N := ["one", "other"]) (qual := "shared") (f := (He.fAd K ("shared", none))) (scope := defScope (topS 23)) (cd := cdv) (A := A) (outer := outer) (s := s) (H := H) (E := E)
  exact (ss_cons (s_par (i := 0) (j := 1) rfl sc_shared.nd rfl rfl (by decide) rfl rfl (a_cons (o_callB c_abs rfl Y.n_abs (by decide +kernel) (a_cons (v_l 0) a_nil)) (a_cons (o_callB c_abs rfl Y.n_abs (by decide +kernel) (a_cons (v_l 1) a_nil)) a_nil)) (by rfl))
    (ss_cons (s_while hp (ot_cmp o_gt (v_l 1) (m_int) rfl) (ss_one (s_par (i := 0) (j := 1) rfl sc_shared.nd rfl rfl (by decide) rfl rfl (a_cons (v_l 1) (a_cons (o_op o_mod (v_l 0) (v_l 1)) a_nil)) (by rfl))))
    (ss_one (s_ret (v_l 0)))))
theorem sc_is_fraction : FnScope ["value"] ["value"] (defScope (topS 22)) := ⟨rfl, rfl, rfl, by decide +kernel, rfl, by decide +kernel, by decide +kernel⟩
theorem p_is_fraction (Y : Txt K mg) : Prm P w ⟨K, mg, T⟩ base 2 (He.fAd K ("is_fraction", none)) F_is_fraction := by
  obtain ⟨fd, F⟩ := Y.f_is_fraction
  refine (prm_def (k := 1) F sc_is_fraction (fun _ _ _ _ _ _ us hl => match us, hl with | [_], _ => rfl) fun cdv A outer s H E hr => ?_)
  have tk := takes_def (P := P) (w := w) (c := ⟨K, mg, T⟩) (base := base) (N := ["value"]) (qual := "is_fraction") (f := (He.fAd K ("is_fraction", none))) (scope := defScope (topS 22)) (cd := cdv) (A := A) (outer := outer) (s := s) (H := H) (E := E)
  have hp := passes_def (P := P) (w := w) (c := ⟨K, mg, T⟩) (base := base) (N := ["value"]) (qual := "is_fraction") (f := (He.fAd K ("is_fraction", none))) (scope := defScope (topS 22)) (cd := cdv) (A := A) (outer := outer) (s := s) (H := H) (E := E)
  exact (ss_cons (s_if (PW.pt (t_or (t_not (t_val (o_callB (c_isi Y.ci_ok Y.cs_ok Y.is_ok) rfl Y.n_isinstance (by decide +kernel) (a_cons (v_l 0) (a_cons (m_ty rfl Y.n_tuple (by decide +kernel)) a_nil))))) (t_or (ot_cmp (o_ne (hu64 hr)) (o_callB c_len rfl Y.n_len (by decide +kernel) (a_cons (v_l 0) a_nil)) (m_int) rfl) (t_or (t_not (t_val (m_call (p_is_integer Y) (hr.mono (by decide)) tk rfl Y.g_is_integer Y.k_is_integer (a_cons (o_ix o_idx (v_l 0) (m_int) (fun _ _ => rfl)) a_nil)))) (t_or1 (t_not (t_val (m_call (p_is_integer Y) (hr.mono (by decide)) tk rfl Y.g_is_integer Y.k_is_integer (a_cons (o_ix o_idx (v_l 0) (m_int) (fun _ _ => rfl)) a_nil)))))))))
      (ss_one (s_ret (m_bl)))
      ss_nil)
    (ss_one (s_ret (m_and (o_cmp o_gt (o_ix o_idx (v_l 0) (m_int) (fun _ _ => rfl)) (m_int) rfl) (m_one (o_cmp (o_eq (hu64 hr)) (m_call (p_shared Y) (hr.mono (by decide)) tk rfl Y.g_shared Y.k_shared (a_cons (o_ix o_idx (v_l 0) (m_int) (fun _ _ => rfl)) (a_cons (o_ix o_idx (v_l 0) (m_int) (fun _ _ => rfl)) a_nil))) (m_int) rfl))))))
theorem sc_is_counts : FnScope ["value", "count"] ["value"] (defScope (topS 24)) := ⟨rfl, rfl, rfl, by decide +kernel, rfl, by decide +kernel, by decide +kernel⟩
theorem p_is_counts (Y : Txt K mg) : Prm P w ⟨K, mg, T⟩ base 3 (He.fAd K ("is_counts", none)) F_is_counts := by
  obtain ⟨fd, F⟩ := Y.f_is_counts
  refine (prm_def (k := 2) F sc_is_counts (fun _ _ _ _ _ _ us hl => match us, hl with | [_], _ => rfl) fun cdv A outer s H E hr => ?_)
  have tk := takes_def (P := P) (w := w) (c := ⟨K, mg, T⟩) (base := base) (N := ["value", "count"]) (qual := "is_counts") (f := (He.fAd K ("is_counts", none))) (scope := defScope (topS 24)) (cd := cdv) (A := A) (outer := outer) (s := s) (H := H) (E := E)
  have hp := passes_def (P := P) (w := w) (c := ⟨K, mg, T⟩) (base := base) (N := ["value", "count"]) (qual := "is_counts") (f := (He.fAd K ("is_counts", none))) (scope := defScope (topS 24)) (cd := cdv) (A := A) (outer := outer) (s := s) (H := H) (E := E)
  exact (ss_cons (s_if (PW.pt (t_or (t_not (t_val (o_callB (c_isi Y.ci_ok Y.cs_ok Y.is_ok) rfl Y.n_isinstance (by decide +kernel) (a_cons (v_l 0) (a_cons (m_ty rfl Y.n_tuple (by decide +kernel)) a_nil))))) (t_or (t_not (ot_chain o_le o_le (m_int) (o_callB c_len rfl Y.n_len (by decide +kernel) (a_cons (v_l 0) a_nil)) (m_int))) (t_or1 (t_not (t_val (o_callB (c_all rfl) rfl Y.n_all (by decide +kernel) (a_cons (m_lc rfl sc_is_counts.nd (i_seq (v_l 0)) (own := [("count", 1)]) (blk_by (N := ["value", "count"]) (sc := defScope (topS 24)) (by decide +kernel)) (by decide) (fun s H C cl fp => (q_nm (i := 1) sc_is_counts.nd rfl (.inl rfl))) (fun s H C cl fp => pts_no) (fun s H C cl fp => (m_call (p_is_count Y) (hr.mono (by decide)) takes0 rfl Y.g_is_count Y.k_is_count (a_cons (v_l 1) a_nil)))) a_nil))))))))
      (ss_one (s_ret (m_bl)))
      ss_nil)
    (ss_one (s_ret (o_cmp o_gt (o_callB (c_sum rfl) rfl Y.n_sum (by decide +kernel) (a_cons (v_l 0) a_nil)) (m_int) rfl))))
theorem sc_lowest : FnScope ["top", "bottom", "by"] ["top", "bottom"] (defScope (topS 27)) := ⟨rfl, rfl, rfl, by decide +kernel, rfl, by decide +kernel, by decide +kernel⟩
theorem p_lowest (Y : Txt K mg) : Prm P w ⟨K, mg, T⟩ base 2 (He.fAd K ("lowest", none)) F_lowest := by
  obtain ⟨fd, F⟩ := Y.f_lowest
  refine (prm_def (k := 1) F sc_lowest (fun _ _ _ _ _ _ us hl => match us, hl with | [_, _], _ => rfl) fun cdv A outer s H E hr => ?_)
  have tk := takes_def (P := P) (w := w) (c := ⟨K, mg, T⟩) (base := base) (N := ["top", "bottom", "by"]) (qual := "lowest") (f := (He.fAd K ("lowest", none))) (scope := defScope (topS 27)) (cd := cdv) (A := A) (outer := outer) (s := s) (H := H) (E := E)
  have hp := passes_def (P := P) (w := w) (c := ⟨K, mg, T⟩) (base := base) (N := ["top", "bottom", "by"]) (qual := "lowest") (f := (He.fAd K ("lowest", none))) (scope := defScope (topS 27)) (cd := cdv) (A := A) (outer := outer) (s := s) (H := H) (E := E)
  exact (ss_cons (s_set (i := 2) sc_lowest.nd rfl (.inl rfl) (m_call (p_shared Y) (hr.mono (by decide)) tk rfl Y.g_shared Y.k_shared (a_cons (v_l 0) (a_cons (v_l 1) a_nil))))
    (ss_cons (s_set (i := 2) sc_lowest.nd rfl (.inl rfl) (m_if (ot_cmp o_gt (v_l 1) (m_int) rfl) (v_l 2) (o_un o_neg (v_l 2))))
    (ss_one (s_ret (m_tup (a_cons (o_op o_div (v_l 0) (v_l 2)) (a_cons (o_op o_div (v_l 1) (v_l 2)) a_nil)))))))
theorem sc_is_below : FnScope ["one", "other"] ["one", "other"] (defScope (topS 28)) := ⟨rfl, rfl, rfl, by decide +kernel, rfl, by decide +kernel, by decide +kernel⟩
theorem p_is_below (Y : Txt K mg) : Prm P w ⟨K, mg, T⟩ base 1 (He.fAd K ("is_below", none)) F_is_below := by
  obtain ⟨fd, F⟩ := Y.f_is_below
  refine (prm_def (k := 0) F sc_is_below (fun _ _ _ _ _ _ us hl => match us, hl with | [_, _], _ => rfl) fun cdv A outer s H E hr => ?_)
  have tk := takes_def (P := P) (w := w) (c := ⟨K, mg, T⟩) (base := base) (N := ["one", "other"]) (qual := "is_below") (f := (He.fAd K ("is_below", none))) (scope := defScope (topS 28)) (cd := cdv) (A := A) (outer := outer) (s := s) (H := H) (E := E)
  have hp := passes_def (P := P) (w := w) (c := ⟨K, mg, T⟩) (base := base) (N := ["one", "other"]) (qual := "is_below") (f := (He.fAd K ("is_below", none))) (scope := defScope (topS 28)) (cd := cdv) (A := A) (outer := outer) (s := s) (H := H) (E := E)
  exact (ss_one (s_ret (o_cmp o_lt (o_op o_mul (o_ix o_idx (v_l 0) (m_int) (fun _ _ => rfl)) (o_ix o_idx (v_l 1) (m_int) (fun _ _ => rfl))) (o_op o_mul (o_ix o_idx (v_l 1) (m_int) (fun _ _ => rfl)) (o_ix o_idx (v_l 0) (m_int) (fun _ _ => rfl))) rfl)))
theorem sc_plain : FnScope ["counts", "by", "count"] ["counts"] (defScope (topS 29)) := ⟨rfl, rfl, rfl, by decide +kernel, rfl, by decide +kernel, by decide +kernel⟩
theorem p_plain (Y : Txt K mg) : Prm P w ⟨K, mg, T⟩ base 2 (He.fAd K ("plain", none)) F_plain := by
  obtain ⟨fd, F⟩ := Y.f_plain
  refine (prm_def (k := 1) F sc_plain (fun _ _ _ _ _ _ us hl => match us, hl with | [_], _ => rfl) fun cdv A outer s H E hr => ?_)
  have tk := takes_def (P := P) (w := w) (c := ⟨K, mg, T⟩) (base := base) (N := ["counts", "by", "count"]) (qual := "plain") (f := (He.fAd K ("plain", none))) (scope := defScope (topS 29)) (cd := cdv) (A := A) (outer := outer) (s := s) (H := H) (E := E)
  have hp := passes_def (P := P) (w := w) (c := ⟨K, mg, T⟩) (base := base) (N := ["counts", "by", "count"]) (qual := "plain") (f := (He.fAd K ("plain", none))) (scope := defScope (topS 29)) (cd := cdv) (A := A) (outer := outer) (s := s) (H := H) (E := E)
  exact (ss_cons (s_set (i := 1) sc_plain.nd rfl (.inr rfl) (m_int))
    (ss_cons (s_for hp rfl (i_seq (v_l 0)) (g_t (q_nm (i := 2) sc_plain.nd rfl (.inl rfl)))
      (ss_one (s_set (i := 1) sc_plain.nd rfl (.inr rfl) (m_call (p_shared Y) (hr.mono (by decide)) tk rfl Y.g_shared Y.k_shared (a_cons (v_c 1) (a_cons (v_l 2) a_nil))))))
    (ss_one (s_ret (o_callTy c_tuple rfl Y.n_tuple (by decide +kernel) (a_cons (m_lc rfl sc_plain.nd (i_seq (v_l 0)) (own := [("count", 2)]) (blk_by (N := ["counts", "by", "count"]) (sc := defScope (topS 29)) (by decide +kernel)) (by decide) (fun s H C cl fp => (q_nm (i := 2) sc_plain.nd rfl (.inl rfl))) (fun s H C cl fp => pts_no) (fun s H C cl fp => (o_op o_div (v_l 2) (v_c 1)))) a_nil))))))
theorem sc_wrong_count : FnScope ["value", "at", "count"] ["value"] (defScope (topS 32)) := ⟨rfl, rfl, rfl, by decide +kernel, rfl, by decide +kernel, by decide +kernel⟩
theorem p_wrong_count (Y : Txt K mg) : Prm P w ⟨K, mg, T⟩ base 4 (He.fAd K ("wrong_count", none)) F_wrong_count := by
  obtain ⟨fd, F⟩ := Y.f_wrong_count
  refine (prm_def (k := 3) F sc_wrong_count (fun _ _ _ _ _ _ us hl => match us, hl with | [_], _ => rfl) fun cdv A outer s H E hr => ?_)
  have tk := takes_def (P := P) (w := w) (c := ⟨K, mg, T⟩) (base := base) (N := ["value", "at", "count"]) (qual := "wrong_count") (f := (He.fAd K ("wrong_count", none))) (scope := defScope (topS 32)) (cd := cdv) (A := A) (outer := outer) (s := s) (H := H) (E := E)
  have hp := passes_def (P := P) (w := w) (c := ⟨K, mg, T⟩) (base := base) (N := ["value", "at", "count"]) (qual := "wrong_count") (f := (He.fAd K ("wrong_count", none))) (scope := defScope (topS 32)) (cd := cdv) (A := A) (outer := outer) (s := s) (H := H) (E := E)
  exact (ss_cons (s_if (PW.pt (t_or (t_not (t_val (o_callB (c_isi Y.ci_ok Y.cs_ok Y.is_ok) rfl Y.n_isinstance (by decide +kernel) (a_cons (v_l 0) (a_cons (m_ty rfl Y.n_tuple (by decide +kernel)) a_nil))))) (t_or1 (ot_cmp o_lt (o_callB c_len rfl Y.n_len (by decide +kernel) (a_cons (v_l 0) a_nil)) (m_int) rfl))))
      (ss_one (s_ret (o_un o_neg (m_int))))
      ss_nil)
    (ss_cons (s_for hp rfl (i_enum rfl Y.n_enumerate (a_cons (v_l 0) a_nil)) (g_t (q_tup rfl (q_cons (q_nm (i := 1) sc_wrong_count.nd rfl (.inl rfl)) (q_cons (q_nm (i := 2) sc_wrong_count.nd rfl (.inl rfl)) q_nil))))
      (ss_one (s_if (PW.pt (t_or (ot_cmp o_gt (v_l 1) (m_gint rfl Y.i_MOST_DRAWS) rfl) (t_or1 (t_not (t_val (m_call (p_is_count Y) (hr.mono (by decide)) tk rfl Y.g_is_count Y.k_is_count (a_cons (v_l 2) a_nil)))))))
      (ss_one (s_ret (v_l 1)))
      ss_nil)))
    (ss_one (s_ret (m_if (t_val (m_call (p_is_counts Y) (hr.mono (by decide)) tk rfl Y.g_is_counts Y.k_is_counts (a_cons (v_l 0) a_nil))) (m_non) (o_un o_neg (m_int)))))))
theorem sc_Row___init__ : FnScope ["self", "counts", "at"] ["self", "counts"] (defScope (clsS 33 1)) := ⟨rfl, rfl, rfl, by decide +kernel, rfl, by decide +kernel, by decide +kernel⟩
theorem p_Row___init__ (Y : Txt K mg) : Prm P w ⟨K, mg, T⟩ base 5 (He.fAd K ("Row", some "__init__")) F_Row___init__ := by
  obtain ⟨fd, F⟩ := Y.f_Row___init__
  refine (prm_def (k := 4) F sc_Row___init__ (fun _ _ _ _ _ _ us hl => match us, hl with | [_, _], _ => rfl) fun cdv A outer s H E hr => ?_)
  have tk := takes_def (P := P) (w := w) (c := ⟨K, mg, T⟩) (base := base) (N := ["self", "counts", "at"]) (qual := "Row.__init__") (f := (He.fAd K ("Row", some "__init__"))) (scope := defScope (clsS 33 1)) (cd := cdv) (A := A) (outer := outer) (s := s) (H := H) (E := E)
  have hp := passes_def (P := P) (w := w) (c := ⟨K, mg, T⟩) (base := base) (N := ["self", "counts", "at"]) (qual := "Row.__init__") (f := (He.fAd K ("Row", some "__init__"))) (scope := defScope (clsS 33 1)) (cd := cdv) (A := A) (outer := outer) (s := s) (H := H) (E := E)
  exact (ss_cons (s_set (i := 2) sc_Row___init__.nd rfl (.inl rfl) (m_call (p_wrong_count Y) (hr.mono (by decide)) tk rfl Y.g_wrong_count Y.k_wrong_count (a_cons (v_l 1) a_nil)))
    (ss_cons (s_if (ot_cmp o_notN (v_l 2) (m_non) rfl)
      (ss_one (s_stuck))
      ss_nil)
    (ss_one (s_seta (set_slot ⟨_, _, Y.g_Row, Y.c_Row, Y.sl_Row_own_counts.choose_spec⟩) (v_l 0) (m_call (p_plain Y) (hr.mono (by decide)) tk rfl Y.g_plain Y.k_plain (a_cons (v_l 1) a_nil))))))
theorem sc_Row_counts : FnScope ["self"] ["self"] (defScope (clsS 33 3)) := ⟨rfl, rfl, rfl, by decide +kernel, rfl, by decide +kernel, by decide +kernel⟩
theorem p_Row_counts (Y : Txt K mg) : Prm P w ⟨K, mg, T⟩ base 1 (prA K "Row" "counts") F_Row_counts := by
  obtain ⟨fd, F⟩ := Y.f_Row_counts
  refine (prm_def (k := 0) F sc_Row_counts (fun _ _ _ _ _ _ us hl => match us, hl with | [_], _ => rfl) fun cdv A outer s H E hr => ?_)
  have tk := takes_def (P := P) (w := w) (c := ⟨K, mg, T⟩) (base := base) (N := ["self"]) (qual := "Row.counts") (f := (prA K "Row" "counts")) (scope := defScope (clsS 33 3)) (cd := cdv) (A := A) (outer := outer) (s := s) (H := H) (E := E)
  have hp := passes_def (P := P) (w := w) (c := ⟨K, mg, T⟩) (base := base) (N := ["self"]) (qual := "Row.counts") (f := (prA K "Row" "counts")) (scope := defScope (clsS 33 3)) (cd := cdv) (A := A) (outer := outer) (s := s) (H := H) (E := E)
  exact (ss_one (s_ret (m_attr (at_slot ⟨_, _, Y.g_Row, Y.c_Row, Y.sl_Row_own_counts.choose_spec⟩) (v_l 0))))
theorem sc_Row_rates : FnScope ["self", "whole", "count"] ["self"] (defScope (clsS 33 4)) := ⟨rfl, rfl, rfl, by decide +kernel, rfl, by decide +kernel, by decide +kernel⟩
theorem p_Row_rates (Y : Txt K mg) : Prm P w ⟨K, mg, T⟩ base 3 (prA K "Row" "rates") F_Row_rates := by
  obtain ⟨fd, F⟩ := Y.f_Row_rates
  refine (prm_def (k := 2) F sc_Row_rates (fun _ _ _ _ _ _ us hl => match us, hl with | [_], _ => rfl) fun cdv A outer s H E hr => ?_)
  have tk := takes_def (P := P) (w := w) (c := ⟨K, mg, T⟩) (base := base) (N := ["self", "whole", "count"]) (qual := "Row.rates") (f := (prA K "Row" "rates")) (scope := defScope (clsS 33 4)) (cd := cdv) (A := A) (outer := outer) (s := s) (H := H) (E := E)
  have hp := passes_def (P := P) (w := w) (c := ⟨K, mg, T⟩) (base := base) (N := ["self", "whole", "count"]) (qual := "Row.rates") (f := (prA K "Row" "rates")) (scope := defScope (clsS 33 4)) (cd := cdv) (A := A) (outer := outer) (s := s) (H := H) (E := E)
  exact (ss_cons (s_set (i := 1) sc_Row_rates.nd rfl (.inr rfl) (o_callB (c_sum rfl) rfl Y.n_sum (by decide +kernel) (a_cons (m_attr (at_slot ⟨_, _, Y.g_Row, Y.c_Row, Y.sl_Row_own_counts.choose_spec⟩) (v_l 0)) a_nil)))
    (ss_one (s_ret (o_callTy c_tuple rfl Y.n_tuple (by decide +kernel) (a_cons (m_lc rfl sc_Row_rates.nd (i_seq (m_attr (at_slot ⟨_, _, Y.g_Row, Y.c_Row, Y.sl_Row_own_counts.choose_spec⟩) (v_l 0))) (own := [("count", 2)]) (blk_by (N := ["self", "whole", "count"]) (sc := defScope (clsS 33 4)) (by decide +kernel)) (by decide) (fun s H C cl fp => (q_nm (i := 2) sc_Row_rates.nd rfl (.inl rfl))) (fun s H C cl fp => pts_no) (fun s H C cl fp => (m_call (p_lowest Y) (hr.mono (by decide)) takes0 rfl Y.g_lowest Y.k_lowest (a_cons (v_l 2) (a_cons (v_c 1) a_nil))))) a_nil)))))
theorem sc_row_lines : FnScope ["row", "lines", "at", "count"] ["row"] (defScope (topS 34)) := ⟨rfl, rfl, rfl, by decide +kernel, rfl, by decide +kernel, by decide +kernel⟩
theorem p_row_lines (Y : Txt K mg) : Prm P w ⟨K, mg, T⟩ base 1 (He.fAd K ("row_lines", none)) F_row_lines := by
  obtain ⟨fd, F⟩ := Y.f_row_lines
  refine Prm.frz (prm_def (k := 0) F sc_row_lines (fun _ _ _ _ _ _ us hl => match us, hl with | [_], _ => rfl) fun cdv A outer s H E hr => ?_)
  have tk := takes_def (P := P) (w := w) (c := ⟨K, mg, T⟩) (base := base) (N := ["row", "lines", "at", "count"]) (qual := "row_lines") (f := (He.fAd K ("row_lines", none))) (scope := defScope (topS 34)) (cd := cdv) (A := A) (outer := outer) (s := s) (H := H) (E := E)
  have hp := passes_def (P := P) (w := w) (c := ⟨K, mg, T⟩) (base := base) (N := ["row", "lines", "at", "count"]) (qual := "row_lines") (f := (He.fAd K ("row_lines", none))) (scope := defScope (topS 34)) (cd := cdv) (A := A) (outer := outer) (s := s) (H := H) (E := E)
  exact (ss_cons (s_set (i := 1) sc_row_lines.nd rfl (.inl rfl) (m_new (a_cons (m_js (.cons m_str (.cons (m_fmt (o_op o_sub (o_callB c_len rfl Y.n_len (by decide +kernel) (a_cons (m_attr (at_slot ⟨_, _, Y.g_Row, Y.c_Row, Y.sl_Row_own_counts.choose_spec⟩) (v_l 0)) a_nil)) (m_int))) .nil))) a_nil)))
    (ss_cons (s_expr (m_ext (v_l 1) (m_lc rfl sc_row_lines.nd (i_enum rfl Y.n_enumerate (a_cons (m_attr (at_slot ⟨_, _, Y.g_Row, Y.c_Row, Y.sl_Row_own_counts.choose_spec⟩) (v_l 0)) a_nil)) (own := [("at", 2), ("count", 3)]) (blk_by (N := ["row", "lines", "at", "count"]) (sc := defScope (topS 34)) (by decide +kernel)) (by decide) (fun s H C cl fp => (q_tup rfl (q_cons (q_nm (i := 2) sc_row_lines.nd rfl (.inl rfl)) (q_cons (q_nm (i := 3) sc_row_lines.nd rfl (.inl rfl)) q_nil)))) (fun s H C cl fp => pts_no) (fun s H C cl fp => (m_js (.cons m_str (.cons (m_fmt (v_l 2)) (.cons m_str (.cons (m_fmt (v_l 3)) .nil)))))))))
    (ss_one (s_ret (v_l 1)))))
theorem sc_Row___str__ : FnScope ["self"] ["self"] (defScope (clsS 33 10)) := ⟨rfl, rfl, rfl, by decide +kernel, rfl, by decide +kernel, by decide +kernel⟩
theorem p_Row___str__ (Y : Txt K mg) : Prm P w ⟨K, mg, T⟩ base 2 (He.fAd K ("Row", some "__str__")) F_Row___str__ := by
  obtain ⟨fd, F⟩ := Y.f_Row___str__
  refine (prm_def (k := 1) F sc_Row___str__ (fun _ _ _ _ _ _ us hl => match us, hl with | [_], _ => rfl) fun cdv A outer s H E hr => ?_)
  have tk := takes_def (P := P) (w := w) (c := ⟨K, mg, T⟩) (base := base) (N := ["self"]) (qual := "Row.__str__") (f := (He.fAd K ("Row", some "__str__"))) (scope := defScope (clsS 33 10)) (cd := cdv) (A := A) (outer := outer) (s := s) (H := H) (E := E)
  have hp := passes_def (P := P) (w := w) (c := ⟨K, mg, T⟩) (base := base) (N := ["self"]) (qual := "Row.__str__") (f := (He.fAd K ("Row", some "__str__"))) (scope := defScope (clsS 33 10)) (cd := cdv) (A := A) (outer := outer) (s := s) (H := H) (E := E)
  exact (ss_one (s_ret (m_join (m_str) (m_call (p_row_lines Y) (hr.mono (by decide)) tk rfl Y.g_row_lines Y.k_row_lines (a_cons (v_l 0) a_nil)))))
theorem sc_Row_text : FnScope ["self"] ["self"] (defScope (clsS 33 6)) := ⟨rfl, rfl, rfl, by decide +kernel, rfl, by decide +kernel, by decide +kernel⟩
theorem p_Row_text (Y : Txt K mg) : Prm P w ⟨K, mg, T⟩ base 5 (prA K "Row" "text") F_Row_text := by
  obtain ⟨fd, F⟩ := Y.f_Row_text
  refine (prm_def (k := 4) F sc_Row_text (fun _ _ _ _ _ _ us hl => match us, hl with | [_], _ => rfl) fun cdv A outer s H E hr => ?_)
  have tk := takes_def (P := P) (w := w) (c := ⟨K, mg, T⟩) (base := base) (N := ["self"]) (qual := "Row.text") (f := (prA K "Row" "text")) (scope := defScope (clsS 33 6)) (cd := cdv) (A := A) (outer := outer) (s := s) (H := H) (E := E)
  have hp := passes_def (P := P) (w := w) (c := ⟨K, mg, T⟩) (base := base) (N := ["self"]) (qual := "Row.text") (f := (prA K "Row" "text")) (scope := defScope (clsS 33 6)) (cd := cdv) (A := A) (outer := outer) (s := s) (H := H) (E := E)
  exact (ss_one (s_ret (h_callTy (h_str (.cons ⟨⟨_, _, _, Y.g_Row, Y.d_Row___str__.1, Y.d_Row___str__.2.1, Y.d_Row___str__.2.2.1, Y.d_Row___str__.2.2.2, p_Row___str__ Y, (hr.mono (by decide))⟩⟩ .nil)) rfl Y.n_str (by decide +kernel) (a_cons (v_l 0) a_nil))))
theorem sc_Row___len__ : FnScope ["self"] ["self"] (defScope (clsS 33 8)) := ⟨rfl, rfl, rfl, by decide +kernel, rfl, by decide +kernel, by decide +kernel⟩
theorem p_Row___len__ (Y : Txt K mg) : Prm P w ⟨K, mg, T⟩ base 1 (He.fAd K ("Row", some "__len__")) F_Row___len__ := by
  obtain ⟨fd, F⟩ := Y.f_Row___len__
  refine (prm_def (k := 0) F sc_Row___len__ (fun _ _ _ _ _ _ us hl => match us, hl with | [_], _ => rfl) fun cdv A outer s H E hr => ?_)
  have tk := takes_def (P := P) (w := w) (c := ⟨K, mg, T⟩) (base := base) (N := ["self"]) (qual := "Row.__len__") (f := (He.fAd K ("Row", some "__len__"))) (scope := defScope (clsS 33 8)) (cd := cdv) (A := A) (outer := outer) (s := s) (H := H) (E := E)
  have hp := passes_def (P := P) (w := w) (c := ⟨K, mg, T⟩) (base := base) (N := ["self"]) (qual := "Row.__len__") (f := (He.fAd K ("Row", some "__len__"))) (scope := defScope (clsS 33 8)) (cd := cdv) (A := A) (outer := outer) (s := s) (H := H) (E := E)
  exact (ss_one (s_ret (o_callB c_len rfl Y.n_len (by decide +kernel) (a_cons (m_slice (m_attr (at_slot ⟨_, _, Y.g_Row, Y.c_Row, Y.sl_Row_own_counts.choose_spec⟩) (v_l 0)) (po_ex (m_int)) po_no) a_nil))))
theorem sc_Row___repr__ : FnScope ["self"] ["self"] (defScope (clsS 33 11)) := ⟨rfl, rfl, rfl, by decide +kernel, rfl, by decide +kernel, by decide +kernel⟩
theorem ph_Row___repr__ (Y : Txt K mg) : PrmH P w ⟨K, mg, T⟩ base 1 (He.fAd K ("Row", some "__repr__")) F_Row___repr__ := by
  obtain ⟨fd, F⟩ := Y.f_Row___repr__
  refine (prmh_def (k := 0) F sc_Row___repr__ (fun _ _ _ _ _ _ us hl => match us, hl with | [_], _ => rfl) fun cdv A outer s H E pp hot hr => ?_)
  have tk := takes_hot (P := P) (w := w) (c := ⟨K, mg, T⟩) (base := base) (N := ["self"]) (qual := "Row.__repr__") (f := (He.fAd K ("Row", some "__repr__"))) (scope := defScope (clsS 33 11)) (cd := cdv) (A := A) (outer := outer) (s := s) (H := H) (E := E) (p := pp)
  exact (ss_one (s_ret (m_js (.cons m_str (.cons (m_fmt (o_op o_sub (o_callB c_len rfl Y.n_len (by decide +kernel) (a_cons (m_attr (at_slot ⟨_, _, Y.g_Row, Y.c_Row, Y.sl_Row_own_counts.choose_spec⟩) (v_l 0)) a_nil)) (m_int))) (.cons m_str .nil))))))
theorem p_Row___repr__ (Y : Txt K mg) : Prm P w ⟨K, mg, T⟩ base 1 (He.fAd K ("Row", some "__repr__")) F_Row___repr__ := by
  obtain ⟨fd, F⟩ := Y.f_Row___repr__
  refine (prm_def (k := 0) F sc_Row___repr__ (fun _ _ _ _ _ _ us hl => match us, hl with | [_], _ => rfl) fun cdv A outer s H E hr => ?_)
  have tk := takes_def (P := P) (w := w) (c := ⟨K, mg, T⟩) (base := base) (N := ["self"]) (qual := "Row.__repr__") (f := (He.fAd K ("Row", some "__repr__"))) (scope := defScope (clsS 33 11)) (cd := cdv) (A := A) (outer := outer) (s := s) (H := H) (E := E)
  have hp := passes_def (P := P) (w := w) (c := ⟨K, mg, T⟩) (base := base) (N := ["self"]) (qual := "Row.__repr__") (f := (He.fAd K ("Row", some "__repr__"))) (scope := defScope (clsS 33 11)) (cd := cdv) (A := A) (outer := outer) (s := s) (H := H) (E := E)
  exact (ss_one (s_ret (m_js (.cons m_str (.cons (m_fmt (o_op o_sub (o_callB c_len rfl Y.n_len (by decide +kernel) (a_cons (m_attr (at_slot ⟨_, _, Y.g_Row, Y.c_Row, Y.sl_Row_own_counts.choose_spec⟩) (v_l 0)) a_nil)) (m_int))) (.cons m_str .nil))))))
theorem sc_check_row : FnScope ["value"] ["value"] (defScope (topS 36)) := ⟨rfl, rfl, rfl, by decide +kernel, rfl, by decide +kernel, by decide +kernel⟩
theorem p_check_row (Y : Txt K mg) : Prm P w ⟨K, mg, T⟩ base 3 (He.fAd K ("check_row", none)) F_check_row := by
  obtain ⟨fd, F⟩ := Y.f_check_row
  refine (prm_def (k := 2) F sc_check_row (fun _ _ _ _ _ _ us hl => match us, hl with | [_], _ => rfl) fun cdv A outer s H E hr => ?_)
  have tk := takes_def (P := P) (w := w) (c := ⟨K, mg, T⟩) (base := base) (N := ["value"]) (qual := "check_row") (f := (He.fAd K ("check_row", none))) (scope := defScope (topS 36)) (cd := cdv) (A := A) (outer := outer) (s := s) (H := H) (E := E)
  have hp := passes_def (P := P) (w := w) (c := ⟨K, mg, T⟩) (base := base) (N := ["value"]) (qual := "check_row") (f := (He.fAd K ("check_row", none))) (scope := defScope (topS 36)) (cd := cdv) (A := A) (outer := outer) (s := s) (H := H) (E := E)
  exact (ss_one (s_if (t_not (t_val (o_callB (c_isi Y.ci_ok Y.cs_ok Y.is_ok) rfl Y.n_isinstance (by decide +kernel) (a_cons (v_l 0) (a_cons (m_glo rfl Y.g_Row) a_nil)))))
      (ss_one (s_raise1 (xok_NotRow Y rfl rfl (hr.mono (by decide))) rfl tk rfl (v_l 0)))
      ss_nil))
theorem sc_is_wish : FnScope ["value"] ["value"] (defScope (topS 76)) := ⟨rfl, rfl, rfl, by decide +kernel, rfl, by decide +kernel, by decide +kernel⟩
theorem p_is_wish (Y : Txt K mg) : Prm P w ⟨K, mg, T⟩ base 3 (He.fAd K ("is_wish", none)) F_is_wish := by
  obtain ⟨fd, F⟩ := Y.f_is_wish
  refine (prm_def (k := 2) F sc_is_wish (fun _ _ _ _ _ _ us hl => match us, hl with | [_], _ => rfl) fun cdv A outer s H E hr => ?_)
  have tk := takes_def (P := P) (w := w) (c := ⟨K, mg, T⟩) (base := base) (N := ["value"]) (qual := "is_wish") (f := (He.fAd K ("is_wish", none))) (scope := defScope (topS 76)) (cd := cdv) (A := A) (outer := outer) (s := s) (H := H) (E := E)
  have hp := passes_def (P := P) (w := w) (c := ⟨K, mg, T⟩) (base := base) (N := ["value"]) (qual := "is_wish") (f := (He.fAd K ("is_wish", none))) (scope := defScope (topS 76)) (cd := cdv) (A := A) (outer := outer) (s := s) (H := H) (E := E)
  exact (ss_cons (s_if (PW.pt (t_or (t_not (t_val (o_callB (c_isi Y.ci_ok Y.cs_ok Y.is_ok) rfl Y.n_isinstance (by decide +kernel) (a_cons (v_l 0) (a_cons (m_ty rfl Y.n_tuple (by decide +kernel)) a_nil))))) (t_or (ot_cmp (o_eq (hu64 hr)) (o_callB c_len rfl Y.n_len (by decide +kernel) (a_cons (v_l 0) a_nil)) (m_int) rfl) (t_or1 (t_not (t_val (o_callB (c_isi Y.ci_ok Y.cs_ok Y.is_ok) rfl Y.n_isinstance (by decide +kernel) (a_cons (o_ix o_idx (v_l 0) (m_int) (fun _ _ => rfl)) (a_cons (m_ty rfl Y.n_str (by decide +kernel)) a_nil)))))))))
      (ss_one (s_ret (m_bl)))
      ss_nil)
    (ss_cons (s_if (ot_cmp o_inF (o_ix o_idx (v_l 0) (m_int) (fun _ _ => rfl)) (m_tup (a_cons (m_str) (a_cons (m_str) a_nil))) rfl)
      (ss_one (s_ret (m_and (o_cmp (o_eq (hu64 hr)) (o_callB c_len rfl Y.n_len (by decide +kernel) (a_cons (v_l 0) a_nil)) (m_int) rfl) (m_and (m_call (p_is_count Y) (hr.mono (by decide)) tk rfl Y.g_is_count Y.k_is_count (a_cons (o_ix o_idx (v_l 0) (m_int) (fun _ _ => rfl)) a_nil)) (m_one (o_cmp o_ge (o_ix o_idx (v_l 0) (m_int) (fun _ _ => rfl)) (m_int) rfl))))))
      ss_nil)
    (ss_cons (s_if (ot_cmp (o_eq (hu64 hr)) (o_ix o_idx (v_l 0) (m_int) (fun _ _ => rfl)) (m_str) rfl)
      (ss_one (s_ret (m_and (o_cmp (o_eq (hu64 hr)) (o_callB c_len rfl Y.n_len (by decide +kernel) (a_cons (v_l 0) a_nil)) (m_int) rfl) (m_and (m_call (p_is_count Y) (hr.mono (by decide)) tk rfl Y.g_is_count Y.k_is_count (a_cons (o_ix o_idx (v_l 0) (m_int) (fun _ _ => rfl)) a_nil)) (m_one (m_call (p_is_fraction Y) (hr.mono (by decide)) tk rfl Y.g_is_fraction Y.k_is_fraction (a_cons (o_ix o_idx (v_l 0) (m_int) (fun _ _ => rfl)) a_nil)))))))
      ss_nil)
    (ss_one (s_ret (m_and (o_cmp (o_eq (hu64 hr)) (o_ix o_idx (v_l 0) (m_int) (fun _ _ => rfl)) (m_str) rfl) (m_one (o_cmp (o_eq (hu64 hr)) (o_callB c_len rfl Y.n_len (by decide +kernel) (a_cons (v_l 0) a_nil)) (m_int) rfl))))))))
theorem sc_keeps : FnScope ["row", "wish", "rate"] ["row", "wish"] (defScope (topS 77)) := ⟨rfl, rfl, rfl, by decide +kernel, rfl, by decide +kernel, by decide +kernel⟩
theorem p_keeps (Y : Txt K mg) : Prm P w ⟨K, mg, T⟩ base 5 (He.fAd K ("keeps", none)) F_keeps := by
  obtain ⟨fd, F⟩ := Y.f_keeps
  refine (prm_def (k := 4) F sc_keeps (fun _ _ _ _ _ _ us hl => match us, hl with | [_, _], _ => rfl) fun cdv A outer s H E hr => ?_)
  have tk := takes_def (P := P) (w := w) (c := ⟨K, mg, T⟩) (base := base) (N := ["row", "wish", "rate"]) (qual := "keeps") (f := (He.fAd K ("keeps", none))) (scope := defScope (topS 77)) (cd := cdv) (A := A) (outer := outer) (s := s) (H := H) (E := E)
  have hp := passes_def (P := P) (w := w) (c := ⟨K, mg, T⟩) (base := base) (N := ["row", "wish", "rate"]) (qual := "keeps") (f := (He.fAd K ("keeps", none))) (scope := defScope (topS 77)) (cd := cdv) (A := A) (outer := outer) (s := s) (H := H) (E := E)
  exact (ss_cons (s_if (ot_cmp (o_eq (hu64 hr)) (o_ix o_idx (v_l 1) (m_int) (fun _ _ => rfl)) (m_str) rfl)
      (ss_one (s_stuck))
      ss_nil)
    (ss_cons (s_if (ot_cmp (o_eq (hu64 hr)) (o_ix o_idx (v_l 1) (m_int) (fun _ _ => rfl)) (m_str) rfl)
      (ss_cons (s_set (i := 2) sc_keeps.nd rfl (.inl rfl) (m_if (ot_cmp o_le (o_ix o_idx (v_l 1) (m_int) (fun _ _ => rfl)) (h_callB (h_len (.cons ⟨⟨_, _, _, Y.g_Row, Y.d_Row___len__.1, Y.d_Row___len__.2.1, Y.d_Row___len__.2.2.1, Y.d_Row___len__.2.2.2, p_Row___len__ Y, (hr.mono (by decide))⟩⟩ .nil)) rfl Y.n_len (by decide +kernel) (a_cons (v_l 0) a_nil)) rfl) (o_ix o_idx (m_attr (at_sprop ⟨_, _, _, Y.g_Row, Y.c_Row, Y.ic_Row, Y.p_Row_rates.choose_spec, p_Row_rates Y⟩ (hr.mono (by decide))) (v_l 0)) (o_ix o_idx (v_l 1) (m_int) (fun _ _ => rfl)) (fun _ _ => rfl)) (m_gref rfl Y.g_NONE (st_tupI (ns := [0, 1]) Y.t_NONE))))
    (ss_one (s_ret (m_not (m_call (p_is_below Y) (hr.mono (by decide)) tk rfl Y.g_is_below Y.k_is_below (a_cons (v_l 2) (a_cons (o_ix o_idx (v_l 1) (m_int) (fun _ _ => rfl)) a_nil)))))))
      ss_nil)
    (ss_one (s_stuck))))
theorem sc_Shelf___init__ : FnScope ["self", "rows", "pairs", "ahead"] ["self", "rows", "pairs", "ahead"] (defScope (clsS 79 0)) := ⟨rfl, rfl, rfl, by decide +kernel, rfl, by decide +kernel, by decide +kernel⟩
theorem p_Shelf___init__ (Y : Txt K mg) : Prm P w ⟨K, mg, T⟩ base 1 (He.fAd K ("Shelf", some "__init__")) F_Shelf___init__ := by
  obtain ⟨fd, F⟩ := Y.f_Shelf___init__
  refine (prm_def (k := 0) F sc_Shelf___init__ (fun _ _ _ _ _ _ us hl => match us, hl with | [_, _, _, _], _ => rfl) fun cdv A outer s H E hr => ?_)
  have tk := takes_def (P := P) (w := w) (c := ⟨K, mg, T⟩) (base := base) (N := ["self", "rows", "pairs", "ahead"]) (qual := "Shelf.__init__") (f := (He.fAd K ("Shelf", some "__init__"))) (scope := defScope (clsS 79 0)) (cd := cdv) (A := A) (outer := outer) (s := s) (H := H) (E := E)
  have hp := passes_def (P := P) (w := w) (c := ⟨K, mg, T⟩) (base := base) (N := ["self", "rows", "pairs", "ahead"]) (qual := "Shelf.__init__") (f := (He.fAd K ("Shelf", some "__init__"))) (scope := defScope (clsS 79 0)) (cd := cdv) (A := A) (outer := outer) (s := s) (H := H) (E := E)
  exact (ss_cons (s_seta (set_fld (by simpa using ⟨_, Y.g_Shelf, Y.c_Shelf, Y.na_Shelf_rows⟩)) (v_l 0) (v_l 1))
    (ss_cons (s_seta (set_fld (by simpa using ⟨_, Y.g_Shelf, Y.c_Shelf, Y.na_Shelf_pairs⟩)) (v_l 0) (v_l 2))
    (ss_cons (s_seta (set_fld (by simpa using ⟨_, Y.g_Shelf, Y.c_Shelf, Y.na_Shelf_ahead⟩)) (v_l 0) (v_l 3))
    (ss_one (s_seta (set_fld (by simpa using ⟨_, Y.g_Shelf, Y.c_Shelf, Y.na_Shelf_many⟩)) (v_l 0) (m_if (ot_cmp o_isN (v_l 3) (m_non) rfl) (m_int) (o_op o_add (m_attr (at_fld ⟨_, Y.g_Shelf, Y.c_Shelf, Y.na_Shelf_many⟩) (v_l 3)) (m_int))))))))
theorem sc_check_kept : FnScope ["rows", "pairs", "index", "name", "wish"] ["rows", "pairs"] (defScope (topS 80)) := ⟨rfl, rfl, rfl, by decide +kernel, rfl, by decide +kernel, by decide +kernel⟩
theorem p_check_kept (Y : Txt K mg) : Prm P w ⟨K, mg, T⟩ base 6 (He.fAd K ("check_kept", none)) F_check_kept := by
  obtain ⟨fd, F⟩ := Y.f_check_kept
  refine (prm_def (k := 5) F sc_check_kept (fun _ _ _ _ _ _ us hl => match us, hl with | [_, _], _ => rfl) fun cdv A outer s H E hr => ?_)
  have tk := takes_def (P := P) (w := w) (c := ⟨K, mg, T⟩) (base := base) (N := ["rows", "pairs", "index", "name", "wish"]) (qual := "check_kept") (f := (He.fAd K ("check_kept", none))) (scope := defScope (topS 80)) (cd := cdv) (A := A) (outer := outer) (s := s) (H := H) (E := E)
  have hp := passes_def (P := P) (w := w) (c := ⟨K, mg, T⟩) (base := base) (N := ["rows", "pairs", "index", "name", "wish"]) (qual := "check_kept") (f := (He.fAd K ("check_kept", none))) (scope := defScope (topS 80)) (cd := cdv) (A := A) (outer := outer) (s := s) (H := H) (E := E)
  exact (ss_one (s_for hp rfl (i_enum rfl Y.n_enumerate (a_cons (v_l 1) a_nil)) (g_t (q_tup rfl (q_cons (q_nm (i := 2) sc_check_kept.nd rfl (.inl rfl)) (q_cons (q_tup rfl (q_cons (q_nm (i := 3) sc_check_kept.nd rfl (.inl rfl)) (q_cons (q_nm (i := 4) sc_check_kept.nd rfl (.inl rfl)) q_nil))) q_nil))))
      (ss_one (s_if (t_not (t_val (m_call (p_keeps Y) (hr.mono (by decide)) tk rfl Y.g_keeps Y.k_keeps (a_cons (m_dget (hu1 hr) (v_l 0) (v_l 3) (fun _ _ => rfl)) (a_cons (v_l 4) a_nil)))))
      (ss_one (s_raise1 (xok_Broken Y rfl rfl (hr.mono (by decide))) rfl tk rfl (v_l 2)))
      ss_nil))))
theorem sc_Library___init__ : FnScope ["self"] ["self"] (defScope (clsS 81 0)) := ⟨rfl, rfl, rfl, by decide +kernel, rfl, by decide +kernel, by decide +kernel⟩
theorem p_Library___init__ (Y : Txt K mg) : Prm P w ⟨K, mg, T⟩ base 3 (He.fAd K ("Library", some "__init__")) F_Library___init__ := by
  obtain ⟨fd, F⟩ := Y.f_Library___init__
  refine (prm_def (k := 2) F sc_Library___init__ (fun _ _ _ _ _ _ us hl => match us, hl with | [_], _ => rfl) fun cdv A outer s H E hr => ?_)
  have tk := takes_def (P := P) (w := w) (c := ⟨K, mg, T⟩) (base := base) (N := ["self"]) (qual := "Library.__init__") (f := (He.fAd K ("Library", some "__init__"))) (scope := defScope (clsS 81 0)) (cd := cdv) (A := A) (outer := outer) (s := s) (H := H) (E := E)
  have hp := passes_def (P := P) (w := w) (c := ⟨K, mg, T⟩) (base := base) (N := ["self"]) (qual := "Library.__init__") (f := (He.fAd K ("Library", some "__init__"))) (scope := defScope (clsS 81 0)) (cd := cdv) (A := A) (outer := outer) (s := s) (H := H) (E := E)
  exact (ss_one (s_seta (set_fld (by simpa using ⟨_, Y.g_Library, Y.c_Library, Y.na_Library_shelf⟩)) (v_l 0) (m_make ⟨⟨_, _, _, _, Y.g_Shelf, Y.mk_Shelf, p_Shelf___init__ Y, told_Shelf, hr.mono (by decide)⟩⟩ tk rfl (a_cons (m_dic0) (a_cons (m_tup a_nil) (a_cons (m_non) a_nil))))))
theorem sc_Library_names : FnScope ["self"] ["self"] (defScope (clsS 81 1)) := ⟨rfl, rfl, rfl, by decide +kernel, rfl, by decide +kernel, by decide +kernel⟩
theorem p_Library_names (Y : Txt K mg) : Prm P w ⟨K, mg, T⟩ base 1 (prA K "Library" "names") F_Library_names := by
  obtain ⟨fd, F⟩ := Y.f_Library_names
  refine (prm_def (k := 0) F sc_Library_names (fun _ _ _ _ _ _ us hl => match us, hl with | [_], _ => rfl) fun cdv A outer s H E hr => ?_)
  have tk := takes_def (P := P) (w := w) (c := ⟨K, mg, T⟩) (base := base) (N := ["self"]) (qual := "Library.names") (f := (prA K "Library" "names")) (scope := defScope (clsS 81 1)) (cd := cdv) (A := A) (outer := outer) (s := s) (H := H) (E := E)
  have hp := passes_def (P := P) (w := w) (c := ⟨K, mg, T⟩) (base := base) (N := ["self"]) (qual := "Library.names") (f := (prA K "Library" "names")) (scope := defScope (clsS 81 1)) (cd := cdv) (A := A) (outer := outer) (s := s) (H := H) (E := E)
  exact (ss_one (s_ret (o_callTy c_tuple rfl Y.n_tuple (by decide +kernel) (a_cons (o_callB (c_sortD rfl) rfl Y.n_sorted (by decide +kernel) (a_cons (m_attr (at_fld ⟨_, Y.g_Shelf, Y.c_Shelf, Y.na_Shelf_rows⟩) (m_attr (at_fld ⟨_, Y.g_Library, Y.c_Library, Y.na_Library_shelf⟩) (v_l 0))) a_nil)) a_nil))))
theorem sc_Library_wishes : FnScope ["self"] ["self"] (defScope (clsS 81 2)) := ⟨rfl, rfl, rfl, by decide +kernel, rfl, by decide +kernel, by decide +kernel⟩
theorem p_Library_wishes (Y : Txt K mg) : Prm P w ⟨K, mg, T⟩ base 1 (prA K "Library" "wishes") F_Library_wishes := by
  obtain ⟨fd, F⟩ := Y.f_Library_wishes
  refine (prm_def (k := 0) F sc_Library_wishes (fun _ _ _ _ _ _ us hl => match us, hl with | [_], _ => rfl) fun cdv A outer s H E hr => ?_)
  have tk := takes_def (P := P) (w := w) (c := ⟨K, mg, T⟩) (base := base) (N := ["self"]) (qual := "Library.wishes") (f := (prA K "Library" "wishes")) (scope := defScope (clsS 81 2)) (cd := cdv) (A := A) (outer := outer) (s := s) (H := H) (E := E)
  have hp := passes_def (P := P) (w := w) (c := ⟨K, mg, T⟩) (base := base) (N := ["self"]) (qual := "Library.wishes") (f := (prA K "Library" "wishes")) (scope := defScope (clsS 81 2)) (cd := cdv) (A := A) (outer := outer) (s := s) (H := H) (E := E)
  exact (ss_one (s_ret (m_attr (at_fld ⟨_, Y.g_Shelf, Y.c_Shelf, Y.na_Shelf_pairs⟩) (m_attr (at_fld ⟨_, Y.g_Library, Y.c_Library, Y.na_Library_shelf⟩) (v_l 0)))))
theorem sc_Library_changes : FnScope ["self"] ["self"] (defScope (clsS 81 3)) := ⟨rfl, rfl, rfl, by decide +kernel, rfl, by decide +kernel, by decide +kernel⟩
theorem p_Library_changes (Y : Txt K mg) : Prm P w ⟨K, mg, T⟩ base 1 (prA K "Library" "changes") F_Library_changes := by
  obtain ⟨fd, F⟩ := Y.f_Library_changes
  refine (prm_def (k := 0) F sc_Library_changes (fun _ _ _ _ _ _ us hl => match us, hl with | [_], _ => rfl) fun cdv A outer s H E hr => ?_)
  have tk := takes_def (P := P) (w := w) (c := ⟨K, mg, T⟩) (base := base) (N := ["self"]) (qual := "Library.changes") (f := (prA K "Library" "changes")) (scope := defScope (clsS 81 3)) (cd := cdv) (A := A) (outer := outer) (s := s) (H := H) (E := E)
  have hp := passes_def (P := P) (w := w) (c := ⟨K, mg, T⟩) (base := base) (N := ["self"]) (qual := "Library.changes") (f := (prA K "Library" "changes")) (scope := defScope (clsS 81 3)) (cd := cdv) (A := A) (outer := outer) (s := s) (H := H) (E := E)
  exact (ss_one (s_ret (m_attr (at_fld ⟨_, Y.g_Shelf, Y.c_Shelf, Y.na_Shelf_many⟩) (m_attr (at_fld ⟨_, Y.g_Library, Y.c_Library, Y.na_Library_shelf⟩) (v_l 0)))))
theorem sc_Library_become : FnScope ["self", "rows", "pairs"] ["self", "rows", "pairs"] (defScope (clsS 81 4)) := ⟨rfl, rfl, rfl, by decide +kernel, rfl, by decide +kernel, by decide +kernel⟩
theorem p_Library_become (Y : Txt K mg) : Prm P w ⟨K, mg, T⟩ base 3 (He.fAd K ("Library", some "become")) F_Library_become := by
  obtain ⟨fd, F⟩ := Y.f_Library_become
  refine (prm_def (k := 2) F sc_Library_become (fun _ _ _ _ _ _ us hl => match us, hl with | [_, _, _], _ => rfl) fun cdv A outer s H E hr => ?_)
  have tk := takes_def (P := P) (w := w) (c := ⟨K, mg, T⟩) (base := base) (N := ["self", "rows", "pairs"]) (qual := "Library.become") (f := (He.fAd K ("Library", some "become"))) (scope := defScope (clsS 81 4)) (cd := cdv) (A := A) (outer := outer) (s := s) (H := H) (E := E)
  have hp := passes_def (P := P) (w := w) (c := ⟨K, mg, T⟩) (base := base) (N := ["self", "rows", "pairs"]) (qual := "Library.become") (f := (He.fAd K ("Library", some "become"))) (scope := defScope (clsS 81 4)) (cd := cdv) (A := A) (outer := outer) (s := s) (H := H) (E := E)
  exact (ss_one (s_seta (set_fld (by simpa using ⟨_, Y.g_Library, Y.c_Library, Y.na_Library_shelf⟩)) (v_l 0) (m_make ⟨⟨_, _, _, _, Y.g_Shelf, Y.mk_Shelf, p_Shelf___init__ Y, told_Shelf, hr.mono (by decide)⟩⟩ tk rfl (a_cons (v_l 1) (a_cons (v_l 2) (a_cons (m_attr (at_fld ⟨_, Y.g_Library, Y.c_Library, Y.na_Library_shelf⟩) (v_l 0)) a_nil))))))
theorem sc_Library___contains__ : FnScope ["self", "value"] ["self", "value"] (defScope (clsS 81 13)) := ⟨rfl, rfl, rfl, by decide +kernel, rfl, by decide +kernel, by decide +kernel⟩
theorem p_Library___contains__ (Y : Txt K mg) : Prm P w ⟨K, mg, T⟩ base 1 (He.fAd K ("Library", some "__contains__")) F_Library___contains__ := by
  obtain ⟨fd, F⟩ := Y.f_Library___contains__
  refine (prm_def (k := 0) F sc_Library___contains__ (fun _ _ _ _ _ _ us hl => match us, hl with | [_, _], _ => rfl) fun cdv A outer s H E hr => ?_)
  have tk := takes_def (P := P) (w := w) (c := ⟨K, mg, T⟩) (base := base) (N := ["self", "value"]) (qual := "Library.__contains__") (f := (He.fAd K ("Library", some "__contains__"))) (scope := defScope (clsS 81 13)) (cd := cdv) (A := A) (outer := outer) (s := s) (H := H) (E := E)
  have hp := passes_def (P := P) (w := w) (c := ⟨K, mg, T⟩) (base := base) (N := ["self", "value"]) (qual := "Library.__contains__") (f := (He.fAd K ("Library", some "__contains__"))) (scope := defScope (clsS 81 13)) (cd := cdv) (A := A) (outer := outer) (s := s) (H := H) (E := E)
  exact (ss_one (s_ret (m_and (o_callB (c_isi Y.ci_ok Y.cs_ok Y.is_ok) rfl Y.n_isinstance (by decide +kernel) (a_cons (v_l 1) (a_cons (m_ty rfl Y.n_str (by decide +kernel)) a_nil))) (m_one (m_din (hu1 hr) (v_l 1) (m_attr (at_fld ⟨_, Y.g_Shelf, Y.c_Shelf, Y.na_Shelf_rows⟩) (m_attr (at_fld ⟨_, Y.g_Library, Y.c_Library, Y.na_Library_shelf⟩) (v_l 0))) rfl)))))
theorem sc_Library_remove : FnScope ["self", "name", "index", "pair", "own", "row"] ["self", "name"] (defScope (clsS 81 5)) := ⟨rfl, rfl, rfl, by decide +kernel, rfl, by decide +kernel, by decide +kernel⟩
theorem p_Library_remove (Y : Txt K mg) : Prm P w ⟨K, mg, T⟩ base 4 (He.fAd K ("Library", some "remove")) F_Library_remove := by
  obtain ⟨fd, F⟩ := Y.f_Library_remove
  refine (prm_def (k := 3) F sc_Library_remove (fun _ _ _ _ _ _ us hl => match us, hl with | [_, _], _ => rfl) fun cdv A outer s H E hr => ?_)
  have tk := takes_def (P := P) (w := w) (c := ⟨K, mg, T⟩) (base := base) (N := ["self", "name", "index", "pair", "own", "row"]) (qual := "Library.remove") (f := (He.fAd K ("Library", some "remove"))) (scope := defScope (clsS 81 5)) (cd := cdv) (A := A) (outer := outer) (s := s) (H := H) (E := E)
  have hp := passes_def (P := P) (w := w) (c := ⟨K, mg, T⟩) (base := base) (N := ["self", "name", "index", "pair", "own", "row"]) (qual := "Library.remove") (f := (He.fAd K ("Library", some "remove"))) (scope := defScope (clsS 81 5)) (cd := cdv) (A := A) (outer := outer) (s := s) (H := H) (E := E)
  exact (ss_cons (s_if (t_dhasN (.cons ⟨⟨_, _, _, Y.g_Library, Y.d_Library___contains__.1, Y.d_Library___contains__.2.1, Y.d_Library___contains__.2.2.1, Y.d_Library___contains__.2.2.2, p_Library___contains__ Y, (hr.mono (by decide))⟩⟩ .nil) tk (v_c 1) (v_l 0) rfl)
      (ss_one (s_raise1 (xok_UnknownName Y rfl rfl (hr.mono (by decide))) rfl tk rfl (v_c 1)))
      ss_nil)
    (ss_cons (s_for hp rfl (i_enum rfl Y.n_enumerate (a_cons (m_attr (at_fld ⟨_, Y.g_Shelf, Y.c_Shelf, Y.na_Shelf_pairs⟩) (m_attr (at_fld ⟨_, Y.g_Library, Y.c_Library, Y.na_Library_shelf⟩) (v_l 0))) a_nil)) (g_t (q_tup rfl (q_cons (q_nm (i := 2) sc_Library_remove.nd rfl (.inl rfl)) (q_cons (q_nm (i := 3) sc_Library_remove.nd rfl (.inl rfl)) q_nil))))
      (ss_one (s_if (ot_cmp (o_eq (hu64 hr)) (o_ix o_idx (v_l 3) (m_int) (fun _ _ => rfl)) (v_c 1) rfl)
      (ss_one (s_raise1 (xok_InUse Y rfl rfl (hr.mono (by decide))) rfl tk rfl (v_l 2)))
      ss_nil)))
    (ss_one (s_expr (m_meth (.cons ⟨⟨_, _, _, Y.g_Library, Y.c_Library, Y.m_Library_become, p_Library_become Y, (hr.mono (by decide))⟩⟩ .nil) tk (v_l 0) (a_cons (m_dc rfl sc_Library_remove.nd (i_items (m_attr (at_fld ⟨_, Y.g_Shelf, Y.c_Shelf, Y.na_Shelf_rows⟩) (m_attr (at_fld ⟨_, Y.g_Library, Y.c_Library, Y.na_Library_shelf⟩) (v_l 0)))) (own := [("own", 4), ("row", 5)]) (blk_by (N := ["self", "name", "index", "pair", "own", "row"]) (sc := defScope (clsS 81 5)) (by decide +kernel)) (by decide) (fun s H C cl fp => (q_tup rfl (q_cons (q_nm (i := 4) sc_Library_remove.nd rfl (.inl rfl)) (q_cons (q_nm (i := 5) sc_Library_remove.nd rfl (.inl rfl)) q_nil)))) (fun s H C cl fp => (pts_1 (ot_cmp (o_ne (hu64 hr)) (v_l 4) (v_c 1) rfl))) (fun s H C cl fp => (v_l 4)) (fun s H C cl fp => (v_l 5))) (a_cons (m_attr (at_fld ⟨_, Y.g_Shelf, Y.c_Shelf, Y.na_Shelf_pairs⟩) (m_attr (at_fld ⟨_, Y.g_Library, Y.c_Library, Y.na_Library_shelf⟩) (v_l 0))) a_nil)))))))
theorem sc_Library_wish : FnScope ["self", "name", "wish", "pairs"] ["self", "name", "wish"] (defScope (clsS 81 6)) := ⟨rfl, rfl, rfl, by decide +kernel, rfl, by decide +kernel, by decide +kernel⟩
theorem p_Library_wish (Y : Txt K mg) : Prm P w ⟨K, mg, T⟩ base 7 (He.fAd K ("Library", some "wish")) F_Library_wish := by
  obtain ⟨fd, F⟩ := Y.f_Library_wish
  refine (prm_def (k := 6) F sc_Library_wish (fun _ _ _ _ _ _ us hl => match us, hl with | [_, _, _], _ => rfl) fun cdv A outer s H E hr => ?_)
  have tk := takes_def (P := P) (w := w) (c := ⟨K, mg, T⟩) (base := base) (N := ["self", "name", "wish", "pairs"]) (qual := "Library.wish") (f := (He.fAd K ("Library", some "wish"))) (scope := defScope (clsS 81 6)) (cd := cdv) (A := A) (outer := outer) (s := s) (H := H) (E := E)
  have hp := passes_def (P := P) (w := w) (c := ⟨K, mg, T⟩) (base := base) (N := ["self", "name", "wish", "pairs"]) (qual := "Library.wish") (f := (He.fAd K ("Library", some "wish"))) (scope := defScope (clsS 81 6)) (cd := cdv) (A := A) (outer := outer) (s := s) (H := H) (E := E)
  exact (ss_cons (s_if (t_dhasN (.cons ⟨⟨_, _, _, Y.g_Library, Y.d_Library___contains__.1, Y.d_Library___contains__.2.1, Y.d_Library___contains__.2.2.1, Y.d_Library___contains__.2.2.2, p_Library___contains__ Y, (hr.mono (by decide))⟩⟩ .nil) tk (v_l 1) (v_l 0) rfl)
      (ss_one (s_raise1 (xok_UnknownName Y rfl rfl (hr.mono (by decide))) rfl tk rfl (v_l 1)))
      ss_nil)
    (ss_cons (s_if (t_not (t_val (m_call (p_is_wish Y) (hr.mono (by decide)) tk rfl Y.g_is_wish Y.k_is_wish (a_cons (v_l 2) a_nil))))
      (ss_one (s_raise1 (xok_InvalidWish Y rfl rfl (hr.mono (by decide))) rfl tk rfl (v_l 2)))
      ss_nil)
    (ss_cons (s_set (i := 3) sc_Library_wish.nd rfl (.inl rfl) (m_tup (a_star (m_attr (at_fld ⟨_, Y.g_Shelf, Y.c_Shelf, Y.na_Shelf_pairs⟩) (m_attr (at_fld ⟨_, Y.g_Library, Y.c_Library, Y.na_Library_shelf⟩) (v_l 0))) (a_cons (m_tup (a_cons (v_l 1) (a_cons (v_l 2) a_nil))) a_nil))))
    (ss_cons (s_expr (m_call (p_check_kept Y) (hr.mono (by decide)) tk rfl Y.g_check_kept Y.k_check_kept (a_cons (m_attr (at_fld ⟨_, Y.g_Shelf, Y.c_Shelf, Y.na_Shelf_rows⟩) (m_attr (at_fld ⟨_, Y.g_Library, Y.c_Library, Y.na_Library_shelf⟩) (v_l 0))) (a_cons (v_l 3) a_nil))))
    (ss_one (s_expr (m_meth (.cons ⟨⟨_, _, _, Y.g_Library, Y.c_Library, Y.m_Library_become, p_Library_become Y, (hr.mono (by decide))⟩⟩ .nil) tk (v_l 0) (a_cons (m_attr (at_fld ⟨_, Y.g_Shelf, Y.c_Shelf, Y.na_Shelf_rows⟩) (m_attr (at_fld ⟨_, Y.g_Library, Y.c_Library, Y.na_Library_shelf⟩) (v_l 0))) (a_cons (v_l 3) a_nil)))))))))
theorem sc_Library_lift : FnScope ["self", "index", "pairs"] ["self", "index"] (defScope (clsS 81 7)) := ⟨rfl, rfl, rfl, by decide +kernel, rfl, by decide +kernel, by decide +kernel⟩
theorem pk_Library_lift (Y : Txt K mg) : PrmK P w ⟨K, mg, T⟩ base 4 (He.fAd K ("Library", some "lift")) 1 ["index"] [0] F_Library_lift := by
  obtain ⟨fd, F⟩ := Y.f_Library_lift
  refine (prmk_def (k := 3) (np := 1) (ks := ["index"]) (pi := [0]) F sc_Library_lift (fun _ _ _ _ _ _ us ws h1 h2 => match us, ws, h1, h2 with | [_], [_], _, _ => rfl) fun cdv A outer s H E hr => ?_)
  have tk := takes_def (P := P) (w := w) (c := ⟨K, mg, T⟩) (base := base) (N := ["self", "index", "pairs"]) (qual := "Library.lift") (f := (He.fAd K ("Library", some "lift"))) (scope := defScope (clsS 81 7)) (cd := cdv) (A := A) (outer := outer) (s := s) (H := H) (E := E)
  have hp := passes_def (P := P) (w := w) (c := ⟨K, mg, T⟩) (base := base) (N := ["self", "index", "pairs"]) (qual := "Library.lift") (f := (He.fAd K ("Library", some "lift"))) (scope := defScope (clsS 81 7)) (cd := cdv) (A := A) (outer := outer) (s := s) (H := H) (E := E)
  exact (ss_cons (s_set (i := 2) sc_Library_lift.nd rfl (.inl rfl) (m_attr (at_fld ⟨_, Y.g_Shelf, Y.c_Shelf, Y.na_Shelf_pairs⟩) (m_attr (at_fld ⟨_, Y.g_Library, Y.c_Library, Y.na_Library_shelf⟩) (v_l 0))))
    (ss_cons (s_if (PW.pt (t_or (t_not (t_val (m_call (p_is_integer Y) (hr.mono (by decide)) tk rfl Y.g_is_integer Y.k_is_integer (a_cons (v_l 1) a_nil)))) (t_or1 (t_not (ot_chain o_le o_lt (m_int) (v_l 1) (o_callB c_len rfl Y.n_len (by decide +kernel) (a_cons (v_l 2) a_nil)))))))
      (ss_one (s_raise1 (xok_InvalidIndex Y rfl rfl (hr.mono (by decide))) rfl tk rfl (v_l 1)))
      ss_nil)
    (ss_one (s_expr (m_meth (.cons ⟨⟨_, _, _, Y.g_Library, Y.c_Library, Y.m_Library_become, p_Library_become Y, (hr.mono (by decide))⟩⟩ .nil) tk (v_l 0) (a_cons (m_attr (at_fld ⟨_, Y.g_Shelf, Y.c_Shelf, Y.na_Shelf_rows⟩) (m_attr (at_fld ⟨_, Y.g_Library, Y.c_Library, Y.na_Library_shelf⟩) (v_l 0))) (a_cons (o_op o_catT (m_slice (v_l 2) po_no (po_ex (v_l 1))) (m_slice (v_l 2) (po_ex (o_op o_add (v_l 1) (m_int))) po_no)) a_nil)))))))
theorem p_Library_lift (Y : Txt K mg) : Prm P w ⟨K, mg, T⟩ base 4 (He.fAd K ("Library", some "lift")) F_Library_lift := by
  obtain ⟨fd, F⟩ := Y.f_Library_lift
  refine (prm_def (k := 3) F sc_Library_lift (fun _ _ _ _ _ _ us hl => match us, hl with | [_, _], _ => rfl) fun cdv A outer s H E hr => ?_)
  have tk := takes_def (P := P) (w := w) (c := ⟨K, mg, T⟩) (base := base) (N := ["self", "index", "pairs"]) (qual := "Library.lift") (f := (He.fAd K ("Library", some "lift"))) (scope := defScope (clsS 81 7)) (cd := cdv) (A := A) (outer := outer) (s := s) (H := H) (E := E)
  have hp := passes_def (P := P) (w := w) (c := ⟨K, mg, T⟩) (base := base) (N := ["self", "index", "pairs"]) (qual := "Library.lift") (f := (He.fAd K ("Library", some "lift"))) (scope := defScope (clsS 81 7)) (cd := cdv) (A := A) (outer := outer) (s := s) (H := H) (E := E)
  exact (ss_cons (s_set (i := 2) sc_Library_lift.nd rfl (.inl rfl) (m_attr (at_fld ⟨_, Y.g_Shelf, Y.c_Shelf, Y.na_Shelf_pairs⟩) (m_attr (at_fld ⟨_, Y.g_Library, Y.c_Library, Y.na_Library_shelf⟩) (v_l 0))))
    (ss_cons (s_if (PW.pt (t_or (t_not (t_val (m_call (p_is_integer Y) (hr.mono (by decide)) tk rfl Y.g_is_integer Y.k_is_integer (a_cons (v_l 1) a_nil)))) (t_or1 (t_not (ot_chain o_le o_lt (m_int) (v_l 1) (o_callB c_len rfl Y.n_len (by decide +kernel) (a_cons (v_l 2) a_nil)))))))
      (ss_one (s_raise1 (xok_InvalidIndex Y rfl rfl (hr.mono (by decide))) rfl tk rfl (v_l 1)))
      ss_nil)
    (ss_one (s_expr (m_meth (.cons ⟨⟨_, _, _, Y.g_Library, Y.c_Library, Y.m_Library_become, p_Library_become Y, (hr.mono (by decide))⟩⟩ .nil) tk (v_l 0) (a_cons (m_attr (at_fld ⟨_, Y.g_Shelf, Y.c_Shelf, Y.na_Shelf_rows⟩) (m_attr (at_fld ⟨_, Y.g_Library, Y.c_Library, Y.na_Library_shelf⟩) (v_l 0))) (a_cons (o_op o_catT (m_slice (v_l 2) po_no (po_ex (v_l 1))) (m_slice (v_l 2) (po_ex (o_op o_add (v_l 1) (m_int))) po_no)) a_nil)))))))
theorem sc_Library_undo : FnScope ["self"] ["self"] (defScope (clsS 81 8)) := ⟨rfl, rfl, rfl, by decide +kernel, rfl, by decide +kernel, by decide +kernel⟩
theorem p_Library_undo (Y : Txt K mg) : Prm P w ⟨K, mg, T⟩ base 1 (He.fAd K ("Library", some "undo")) F_Library_undo := by
  obtain ⟨fd, F⟩ := Y.f_Library_undo
  refine (prm_def (k := 0) F sc_Library_undo (fun _ _ _ _ _ _ us hl => match us, hl with | [_], _ => rfl) fun cdv A outer s H E hr => ?_)
  have tk := takes_def (P := P) (w := w) (c := ⟨K, mg, T⟩) (base := base) (N := ["self"]) (qual := "Library.undo") (f := (He.fAd K ("Library", some "undo"))) (scope := defScope (clsS 81 8)) (cd := cdv) (A := A) (outer := outer) (s := s) (H := H) (E := E)
  have hp := passes_def (P := P) (w := w) (c := ⟨K, mg, T⟩) (base := base) (N := ["self"]) (qual := "Library.undo") (f := (He.fAd K ("Library", some "undo"))) (scope := defScope (clsS 81 8)) (cd := cdv) (A := A) (outer := outer) (s := s) (H := H) (E := E)
  exact (ss_cons (s_if (ot_cmp o_isN (m_attr (at_fld ⟨_, Y.g_Shelf, Y.c_Shelf, Y.na_Shelf_ahead⟩) (m_attr (at_fld ⟨_, Y.g_Library, Y.c_Library, Y.na_Library_shelf⟩) (v_l 0))) (m_non) rfl)
      (ss_one (s_raise0 ⟨⟨_, _, _, _, _, Y.g_NothingToUndo, PySem.F.excBase_ArithmeticError, Y.x0_NothingToUndo.1, Y.x0_NothingToUndo.2.1, Y.x0_NothingToUndo.2.2.1, Y.x0_NothingToUndo.2.2.2⟩⟩ rfl tk rfl))
      ss_nil)
    (ss_one (s_seta (set_fld (by simpa using ⟨_, Y.g_Library, Y.c_Library, Y.na_Library_shelf⟩)) (v_l 0) (m_attr (at_fld ⟨_, Y.g_Shelf, Y.c_Shelf, Y.na_Shelf_ahead⟩) (m_attr (at_fld ⟨_, Y.g_Library, Y.c_Library, Y.na_Library_shelf⟩) (v_l 0))))))
theorem sc_Library___getitem__ : FnScope ["self", "name"] ["self", "name"] (defScope (clsS 81 11)) := ⟨rfl, rfl, rfl, by decide +kernel, rfl, by decide +kernel, by decide +kernel⟩
theorem p_Library___getitem__ (Y : Txt K mg) : Prm P w ⟨K, mg, T⟩ base 4 (He.fAd K ("Library", some "__getitem__")) F_Library___getitem__ := by
  obtain ⟨fd, F⟩ := Y.f_Library___getitem__
  refine (prm_def (k := 3) F sc_Library___getitem__ (fun _ _ _ _ _ _ us hl => match us, hl with | [_, _], _ => rfl) fun cdv A outer s H E hr => ?_)
  have tk := takes_def (P := P) (w := w) (c := ⟨K, mg, T⟩) (base := base) (N := ["self", "name"]) (qual := "Library.__getitem__") (f := (He.fAd K ("Library", some "__getitem__"))) (scope := defScope (clsS 81 11)) (cd := cdv) (A := A) (outer := outer) (s := s) (H := H) (E := E)
  have hp := passes_def (P := P) (w := w) (c := ⟨K, mg, T⟩) (base := base) (N := ["self", "name"]) (qual := "Library.__getitem__") (f := (He.fAd K ("Library", some "__getitem__"))) (scope := defScope (clsS 81 11)) (cd := cdv) (A := A) (outer := outer) (s := s) (H := H) (E := E)
  exact (ss_cons (s_if (t_dhasN (.cons ⟨⟨_, _, _, Y.g_Library, Y.d_Library___contains__.1, Y.d_Library___contains__.2.1, Y.d_Library___contains__.2.2.1, Y.d_Library___contains__.2.2.2, p_Library___contains__ Y, (hr.mono (by decide))⟩⟩ .nil) tk (v_l 1) (v_l 0) rfl)
      (ss_one (s_raise1 (xok_UnknownName Y rfl rfl (hr.mono (by decide))) rfl tk rfl (v_l 1)))
      ss_nil)
    (ss_one (s_ret (m_dget (hu1 hr) (m_attr (at_fld ⟨_, Y.g_Shelf, Y.c_Shelf, Y.na_Shelf_rows⟩) (m_attr (at_fld ⟨_, Y.g_Library, Y.c_Library, Y.na_Library_shelf⟩) (v_l 0))) (v_l 1) (fun _ _ => rfl)))))
theorem sc_Library___setitem__ : FnScope ["self", "name", "row", "rows"] ["self", "name", "row"] (defScope (clsS 81 12)) := ⟨rfl, rfl, rfl, by decide +kernel, rfl, by decide +kernel, by decide +kernel⟩
theorem p_Library___setitem__ (Y : Txt K mg) : Prm P w ⟨K, mg, T⟩ base 7 (He.fAd K ("Library", some "__setitem__")) F_Library___setitem__ := by
  obtain ⟨fd, F⟩ := Y.f_Library___setitem__
  refine (prm_def (k := 6) F sc_Library___setitem__ (fun _ _ _ _ _ _ us hl => match us, hl with | [_, _, _], _ => rfl) fun cdv A outer s H E hr => ?_)
  have tk := takes_def (P := P) (w := w) (c := ⟨K, mg, T⟩) (base := base) (N := ["self", "name", "row", "rows"]) (qual := "Library.__setitem__") (f := (He.fAd K ("Library", some "__setitem__"))) (scope := defScope (clsS 81 12)) (cd := cdv) (A := A) (outer := outer) (s := s) (H := H) (E := E)
  have hp := passes_def (P := P) (w := w) (c := ⟨K, mg, T⟩) (base := base) (N := ["self", "name", "row", "rows"]) (qual := "Library.__setitem__") (f := (He.fAd K ("Library", some "__setitem__"))) (scope := defScope (clsS 81 12)) (cd := cdv) (A := A) (outer := outer) (s := s) (H := H) (E := E)
  exact (ss_cons (s_if (t_not (t_val (m_call (p_is_name Y) (hr.mono (by decide)) tk rfl Y.g_is_name Y.k_is_name (a_cons (v_l 1) a_nil))))
      (ss_one (s_raise1 (xok_InvalidName Y rfl rfl (hr.mono (by decide))) rfl tk rfl (v_l 1)))
      ss_nil)
    (ss_cons (s_expr (m_call (p_check_row Y) (hr.mono (by decide)) tk rfl Y.g_check_row Y.k_check_row (a_cons (v_l 2) a_nil)))
    (ss_cons (s_set (i := 3) sc_Library___setitem__.nd rfl (.inl rfl) (m_dstar (m_attr (at_fld ⟨_, Y.g_Shelf, Y.c_Shelf, Y.na_Shelf_rows⟩) (m_attr (at_fld ⟨_, Y.g_Library, Y.c_Library, Y.na_Library_shelf⟩) (v_l 0))) (v_l 1) (v_l 2)))
    (ss_cons (s_expr (m_call (p_check_kept Y) (hr.mono (by decide)) tk rfl Y.g_check_kept Y.k_check_kept (a_cons (v_l 3) (a_cons (m_attr (at_fld ⟨_, Y.g_Shelf, Y.c_Shelf, Y.na_Shelf_pairs⟩) (m_attr (at_fld ⟨_, Y.g_Library, Y.c_Library, Y.na_Library_shelf⟩) (v_l 0))) a_nil))))
    (ss_one (s_expr (m_meth (.cons ⟨⟨_, _, _, Y.g_Library, Y.c_Library, Y.m_Library_become, p_Library_become Y, (hr.mono (by decide))⟩⟩ .nil) tk (v_l 0) (a_cons (v_l 3) (a_cons (m_attr (at_fld ⟨_, Y.g_Shelf, Y.c_Shelf, Y.na_Shelf_pairs⟩) (m_attr (at_fld ⟨_, Y.g_Library, Y.c_Library, Y.na_Library_shelf⟩) (v_l 0))) a_nil)))))))))
theorem sc_Library___len__ : FnScope ["self"] ["self"] (defScope (clsS 81 15)) := ⟨rfl, rfl, rfl, by decide +kernel, rfl, by decide +kernel, by decide +kernel⟩
theorem p_Library___len__ (Y : Txt K mg) : Prm P w ⟨K, mg, T⟩ base 1 (He.fAd K ("Library", some "__len__")) F_Library___len__ := by
  obtain ⟨fd, F⟩ := Y.f_Library___len__
  refine (prm_def (k := 0) F sc_Library___len__ (fun _ _ _ _ _ _ us hl => match us, hl with | [_], _ => rfl) fun cdv A outer s H E hr => ?_)
  have tk := takes_def (P := P) (w := w) (c := ⟨K, mg, T⟩) (base := base) (N := ["self"]) (qual := "Library.__len__") (f := (He.fAd K ("Library", some "__len__"))) (scope := defScope (clsS 81 15)) (cd := cdv) (A := A) (outer := outer) (s := s) (H := H) (E := E)
  have hp := passes_def (P := P) (w := w) (c := ⟨K, mg, T⟩) (base := base) (N := ["self"]) (qual := "Library.__len__") (f := (He.fAd K ("Library", some "__len__"))) (scope := defScope (clsS 81 15)) (cd := cdv) (A := A) (outer := outer) (s := s) (H := H) (E := E)
  exact (ss_one (s_ret (o_callB c_lenD rfl Y.n_len (by decide +kernel) (a_cons (m_attr (at_fld ⟨_, Y.g_Shelf, Y.c_Shelf, Y.na_Shelf_rows⟩) (m_attr (at_fld ⟨_, Y.g_Library, Y.c_Library, Y.na_Library_shelf⟩) (v_l 0))) a_nil))))
theorem sc_Library___bool__ : FnScope ["self"] ["self"] (defScope (clsS 81 16)) := ⟨rfl, rfl, rfl, by decide +kernel, rfl, by decide +kernel, by decide +kernel⟩
theorem p_Library___bool__ (Y : Txt K mg) : Prm P w ⟨K, mg, T⟩ base 1 (He.fAd K ("Library", some "__bool__")) F_Library___bool__ := by
  obtain ⟨fd, F⟩ := Y.f_Library___bool__
  refine (prm_def (k := 0) F sc_Library___bool__ (fun _ _ _ _ _ _ us hl => match us, hl with | [_], _ => rfl) fun cdv A outer s H E hr => ?_)
  have tk := takes_def (P := P) (w := w) (c := ⟨K, mg, T⟩) (base := base) (N := ["self"]) (qual := "Library.__bool__") (f := (He.fAd K ("Library", some "__bool__"))) (scope := defScope (clsS 81 16)) (cd := cdv) (A := A) (outer := outer) (s := s) (H := H) (E := E)
  have hp := passes_def (P := P) (w := w) (c := ⟨K, mg, T⟩) (base := base) (N := ["self"]) (qual := "Library.__bool__") (f := (He.fAd K ("Library", some "__bool__"))) (scope := defScope (clsS 81 16)) (cd := cdv) (A := A) (outer := outer) (s := s) (H := H) (E := E)
  exact (ss_one (s_ret (m_bl)))
theorem sc__law_vat : FnScope ["script", "at", "figure", "seed", "each"] ["script", "at"] (defScope (topS 83)) := ⟨rfl, rfl, rfl, by decide +kernel, rfl, by decide +kernel, by decide +kernel⟩
theorem p__law_vat (Y : Txt K mg) : Prm P w ⟨K, mg, T⟩ base 1 (He.fAd K ("_law_vat", none)) F__law_vat := by
  obtain ⟨fd, F⟩ := Y.f__law_vat
  refine (prm_def (k := 0) F sc__law_vat (fun _ _ _ _ _ _ us hl => match us, hl with | [_, _], _ => rfl) fun cdv A outer s H E hr => ?_)
  have tk := takes_def (P := P) (w := w) (c := ⟨K, mg, T⟩) (base := base) (N := ["script", "at", "figure", "seed", "each"]) (qual := "_law_vat") (f := (He.fAd K ("_law_vat", none))) (scope := defScope (topS 83)) (cd := cdv) (A := A) (outer := outer) (s := s) (H := H) (E := E)
  have hp := passes_def (P := P) (w := w) (c := ⟨K, mg, T⟩) (base := base) (N := ["script", "at", "figure", "seed", "each"]) (qual := "_law_vat") (f := (He.fAd K ("_law_vat", none))) (scope := defScope (topS 83)) (cd := cdv) (A := A) (outer := outer) (s := s) (H := H) (E := E)
  exact (ss_cons (s_set (i := 2) sc__law_vat.nd rfl (.inl rfl) (m_if (ot_cmp o_lt (v_l 1) (o_callB c_len rfl Y.n_len (by decide +kernel) (a_cons (v_l 0) a_nil)) rfl) (o_ix o_idx (v_l 0) (v_l 1) (fun _ _ => rfl)) (o_op o_add (o_op o_mul (m_int) (v_l 1)) (m_int))))
    (ss_cons (s_set (i := 3) sc__law_vat.nd rfl (.inl rfl) (o_op o_add (m_int) (o_op o_mul (m_int) (v_l 1))))
    (ss_cons (s_for hp rfl (i_seq (o_op o_catL (m_lst (a_cons (v_l 2) a_nil)) (m_slice (v_l 0) po_no (po_ex (m_int))))) (g_t (q_nm (i := 4) sc__law_vat.nd rfl (.inl rfl)))
      (ss_one (s_set (i := 3) sc__law_vat.nd rfl (.inl rfl) (o_op o_mod (o_callTy c_int1 rfl Y.n_int (by decide +kernel) (a_cons (o_op o_add (o_op o_mul (v_l 3) (m_int)) (v_l 4)) a_nil)) (m_int)))))
    (ss_one (s_ret (m_new (a_cons (m_if (ot_cmp o_ge (o_callB c_abs rfl Y.n_abs (by decide +kernel) (a_cons (v_l 2) a_nil)) (o_op o_pow (m_int) (m_int)) rfl) (o_callB c_abs rfl Y.n_abs (by decide +kernel) (a_cons (v_l 2) a_nil)) (m_int)) (a_cons (v_l 3) (a_cons (m_int) a_nil)))))))))
theorem sc__law_dip : FnScope ["vat", "many", "digit"] ["vat", "many"] (defScope (topS 84)) := ⟨rfl, rfl, rfl, by decide +kernel, rfl, by decide +kernel, by decide +kernel⟩
theorem p__law_dip (Y : Txt K mg) : Prm P w ⟨K, mg, T⟩ base 1 (He.fAd K ("_law_dip", none)) F__law_dip := by
  obtain ⟨fd, F⟩ := Y.f__law_dip
  refine (prm_def (k := 0) F sc__law_dip (fun _ _ _ _ _ _ us hl => match us, hl with | [_, _], _ => rfl) fun cdv A outer s H E hr => ?_)
  have tk := takes_def (P := P) (w := w) (c := ⟨K, mg, T⟩) (base := base) (N := ["vat", "many", "digit"]) (qual := "_law_dip") (f := (He.fAd K ("_law_dip", none))) (scope := defScope (topS 84)) (cd := cdv) (A := A) (outer := outer) (s := s) (H := H) (E := E)
  have hp := passes_def (P := P) (w := w) (c := ⟨K, mg, T⟩) (base := base) (N := ["vat", "many", "digit"]) (qual := "_law_dip") (f := (He.fAd K ("_law_dip", none))) (scope := defScope (topS 84)) (cd := cdv) (A := A) (outer := outer) (s := s) (H := H) (E := E)
  exact (ss_cons (s_if (ot_cmp o_gt (o_ix o_idx (v_l 0) (m_int) (fun _ _ => rfl)) (m_int) rfl)
      (ss_cons (s_asg (o_callB c_divmod rfl Y.n_divmod (by decide +kernel) (a_cons (o_ix o_idx (v_l 0) (m_int) (fun _ _ => rfl)) (a_cons (v_l 1) a_nil))) (g_tup rfl (g_cons (g_sub (v_l 0) (m_int)) (g_cons (g_name (i := 2) sc__law_dip.nd rfl (.inl rfl)) g_nil))))
    (ss_one (s_ret (v_l 2))))
      ss_nil)
    (ss_cons (s_asg (o_op o_add (o_ix o_idx (v_l 0) (m_int) (fun _ _ => rfl)) (m_int)) (g_sub (v_l 0) (m_int)))
    (ss_cons (s_asg (o_op o_mod (o_callTy c_int1 rfl Y.n_int (by decide +kernel) (a_cons (o_op o_add (o_op o_mul (o_ix o_idx (v_l 0) (m_int) (fun _ _ => rfl)) (m_int)) (o_op o_mul (m_int) (o_ix o_idx (v_l 0) (m_int) (fun _ _ => rfl)))) a_nil)) (m_int)) (g_sub (v_l 0) (m_int)))
    (ss_one (s_ret (o_op o_mod (o_callTy c_int1 rfl Y.n_int (by decide +kernel) (a_cons (o_op o_div (o_ix o_idx (v_l 0) (m_int) (fun _ _ => rfl)) (m_int)) a_nil)) (v_l 1)))))))
theorem sc__law_counts : FnScope ["vat", "way", "size", "some", "k", "small"] ["vat", "way"] (defScope (topS 85)) := ⟨rfl, rfl, rfl, by decide +kernel, rfl, by decide +kernel, by decide +kernel⟩
theorem p__law_counts (Y : Txt K mg) : Prm P w ⟨K, mg, T⟩ base 2 (He.fAd K ("_law_counts", none)) F__law_counts := by
  obtain ⟨fd, F⟩ := Y.f__law_counts
  refine Prm.gc (prm_def (k := 1) F sc__law_counts (fun _ _ _ _ _ _ us hl => match us, hl with | [_, _], _ => rfl) fun cdv A outer s H E hr => ?_)
  have tk := takes_def (P := P) (w := w) (c := ⟨K, mg, T⟩) (base := base) (N := ["vat", "way", "size", "some", "k", "small"]) (qual := "_law_counts") (f := (He.fAd K ("_law_counts", none))) (scope := defScope (topS 85)) (cd := cdv) (A := A) (outer := outer) (s := s) (H := H) (E := E)
  have hp := passes_def (P := P) (w := w) (c := ⟨K, mg, T⟩) (base := base) (N := ["vat", "way", "size", "some", "k", "small"]) (qual := "_law_counts") (f := (He.fAd K ("_law_counts", none))) (scope := defScope (topS 85)) (cd := cdv) (A := A) (outer := outer) (s := s) (H := H) (E := E)
  exact (ss_cons (s_set (i := 2) sc__law_counts.nd rfl (.inl rfl) (o_op o_add (m_int) (m_call (p__law_dip Y) (hr.mono (by decide)) tk rfl Y.g__law_dip Y.k__law_dip (a_cons (v_l 0) (a_cons (m_int) a_nil)))))
    (ss_cons (s_set (i := 3) sc__law_counts.nd rfl (.inl rfl) (m_new a_nil))
    (ss_cons (s_for hp rfl (i_rng1 rfl Y.n_range (a_cons (v_l 2) a_nil)) (g_t (q_nm (i := 4) sc__law_counts.nd rfl (.inl rfl)))
      (ss_cons (s_set (i := 5) sc__law_counts.nd rfl (.inl rfl) (o_ix o_idx (m_lst (a_cons (m_int) (a_cons (m_int) (a_cons (m_int) (a_cons (m_int) (a_cons (m_int) (a_cons (m_int) (a_cons (m_int) a_nil)))))))) (m_call (p__law_dip Y) (hr.mono (by decide)) tk rfl Y.g__law_dip Y.k__law_dip (a_cons (v_l 0) (a_cons (m_int) a_nil))) (fun _ _ => rfl)))
    (ss_one (s_expr (m_app (v_l 3) (m_if (ot_cmp (o_eq (hu64 hr)) (v_l 1) (m_int) rfl) (v_l 5) (o_ix o_idx (m_lst (a_cons (v_l 5) (a_cons (o_op o_add (o_op o_pow (m_int) (m_int)) (v_l 5)) (a_cons (o_op o_sub (o_op o_pow (m_int) (m_int)) (v_l 5)) a_nil)))) (m_call (p__law_dip Y) (hr.mono (by decide)) tk rfl Y.g__law_dip Y.k__law_dip (a_cons (v_l 0) (a_cons (m_int) a_nil))) (fun _ _ => rfl))))))))
    (ss_one (s_ret (m_if (ot_cmp o_gt (o_callB (c_sum rfl) rfl Y.n_sum (by decide +kernel) (a_cons (v_l 3) a_nil)) (m_int) rfl) (o_callTy c_tuple rfl Y.n_tuple (by decide +kernel) (a_cons (v_l 3) a_nil)) (o_callTy c_tuple rfl Y.n_tuple (by decide +kernel) (a_cons (o_op o_repL (m_lst (a_cons (m_int) a_nil)) (v_l 2)) a_nil))))))))
theorem sc__law_outcome : FnScope ["act", "came", "e", "names", "word", "pair"] ["act"] (defScope (topS 86)) := ⟨rfl, rfl, rfl, by decide +kernel, rfl, by decide +kernel, by decide +kernel⟩
theorem g__law_outcome (Y : Txt K mg) {X : Cx} (eK : X.K = K) (eM : X.mg = mg) {m : ME} {k : Nat} (g : Addr) (cdv : Value) (q : Str) (hgd : X.A.guards = some []) (hk : 3 ≤ k) : GivesTo k X ["act", "came", "e", "names", "word", "pair"] "_law_outcome" (defScope (topS 86)) g cdv (defBody (topS 86)) "act" q (TTm T X m F__law_outcome) := by
  subst eK eM
  exact gives_lam (by decide) (fun s H θ fx hr hfree act => have hr := hr.mono hk; (ss_cons (s_tryT rfl rfl sc__law_outcome.nd takes0 Y.ex_ok (fun Ec pn xe tk hp => (ss_one (s_set (i := 1) sc__law_outcome.nd rfl (.inl rfl) (act Ec pn xe _ _ tk) (fr := hfree 1 (by decide))))) (.cons (.tup (.cons ⟨rfl, by decide, .inl Y.g_InvalidName⟩ (.cons ⟨rfl, by decide, .inl Y.g_InvalidWish⟩ (.cons ⟨rfl, by decide, .inl Y.g_InvalidIndex⟩ (.cons ⟨rfl, by decide, .inl Y.g_NotRow⟩ (.cons ⟨rfl, by decide, .inl Y.g_UnknownName⟩ .nil))))) (Nat.le_of_ble_eq_true rfl)) (.cons Y.g_InvalidName (.cons Y.g_InvalidWish (.cons Y.g_InvalidIndex (.cons Y.g_NotRow (.cons Y.g_UnknownName .nil))))) (.inr ⟨_, 2, rfl, rfl, rfl, rfl⟩) (fun a oe cls d pn x hz hf mx => (ss_cons (s_set (i := 3) sc__law_outcome.nd rfl (.inl rfl) (m_lst (a_cons (m_lst (a_cons (m_isx (i := 2) rfl (.inl rfl) rfl Y.n_isinstance rfl ⟨_, Y.g_InvalidName⟩ Y.ex_ok Y.xi_ok hz hf) (a_cons (m_str) a_nil))) (a_cons (m_lst (a_cons (m_isx (i := 2) rfl (.inl rfl) rfl Y.n_isinstance rfl ⟨_, Y.g_InvalidWish⟩ Y.ex_ok Y.xi_ok hz hf) (a_cons (m_str) a_nil))) a_nil))) (fr := (by decide : (some 2 : Option Nat) ≠ some 3)))
    (ss_cons (s_set (i := 3) sc__law_outcome.nd rfl (.inl rfl) (o_op o_catL (v_l 3) (m_lst (a_cons (m_lst (a_cons (m_isx (i := 2) rfl (.inl rfl) rfl Y.n_isinstance rfl ⟨_, Y.g_InvalidIndex⟩ Y.ex_ok Y.xi_ok hz hf) (a_cons (m_str) a_nil))) (a_cons (m_lst (a_cons (m_isx (i := 2) rfl (.inl rfl) rfl Y.n_isinstance rfl ⟨_, Y.g_NotRow⟩ Y.ex_ok Y.xi_ok hz hf) (a_cons (m_str) a_nil))) a_nil)))) (fr := (by decide : (some 2 : Option Nat) ≠ some 3)))
    (ss_cons (s_set (i := 4) sc__law_outcome.nd rfl (.inl rfl) (m_join (m_str) (m_lcH (hot_suite hz hf) sc__law_outcome.nd (o_op o_catL (v_l 3) (m_lst (a_cons (m_lst (a_cons (m_isx (i := 2) rfl (.inl rfl) rfl Y.n_isinstance rfl ⟨_, Y.g_UnknownName⟩ Y.ex_ok Y.xi_ok hz hf) (a_cons (m_str) a_nil))) a_nil))) (own := [("pair", 5)]) (blk_by (N := ["act", "came", "e", "names", "word", "pair"]) (sc := defScope (topS 86)) (by decide +kernel)) (by decide) (fun s H C cl fp => (q_nm (i := 5) sc__law_outcome.nd rfl (.inl rfl))) (fun s H C cl fp => (pts_1 (t_val (o_ix o_idx (v_l 5) (m_int) (fun _ _ => rfl))))) (fun s H C cl fp => (o_ix o_idx (v_l 5) (m_int) (fun _ _ => rfl))))) (fr := (by decide : (some 2 : Option Nat) ≠ some 4)))
    (ss_one (s_ret (m_lst (a_cons (v_l 4) (a_cons (h_callB (h_repH (hot_suite hz hf) hgd (huS hr) (.cons ⟨⟨_, _, _, Y.g_Row, Y.d_Row___repr__.1, Y.d_Row___repr__.2.1, Y.d_Row___repr__.2.2.1, Y.d_Row___repr__.2.2.2, ph_Row___repr__ Y, (roomH_suite hr (by decide))⟩⟩ .nil)) rfl Y.n_repr (by decide +kernel) (a_cons (m_xf (i := 2) rfl (.inl rfl) Y.xf_ok_given hz hf) a_nil)) a_nil))))))))) (.cons (.tup (.cons ⟨rfl, by decide, .inl Y.g_InUse⟩ (.cons ⟨rfl, by decide, .inl Y.g_Broken⟩ .nil)) (Nat.le_of_ble_eq_true rfl)) (.cons Y.g_InUse (.cons Y.g_Broken .nil)) (.inr ⟨_, 2, rfl, rfl, rfl, rfl⟩) (fun a oe cls d pn x hz hf mx => (ss_one (s_ret (m_lst (a_cons (m_if (t_val (m_isx (i := 2) rfl (.inl rfl) rfl Y.n_isinstance rfl ⟨_, Y.g_InUse⟩ Y.ex_ok Y.xi_ok hz hf)) (m_str) (m_str)) (a_cons (o_callB (c_repr hgd (huS hr)) rfl Y.n_repr (by decide +kernel) (a_cons (m_xf (i := 2) rfl (.inl rfl) Y.xf_ok_index hz hf) a_nil)) a_nil)))))) (.cons (.one ⟨rfl, by decide, .inl Y.g_NothingToUndo⟩) (.cons Y.g_NothingToUndo .nil) (.inl ⟨rfl, rfl⟩) (fun a oe cls d pn x hz hf mx => (ss_one (s_ret (m_lst (a_cons (m_str) (a_cons (m_str) a_nil)))))) .nil))))
    (ss_one (s_ret (m_lst (a_cons (m_str) (a_cons (o_callB (c_repr hgd (hu64 hr)) rfl Y.n_repr (by decide +kernel) (a_cons (v_l 1) a_nil)) a_nil)))))))
theorem sc__law_store : FnScope ["shelf", "label", "thing"] ["shelf", "label", "thing"] (defScope (topS 87)) := ⟨rfl, rfl, rfl, by decide +kernel, rfl, by decide +kernel, by decide +kernel⟩
theorem p__law_store (Y : Txt K mg) : Prm P w ⟨K, mg, T⟩ base 10 (He.fAd K ("_law_store", none)) F__law_store := by
  obtain ⟨fd, F⟩ := Y.f__law_store
  refine (prm_def (k := 9) F sc__law_store (fun _ _ _ _ _ _ us hl => match us, hl with | [_, _, _], _ => rfl) fun cdv A outer s H E hr => ?_)
  have tk := takes_def (P := P) (w := w) (c := ⟨K, mg, T⟩) (base := base) (N := ["shelf", "label", "thing"]) (qual := "_law_store") (f := (He.fAd K ("_law_store", none))) (scope := defScope (topS 87)) (cd := cdv) (A := A) (outer := outer) (s := s) (H := H) (E := E)
  have hp := passes_def (P := P) (w := w) (c := ⟨K, mg, T⟩) (base := base) (N := ["shelf", "label", "thing"]) (qual := "_law_store") (f := (He.fAd K ("_law_store", none))) (scope := defScope (topS 87)) (cd := cdv) (A := A) (outer := outer) (s := s) (H := H) (E := E)
  exact (ss_one (s_dset (.cons ⟨⟨_, _, _, Y.g_Library, Y.d_Library___setitem__.1, Y.d_Library___setitem__.2.1, Y.d_Library___setitem__.2.2.1, Y.d_Library___setitem__.2.2.2, p_Library___setitem__ Y, (hr.mono (by decide))⟩⟩ .nil) tk (v_l 0) (v_l 1) (v_l 2)))
theorem sc__law_right : FnScope ["vat", "shelf", "first", "mine", "mate", "sure", "thing", "told"] ["vat"] (defScope (topS 88)) := ⟨rfl, rfl, rfl, by decide +kernel, rfl, by decide +kernel, by decide +kernel⟩
theorem p__law_right (Y : Txt K mg) (TB : LamX.TabB base mg (He.cT K ("_law_right", none)).1 (He.cT K ("_law_right", none)).2) : PrmG P w ⟨K, mg, tabL K⟩ base 13 (He.fAd K ("_law_right", none)) F__law_right := by
  obtain ⟨fd, F⟩ := Y.f__law_right
  refine (prmg_defL (k := 12) F sc__law_right (fun _ _ _ _ _ _ us hl => match us, hl with | [_], _ => rfl) fun A outer s H E hr hg => ?_)
  have tk := takes_def (P := P) (w := w) (c := ⟨K, mg, tabL K⟩) (base := base) (N := ["vat", "shelf", "first", "mine", "mate", "sure", "thing", "told"]) (qual := "_law_right") (f := (He.fAd K ("_law_right", none))) (scope := defScope (topS 88)) (cd := (.ref (He.cT K ("_law_right", none)).1)) (A := A) (outer := outer) (s := s) (H := H) (E := E)
  have hp := passes_def (P := P) (w := w) (c := ⟨K, mg, tabL K⟩) (base := base) (N := ["vat", "shelf", "first", "mine", "mate", "sure", "thing", "told"]) (qual := "_law_right") (f := (He.fAd K ("_law_right", none))) (scope := defScope (topS 88)) (cd := (.ref (He.cT K ("_law_right", none)).1)) (A := A) (outer := outer) (s := s) (H := H) (E := E)
  have hgd : (defCx P w ⟨K, mg, tabL K⟩ base ["vat", "shelf", "first", "mine", "mate", "sure", "thing", "told"] "_law_right" (defScope (topS 88)) (He.fAd K ("_law_right", none)) (.ref (He.cT K ("_law_right", none)).1) A outer s H E).A.guards = some [] := hg
  exact (ss_cons (s_set (i := 1) sc__law_right.nd rfl (.inr rfl) (m_make0 ⟨⟨_, _, _, _, Y.g_Library, Y.mk_Library, p_Library___init__ Y, told_Library, hr.mono (by decide)⟩⟩ tk rfl))
    (ss_cons (s_set (i := 2) sc__law_right.nd rfl (.inl rfl) (m_lst (a_cons (m_attr (at_prop ⟨_, _, _, Y.g_Library, Y.c_Library, Y.p_Library_names.choose_spec, p_Library_names Y⟩ (hr.mono (by decide))) (v_c 1)) (a_cons (m_attr (at_prop ⟨_, _, _, Y.g_Library, Y.c_Library, Y.p_Library_wishes.choose_spec, p_Library_wishes Y⟩ (hr.mono (by decide))) (v_c 1)) (a_cons (m_attr (at_prop ⟨_, _, _, Y.g_Library, Y.c_Library, Y.p_Library_changes.choose_spec, p_Library_changes Y⟩ (hr.mono (by decide))) (v_c 1)) (a_cons (h_callB (h_len (.cons ⟨⟨_, _, _, Y.g_Row, Y.d_Row___len__.1, Y.d_Row___len__.2.1, Y.d_Row___len__.2.2.1, Y.d_Row___len__.2.2.2, p_Row___len__ Y, (hr.mono (by decide))⟩⟩ (.cons ⟨⟨_, _, _, Y.g_Library, Y.d_Library___len__.1, Y.d_Library___len__.2.1, Y.d_Library___len__.2.2.1, Y.d_Library___len__.2.2.2, p_Library___len__ Y, (hr.mono (by decide))⟩⟩ .nil))) rfl Y.n_len (by decide +kernel) (a_cons (v_c 1) a_nil)) (a_cons (h_callTy (h_bool (.cons ⟨⟨_, _, _, Y.g_Library, Y.d_Library___bool__.1, Y.d_Library___bool__.2.1, Y.d_Library___bool__.2.2.1, Y.d_Library___bool__.2.2.2, p_Library___bool__ Y, (hr.mono (by decide))⟩⟩ .nil)) rfl Y.n_bool (by decide +kernel) (a_cons (v_c 1) a_nil)) (a_cons (o_cmp (o_eqId (Nat.lt_of_le_of_lt (Nat.add_le_add_left (by decide : 1 ≤ 64) _) (hu64 hr)) ⟨⟨_, Y.g_Library, Y.id_Library.1, Y.id_Library.2.1, Y.id_Library.2.2⟩⟩) (v_c 1) (m_make0 ⟨⟨_, _, _, _, Y.g_Library, Y.mk_Library, p_Library___init__ Y, told_Library, hr.mono (by decide)⟩⟩ tk rfl) rfl) (a_cons (o_cmp (o_neId (Nat.lt_of_le_of_lt (Nat.add_le_add_left (by decide : 1 ≤ 64) _) (hu64 hr)) ⟨⟨_, Y.g_Library, Y.id_Library.1, Y.id_Library.2.1, Y.id_Library.2.2⟩⟩) (v_c 1) (m_make0 ⟨⟨_, _, _, _, Y.g_Library, Y.mk_Library, p_Library___init__ Y, told_Library, hr.mono (by decide)⟩⟩ tk rfl) rfl) a_nil)))))))))
    (ss_cons (s_if (PW.pt (t_or (ot_cmp (o_ne (hu64 hr)) (o_callB (c_repr hgd (hu64 hr)) rfl Y.n_repr (by decide +kernel) (a_cons (v_l 2) a_nil)) (o_callB (c_repr hgd (hu64 hr)) rfl Y.n_repr (by decide +kernel) (a_cons (m_lst (a_cons (m_tup a_nil) (a_cons (m_tup a_nil) (a_cons (m_int) (a_cons (m_int) (a_cons (m_bl) (a_cons (m_bl) (a_cons (m_bl) a_nil)))))))) a_nil)) rfl) (t_or1 (ot_cmp (o_ne (hu64 hr)) (m_lamF (k := 4) (a := "act") (F := F__law_outcome) rfl Y.g__law_outcome Y.x__law_outcome.choose_spec (fun _ _ _ _ _ _ us hl => match us, hl with | [_], _ => rfl) sc__law_outcome rfl (.inl rfl) (fun cdv => g__law_outcome Y rfl rfl _ cdv _ hgd (by decide)) TB rfl (List.mem_cons_self ..) (tabL_one K) (hr.mono (by decide)) (LamX.lamS_by (by first | rfl | decide +kernel)) rfl (fun _ _ _ _ _ => rfl) (fun A outer s H E f c' hr => have tk := takes_lam (X := _) ; (m_meth0 (.cons ⟨⟨_, _, _, Y.g_Library, Y.c_Library, Y.m_Library_undo, p_Library_undo Y, (hr.mono (by decide))⟩⟩ .nil) tk (v_f 1)))) (m_lst (a_cons (m_str) (a_cons (m_str) a_nil))) rfl))))
      (ss_one (s_ret (m_bl)))
      ss_nil)
    (ss_cons (s_par (i := 3) (j := 4) rfl sc__law_right.nd rfl rfl (by decide) rfl rfl (a_cons (m_make ⟨⟨_, _, _, _, Y.g_Row, Y.mk_Row, p_Row___init__ Y, told_Row, hr.mono (by decide)⟩⟩ tk rfl (a_cons (m_call (p__law_counts Y) (hr.mono (by decide)) tk rfl Y.g__law_counts Y.k__law_counts (a_cons (v_c 0) (a_cons (m_int) a_nil))) a_nil)) (a_cons (m_make ⟨⟨_, _, _, _, Y.g_Row, Y.mk_Row, p_Row___init__ Y, told_Row, hr.mono (by decide)⟩⟩ tk rfl (a_cons (m_call (p__law_counts Y) (hr.mono (by decide)) tk rfl Y.g__law_counts Y.k__law_counts (a_cons (v_c 0) (a_cons (m_int) a_nil))) a_nil)) a_nil)) (by rfl))
    (ss_cons (s_expr (m_call (p__law_store Y) (hr.mono (by decide)) tk rfl Y.g__law_store Y.k__law_store (a_cons (v_c 1) (a_cons (m_str) (a_cons (v_l 3) a_nil)))))
    (ss_cons (s_expr (m_call (p__law_store Y) (hr.mono (by decide)) tk rfl Y.g__law_store Y.k__law_store (a_cons (v_c 1) (a_cons (m_str) (a_cons (v_l 4) a_nil)))))
    (ss_cons (s_set (i := 5) sc__law_right.nd rfl (.inl rfl) (m_tup (a_cons (m_str) (a_cons (m_int) (a_cons (m_tup (a_cons (m_int) (a_cons (m_int) a_nil))) a_nil)))))
    (ss_cons (s_if (ot_cmp o_notN (m_meth (.cons ⟨⟨_, _, _, Y.g_Library, Y.c_Library, Y.m_Library_wish, p_Library_wish Y, (hr.mono (by decide))⟩⟩ .nil) tk (v_c 1) (a_cons (m_str) (a_cons (v_l 5) a_nil))) (m_non) rfl)
      (ss_one (s_ret (m_bl)))
      ss_nil)
    (ss_cons (s_for hp rfl (i_seq (m_lst (a_cons (m_non) (a_cons (m_str) (a_cons (m_str) (a_cons (m_str) (a_cons (m_str) (a_cons (m_str) (a_cons (m_str) (a_cons (m_int) (a_cons (m_tup (a_cons (m_str) a_nil)) (a_cons (m_lst a_nil) (a_cons (m_dic0) (a_cons (m_bl) (a_cons (v_l 3) a_nil))))))))))))))) (g_t (q_nm (i := 6) sc__law_right.nd rfl (.inr rfl)))
      (ss_one (s_if (ot_cmp (o_ne (hu64 hr)) (m_lamF (k := 10) (a := "act") (F := F__law_outcome) rfl Y.g__law_outcome Y.x__law_outcome.choose_spec (fun _ _ _ _ _ _ us hl => match us, hl with | [_], _ => rfl) sc__law_outcome rfl (.inl rfl) (fun cdv => g__law_outcome Y rfl rfl _ cdv _ hgd (by decide)) TB rfl (List.mem_cons_self ..) (tabL_one K) (hr.mono (by decide)) (LamX.lamS_by (by first | rfl | decide +kernel)) rfl (fun _ _ _ _ _ => rfl) (fun A outer s H E f c' hr => have tk := takes_lam (X := _) ; (m_call (p__law_store Y) (hr.mono (by decide)) tk rfl Y.g__law_store Y.k__law_store (a_cons (v_f 1) (a_cons (v_f 6) (a_cons (m_non) a_nil)))))) (m_lst (a_cons (m_str) (a_cons (h_callB (h_rep hgd (hu64 hr) (.cons ⟨⟨_, _, _, Y.g_Row, Y.d_Row___repr__.1, Y.d_Row___repr__.2.1, Y.d_Row___repr__.2.2.1, Y.d_Row___repr__.2.2.2, p_Row___repr__ Y, (hr.mono (by decide))⟩⟩ .nil)) rfl Y.n_repr (by decide +kernel) (a_cons (v_c 6) a_nil)) a_nil))) rfl)
      (ss_one (s_ret (m_bl)))
      ss_nil)))
    (ss_cons (s_for hp rfl (i_seq (m_lst (a_cons (m_non) (a_cons (m_attr (at_sprop ⟨_, _, _, Y.g_Row, Y.c_Row, Y.ic_Row, Y.p_Row_text.choose_spec, p_Row_text Y⟩ (hr.mono (by decide))) (v_l 3)) (a_cons (m_attr (at_sprop ⟨_, _, _, Y.g_Row, Y.c_Row, Y.ic_Row, Y.p_Row_counts.choose_spec, p_Row_counts Y⟩ (hr.mono (by decide))) (v_l 3)) (a_cons (m_tup (a_cons (v_l 3) a_nil)) (a_cons (m_int) (a_cons (m_bl) (a_cons (m_dic0) (a_cons (m_str) a_nil)))))))))) (g_t (q_nm (i := 6) sc__law_right.nd rfl (.inr rfl)))
      (ss_one (s_if (ot_cmp (o_ne (hu64 hr)) (m_lamF (k := 10) (a := "act") (F := F__law_outcome) rfl Y.g__law_outcome Y.x__law_outcome.choose_spec (fun _ _ _ _ _ _ us hl => match us, hl with | [_], _ => rfl) sc__law_outcome rfl (.inl rfl) (fun cdv => g__law_outcome Y rfl rfl _ cdv _ hgd (by decide)) TB rfl (List.mem_cons_self ..) (tabL_one K) (hr.mono (by decide)) (LamX.lamS_by (by first | rfl | decide +kernel)) rfl (fun _ _ _ _ _ => rfl) (fun A outer s H E f c' hr => have tk := takes_lam (X := _) ; (m_call (p__law_store Y) (hr.mono (by decide)) tk rfl Y.g__law_store Y.k__law_store (a_cons (v_f 1) (a_cons (o_ix o_idx (m_lst (a_cons (m_str) (a_cons (m_str) a_nil))) (m_call (p__law_dip Y) (hr.mono (by decide)) tk rfl Y.g__law_dip Y.k__law_dip (a_cons (v_f 0) (a_cons (m_int) a_nil))) (fun _ _ => rfl)) (a_cons (v_f 6) a_nil)))))) (m_lst (a_cons (m_str) (a_cons (h_callB (h_rep hgd (hu64 hr) (.cons ⟨⟨_, _, _, Y.g_Row, Y.d_Row___repr__.1, Y.d_Row___repr__.2.1, Y.d_Row___repr__.2.2.1, Y.d_Row___repr__.2.2.2, p_Row___repr__ Y, (hr.mono (by decide))⟩⟩ .nil)) rfl Y.n_repr (by decide +kernel) (a_cons (v_c 6) a_nil)) a_nil))) rfl)
      (ss_one (s_ret (m_bl)))
      ss_nil)))
    (ss_cons (s_for hp rfl (i_seq (m_lst (a_cons (m_non) (a_cons (m_str) (a_cons (m_str) (a_cons (m_str) (a_cons (m_int) (a_cons (m_bl) (a_cons (m_tup (a_cons (m_str) a_nil)) (a_cons (m_lst (a_cons (m_str) a_nil)) (a_cons (m_dic0) (a_cons (v_l 3) a_nil)))))))))))) (g_t (q_nm (i := 6) sc__law_right.nd rfl (.inr rfl)))
      (ss_cons (s_set (i := 7) sc__law_right.nd rfl (.inl rfl) (m_new (a_cons (m_lamF (k := 6) (a := "act") (F := F__law_outcome) rfl Y.g__law_outcome Y.x__law_outcome.choose_spec (fun _ _ _ _ _ _ us hl => match us, hl with | [_], _ => rfl) sc__law_outcome rfl (.inl rfl) (fun cdv => g__law_outcome Y rfl rfl _ cdv _ hgd (by decide)) TB rfl (List.mem_cons_self ..) (tabL_one K) (hr.mono (by decide)) (LamX.lamS_by (by first | rfl | decide +kernel)) rfl (fun _ _ _ _ _ => rfl) (fun A outer s H E f c' hr => have tk := takes_lam (X := _) ; (m_dsub (.cons ⟨⟨_, _, _, Y.g_Library, Y.d_Library___getitem__.1, Y.d_Library___getitem__.2.1, Y.d_Library___getitem__.2.2.1, Y.d_Library___getitem__.2.2.2, p_Library___getitem__ Y, (hr.mono (by decide))⟩⟩ .nil) tk (v_f 1) (v_f 6)))) a_nil)))
    (ss_cons (s_expr (m_app (v_l 7) (m_lamF (k := 4) (a := "act") (F := F__law_outcome) rfl Y.g__law_outcome Y.x__law_outcome.choose_spec (fun _ _ _ _ _ _ us hl => match us, hl with | [_], _ => rfl) sc__law_outcome rfl (.inl rfl) (fun cdv => g__law_outcome Y rfl rfl _ cdv _ hgd (by decide)) TB rfl (List.mem_cons_self ..) (tabL_one K) (hr.mono (by decide)) (LamX.lamS_by (by first | rfl | decide +kernel)) rfl (fun _ _ _ _ _ => rfl) (fun A outer s H E f c' hr => have tk := takes_lam (X := _) ; (m_meth (.cons ⟨⟨_, _, _, Y.g_Library, Y.c_Library, Y.m_Library_remove, p_Library_remove Y, (hr.mono (by decide))⟩⟩ .nil) tk (v_f 1) (a_cons (v_f 6) a_nil))))))
    (ss_cons (s_expr (m_app (v_l 7) (m_lamF (k := 7) (a := "act") (F := F__law_outcome) rfl Y.g__law_outcome Y.x__law_outcome.choose_spec (fun _ _ _ _ _ _ us hl => match us, hl with | [_], _ => rfl) sc__law_outcome rfl (.inl rfl) (fun cdv => g__law_outcome Y rfl rfl _ cdv _ hgd (by decide)) TB rfl (List.mem_cons_self ..) (tabL_one K) (hr.mono (by decide)) (LamX.lamS_by (by first | rfl | decide +kernel)) rfl (fun _ _ _ _ _ => rfl) (fun A outer s H E f c' hr => have tk := takes_lam (X := _) ; (m_meth (.cons ⟨⟨_, _, _, Y.g_Library, Y.c_Library, Y.m_Library_wish, p_Library_wish Y, (hr.mono (by decide))⟩⟩ .nil) tk (v_f 1) (a_cons (v_f 6) (a_cons (m_non) a_nil)))))))
    (ss_one (s_if (PW.pt (t_or (ot_cmp (o_ne (hu64 hr)) (v_l 7) (o_op o_repL (m_lst (a_cons (m_lst (a_cons (m_str) (a_cons (h_callB (h_rep hgd (hu64 hr) (.cons ⟨⟨_, _, _, Y.g_Row, Y.d_Row___repr__.1, Y.d_Row___repr__.2.1, Y.d_Row___repr__.2.2.1, Y.d_Row___repr__.2.2.2, p_Row___repr__ Y, (hr.mono (by decide))⟩⟩ .nil)) rfl Y.n_repr (by decide +kernel) (a_cons (v_c 6) a_nil)) a_nil))) a_nil)) (m_int)) rfl) (t_or1 (t_dhas (.cons ⟨⟨_, _, _, Y.g_Library, Y.d_Library___contains__.1, Y.d_Library___contains__.2.1, Y.d_Library___contains__.2.2.1, Y.d_Library___contains__.2.2.2, p_Library___contains__ Y, (hr.mono (by decide))⟩⟩ .nil) tk (v_c 6) (v_c 1) rfl))))
      (ss_one (s_ret (m_bl)))
      ss_nil))))))
    (ss_cons (s_for hp rfl (i_seq (m_lst (a_cons (m_non) (a_cons (m_bl) (a_cons (m_bl) (a_cons (o_un o_neg (m_int)) (a_cons (m_int) (a_cons (m_int) (a_cons (m_str) (a_cons (m_tup (a_cons (m_int) a_nil)) (a_cons (m_lst (a_cons (m_int) a_nil)) (a_cons (m_dic0) (a_cons (o_op o_pow (m_int) (m_int)) a_nil))))))))))))) (g_t (q_nm (i := 6) sc__law_right.nd rfl (.inr rfl)))
      (ss_cons (s_set (i := 7) sc__law_right.nd rfl (.inl rfl) (m_new (a_cons (m_lamF (k := 4) (a := "act") (F := F__law_outcome) rfl Y.g__law_outcome Y.x__law_outcome.choose_spec (fun _ _ _ _ _ _ us hl => match us, hl with | [_], _ => rfl) sc__law_outcome rfl (.inl rfl) (fun cdv => g__law_outcome Y rfl rfl _ cdv _ hgd (by decide)) TB rfl (List.mem_cons_self ..) (tabL_one K) (hr.mono (by decide)) (LamX.lamS_by (by first | rfl | decide +kernel)) rfl (fun _ _ _ _ _ => rfl) (fun A outer s H E f c' hr => have tk := takes_lam (X := _) ; (m_meth (.cons ⟨⟨_, _, _, Y.g_Library, Y.c_Library, Y.m_Library_lift, p_Library_lift Y, (hr.mono (by decide))⟩⟩ .nil) tk (v_f 1) (a_cons (v_f 6) a_nil)))) a_nil)))
    (ss_cons (s_expr (m_app (v_l 7) (m_lamF (k := 4) (a := "act") (F := F__law_outcome) rfl Y.g__law_outcome Y.x__law_outcome.choose_spec (fun _ _ _ _ _ _ us hl => match us, hl with | [_], _ => rfl) sc__law_outcome rfl (.inl rfl) (fun cdv => g__law_outcome Y rfl rfl _ cdv _ hgd (by decide)) TB rfl (List.mem_cons_self ..) (tabL_one K) (hr.mono (by decide)) (LamX.lamS_by (by first | rfl | decide +kernel)) rfl (fun _ _ _ _ _ => rfl) (fun A outer s H E f c' hr => have tk := takes_lam (X := _) ; (m_methK (ks := ["index"]) (pi := [0]) (.cons ⟨⟨_, _, _, Y.g_Library, Y.c_Library, Y.m_Library_lift, pk_Library_lift Y, (hr.mono (by decide))⟩⟩ .nil) tk (v_f 1) (k_cons (v_f 6) k_nil))))))
    (ss_one (s_if (ot_cmp (o_ne (hu64 hr)) (v_l 7) (o_op o_repL (m_lst (a_cons (m_lst (a_cons (m_str) (a_cons (h_callB (h_rep hgd (hu64 hr) (.cons ⟨⟨_, _, _, Y.g_Row, Y.d_Row___repr__.1, Y.d_Row___repr__.2.1, Y.d_Row___repr__.2.2.1, Y.d_Row___repr__.2.2.2, p_Row___repr__ Y, (hr.mono (by decide))⟩⟩ .nil)) rfl Y.n_repr (by decide +kernel) (a_cons (v_c 6) a_nil)) a_nil))) a_nil)) (m_int)) rfl)
      (ss_one (s_ret (m_bl)))
      ss_nil)))))
    (ss_cons (s_set (i := 7) sc__law_right.nd rfl (.inl rfl) (m_lst (a_cons (m_attr (at_prop ⟨_, _, _, Y.g_Library, Y.c_Library, Y.p_Library_names.choose_spec, p_Library_names Y⟩ (hr.mono (by decide))) (v_c 1)) (a_cons (m_attr (at_prop ⟨_, _, _, Y.g_Library, Y.c_Library, Y.p_Library_wishes.choose_spec, p_Library_wishes Y⟩ (hr.mono (by decide))) (v_c 1)) (a_cons (m_attr (at_prop ⟨_, _, _, Y.g_Library, Y.c_Library, Y.p_Library_changes.choose_spec, p_Library_changes Y⟩ (hr.mono (by decide))) (v_c 1)) (a_cons (m_attr (at_sprop ⟨_, _, _, Y.g_Row, Y.c_Row, Y.ic_Row, Y.p_Row_text.choose_spec, p_Row_text Y⟩ (hr.mono (by decide))) (m_dsub (.cons ⟨⟨_, _, _, Y.g_Library, Y.d_Library___getitem__.1, Y.d_Library___getitem__.2.1, Y.d_Library___getitem__.2.2.1, Y.d_Library___getitem__.2.2.2, p_Library___getitem__ Y, (hr.mono (by decide))⟩⟩ .nil) tk (v_c 1) (m_str))) (a_cons (m_dhas (.cons ⟨⟨_, _, _, Y.g_Library, Y.d_Library___contains__.1, Y.d_Library___contains__.2.1, Y.d_Library___contains__.2.2.1, Y.d_Library___contains__.2.2.2, p_Library___contains__ Y, (hr.mono (by decide))⟩⟩ .nil) tk (m_str) (v_c 1) rfl) a_nil)))))))
    (ss_cons (s_if (ot_cmp (o_ne (hu64 hr)) (v_l 7) (m_lst (a_cons (m_tup (a_cons (m_str) (a_cons (m_str) a_nil))) (a_cons (m_tup (a_cons (m_tup (a_cons (m_str) (a_cons (v_l 5) a_nil))) a_nil)) (a_cons (m_int) (a_cons (m_attr (at_sprop ⟨_, _, _, Y.g_Row, Y.c_Row, Y.ic_Row, Y.p_Row_text.choose_spec, p_Row_text Y⟩ (hr.mono (by decide))) (v_l 3)) (a_cons (m_bl) a_nil)))))) rfl)
      (ss_one (s_ret (m_bl)))
      ss_nil)
    (ss_cons (s_if (PW.pt (t_or (ot_cmp (o_ne (hu64 hr)) (m_lamF (k := 4) (a := "act") (F := F__law_outcome) rfl Y.g__law_outcome Y.x__law_outcome.choose_spec (fun _ _ _ _ _ _ us hl => match us, hl with | [_], _ => rfl) sc__law_outcome rfl (.inl rfl) (fun cdv => g__law_outcome Y rfl rfl _ cdv _ hgd (by decide)) TB rfl (List.mem_cons_self ..) (tabL_one K) (hr.mono (by decide)) (LamX.lamS_by (by first | rfl | decide +kernel)) rfl (fun _ _ _ _ _ => rfl) (fun A outer s H E f c' hr => have tk := takes_lam (X := _) ; (m_meth (.cons ⟨⟨_, _, _, Y.g_Library, Y.c_Library, Y.m_Library_remove, p_Library_remove Y, (hr.mono (by decide))⟩⟩ .nil) tk (v_f 1) (a_cons (m_str) a_nil)))) (m_lst (a_cons (m_str) (a_cons (m_str) a_nil))) rfl) (t_or1 (ot_cmp o_notN (m_meth (.cons ⟨⟨_, _, _, Y.g_Library, Y.c_Library, Y.m_Library_remove, p_Library_remove Y, (hr.mono (by decide))⟩⟩ .nil) tk (v_c 1) (a_cons (m_str) a_nil)) (m_non) rfl))))
      (ss_one (s_ret (m_bl)))
      ss_nil)
    (ss_one (s_ret (o_cmp (o_eq (hu64 hr)) (m_lst (a_cons (m_methK (ks := ["index"]) (pi := [0]) (.cons ⟨⟨_, _, _, Y.g_Library, Y.c_Library, Y.m_Library_lift, pk_Library_lift Y, (hr.mono (by decide))⟩⟩ .nil) tk (v_c 1) (k_cons (m_int) k_nil)) (a_cons (m_meth (.cons ⟨⟨_, _, _, Y.g_Library, Y.c_Library, Y.m_Library_remove, p_Library_remove Y, (hr.mono (by decide))⟩⟩ .nil) tk (v_c 1) (a_cons (m_str) a_nil)) (a_cons (m_attr (at_prop ⟨_, _, _, Y.g_Library, Y.c_Library, Y.p_Library_names.choose_spec, p_Library_names Y⟩ (hr.mono (by decide))) (v_c 1)) (a_cons (h_callB (h_len (.cons ⟨⟨_, _, _, Y.g_Row, Y.d_Row___len__.1, Y.d_Row___len__.2.1, Y.d_Row___len__.2.2.1, Y.d_Row___len__.2.2.2, p_Row___len__ Y, (hr.mono (by decide))⟩⟩ (.cons ⟨⟨_, _, _, Y.g_Library, Y.d_Library___len__.1, Y.d_Library___len__.2.1, Y.d_Library___len__.2.2.1, Y.d_Library___len__.2.2.2, p_Library___len__ Y, (hr.mono (by decide))⟩⟩ .nil))) rfl Y.n_len (by decide +kernel) (a_cons (v_c 1) a_nil)) (a_cons (m_attr (at_prop ⟨_, _, _, Y.g_Library, Y.c_Library, Y.p_Library_changes.choose_spec, p_Library_changes Y⟩ (hr.mono (by decide))) (v_c 1)) a_nil)))))) (m_lst (a_cons (m_non) (a_cons (m_non) (a_cons (m_tup a_nil) (a_cons (m_int) (a_cons (m_int) a_nil)))))) rfl))))))))))))))))))
theorem sc__law_quiet : FnScope ["vat", "is_right"] ["vat"] (defScope (topS 89)) := ⟨rfl, rfl, rfl, by decide +kernel, rfl, by decide +kernel, by decide +kernel⟩
theorem p__law_quiet (Y : Txt K mg) (TB : LamX.TabB base mg (He.cT K ("_law_right", none)).1 (He.cT K ("_law_right", none)).2) : PrmG P w ⟨K, mg, tabL K⟩ base 14 (He.fAd K ("_law_quiet", none)) F__law_quiet := by
  obtain ⟨fd, F⟩ := Y.f__law_quiet
  refine (prmg_def (k := 13) F sc__law_quiet (fun _ _ _ _ _ _ us hl => match us, hl with | [_], _ => rfl) fun cdv A outer s H E hr hg => ?_)
  have tk := takes_def (P := P) (w := w) (c := ⟨K, mg, tabL K⟩) (base := base) (N := ["vat", "is_right"]) (qual := "_law_quiet") (f := (He.fAd K ("_law_quiet", none))) (scope := defScope (topS 89)) (cd := cdv) (A := A) (outer := outer) (s := s) (H := H) (E := E)
  have hp := passes_def (P := P) (w := w) (c := ⟨K, mg, tabL K⟩) (base := base) (N := ["vat", "is_right"]) (qual := "_law_quiet") (f := (He.fAd K ("_law_quiet", none))) (scope := defScope (topS 89)) (cd := cdv) (A := A) (outer := outer) (s := s) (H := H) (E := E)
  have hgd : (defCx P w ⟨K, mg, tabL K⟩ base ["vat", "is_right"] "_law_quiet" (defScope (topS 89)) (He.fAd K ("_law_quiet", none)) cdv A outer s H E).A.guards = some [] := hg
  exact (ss_cons (s_try rfl rfl sc__law_quiet.nd tk True.intro Y.ex_ok (fun W' pn xe tk hp => (ss_one (s_set (i := 1) sc__law_quiet.nd rfl (.inl rfl) (m_callG (p__law_right Y TB) (hr.mono (by decide)) hgd tk rfl Y.g__law_right Y.k__law_right (a_cons (v_l 0) a_nil))))) (.cons (.tup (.cons ⟨rfl, by decide, .inl Y.g_WrongValue⟩ (.cons ⟨rfl, by decide, .inl Y.g_WrongName⟩ (.cons ⟨rfl, by decide, .inl Y.g_NotPossible⟩ .nil))) (Nat.le_of_ble_eq_true rfl)) (.cons Y.g_WrongValue (.cons Y.g_WrongName (.cons Y.g_NotPossible .nil))) (.inl ⟨rfl, rfl⟩) (fun a oe cls d pn x hz hf mx => (ss_one (s_ret (m_bl)))) .nil))
    (ss_one (s_ret (v_l 1))))
theorem sc_law : FnScope ["script", "at"] ["script"] (defScope (topS 90)) := ⟨rfl, rfl, rfl, by decide +kernel, rfl, by decide +kernel, by decide +kernel⟩
theorem p_law (Y : Txt K mg) (TB : LamX.TabB base mg (He.cT K ("_law_right", none)).1 (He.cT K ("_law_right", none)).2) : PrmG P w ⟨K, mg, tabL K⟩ base 15 (He.fAd K ("law", none)) F_law := by
  obtain ⟨fd, F⟩ := Y.f_law
  refine (prmg_def (k := 14) F sc_law (fun _ _ _ _ _ _ us hl => match us, hl with | [_], _ => rfl) fun cdv A outer s H E hr hg => ?_)
  have tk := takes_def (P := P) (w := w) (c := ⟨K, mg, tabL K⟩) (base := base) (N := ["script", "at"]) (qual := "law") (f := (He.fAd K ("law", none))) (scope := defScope (topS 90)) (cd := cdv) (A := A) (outer := outer) (s := s) (H := H) (E := E)
  have hp := passes_def (P := P) (w := w) (c := ⟨K, mg, tabL K⟩) (base := base) (N := ["script", "at"]) (qual := "law") (f := (He.fAd K ("law", none))) (scope := defScope (topS 90)) (cd := cdv) (A := A) (outer := outer) (s := s) (H := H) (E := E)
  have hgd : (defCx P w ⟨K, mg, tabL K⟩ base ["script", "at"] "law" (defScope (topS 90)) (He.fAd K ("law", none)) cdv A outer s H E).A.guards = some [] := hg
  exact (ss_one (s_ret (o_callB (c_all rfl) rfl Y.n_all (by decide +kernel) (a_cons (m_lc rfl sc_law.nd (i_rng1 rfl Y.n_range (a_cons (o_callB (c_max2 rfl) rfl Y.n_max (by decide +kernel) (a_cons (m_int) (a_cons (o_callB (c_min2 rfl) rfl Y.n_min (by decide +kernel) (a_cons (o_callB c_len rfl Y.n_len (by decide +kernel) (a_cons (v_c 0) a_nil)) (a_cons (m_int) a_nil))) a_nil))) a_nil)) (own := [("at", 1)]) (blk_by (N := ["script", "at"]) (sc := defScope (topS 90)) (by decide +kernel)) (by decide) (fun s H C cl fp => (q_nm (i := 1) sc_law.nd rfl (.inl rfl))) (fun s H C cl fp => pts_no) (fun s H C cl fp => (m_gc (m_callG (p__law_quiet Y TB) (hr.mono (by decide)) hgd takes0 rfl Y.g__law_quiet Y.k__law_quiet (a_cons (m_call (p__law_vat Y) (hr.mono (by decide)) takes0 rfl Y.g__law_vat Y.k__law_vat (a_cons (v_c 0) (a_cons (v_l 1) a_nil))) a_nil))))) a_nil))))
end
end ML
/-! the text W1Law -/

/-! the text W1End -/
/-! the end. Printed by gen.py. -/
namespace ML
open PySem PySem.Spec PyProof.Rows L2
theorem law_walk : PySem.W.WalkO qv nmsAll (PySem.W.XL qv []) hk.says RL.toRowW (HandSHeadRun.topDef RL.prog 90) [] (fun f vs => PySem.call f vs) := by
  refine walkG (l := PySem.Challenge.rw_drawnmore_k61_libraries_made_and_refused) (n := 63) (k := 15) (F := F_law) rfl (by decide) (by kernel_rfl) ⟨rfl, by decide, by decide⟩ ?_ law_plain
  intro w mg fa h Z G hm0
  obtain ⟨K, KX, c⟩ := Z
  have hm : mg ("law" : PySem.Str) = some (.ref fa) := by
    have e : (HandSHeadRun.topDef RL.prog 90).name = ("law" : PySem.Str) := by kernel_rfl
    rw [← e]
    exact hm0
  have Y : Txt K mg := txt_of KX G c
  have ef : fa = He.ga K "law" := by
    have := hm.symm.trans Y.g_law
    cases this
    rfl
  subst ef
  refine ⟨K, [He.cT K ("_law_right", none)], tabL K, KX, ?_, ?_, ?_, ?_, fun base KB GB TB => p_law Y (TB _ (List.mem_singleton.mpr rfl))⟩
  · intro p hp; rw [List.mem_singleton.mp hp]; exact c.empty ("_law_right", none) (List.mem_singleton.mpr rfl)
  · intro p hp; rw [List.mem_singleton.mp hp]; exact c.out ("_law_right", none) (List.mem_singleton.mpr rfl)
  · intro p hp; rw [List.mem_singleton.mp hp]; exact PySem.W.codeHd_of_K KX (c.hd ("_law_right", none) (List.mem_singleton.mpr rfl))
  · intro q hq; rw [List.mem_singleton.mp hq]; exact List.mem_singleton.mpr rfl
end ML
open PySem PySem.W PySem.Calls PyProof.Rows
set_option maxRecDepth 100000 in
set_option maxHeartbeats 0 in
theorem PySem.Challenge.cw_drawnmore_k61_libraries_made_and_refused_holds : PySem.Challenge.rw_drawnmore_k61_libraries_made_and_refused.Holds := by
  w_on; o_law
  refine HandSHeadRun.head_any (r := ML.RL) (q := ML.qv) (H := ML.hk) (ob := ML.ob) (M := 60000) (loose := ML.nmsAll) (d := HandSHeadRun.topDef ML.RL.prog 90) (kwd := []) ML.ob_eq
    (by kernel_rfl) (fun s => by kernel_rfl) ML.run (by kernel_rfl) (by kernel_rfl) (by kernel_rfl) (by rfl) (by first | assumption | decide +kernel) (by decide +kernel) ⟨rfl, rfl, rfl, rfl, rfl, by decide +kernel⟩ ?hw ?hc
  case hw => w_witness2
  case hc => exact ML.law_walk
