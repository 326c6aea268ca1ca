import PyProof.Rows.All
import Wide.All
import OpenK.AllK
import Wide.FinOn
import PyProof.EqAt
import PyProof.EqKinds
import PyProof.TupleCall
import KE.KExcInit
import HandS.Base
import HandS.Call
import HandS.List
import HandS.Ends
import HandS.Exc
import HandS.ExcOwn
import HandS.ExcInit
import HandS.ExcValue
import HandS.ExcField
import HandS.ExcIs
import HandS.IsInst
import HandS.Defaults
import HandS.CallSlots
import HandS.HeadEnd
import HandS.Conv
import HandS.Dict
import HandS.SetFor
import HandS.WideBits
import PyProof.ReprRoads
import PyProof.ReprBulk
import PyProof.RowDictHeap
import KE.KStateDown
import HandS.ForMost
import HandS.Walk
import HandS.Zip
import HandS.Wide
import HandS.Property
import HandS.TupAny
import HandS.TupMul
import HandS.More
import HandS.Words
import HandS.WordsExc
import HandS.Head0
import HandS.Head1
import HandS.Head2
import HandS.HeadHook1
import HandS.HeadHook2
import PySem.Challenge.RW_meetrounds_k01_limits_and_errors
set_option Elab.async false
set_option linter.all false
set_option maxRecDepth 100000
set_option maxHeartbeats 4000000
/-! exceptions of own classes with one field, any base; as values -/
namespace PySem
namespace Zx
open PySem.W PySem.Calls PyProof.Rows PySem.HandSPX
open Builtin Builtin.ObjectAttr
section
variable {M : Model} {A : Around} {E : Value → Shared → Prop} {h : Heap} {g : Array GenState} {d : Drawn} {t : Nat} {os : OsState}
variable {nm q : Str} {C N : Addr} {bs tl tlB : List Value} {hasD : Bool} {slotN : List Str} {subc : List Value} {ab : Bool} {col : Option Bool} {dd : Option Addr} {k0 k1 k2 k3 k5 : Option Value} {B newId initId : String} {kw : List (Str × Value)}
theorem check_newK (BF : ExcBaseFacts B newId initId tlB) (sameTail : ∀ X : String, tl.contains (.type X) = tlB.contains (.type X)) {given : List Value} {Q : Unit → Shared → Prop}
    (clsAt : h.get? C = some (excClassObj nm q C N bs tl hasD slotN subc ab col dd k0 k1 k2 k3 k5 newId)) (fin : Q () ⟨h, g, d, t, os⟩) : wpAny M A (checkBuiltinCall newId ⟨.ref C :: given, kw⟩) Q E ⟨h, g, d, t, os⟩ := by
  have inMro : (Value.ref C :: tl).contains (.type B) = true := by rw [List.contains_cons, sameTail, BF.hasB, Bool.or_true]
  have noSt := BF.noStar
  simp only [checkBuiltinCall, BF.newKind, BF.newSplit, BF.newRow]
  repeat (first | refine wpAny_loadPart_at clsAt ?_ | (refine wpAny_isSubtype_exc clsAt ?_; rw [inMro]) | refine wpAny_staticBase_exc clsAt ?_ | refine wpAny_madeBy_exc clsAt ?_ | simp only [bne_self_eq_false, Bool.false_eq_true, if_false] | wp_step)
  exact fin
end
section
variable {prog : Program} {w : World} {A : Around} {E : Value → Shared → Prop} {R : Result → Shared → Prop} {h : Heap} {g : Array GenState} {d : Drawn} {t : Nat} {os : OsState}
variable {nm q : Str} {C N : Addr} {bs tl tlB : List Value} {hasD : Bool} {slotN : List Str} {subc : List Value} {ab : Bool} {col : Option Bool} {dd : Option Addr} {k0 k1 k2 k3 k5 : Option Value} {B newId initId : String} {kw : List (Str × Value)}
theorem newK (BF : ExcBaseFacts B newId initId tlB) (sameTail : ∀ X : String, tl.contains (.type X) = tlB.contains (.type X)) {given : List Value}
    (clsAt : h.get? C = some (excClassObj nm q C N bs tl hasD slotN subc ab col dd k0 k1 k2 k3 k5 newId))
    (fin : R (.ok (.ret (.ref (h.objs.size + 1)))) ⟨(h.push { cls := .type "tuple", data := .seq given.toArray }).push
      { cls := .ref C, data := .fields #[.ref h.objs.size, .none, .none, .none, .bool false, .none] }, g, d, t, os⟩) (few : given.length ≤ sizeLine) :
    codeAny (model prog w) A (.builtin newId ⟨.ref C :: given, kw⟩) R ⟨h, g, d, t, os⟩ := by
  have theEnds := BF.ends
  have mroB : (Value.ref C :: tl).contains (.type B) = true := by rw [List.contains_cons, sameTail, BF.hasB, Bool.or_true]
  have mroA : (Value.ref C :: tl).contains (.type "AttributeError") = false := by rw [List.contains_cons, sameTail, BF.noAttr]; rfl
  have mroN : (Value.ref C :: tl).contains (.type "NameError") = false := by rw [List.contains_cons, sameTail, BF.noName]; rfl
  refine codeAny_builtinAt BF.entry ?_
  unfold Builtin.«BaseException.__new__»
  refine wpAt_bind ?_
  show wpAt _ _ _ (stack >>= _) _ _ _
  refine wpAt_bind (wpAt_stack fun p below => wpAt_of_wpAny ?_)
  wp_walk
  refine wpAt_of_wpAny ?_
  rw [BF.owner]
  repeat (first | with_reducible refine wpAny_madeHere_exc BF.canon clsAt ?_ | with_reducible refine wpAny_loadPart_at clsAt ?_ | (with_reducible refine wpAny_isSubtype_exc clsAt ?_; first | rw [mroB] | rw [mroA] | rw [mroN]) | wp_step)
  show R _ _
  rw [Heap.size_push]
  exact fin
theorem type_callK (BF : ExcBaseFacts B newId initId tlB) (sameTail : ∀ X : String, tl.contains (.type X) = tlB.contains (.type X)) {given : List Value} {fI : Value} {Q : Fin → Shared → Prop}
    (clsAt : h.get? C = some (excClassObj nm q C N bs tl hasD slotN subc ab col dd k0 k1 k2 k3 k5 newId))
    (iniL : W.Looks (model prog w) h (typeLookup (.ref C) "__init__") (some fI)) (bndL : ∀ self, W.Looks (model prog w) h (bindSpecial fI self) (fI, [self])) (few : given.length ≤ sizeLine)
    (fin : codeAny (model prog w) A (.call fI ⟨.ref (h.objs.size + 1) :: given, kw⟩)
      (fun r s' => match r with | .ok (.ret v) => v = .none ∧ Q (.done (.ret (.ref (h.objs.size + 1)))) s' | .ok _ => False | .error e => E e s')
      ⟨(h.push (W.kdv_tup given)).push (excO C h.objs.size), g, d, t, os⟩) :
    wpAny (model prog w) A (Builtin.«type.__call__» ⟨.ref C :: given, kw⟩) Q E ⟨h, g, d, t, os⟩ := by
  repeat (first | with_reducible refine wpAny_loadPart_at clsAt ?_ | with_reducible refine wpAny_madeBy_exc clsAt ?_ | wp_step)
  refine codeAny_call_builtin_code (Code.quiet_builtin _ BF.quiet) (check_newK BF sameTail clsAt ?_)
  refine newK BF sameTail clsAt ?_ few
  show wpAny _ _ _ _ _ _
  have k : ∀ b o, h.get? b = some o → ((h.push (W.kdv_tup given)).push (excO C h.objs.size)).get? b = some o := fun b o e => Heap.get?_push_of_some _ (Heap.get?_push_of_some _ e)
  have hC₁ := k _ _ clsAt
  have gotE : ((h.push (W.kdv_tup given)).push (excO C h.objs.size)).get? (h.objs.size + 1) = some (excO C h.objs.size) := by heap_get
  have selfIn : (Value.ref C :: tl).contains (.ref C) = true := by simp
  have iniK := iniL.keeps k
  have bndK := (bndL (.ref (h.objs.size + 1))).keeps k
  unfold isInstance
  repeat (first | with_reducible refine wpAny_loadPart_at gotE ?_ | (with_reducible refine wpAny_isSubtype_exc hC₁ ?_; rw [selfIn]) | wp_step)
  show wpAny _ _ (typeLookup (.ref C) _) _ _ _
  refine iniK.at ?_
  refine wpAny_holding (wpAny_bind (bndK.at ?_))
  refine wpAny_bind (wpAny_call (codeAny_mono fin fun r s' z => ?_))
  rcases r with e | (v | _ | _ | _) <;> first | exact z | exact z.elim | skip
  obtain ⟨rfl, z⟩ := z
  first
    | exact wpAny_pure (wpAny_pure z)
    | (wp_walk; exact z)
theorem check_tcK {M : Model} {given : List Value} {Q : Unit → Shared → Prop} (clsAt : h.get? C = some (excClassObj nm q C N bs tl hasD slotN subc ab col dd k0 k1 k2 k3 k5 newId))
    (fin : Q () ⟨h, g, d, t, os⟩) : wpAny M A (checkBuiltinCall "type.__call__" ⟨.ref C :: given, kw⟩) Q E ⟨h, g, d, t, os⟩ := by
  have f3 := tc_sub
  have sameTail : (⟨h, g, d, t, os⟩ : Shared).TypeIs (.ref C) "type" := ⟨_, clsAt, rfl⟩
  simp only [checkBuiltinCall, tc_kind, tc_split]
  repeat (any_goals (first | assumption | with_reducible refine wpAny_loadPart_at clsAt ?_ | with_reducible refine wpAny_onRaise ?_ | with_reducible refine wpAny_map ?_ | wp_step))
theorem callK (BF : ExcBaseFacts B newId initId tlB) (sameTail : ∀ X : String, tl.contains (.type X) = tlB.contains (.type X)) {given : List Value} {fI : Value}
    (clsAt : h.get? C = some (excClassObj nm q C N bs tl hasD slotN subc ab col dd k0 k1 k2 k3 k5 newId))
    (iniL : W.Looks (model prog w) h (typeLookup (.ref C) "__init__") (some fI)) (bndL : ∀ self, W.Looks (model prog w) h (bindSpecial fI self) (fI, [self])) (few : given.length ≤ sizeLine)
    (fin : codeAny (model prog w) (A.under (.builtin "type.__call__" ⟨.ref C :: given, kw⟩)) (.call fI ⟨.ref (h.objs.size + 1) :: given, kw⟩) (W.InitBack (h.objs.size + 1) R)
      ⟨(h.push (W.kdv_tup given)).push (excO C h.objs.size), g, d, t, os⟩) :
    codeAny (model prog w) A (.call (.ref C) ⟨given, kw⟩) R ⟨h, g, d, t, os⟩ := by
  have tcL := tc_lookup
  have tcB := tc_bind (.ref C)
  have isTy : (⟨h, g, d, t, os⟩ : Shared).TypeIs (.ref C) "type" := ⟨_, clsAt, rfl⟩
  refine codeAny_of_tree ?_
  show wpAny _ _ (callAny (.ref C) _) _ _ _
  repeat (any_goals (first | assumption | with_reducible refine wpAny_loadPart_at clsAt ?_ | wp_step))
  refine ⟨rfl, ?_⟩
  refine codeAny_call_builtin_at (Code.quiet_builtin _ (by decide +kernel)) entry_typeCall (check_tcK clsAt (type_callK BF sameTail clsAt iniL bndL few ?_))
  refine codeAny_mono fin fun r s' z => ?_
  rcases r with e | (v | _ | _ | _) <;> exact z
end
/-! self.name = v on an exception without a dict, any base -/
section
variable {prog : Program} {w : World} {A : Around} {E : Value → Shared → Prop} {R : Result → Shared → Prop} {hp : Heap} {g : Array GenState} {d : Drawn} {t : Nat} {os : OsState}
theorem exc_osaX {K : W.Frag} {B : String} {tlB : List Value} {name : Str} {tk : Tok} {v : Value} {x C : Addr} {fv : Array Value} {cd : ClassData} (SFa : StoreFacts B tlB "object.__setattr__" "object")
    (X : K.In hp) (gotX : hp.get? x = some { cls := .ref C, data := .fields fv }) (hov : excOver K C tlB = true) (clsD : W.clsIn K C = some cd) (hasDi : cd.hasDict = true) (noTk : W.takerIn K C name = some none)
    (fin : ∀ h' tk' dx, (∀ b o, b ≠ x → hp.get? b = some o → h'.get? b = some o) → hp.objs.size ≤ dx → dx ≠ x → h'.get? x = some { cls := .ref C, dict := some dx, data := .fields fv } →
      h'.Ns1 dx (fun y => if y = name then some v else none) → R (.ok (.ret .none)) ⟨h', g, d, tk', os⟩) :
    codeAny (model prog w) A (.call (.builtin "object.__setattr__") ⟨[.ref x, .str name tk, v], []⟩) R ⟨hp, g, d, t, os⟩ := by
  have I : W.InstAt hp x { cls := .ref C, data := .fields fv } C none := ⟨gotX, rfl, rfl, trivial⟩
  have xNe : x ≠ hp.objs.size := Nat.ne_of_lt (Heap.lt_size gotX)
  have clsL : W.Looks (model prog w) hp (classData C) cd := W.looks_clsIn X clsD
  refine osa_openX SFa X I hov noTk fun b => ?_
  show wpAny _ _ (storeInOwnDict (.ref x) (.ref C) (.str name tk) name v b) _ _ _
  obtain ⟨nm, bs, mro, ns, qn, hd, slotN, sb, ab, col, del⟩ := cd
  dsimp only at hasDi
  subst hasDi
  unfold storeInOwnDict ownDictForStores
  repeat (first | with_reducible refine store_in_new ?_ ?_ | with_reducible refine wpAny_loadPart_at gotX ?_ | with_reducible refine clsL.at ?_ | wp_step)
  · exact ⟨_, #[], _, (Heap.get?_update_ne _ _ _ _ xNe.symm).trans (Heap.get?_push_at rfl rfl), rfl, fun e he => absurd he (by simp), fun _ => rfl⟩
  · intro h' tk' hn' hs
    have hx₁ : (hp.push { cls := .type "dict", data := .dict #[] }).get? x = some { cls := .ref C, data := .fields fv } := Heap.get?_push_of_some _ gotX
    refine fin h' tk' hp.objs.size (fun b o bndL ho => ?_) (Nat.le_refl _) xNe.symm ?_ hn'
    · exact (hs.2 b (Nat.ne_of_lt (Heap.lt_size ho))).trans ((Heap.get?_update_ne _ _ _ _ bndL).trans (Heap.get?_push_of_some _ ho))
    · exact (hs.2 x xNe).trans (Heap.get?_update_self _ hx₁ rfl)
end
end Zx
end PySem


set_option Elab.async false
set_option linter.all false
set_option maxRecDepth 100000
set_option maxHeartbeats 4000000
namespace PySem.W
open PySem PySem.Spec PySem.Calls PyProof.Rows
section
variable {prog : Program} {w : World} {A : Around} {E : Value → Shared → Prop} {s : Shared} {K : Frag} {x D : Addr} {ox : Obj} {od : Option Obj}
theorem findObj_dataX {C : Addr} {name : Str} {a g : Value} (hc : (clsIn K C).isSome = true) (ha : findIn K (.ref C) name = some (some a)) (hg : specialIn K a "__get__" = some (some g)) (ht : takesIn K a = some true) : findObj K C od name = some (.bind g a) := by
  obtain ⟨cd, hc⟩ := Option.isSome_iff_exists.mp hc
  unfold findObj
  rw [hc, Option.bind_some, ha, Option.bind_some]
  simp [hg, ht]
theorem kin_classX {Q : Option Value → Shared → Prop} (gaIs : findIn K (.ref D) "__getattribute__" = some (some (.builtin "BaseException.__getattribute__"))) (gtNo : findIn K (.ref D) "__getattr__" = some none) (isExc : subIn K (.ref D) (.type "BaseException") = some true)
    (hasD : hasDictIn K D = true) (ha : findIn K (.ref D) "__class__" = some (some (.builtin "object.__class__")))
    (hn : specialIn K (.builtin "object.__class__") "__get__" = some (some (.builtin "getset_descriptor.__get__"))) (takes : takesIn K (.builtin "object.__class__") = some true) (hm : mroIn K D (.type "object") = some true)
    (X : K.In s.heap) (I : InstAt s.heap x ox D od) (h : Q (some (.ref D)) { s with toks := s.toks + 1 }) : wpAny (model prog w) A (getAttr? (.ref x) "__class__") Q E s := by
  have hf : findObj K D od "__class__" = some (.bind (.builtin "getset_descriptor.__get__") (.builtin "object.__class__")) := findObj_dataX (by obtain ⟨cd, hc, _⟩ := any_some hasD; rw [hc]; rfl) ha hn takes
  obtain ⟨hq0, g, d, t, os⟩ := s
  have tyL := I.type (M := model prog w)
  have gaL := looks_findIn (M := model prog w) X gaIs
  have gtL := looks_findIn (M := model prog w) X gtNo
  have fdL := looks_find (M := model prog w) X I hf
  have sub : Looks (model prog w) hq0 (isInstance (.ref x) (.type "BaseException")) true := tyL.andThen (looks_subIn X isExc)
  have nx0 : (false && onTheHeap (Value.builtin "BaseException.__getattribute__")) = false := rfl
  have nx2 : (Value.builtin "BaseException.__getattribute__" == Value.builtin "object.__getattribute__") = false := by decide +kernel
  have nx1 : (onTheHeap (Value.ref D) && Value.builtin "BaseException.__getattribute__" == Value.builtin "object.__getattribute__") = false := by rw [nx2]; rfl
  unfold getAttr? getAttrBy? getAttrBy
  refine wpAny_bind (wpAny_mkText (wpAny_bind (wpAny_attempt (wpAny_holding (wpAny_bind (tyL.at (wpAny_bind (gaL.at ?_))))))))
  show wpAny _ _ (if (onTheHeap (Value.ref D) && Value.builtin "BaseException.__getattribute__" == Value.builtin "object.__getattribute__") = true then _ else _) _ _ _
  rw [nx1, if_neg Bool.false_ne_true]
  unfold getAttrByItsOwn hookBefore
  refine wpAny_bind ?_
  rw [if_pos (show onTheHeap (Value.ref D) = true from rfl)]
  refine gtL.at ?_
  refine wpAny_bind (wpAny_attempt (wpAny_holding ?_))
  unfold callGetattribute
  rw [nx0, if_neg Bool.false_ne_true]
  unfold boundAndCalled
  rw [PySem.F.excAttr_ValueError.ga.bind (.ref x)]
  refine wpAny_bind (wpAny_pure ?_)
  show wpAny _ _ (call (.builtin "BaseException.__getattribute__") [.ref x, .str "__class__" t]) _ _ _
  refine wpAny_call (codeAny_call_builtin PySem.F.excAttr_ValueError.ga.plain PySem.F.entry_bexc_ga ?_)
  refine @check_slot (model prog w) _ _ ⟨hq0, g, d, t + 1, os⟩ "BaseException.__getattribute__" "BaseException" "__getattribute__" (.ref x) [.str "__class__" t] [] _ (by decide +kernel) (by decide +kernel) sub (PySem.F.args_bexc_ga (.ref x) (.str "__class__" t)) ?_
  unfold Builtin.«object.__getattribute__»
  refine wpAny_bind (wpAny_of_eq (a := ((Value.ref x : Value), [Value.str "__class__" t])) (by first | rfl | (simp only [slotArgs]; rfl)) ?_)
  refine wpAny_bind (wpAny_pure (wpAny_bind (tyL.at (wpAny_bind (fdL.at ?_)))))
  show wpAny _ _ (holding [Value.builtin "object.__class__"] (call (.builtin "getset_descriptor.__get__") [.builtin "object.__class__", .ref x, .ref D]) >>= ret) _ _ _
  refine wpAny_bind (wpAny_holding (wpAny_call (class_get (s := ⟨hq0, g, d, t + 1, os⟩) (ox := ox) (od := od) X I hm ?_)))
  refine wpAny_pure ?_
  show wpAny _ _ (handedOut (.ref D)) _ _ _
  rw [handedOut_of (v := .ref D) rfl]
  first
    | exact wpAny_pure (wpAny_pure h)
    | exact wpAny_pure h
    | exact wpAny_pure (wpAny_bind (wpAny_pure (wpAny_pure h)))
theorem kitx_excX (gaIs : findIn K (.ref D) "__getattribute__" = some (some (.builtin "BaseException.__getattribute__"))) (gtNo : findIn K (.ref D) "__getattr__" = some none) (isExc : subIn K (.ref D) (.type "BaseException") = some true) (hasD : hasDictIn K D = true) (ha : findIn K (.ref D) "__class__" = some (some (.builtin "object.__class__")))
    (hn : specialIn K (.builtin "object.__class__") "__get__" = some (some (.builtin "getset_descriptor.__get__"))) (takes : takesIn K (.builtin "object.__class__") = some true) (hm : mroIn K D (.type "object") = some true) :
    KitX K (.ref x) (.ref D) (fun h => InstAt h x ox D od) where
  ty := fun _ _ _ I => I.type
  it := fun _ _ X _ => by
    obtain ⟨clD, clDe, _⟩ := any_some hasD
    unfold clsIn at clDe
    split at clDe
    · rename_i c' d' cd' sl' ho
      intro A' Q' E' s' k q
      unfold isType loadHead
      exact wpAny_bind (wpAny_loadPart (k _ _ (X _ _ ho)) (wpAny_pure q))
    · cases clDe
  ne := fun h tp dd its n sl X htp => by
    obtain ⟨clD, clDe, _⟩ := any_some hasD
    refine Bool.eq_false_iff.mpr fun q => ?_
    have e : D = tp := Value.ref.inj (beq_iff_eq.mp q)
    subst e
    unfold clsIn at clDe
    split at clDe
    · rename_i c' d' cd' sl' ho
      have z := (X _ _ ho).symm.trans htp
      cases z
    · cases clDe
  ca := fun X I k => kin_classX gaIs gtNo isExc hasD ha hn takes hm X I k
end
end PySem.W

namespace Zx
open PySem PySem.Spec PyProof.Rows L2
/-! ### the three bases -/
inductive Bs where
  | ve | le | ae
def Bs.nm : Bs → String
  | .ve => "ValueError" | .le => "LookupError" | .ae => "ArithmeticError"
def Bs.new : Bs → String
  | .ve => "ValueError.__new__" | .le => "LookupError.__new__" | .ae => "ArithmeticError.__new__"
def Bs.ini : Bs → String
  | .ve => "ValueError.__init__" | .le => "LookupError.__init__" | .ae => "ArithmeticError.__init__"
def Bs.mro (b : Bs) : List Value := [.type b.nm, .type "Exception", .type "BaseException", .type "object"]
theorem Bs.base : ∀ b : Bs, ExcBaseFacts b.nm b.new b.ini b.mro
  | .ve => PySem.F.excBase_ValueError
  | .le => PySem.F.excBase_LookupError
  | .ae => PySem.F.excBase_ArithmeticError
theorem Bs.store : ∀ b : Bs, StoreFacts b.nm b.mro "object.__setattr__" "object"
  | .ve => PySem.F.store_ValueError
  | .le => PySem.F.store_LookupError
  | .ae => PySem.F.store_ArithmeticError
/-! ### what the head tells of an exception class -/
structure XCl (K : PySem.W.Frag) (C : Addr) (b : Bs) : Prop extends ExcC K C where
  made : PySem.W.excInitIn K C b.mro b.new = true
  ov : PySem.W.excOver K C b.mro = true
  sa : PySem.W.findIn K (.ref C) "__setattr__" = some (some (.builtin "object.__setattr__"))
  tyC : PySem.W.typeIn K (.ref C) = some (.type "type")
  kC : PySem.W.keepIn K (.ref C) = true
def optV (a : Option (Option Value)) (v : Value) : Bool := decide (a = some (some v))
def xclB (K : PySem.W.Frag) (C : Addr) (b : Bs) : Bool :=
  (optV (PySem.W.findIn K (.ref C) "__getattribute__") (.builtin "BaseException.__getattribute__") && decide (PySem.W.findIn K (.ref C) "__getattr__" = some none) && decide (PySem.W.subIn K (.ref C) (.type "BaseException") = some true) && PySem.W.hasDictIn K C) &&
  (optV (PySem.W.findIn K (.ref C) "__class__") (.builtin "object.__class__") && optV (PySem.W.specialIn K (.builtin "object.__class__") "__get__") (.builtin "getset_descriptor.__get__") && decide (PySem.W.takesIn K (.builtin "object.__class__") = some true) && decide (PySem.W.mroIn K C (.type "object") = some true)) &&
  (PySem.W.excInitIn K C b.mro b.new && PySem.W.excOver K C b.mro && optV (PySem.W.findIn K (.ref C) "__setattr__") (.builtin "object.__setattr__") && decide (PySem.W.typeIn K (.ref C) = some (.type "type")) && PySem.W.keepIn K (.ref C))
theorem xclB_ok {K : PySem.W.Frag} {C : Addr} {b : Bs} (h : xclB K C b = true) : XCl K C b := by
  unfold xclB at h
  simp only [Bool.and_eq_true, optV, decide_eq_true_eq] at h
  obtain ⟨⟨⟨⟨⟨h1, h2⟩, h3⟩, h4⟩, ⟨⟨h5, h6⟩, h7⟩, h8⟩, ⟨⟨⟨h9, h10⟩, h11⟩, h12⟩, h13⟩ := h
  exact ⟨⟨h1, h2, h3, h4, h5, h6, h7, h8⟩, h9, h10, h11, h12, h13⟩
/-! ### an exception as a thing: its class, its dict -/
def xv (a C : Addr) (d : Option Addr) : HO := .ext fun h => ∃ (oe : Obj) (vs : Array Value), h.get? a = some oe ∧ Zc (.ref C) d oe ∧ oe.data = .fields vs
theorem xv_ok {P : Program} {w : World} {H : Hp} {h : Heap} {a C : Addr} {d : Option Addr} {oe : Obj} {vs : Array Value} (e : h.get? a = some oe) (z : Zc (.ref C) d oe) (f : oe.data = .fields vs) : ObjOk P w H h a (xv a C d) :=
  ⟨⟨oe, vs, e, z, f⟩, ⟨oe, e⟩, fun _ _ ⟨o, v, q, r⟩ k => ⟨o, v, k o q, r⟩⟩
theorem xv_at {P : Program} {w : World} {H : Hp} {h : Heap} {a C : Addr} {d : Option Addr} (hok : HOk P w H h) (e : H a = some (xv a C d)) : ∃ (oe : Obj) (vs : Array Value), h.get? a = some oe ∧ Zc (.ref C) d oe ∧ oe.data = .fields vs := by
  obtain ⟨h1, _, _⟩ := hok a _ e
  exact h1
/-- what is tracked at a is told otherwise -/
theorem swap {X : Cx} {pins : List (Addr × Obj)} {σ : L2.St} {H : Hp} {s : Shared} {a : Addr} {o o' : HO} (I : Inv X pins σ H s) (e : H a = some o) (n1 : ∀ xs, o ≠ .tup xs) (n2 : ∀ ob u, o ≠ .frz ob u) (n3 : ∀ ps, o ≠ .tbl ps) (n4 : ∀ x, o ≠ .own x)
    (ok : ObjOk X.prog X.w (upd H a o') s.heap a o') : Inv X pins σ (upd H a o') s := by
  have neA : ∀ {b : Addr}, H b = none → b ≠ a := fun {b} n z => by rw [z, e] at n; cases n
  refine I.un (h' := s.heap) (t' := s.toks) ⟨fun b u q _ _ _ => q, fun b u q _ _ _ => ⟨u.slots, q⟩, fun b u q n _ => by rw [upd_ne (neA n)]; exact n, fun b u q _ => ⟨u, q⟩, fun b xs q => ?_, fun b u xs q => ?_, fun b ps q => ⟨#[], ?_⟩⟩ fun b u q => ?_
  · rw [upd_ne (at_ne e q (n1 _))]; exact q
  · rw [upd_ne (at_ne e q (n2 _ _))]; exact q
  · rw [upd_ne (at_ne e q (n3 _)), q]; simp
  · by_cases hb : b = a
    · subst hb
      rw [upd_same] at q
      cases q
      exact ok
    · rw [upd_ne hb] at q
      exact (I.hok b u q).stay (fun c v _ z => z) (fun c hc => by rw [upd_ne (at_ne e hc (n4 _))]; exact hc) fun c xs hc => by rw [upd_ne (at_ne e hc (n1 _))]; exact hc
theorem exd_frz {e : Addr} {fs : List (Str × V)} {o : Obj} {u : HO} : exd e fs ≠ .frz o u := fun z => by unfold exd at z; cases z
theorem exd_tbl {e : Addr} {fs : List (Str × V)} {ps : Array Value} : exd e fs ≠ .tbl ps := fun z => by unfold exd at z; cases z
/-! ### self.f = v while the exception is being made -/
section
variable {X : Cx} {pins : List (Addr × Obj)} {σ : L2.St} {H : Hp} {s : Shared} {a C dx : Addr} {b : Bs} {f : Str} {y : V} {u : Value}
theorem ost_newX {Q : Unit → Shared → Prop} {E : Value → Shared → Prop} {A : Around} (T : XCl X.K C b) (I : Inv X pins σ H s) (e : H a = some (exo a C none)) (noAt : PySem.W.takerIn X.K C f = some none) (ry : RelV y u)
    (h : ∀ dx s', H dx = none → dx ≠ a → Inv X pins σ (upd (upd H dx (exd dx [(f, y)])) a (exo a C (some dx))) s' → Q () s') : wpAny (model X.prog X.w) A (setAttr (.ref a) f u) Q E s := by
  obtain ⟨cd, clIs, clHas⟩ := PySem.W.any_some T.hd
  obtain ⟨tk1, ho⟩ := exo_at I.hok e
  obtain ⟨hq0, g, d, t, os⟩ := s
  refine PySem.W.set_plain I.kIn (ox := { cls := .ref C, dict := none, data := .fields #[.ref tk1, .none, .none, .none, .bool false, .none] }) (od := none) ⟨ho, rfl, rfl, trivial⟩ T.sa ?_
  refine PySem.Zx.exc_osaX b.store I.kIn ho T.ov clIs clHas noAt (fun h' tkE dx k dGe dNe hx hn => ?_)
  have dNone : H dx = none := I.hok.fresh dGe
  have neD : ∀ {b : Addr} {o : Obj}, hq0.get? b = some o → b ≠ dx := fun {b o} q => Nat.ne_of_lt (Nat.lt_of_lt_of_le (Heap.lt_size q) dGe)
  have neA : ∀ {b : Addr}, H b = none → b ≠ a := fun {b} n z => by
    rw [z, e] at n
    cases n
  have grew : Un X.fs [] H (upd (upd H dx (exd dx [(f, y)])) a (exo a C (some dx))) hq0 h' := {
    keep := fun b o q n _ _ => k b o (neA n) q
    slot := fun b o q n _ _ => ⟨o.slots, k b o (neA n) q⟩
    free := fun b o q n _ => by rw [upd_ne (neA n), upd_ne (neD q)]; exact n
    there := fun b o q _ => by
      by_cases hb : b = a
      · exact ⟨_, by rw [hb]; exact hx⟩
      · exact ⟨o, k b o hb q⟩
    tups := fun b xs q => by rw [upd_ne (at_ne e q exo_tup), upd_ne (ne_of_none q dNone)]; exact q
    frzs := fun b o v q => by rw [upd_ne (at_ne e q exo_frz), upd_ne (ne_of_none q dNone)]; exact q
    tbls := fun b ps q => ⟨#[], by rw [upd_ne (at_ne e q exo_tbl), upd_ne (ne_of_none q dNone), q]; simp⟩ }
  refine h dx _ dNone dNe (I.un (t' := tkE) grew fun b o q => ?_)
  by_cases hb : b = a
  · subst hb
    rw [upd_same] at q
    cases q
    exact exo_ok hx
  · rw [upd_ne hb] at q
    by_cases hd : b = dx
    · subst hd
      rw [upd_same] at q
      cases q
      exact exd_ok hn (relO_put (fs := []) ry fun g => True.intro)
    · rw [upd_ne hd] at q
      exact (I.hok b o q).stay (fun c v hc z => k c v (by
          rcases hc with hc | hc
          · rw [hc]
            exact hb
          · exact at_ne e hc exo_own) z)
        (fun c hc => by rw [upd_ne (at_ne e hc exo_own), upd_ne (ne_of_none hc dNone)]; exact hc) (fun c xs hc => by rw [upd_ne (at_ne e hc exo_tup), upd_ne (ne_of_none hc dNone)]; exact hc)
def tOstX (K : PySem.W.Frag) (f : Str) (to te : TE) : TS := fun D σ H => te σ H fun y H1 => to σ H1 fun x H2 => ∃ (a C : Addr) (b : Bs), x = .ref a ∧ XCl K C b ∧ PySem.W.takerIn K C f = some none ∧
  H2 a = some (exo a C none) ∧ ∀ dx, H2 dx = none → dx ≠ a → D.nx σ (upd (upd H2 dx (exd dx [(f, y)])) a (exo a C (some dx)))
theorem ps_ostX {o e : Expr} {to te : TE} {p' pos : Pos} (ho : PE X o to) (he : PE X e te) (hs : swapsWith e (some (.Attribute o f p')) pos.line X.env = pure false := by rfl) : PS X (.Assign [.Attribute o f p'] e pos) (tOstX X.K f to te) := by
  refine ⟨fun pins s σ H D I h => ?_⟩
  refine plainObj_wpAny_Assign_Attribute (thn (he.run pins s σ H _ I h) fun v s1 ⟨y, H1, I1, r1, q1⟩ => thn (ho.run pins s1 σ H1 _ I1 q1) fun u s2 ⟨x, H2, I2, r2, a, C, b, ex, T, noAt, ea, q⟩ => ?_) hs
  subst ex
  obtain rfl : u = Value.ref a := r2
  exact ost_newX T I2 ea noAt r1 fun dx s' n ne J => ⟨σ, _, J, q dx n ne⟩
end
/-! ### def __init__(self, f): self.f = f -/
def spI (K : PySem.W.Frag) (f : Str) : Sp := fun vs H Q _ => ∃ (a C : Addr) (b : Bs) (v : V), vs = [.ref a, v] ∧ XCl K C b ∧ PySem.W.takerIn K C f = some none ∧ H a = some (exo a C none) ∧
  ∀ dx, H dx = none → dx ≠ a → Q .non (upd (upd H dx (exd dx [(f, v)])) a (exo a C (some dx)))
abbrev psI (f : Str) : List Str := ["self", f]
def initB (f : Str) (body : List Stmt) (scope : Scope) : Bool := (match body with
  | [.Assign [.Attribute (.Name x _) g _] (.Name y _) _] => decide (x = "self") && decide (g = f) && decide (y = f)
  | _ => false) && (match scope.kind with | .function => true | _ => false) && !scope.isCoroutine && !scope.isGenerator && decide ((psI f).Nodup) && decide (scope.names.lookup ("self" : Str) = some .local) && decide (scope.names.lookup f = some .local) &&
  scope.names.all (fun y => match y.2 with | .free => false | _ => true) && !(f == ("__debug__" : Str)) && !(f == ("__classdict__" : Str))
theorem initB_scope {f : Str} {body : List Stmt} {scope : Scope} (h : initB f body scope = true) : FnScope (psI f) (psI f) scope ∧ (∃ p1 p2 p3 pos, body = [.Assign [.Attribute (.Name "self" p1) f p2] (.Name f p3) pos]) ∧ scope.names.lookup ("self" : Str) = some .local ∧ scope.names.lookup f = some .local ∧ (f == ("__debug__" : Str)) = false ∧ (f == ("__classdict__" : Str)) = false := by
  unfold initB at h
  simp only [Bool.and_eq_true, decide_eq_true_eq, Bool.not_eq_true'] at h
  obtain ⟨⟨⟨⟨⟨⟨⟨⟨⟨h1, h2⟩, h3⟩, h4⟩, h5⟩, h6⟩, h7⟩, h8⟩, h9⟩, h10⟩ := h
  refine ⟨⟨?_, h3, h4, h5, rfl, ?_, ?_⟩, ?_, h6, h7, h9, h10⟩
  · split at h2
    · assumption
    · cases h2
  · intro x hx
    rcases List.mem_cons.mp hx with rfl | hx
    · exact .inl h6
    · rcases List.mem_cons.mp hx with rfl | hx
      · exact .inl h7
      · cases hx
  · intro y hy e
    have := List.all_eq_true.mp h8 y hy
    rw [e] at this
    cases this
  · split at h1
    · rename_i x p1 g p2 y p3 pos
      simp only [Bool.and_eq_true, decide_eq_true_eq] at h1
      obtain ⟨⟨rfl, rfl⟩, rfl⟩ := h1
      exact ⟨_, _, _, _, rfl⟩
    · cases h1
theorem init_ok {P : Program} {w : World} {K : PySem.W.Frag} {mg : Str → Option Value} {base : Heap} {CX : CXT} {x qual f : Str} {params : Arguments} {body : List Stmt} {scope : Scope} {dvs : List V} {kws : List (Str × V)} {fI : Addr} {fd : FuncData}
    (F : FunD K x qual params body scope dvs kws fI fd) (h : initB f body scope = true) : FnOk P w K mg base CX 1 fI fd (psI f) (spI K f) := by
  obtain ⟨S, ⟨p1, p2, p3, pos, rfl⟩, l1, l2, d1, d2⟩ := initB_scope h
  refine F.ok S (fun vs H Q E ⟨a, C, b, v, e, _⟩ => by rw [e]; rfl) fun cdv A outer s H vs Q E hr ⟨a, C, b, v, e, T, noAt, ea, q⟩ => ?_
  subst e
  refine ⟨tOstX K f (tVar 0) (tVar 1), pss_one (ps_ostX (pe_var (i := 0) rfl (.inl l1)) (pe_var (i := 1) rfl (.inl l2) d1 d2) rfl), ?_⟩
  exact ⟨v, rfl, _, rfl, a, C, b, rfl, T, noAt, ea, fun dx n ne => q dx n ne⟩
/-! ### C(v), C(f = v) -/
section
variable {X : Cx} {b : Bs} {C fI : Addr} {f : Str} {fd : FuncData} {x : Str} {p pos kpos : Pos} {e : Expr} {te : TE}
/-- what is known of a class with one field -/
structure Mk1 (X : Cx) (C : Addr) (b : Bs) (f : Str) (fI : Addr) (fd : FuncData) : Prop where
  cl : XCl X.K C b
  no : PySem.W.takerIn X.K C f = some none
  ini : PySem.W.findIn X.K (.ref C) "__init__" = some (some (.ref fI))
  tI : PySem.W.typeIn X.K (.ref fI) = some (.type "function")
  run : FnOk X.prog X.w X.K X.mg X.base (L2.CX X.prog X.w) 1 fI fd (psI f) (spI X.K f)
  bp : Binds X.K fd (psI f) []
  bk : ∀ (s : Shared) (a u : Value), X.K.In s.heap → BindsTo s fd ⟨[a], [(f, u)]⟩ ((psI f).zip [a, u])
theorem mk1_core {pins : List (Addr × Obj)} {σ : L2.St} {H1 : Hp} {s1 : Shared} {Q : VK} {us : List Value} {kw : List (Str × Value)} {u : Value} {v : V} (M : Mk1 X C b f fI fd) (hr : Room 2 X.A) (I1 : Inv X pins σ H1 s1) (r : RelV v u) (hus : us.length ≤ sizeLine)
    (hb : ∀ (s : Shared) (a : Value), X.K.In s.heap → BindsTo s fd ⟨a :: us, kw⟩ ((psI f).zip [a, u])) (q : ∀ a d, H1 a = none → H1 d = none → d ≠ a → Q (.ref a) (upd (upd H1 d (.xd [(f, v)])) a (xv a C (some d)))) :
    wpAny (model X.prog X.w) X.A (call (.ref C) us kw) (EP X pins σ Q) X.xe s1 := by
  obtain ⟨nm, N', qn, bs, bm, hasD, sn, sub, ab, col, dd, k0, k1, k2, k3, k5, hC, hT⟩ := PySem.W.excInit_of I1.kIn M.cl.made
  obtain ⟨hq0, g, dr, tk, os⟩ := s1
  have szLe : hq0.objs.size ≤ hq0.objs.size + 1 := Nat.le_succ _
  have hn : H1 (hq0.objs.size + 1) = none := I1.hok.fresh szLe
  have kept2 : ∀ b o, hq0.get? b = some o → ((hq0.push (PySem.W.kdv_tup us)).push (PySem.HandSPX.excO C hq0.objs.size)).get? b = some o := fun b o e => Heap.get?_push_of_some _ (Heap.get?_push_of_some _ e)
  have gotE : ((hq0.push (PySem.W.kdv_tup us)).push (PySem.HandSPX.excO C hq0.objs.size)).get? (hq0.objs.size + 1) = some (PySem.HandSPX.excO C hq0.objs.size) := by heap_get
  have I2 : Inv X pins σ (upd H1 (hq0.objs.size + 1) (exo (hq0.objs.size + 1) C none)) ⟨(hq0.push (PySem.W.kdv_tup us)).push (PySem.HandSPX.excO C hq0.objs.size), g, dr, tk, os⟩ :=
    I1.laid (t' := tk) (a := hq0.objs.size + 1) (o := exo (hq0.objs.size + 1) C none) (h' := (hq0.push (PySem.W.kdv_tup us)).push (PySem.HandSPX.excO C hq0.objs.size)) kept2 szLe (exo_ok gotE)
  have r2 : Vals [V.ref (hq0.objs.size + 1), v] [Value.ref (hq0.objs.size + 1), u] := .cons rfl (.cons r .nil)
  have hsp : spI X.K f [V.ref (hq0.objs.size + 1), v] (upd H1 (hq0.objs.size + 1) (exo (hq0.objs.size + 1) C none)) (fun z H' => z = .non ∧ ∃ d, H1 d = none ∧ d ≠ hq0.objs.size + 1 ∧ H' = upd (upd (upd H1 (hq0.objs.size + 1) (exo (hq0.objs.size + 1) C none)) d (exd d [(f, v)])) (hq0.objs.size + 1) (exo (hq0.objs.size + 1) C (some d))) (fun _ _ _ => False) :=
    ⟨_, C, b, v, rfl, M.cl, M.no, upd_same, fun dx n ne => ⟨rfl, dx, by rw [upd_ne ne] at n; exact n, ne, rfl⟩⟩
  refine wpAny_call (PySem.Zx.callK b.base hT hC (PySem.W.looks_findIn I1.kIn M.ini) (fun self => PySem.W.bind_fn I1.kIn self M.tI) hus
    (codeAny_mono (M.run.run _ X.stack _ _ ⟨Value.ref (hq0.objs.size + 1) :: us, kw⟩ [Value.ref (hq0.objs.size + 1), u] _ _ (fun _ _ _ => False) (hr.make C us kw) (I2.env0.make C us kw) (hb _ _ I2.kIn) r2 hsp) fun r s' hq' => ?_))
  cases r with
  | error er =>
    obtain ⟨_, _, _, _, _, _, _, _, _, _, _, _, z⟩ := hq'
    exact z.elim
  | ok fl =>
    cases fl with
    | ret w =>
      obtain ⟨z, H2, I3, rz, ez, d, hd, hne, rfl⟩ := I2.after hq'
      subst ez
      refine ⟨rz, ?_⟩
      have e1 : upd (upd (upd H1 (hq0.objs.size + 1) (exo (hq0.objs.size + 1) C none)) d (exd d [(f, v)])) (hq0.objs.size + 1) (exo (hq0.objs.size + 1) C (some d)) d = some (exd d [(f, v)]) := by rw [upd_ne hne, upd_same]
      obtain ⟨mA, hns, rel⟩ := exd_at I3.hok e1
      have J1 := swap (o' := .xd [(f, v)]) I3 e1 (fun _ => exd_tup) (fun _ _ => exd_frz) (fun _ => exd_tbl) (fun _ => exd_own) ⟨mA, hns, rel⟩
      have e2 : upd (upd (upd (upd H1 (hq0.objs.size + 1) (exo (hq0.objs.size + 1) C none)) d (exd d [(f, v)])) (hq0.objs.size + 1) (exo (hq0.objs.size + 1) C (some d))) d (.xd [(f, v)]) (hq0.objs.size + 1) = some (exo (hq0.objs.size + 1) C (some d)) := by rw [upd_ne (Ne.symm hne), upd_same]
      obtain ⟨tk1, ho⟩ := exo_at J1.hok e2
      have J2 := swap (o' := xv (hq0.objs.size + 1) C (some d)) J1 e2 (fun _ => exo_tup) (fun _ _ => exo_frz) (fun _ => exo_tbl) (fun _ => exo_own) (xv_ok ho ⟨rfl, rfl⟩ rfl)
      refine ⟨.ref (hq0.objs.size + 1), _, J2, rfl, ?_⟩
      have eH : upd (upd (upd (upd (upd H1 (hq0.objs.size + 1) (exo (hq0.objs.size + 1) C none)) d (exd d [(f, v)])) (hq0.objs.size + 1) (exo (hq0.objs.size + 1) C (some d))) d (.xd [(f, v)])) (hq0.objs.size + 1) (xv (hq0.objs.size + 1) C (some d)) = upd (upd H1 d (.xd [(f, v)])) (hq0.objs.size + 1) (xv (hq0.objs.size + 1) C (some d)) := by
        funext c
        by_cases h1 : c = hq0.objs.size + 1
        · rw [h1, upd_same, upd_same]
        · rw [upd_ne h1, upd_ne h1]
          by_cases h2 : c = d
          · rw [h2, upd_same, upd_same]
          · rw [upd_ne h2, upd_ne h2, upd_ne h1, upd_ne h2, upd_ne h1]
      rw [eH]
      exact q _ d hn hd hne
    | next => exact False.elim hq'
    | brk => exact False.elim hq'
    | cont => exact False.elim hq'
abbrev tMk1 (C : Addr) (f : Str) (te : TE) : TE := fun σ H Q => te σ H fun v H1 => ∀ a d, H1 a = none → H1 d = none → d ≠ a → Q (.ref a) (upd (upd H1 d (.xd [(f, v)])) a (xv a C (some d)))
theorem pe_mk1 (M : Mk1 X C b f fI fd) (hr : Room 2 X.A) (hg : Gl X x) (hm : X.mg x = some (.ref C)) (he : PE X e te) (hdb : (x == ("__debug__" : Str)) = false) (hs : starEach [e] X.env = (false, eval e X.env) :: starEach [] X.env) :
    PE X (.Call (.Name x p) [e] [] pos) (tMk1 C f te) := by
  refine ⟨fun pins s σ H Q I h => ?_⟩
  refine wpAny_Call_Name_kw (ld_glob I hg hm ?_ hdb)
  refine PySem.W.callWith_K (h₀ := X.base) I.ok.mod.kin M.cl.kC ?_ hs rfl
  refine thn ((pa_cons he pa_nil hs).run pos pins s σ H (fun vs H1 => match vs with
    | [v] => ∀ a d, H1 a = none → H1 d = none → d ≠ a → Q (.ref a) (upd (upd H1 d (.xd [(f, v)])) a (xv a C (some d)))
    | _ => False) I h) fun us s1 ⟨vs, H1, I1, r1, q⟩ => ⟨I1.kIn, ?_⟩
  cases r1 with
  | nil => exact q.elim
  | cons r rr =>
    cases rr with
    | cons _ _ => exact q.elim
    | nil => exact mk1_core M hr I1 r (by show 1 ≤ sizeLine; rw [sizeLine_eq]; omega) (fun s a X => M.bp s [a, _] X rfl) q
theorem pe_mk1K (M : Mk1 X C b f fI fd) (hr : Room 2 X.A) (hg : Gl X x) (hm : X.mg x = some (.ref C)) (he : PE X e te) (hdb : (x == ("__debug__" : Str)) = false) :
    PE X (.Call (.Name x p) [] [⟨some f, e, kpos⟩] pos) (tMk1 C f te) := by
  refine ⟨fun pins s σ H Q I h => ?_⟩
  refine wpAny_Call_Name_kw (ld_glob I hg hm ?_ hdb)
  refine PySem.W.callWith_KW0 (h₀ := X.base) I.ok.mod.kin M.cl.kC rfl ?_ rfl
  refine thn ((pk_cons he pk_nil).run pos pins s σ H (fun vs H1 => match vs with
    | [v] => ∀ a d, H1 a = none → H1 d = none → d ≠ a → Q (.ref a) (upd (upd H1 d (.xd [(f, v)])) a (xv a C (some d)))
    | _ => False) I h) fun us s1 ⟨vs, H1, I1, r1, q⟩ => ⟨I1.kIn, ?_⟩
  cases r1 with
  | nil => exact q.elim
  | cons r rr =>
    cases rr with
    | cons _ _ => exact q.elim
    | nil => exact mk1_core M hr I1 r (Nat.zero_le _) (fun s a X => M.bk s a _ X) q
/-! ### C() without an __init__ of its own -/
theorem pe_mk0 (q : PySem.W.excIn X.K C b.mro b.new = true) (kC : PySem.W.keepIn X.K (.ref C) = true) (hg : Gl X x) (hm : X.mg x = some (.ref C)) (hdb : (x == ("__debug__" : Str)) = false) :
    PE X (.Call (.Name x p) [] [] pos) (fun _ H Q => ∀ a, H a = none → Q (.ref a) (upd H a (xv a C none))) := by
  refine ⟨fun pins s σ H Q I h => ?_⟩
  refine wpAny_Call_Name_kw (ld_glob I hg hm ?_ hdb)
  refine PySem.W.callWith_K0 I.kIn kC ?_
  obtain ⟨bm, N, nm, qn, bs, hasD, sn, sub, ab, col, dd, k0, k1, k2, k3, k5, mN, hC, hN, hni, T⟩ := exc_obj I.kIn q
  refine wpAny_call_exc_subT b.base T hC hN hni (fun h' a hm => ?_) (Nat.zero_le _)
  have hn : H a = none := I.hok.gone hm.new
  obtain ⟨t, ht, _, _⟩ := hm.there
  exact ⟨.ref a, upd H a (xv a C none), I.laidN hm.keeps hm.new hn (xv_ok ht ⟨rfl, rfl⟩ rfl), rfl, h a hn⟩
/-! ### e.f -/
abbrev tXa (K : PySem.W.Frag) (f : Str) (te : TE) : TE := fun σ H Q => te σ H fun x H1 => ∃ (a C dd : Addr) (fs : List (Str × V)) (v : V) (b : Bs), x = .ref a ∧ XCl K C b ∧ PySem.W.findIn K (.ref C) f = some none ∧ H1 a = some (xv a C (some dd)) ∧ H1 dd = some (.xd fs) ∧ fs.lookup f = some v ∧ Q v H1
theorem pe_xa (he : PE X e te) (hb : attributeBase e f X.env (eval e X.env) = eval e X.env) : PE X (.Attribute e f pos) (tXa X.K f te) := by
  refine ⟨fun pins s σ H Q I h => ?_⟩
  refine attr_of hb (thn (he.run pins s σ H _ I h) fun u s1 hh => ?_)
  obtain ⟨x, H1, I1, rx, a, C, dd, fs, v, b, ex, T, noAt, ea, ed, l, q⟩ := hh
  subst ex
  obtain rfl : u = Value.ref a := rx
  obtain ⟨oe, vs, ha, hz, hd⟩ := xv_at I1.hok ea
  have hx : ObjOk X.prog X.w H1 s1.heap dd (.xd fs) := I1.hok dd _ ed
  obtain ⟨mA, hns, hr⟩ := hx
  obtain ⟨od, ho, hl⟩ := lookIn_ns hns
  obtain ⟨u, hu, ru⟩ := RelO.some_of (v := v) (o := mA f) (by rw [← l]; exact hr f)
  have J : PySem.W.InstAt s1.heap a oe C (some od) := ⟨ha, hz.1, by unfold PySem.W.notCls; rw [hd] <;> rfl, by rw [hz.2]; exact ho⟩
  exact HandSPX.exc_get I1.kIn J T.hg T.hk T.hs (PySem.W.findObj_own T.hd noAt rfl (by rw [hl, hu])) (handed_of ru) ⟨v, H1, I1.tok _, ru, q⟩
/-! ### isinstance -/
def rIsx (K : PySem.W.Frag) : List V → Hp → VK → Prop := fun xs H Q => ∃ (a C : Addr) (d : Option Addr) (c : V) (u : Value) (r : Bool), xs = [.ref a, c] ∧ H a = some (xv a C d) ∧ (∀ dd, d = some dd → ∃ fs, H dd = some (.xd fs)) ∧ ExcC K C ∧ ClsV c u ∧ PySem.W.kitOne K (.ref C) u = some r ∧ Q (.bl r) H
theorem call_isx : CallR X (.builtin "isinstance") (rIsx X.K) := by
  intro pins s σ H xs us Q I r h
  obtain ⟨a, C, d, c, u, b, rfl, ha, hd, T, k, e, q⟩ := h
  obtain ⟨u1, u2, rfl, r1, r2⟩ := vals2 r
  have e2 := k.eq r2
  subst e2
  cases r1
  obtain ⟨oe, vs, ho, hz, hf⟩ := xv_at I.hok ha
  have J : ∃ od, PySem.W.InstAt s.heap a oe C od := by
    cases d with
    | none => exact ⟨none, ho, hz.1, by unfold PySem.W.notCls; rw [hf] <;> rfl, by rw [hz.2]; trivial⟩
    | some dd =>
      obtain ⟨fs, hx⟩ := hd dd rfl
      have hx : ObjOk X.prog X.w H s.heap dd (.xd fs) := I.hok dd _ hx
      obtain ⟨mA, hns, hr⟩ := hx
      obtain ⟨od, ho2, hl⟩ := lookIn_ns hns
      exact ⟨some od, ho, hz.1, by unfold PySem.W.notCls; rw [hf] <;> rfl, by rw [hz.2]; exact ho2⟩
  obtain ⟨od, J⟩ := J
  exact PySem.W.kia_one (PySem.W.kitx_excX T.hg T.hk T.hs T.hd T.ha T.hn T.ht T.hm) I.kIn J e (fun z => nomatch z) fun tk => ⟨.bl b, H, I.kept (t' := tk) fun _ _ z => z, rfl, q⟩
end
end Zx


set_option Elab.async false
set_option linter.all false
set_option maxRecDepth 100000
set_option maxHeartbeats 4000000
/-! calls that know that nothing is being shown (repr's guard) -/
namespace L2
open PySem PySem.Spec PyProof.Rows
/-- FnOk, of callers within no repr -/
structure FnG (P : Program) (w : World) (K : PySem.W.Frag) (mg : Str → Option Value) (base : Heap) (CX : CXT) (k : Nat) (f : Addr) (fd : FuncData) (ps : List Str) (sp : Sp) : Prop where
  len : ∀ vs H Q E, sp vs H Q E → vs.length = ps.length
  run : ∀ (A : Around) (outer : List Env) (s : Shared) (H : Hp) (args : Args) (us : List Value) (vs : List V) (Q : VK) (E : XK), Room k A → A.guards = some [] → Env0 P w K mg base A outer s H → BindsTo s fd args (ps.zip us) → Vals vs us → sp vs H Q E →
    codeAny (model P w) A (.call (.ref f) args) (CR CX outer P w H s Q E) s
/-- THE HEAD: the law's promise, at the heap behind the top. F, the promise of the law's def, may use that base is part of the heap (so K.In base, base.Ns mainGlobals mg stand in Mod) -/
theorem law_callG {P : Program} {w : World} {K : PySem.W.Frag} {mg mb : Str → Option Value} {CX : CXT} {k : Nat} {fa a : Addr} {fd : FuncData} {x : Str} {sp : Sp} {s₁ : Shared} {vs : List Value} {ns : List Int}
    (kIn : K.In s₁.heap) (glb : s₁.heap.Ns mainGlobals mg) (bltN : s₁.heap.Ns builtinsNs mb) (bltIs : ∀ x : Str, x ≠ "__name__" → mb x = bootBuiltins x) (noLim : s₁.heap.NoLimit) (gensE : s₁.gens = #[])
    (argsA : s₁.heap.get? a = some { cls := .type "list", data := .seq vs.toArray }) (intsA : IntsAre vs ns) (lenLe : ns.length ≤ sizeLine) (room : Room k callerA)
    (F : ∀ base : Heap, K.In base → base.Ns mainGlobals mg → FnG P w K mg base CX k fa fd [x] sp) (binds : ∀ (s : Shared) (u : Value), BindsTo s fd ⟨[u], []⟩ [(x, u)])
    (wish : ∀ H : Hp, Only H → SqL K H a (ns.map V.int) → sp [.ref a] H (fun v _ => v = .bl true) fun _ _ _ => False)
    (noExc : ∀ H e s', CX [] H s₁ (fun _ _ _ => False) e s' → False) :
    codeAny (model P w) callerA (.call (.ref fa) ⟨[.ref a], []⟩) (fun r s' => r = .ok (.ret (.bool true)) ∧ OldK s₁.heap s'.heap ∧ s'.os = s₁.os ∧ AllBare s'.gens) s₁ := by
  have rvs := vals_ints intsA
  have lenI := intsA.length
  -- from an abstract heap in which nothing but the script may be tracked
  have core : ∀ H : Hp, Only H → SqL K H a (ns.map V.int) → HOk P w H s₁.heap → (∀ b, H b ≠ none → b = a) → (H a ≠ none → K.lookup a = none) →
      codeAny (model P w) callerA (.call (.ref fa) ⟨[.ref a], []⟩) (fun r s' => r = .ok (.ret (.bool true)) ∧ OldK s₁.heap s'.heap ∧ s'.os = s₁.os ∧ AllBare s'.gens) s₁ := by
    intro H onlyS seqS okH atA kNone
    have inBase : ∀ {b : Addr} {o : Obj}, s₁.heap.get? b = some o → H b = none → (hidT s₁.heap H).get? b = some o := fun e n => hidT_get e n
    have notA : ∀ {b : Addr} {o : Obj} {es : Array DictEntry} {ep : Nat}, s₁.heap.get? b = some o → o.data = .dict es ep → H b = none := fun {b o es ep} e d => by
      cases q : H b with
      | none => rfl
      | some u =>
        have e' : b = a := atA b (by rw [q]; simp)
        subst e'
        rw [argsA] at e; cases e
        have d' : Data.seq vs.toArray _ = Data.dict es ep := d
        cases d'
    have nsKept : ∀ {b : Addr} {m : Str → Option Value}, s₁.heap.Ns b m → (hidT s₁.heap H).Ns b m := fun {b m} ⟨o, es, ep, e, d, r⟩ => ⟨o, es, ep, inBase e (notA e d), d, r⟩
    have kBase : K.In (hidT s₁.heap H) := fun b o e => inBase (kIn b o e) (by
      cases q : H b with
      | none => rfl
      | some u =>
        have e' : b = a := atA b (by rw [q]; simp)
        subst e'
        rw [kNone (by rw [q]; simp)] at e; cases e)
    have modB : Mod K mg (hidT s₁.heap H) := ⟨kBase, nsKept glb, ⟨mb, nsKept bltN, bltIs⟩, let ⟨mc, h1, h2⟩ := noLim; ⟨mc, nsKept h1, h2⟩⟩
    have envO : Env0 P w K mg (hidT s₁.heap H) callerA [] s₁ H := ⟨rfl, modB, fun b o e => of_hidT e, Nat.le_of_eq (hidT_size _ _), trivial, fun b bltN => absurd (show b ∈ ([] : List Addr) from bltN) (by simp), okH, .of_eq gensE⟩
    refine codeAny_mono ((F _ kBase (nsKept glb)).run callerA [] s₁ H ⟨[.ref a], []⟩ [.ref a] [.ref a] _ _ room rfl envO (binds s₁ (.ref a)) (.cons rfl .nil) (wish H onlyS seqS)) fun r s' h => ?_
    cases r with
    | error e => exact (noExc H e s' h).elim
    | ok fl =>
      cases fl with
      | next => exact False.elim h
      | brk => exact False.elim h
      | cont => exact False.elim h
      | ret u =>
        obtain ⟨v, H', os, bare, un, hok', r', q⟩ := h
        have q' : v = .bl true := q
        subst q'
        obtain rfl : u = Value.bool true := r'
        refine ⟨rfl, OldK.of_keep fun b o e => ?_, os, bare⟩
        cases q : H b with
        | none => exact un.keep b o e q (by intro z; exact absurd (show b ∈ ([] : List Addr) from z) (by simp)) (by simp)
        | some u =>
          rcases onlyS b with z | ⟨ob, xs, z⟩
          · rw [q] at z; cases z
          · have z2 := un.frzs b ob _ z
            obtain ⟨e1, _⟩ := okH b _ z
            obtain ⟨e2, _⟩ := hok' b _ z2
            rw [e] at e1; cases e1
            exact e2
  cases keepF : K.lookup a with
  | some o =>
    -- the script is one of the module's own objects
    have e := kIn a o keepF
    rw [argsA] at e
    cases e
    refine core (fun _ => none) (fun _ => .inl rfl) (.inr ⟨_, vs.toArray, _, keepF, rfl, rfl, rfl, by rw [List.size_toArray, lenI]; exact lenLe, by simpa using rvs⟩) (fun b u z => by have z' : (none : Option HO) = some u := z; cases z') (fun b z => absurd rfl z) fun z => absurd rfl z
  | none =>
    refine core (fun b => if b = a then some (.frz { cls := .type "list", data := .seq vs.toArray } (.lst (ns.map V.int))) else none) (fun b => ?_) (.inl (.inr ⟨{ cls := .type "list", data := .seq vs.toArray }, if_pos rfl⟩)) (fun b u z => ?_) (fun b z => ?_) fun _ => keepF
    · by_cases bltN : b = a
      · exact .inr ⟨_, _, if_pos bltN⟩
      · exact .inl (if_neg bltN)
    · by_cases bltN : b = a
      · have z' := (if_pos bltN).symm.trans z
        cases z'
        subst bltN
        exact ⟨argsA, by rw [List.length_map]; exact lenLe, vs, _, rvs, argsA⟩
      · have z' := (if_neg bltN).symm.trans z
        cases z'
    · by_cases bltN : b = a
      · exact bltN
      · exact absurd (if_neg bltN) z
/-- a law: F gives the written part, the function object, the promise over every base -/
theorem walk_ofG {l : PySem.W.OpenLaw} {n k : Nat} {q : Program} {loose : List Str} {XP : (Str → Option Value) → Heap → Prop} {YP : World → Heap → Prop} {d : DefRec} {CX : CXT} {x : Str}
    (hn : l.most = some n) (hn2 : n ≤ sizeLine) (hdf : d.params.defaults = []) (room : Room k callerA)
    (F : ∀ (w : World) (mg : Str → Option Value) (fa : Addr) (h : Heap), YP w h → h.Ns mainGlobals mg → mg d.name = some (.ref fa) →
      ∃ (K : PySem.W.Frag) (fd : FuncData) (sp : Sp), K.In h ∧ (∀ (s : Shared) (u : Value), BindsTo s fd ⟨[u], []⟩ [(x, u)]) ∧
        (∀ (H : Hp) (a : Addr) (ns : List Int), ns.length ≤ n → Only H → SqL K H a (ns.map V.int) → sp [.ref a] H (fun v _ => v = .bl true) fun _ _ _ => False) ∧
        ∀ base : Heap, K.In base → base.Ns mainGlobals mg → FnG l.prog w K mg base CX k fa fd [x] sp)
    (noExc : ∀ (H : Hp) (s : Shared) (e : Value) (s' : Shared), CX [] H s (fun _ _ _ => False) e s' → False) :
    PySem.W.WalkO q loose XP YP l.row.toRowW d [] (fun f vs => PySem.call f vs) := by
  refine Att.attach_call hn hdf fun w s₀ s₁ mg mb fa o pm cd doc a vs ns G Y ho dvals codeI hmg hobj hints hlen gensE => ?_
  obtain ⟨K, fd, sp, kIn, bltN, wish, hF⟩ := F w mg fa _ Y G.T.g hmg
  exact law_callG kIn G.T.g G.T.b G.T.builtins G.T.nolimit gensE hobj hints (Nat.le_trans hlen hn2) room hF bltN (fun H onlyS seqS => wish H a ns hlen onlyS seqS) fun H e s' => noExc H s₁ e s'
theorem fng_of {CX : CXT} {P : Program} {w : World} {K : PySem.W.Frag} {mg : Str → Option Value} {base : Heap} {k : Nat} {f : Addr} {name qual : Str} {params : Arguments} {body : List Stmt} {scope : Scope} {dV kV doc pm cdv ct oc : Value} {an od : Option Addr}
    {osl : Array (Option Value)} {N ps : List Str} {sp : Sp} (lookF : K.lookup f = some ⟨oc, od, .func (PySem.W.fnOf name qual params body scope dV kV doc pm an cdv ct), osl⟩) (codeI : PySem.W.codeIn K cdv qual = true) (S : FnScope N ps scope)
    (len : ∀ vs H Q E, sp vs H Q E → vs.length = ps.length)
    (bodyW : ∀ (A : Around) (outer : List Env) (s : Shared) (H : Hp) (vs : List V) (Q : VK) (E : XK), Room k (A.deeper (envOfC qual scope s.heap.objs.size f cdv)) → A.guards = some [] → sp vs H Q E →
      ∃ t, PSs (cxOf CX P w K mg base N qual scope f cdv A outer s H E) body t ∧ t { nx := fun _ H' => Q .non H', rt := Q } (L2.start N vs) H) :
    FnG P w K mg base CX (k + 1) f (PySem.W.fnOf name qual params body scope dV kV doc pm an cdv ct) ps sp := by
  refine ⟨len, fun A outer s H args us vs Q E room noShow envO bltN r wish => ?_⟩
  have lenLe := len _ _ _ _ wish
  have kIn : K.In s.heap := envO.mod.kin.keeps fun b o e => (envO.bs b o e).1
  have noLim2 : s.heap.NoLimit := envO.mod.nolimit.keeps fun b o e => (envO.bs b o e).1
  have kinds : ∀ y ∈ ps.zip us, scope.names.lookup y.1 = some .local ∨ (scope.names.lookup y.1 = some .cell ∧ ((cellsFrom (s.heap.objs.size + 1) scope.names []).lookup y.1).isSome = true) := fun ⟨n, v⟩ hy => by
    rcases S.par n (List.of_mem_zip hy).1 with q | q
    · exact .inl q
    · exact .inr ⟨q, PySem.W.cellsFrom_some _ _ _ (.inl q)⟩
  refine codeAny_call_function room.depth (kIn _ _ lookF) rfl S.co S.gen rfl (PySem.W.codeRec_of kIn codeI) (bltN _ _ _ _ ?_)
  refine wpAny_newFunctionEnv_cells S.kind kinds fun env starA s1 x => ?_
  subst starA
  refine ⟨noLim2.keeps x.toInCall.keep, codeAny_func ?_⟩
  obtain ⟨t, ht, hq⟩ := bodyW A outer s H vs Q E (room.deeper _) noShow wish
  have I : Inv (cxOf CX P w K mg base N qual scope f cdv A outer s H E) [] (L2.start N vs) H s1 := inv_start S room.hd envO lenLe r x
  refine wpAny_mono (ht.run [] s1 (L2.start N vs) H _ I hq) (fun fl s' hs => ?_) fun e s' hs => hs
  have fin : ∀ {σ' : L2.St} {H' : Hp} {v : V} {u : Value}, Inv (cxOf CX P w K mg base N qual scope f cdv A outer s H E) [] σ' H' s' → RelV v u → Q v H' → CE outer P w H s Q u s' :=
    fun {σ' H' v u} J rvs q => ⟨v, H', J.os, J.bare, J.base, J.hok, rvs, q⟩
  cases fl with
  | ret u =>
    obtain ⟨v, σ', H', J, rvs, q⟩ := hs
    exact fin J rvs q
  | next =>
    obtain ⟨σ', H', J, q⟩ := hs
    exact fin (v := V.non) (u := Value.none) J rfl q
  | brk =>
    obtain ⟨_, _, _, q⟩ := hs
    exact False.elim q
  | cont =>
    obtain ⟨_, _, _, q⟩ := hs
    exact False.elim q
section
variable {P : Program} {w : World} {K : PySem.W.Frag} {mg : Str → Option Value} {base : Heap} {x qual : Str} {params : Arguments} {body : List Stmt} {scope : Scope} {dvs : List V} {kws : List (Str × V)} {f : Addr} {fd : FuncData}
theorem FunD.okG {CX : CXT} {N ps : List Str} {k : Nat} {sp : Sp} (F : FunD K x qual params body scope dvs kws f fd) (S : FnScope N ps scope) (len : ∀ vs H Q E, sp vs H Q E → vs.length = ps.length)
    (bodyW : ∀ (cdv : Value) (A : Around) (outer : List Env) (s : Shared) (H : Hp) (vs : List V) (Q : VK) (E : XK), Room k (A.deeper (envOfC qual scope s.heap.objs.size f cdv)) → A.guards = some [] → sp vs H Q E →
      ∃ t, PSs (cxOf CX P w K mg base N qual scope f cdv A outer s H E) body t ∧ t { nx := fun _ H' => Q .non H', rt := Q } (L2.start N vs) H) : FnG P w K mg base CX (k + 1) f fd ps sp := by
  obtain ⟨oc, od, dV, kV, doc, pm, an, cdv, ct, osl, rfl, lookF, codeI, _, _⟩ := F.ex
  exact fng_of lookF codeI S len fun A outer s H vs Q E room noShow wish => bodyW cdv A outer s H vs Q E room noShow wish
end
section
variable {X : Cx} {CX : CXT} {k : Nat} {f : Addr} {fd : FuncData} {ps : List Str} {sp : Sp} {dvs : List V} {ds : List Value} {E : L2.St → XK} {x : Str} {p pos : Pos} {e : Expr} {es : List Expr} {t : TA}
theorem run_fnG {pins : List (Addr × Obj)} {σ : L2.St} {H : Hp} {s : Shared} {Q : VK} {us : List Value} {vs : List V} (F : FnG X.prog X.w X.K X.mg X.base CX k f fd ps sp) (room : Room k X.A) (noShow : X.A.guards = some []) (bltN : Binds X.K fd ps ds) (dvals : Vals dvs ds) (pass1 : PassesAt CX X σ (E σ))
    (I : Inv X pins σ H s) (r : Vals vs us) (h : sp (vs ++ dvs) H Q (E σ)) : wpAny (model X.prog X.w) X.A (call (.ref f) us) (EP X pins σ Q) X.xe s := by
  have r2 : Vals (vs ++ dvs) (us ++ ds) := r.append dvals
  have lenLe : (us ++ ds).length = ps.length := by rw [← r2.length]; exact F.len _ _ _ _ h
  refine wpAny_call (codeAny_mono (F.run X.A X.stack s H ⟨us, []⟩ (us ++ ds) (vs ++ dvs) Q (E σ) room noShow I.env0 (bltN s us I.kIn lenLe) r2 h) fun r s' hq => ?_)
  cases r with
  | error e => exact pass1 pins H s e s' I hq
  | ok fl =>
    cases fl with
    | ret u => exact I.after hq
    | next => exact False.elim hq
    | brk => exact False.elim hq
    | cont => exact False.elim hq
theorem pe_callG (F : FnG X.prog X.w X.K X.mg X.base CX k f fd ps sp) (room : Room k X.A) (noShow : X.A.guards = some []) (gensE : Gl X x) (inMg : X.mg x = some (.ref f)) (keepF : PySem.W.keepIn X.K (.ref f) = true) (bltN : Binds X.K fd ps ds) (dvals : Vals dvs ds) (pass1 : ∀ σ, PassesAt CX X σ (E σ))
    (argsA : PA X (e :: es) t) (notDbg : (x == ("__debug__" : Str)) = false := by decide) (starA : starEach (e :: es) X.env = (false, eval e X.env) :: starEach es X.env := by rfl) (plainA : (backTo pos (starEach es X.env)).any (·.1) = false := by rfl) :
    PE X (.Call (.Name x p) (e :: es) [] pos) (tCallSD sp dvs E t) := by
  refine ⟨fun pins s σ H Q I h => ?_⟩
  refine wpAny_Call_Name_kw (ld_glob I gensE inMg ?_ notDbg)
  refine PySem.W.callWith_K (h₀ := X.base) I.ok.mod.kin keepF (thn (argsA.run pos pins s σ H _ I h) fun us s1 ⟨vs, H1, I1, r, q⟩ => ⟨I1.kIn, ?_⟩) starA plainA
  exact run_fnG F room noShow bltN dvals (pass1 σ) I1 r q
end
end L2


set_option Elab.async false
set_option linter.all false
set_option maxRecDepth 100000
set_option maxHeartbeats 4000000
/-! repr of nested data with dicts; list.count of flat items -/
namespace Zx
open PySem PySem.Spec PyProof.Rows L2
mutual
inductive Rv (K : PySem.W.Frag) (H : Hp) : V → PyData → Prop
  | non : Rv K H .non .none
  | bl (b : Bool) : Rv K H (.bl b) (.bool b)
  | int (i : Int) : Rv K H (.int i) (.int i)
  | str (x : Str) : Rv K H (.str x) (.str x)
  | lst {a : Addr} {xs : List V} {ds : List PyData} : SqL K H a xs → RvAll K H xs ds → Rv K H (.ref a) (.list ds)
  | tup {a : Addr} {xs : List V} {ds : List PyData} : SqT K H a xs → RvAll K H xs ds → Rv K H (.ref a) (.tuple ds)
  | dic {a : Addr} {ks : List Str} {xs : List V} {ds : List PyData} : H a = some (.dK ((ks.map Sum.inr).zip xs)) → xs.length = ks.length → RvAll K H xs ds → Rv K H (.ref a) (.dict ((ks.map PyData.str).zip ds))
inductive RvAll (K : PySem.W.Frag) (H : Hp) : List V → List PyData → Prop
  | nil : RvAll K H [] []
  | cons {v : V} {vs : List V} {d : PyData} {ds : List PyData} : Rv K H v d → RvAll K H vs ds → RvAll K H (v :: vs) (d :: ds)
end
theorem RvAll.length {K : PySem.W.Frag} {H : Hp} : ∀ {vs : List V} {ds : List PyData}, RvAll K H vs ds → ds.length = vs.length
  | [], _, h => by cases h; rfl
  | v :: vs, _, h => by cases h with | cons h1 h2 => rw [List.length_cons, List.length_cons, RvAll.length h2]
/-- sys.modules is known to the written part, as no list -/
def SmOk (K : PySem.W.Frag) : Prop := ∃ o, K.lookup sysModules = some o ∧ o.cls ≠ .type "list"
section
variable {X : Cx} {pins : List (Addr × Obj)} {σ : L2.St} {H : Hp} {s : Shared}
theorem dict_parts {P : Program} {w : World} {h : Heap} : ∀ {ks : List Str} {xs : List V} {es : List DictEntry} {vs : List (Key × Value)}, KV ((ks.map Sum.inr).zip xs) vs → xs.length = ks.length → Pairs (mixKind P w) es vs →
    (∃ as, ReadsAll h (es.map (·.key)) (ks.map PyData.str) as ∧ as = []) ∧ Vals xs (es.map (·.val))
  | [], xs, es, vs, r, hl, q => by
    cases xs with
    | cons _ _ => cases hl
    | nil =>
      cases r
      cases q
      exact ⟨⟨[], .nil, rfl⟩, .nil⟩
  | k :: ks, xs, es, vs, r, hl, q => by
    cases xs with
    | nil => cases hl
    | cons x xs =>
      have r : KV ((Sum.inr k, x) :: (ks.map Sum.inr).zip xs) vs := r
      cases r with
      | cons r1 r2 =>
        cases q with
        | cons q1 q2 q3 =>
          obtain ⟨⟨as, h1, h2⟩, h3⟩ := dict_parts (h := h) r2 (by simpa using hl) q3
          subst h2
          obtain ⟨e1, e2⟩ := r1
          rw [← e1] at q1
          refine ⟨⟨[], ?_, rfl⟩, ?_⟩
          · rcases keyIs_shape (k := Sum.inr k) q1 with ⟨i, t, e, _⟩ | ⟨y, t, e, e3⟩
            · cases e
            · cases e
              have := ReadsAll.cons (Reads.str (h := h) k t) h1
              rw [List.map_cons, List.map_cons, e3]
              exact this
          · rw [List.map_cons]
            refine .cons ?_ h3
            rw [q2]
            exact e2
mutual
theorem Rv.reads (I : Inv X pins σ H s) (sm : SmOk X.K) : ∀ {v : V} {d : PyData} {u : Value}, Rv X.K H v d → RelV v u → ∃ as, Reads s.heap u d as ∧ sysModules ∉ as
  | _, _, _, .non, r => by cases r; exact ⟨_, Reads.none, List.not_mem_nil⟩
  | _, _, _, .bl b, r => by cases r; exact ⟨_, Reads.bool b, List.not_mem_nil⟩
  | _, _, _, .int i, r => by obtain ⟨t, rfl⟩ := r; exact ⟨_, Reads.int i t, List.not_mem_nil⟩
  | _, _, _, .str x, r => by obtain ⟨t, rfl⟩ := r; exact ⟨_, Reads.str x t, List.not_mem_nil⟩
  | _, _, _, .lst hs ha, r => by
    cases r
    obtain ⟨its, rv, ⟨o, n, ho, hc, _, hd⟩, _⟩ := I.list hs
    obtain ⟨as, hr, hn⟩ := RvAll.reads I sm ha rv
    refine ⟨_, Reads.list ho hc hd hr, fun hm => ?_⟩
    rcases List.mem_cons.mp hm with e | hm
    · obtain ⟨o', h1, h2⟩ := sm
      have h3 := I.kIn _ _ h1
      rw [e, ho] at h3
      cases h3
      exact h2 hc
    · exact hn hm
  | _, _, _, .tup hs ha, r => by
    cases r
    obtain ⟨its, rv, ⟨o, ho, hc, n, hd⟩, _⟩ := I.tuple hs
    obtain ⟨as, hr, hn⟩ := RvAll.reads I sm ha rv
    exact ⟨_, Reads.tuple ho hc hd hr, hn⟩
  | _, _, _, .dic (ks := ks) (ds := ds) hs hl ha, r => by
    cases r
    obtain ⟨z, hne, vs, rv, o, es, ep, ho, hx, hd, _, hp, _⟩ := I.hok _ _ hs
    obtain ⟨⟨as0, h1, h2⟩, h3⟩ := dict_parts (h := s.heap) rv hl hp
    subst h2
    obtain ⟨as, hr, hn⟩ := RvAll.reads I sm ha h3
    have hlen : ds.length = ks.length := ha.length.trans hl
    have e1 : ((ks.map PyData.str).zip ds).map (·.1) = ks.map PyData.str := by
      rw [List.map_fst_zip]
      rw [List.length_map, hlen]; exact Nat.le_refl _
    have e2 : ((ks.map PyData.str).zip ds).map (·.2) = ds := by
      rw [List.map_snd_zip]
      rw [List.length_map, hlen]; exact Nat.le_refl _
    refine ⟨_, Reads.dict ho hx.1 hd (by rw [e1]; exact h1) (by rw [e2]; exact hr), fun hm => ?_⟩
    rcases List.mem_append.mp hm with hm | hm
    · have e := List.mem_singleton.mp hm
      rw [e] at hne
      have := beq_eq_false_iff_ne.mp hne
      exact this rfl
    · exact hn hm
theorem RvAll.reads (I : Inv X pins σ H s) (sm : SmOk X.K) : ∀ {vs : List V} {ds : List PyData} {us : List Value}, RvAll X.K H vs ds → Vals vs us → ∃ as, ReadsAll s.heap us ds as ∧ sysModules ∉ as
  | _, _, _, .nil, r => by cases r; exact ⟨_, ReadsAll.nil, List.not_mem_nil⟩
  | _, _, _, .cons h1 h2, r => by
    cases r with
    | cons r1 r2 =>
      obtain ⟨as, q1, n1⟩ := Rv.reads I sm h1 r1
      obtain ⟨bs, q2, n2⟩ := RvAll.reads I sm h2 r2
      exact ⟨_, ReadsAll.cons q1 q2, fun hm => (List.mem_append.mp hm).elim n1 n2⟩
end
def rRepr (K : PySem.W.Frag) : List V → Hp → VK → Prop := fun xs H Q => ∃ (v : V) (d : PyData), xs = [v] ∧ Rv K H v d ∧ d.showable = true ∧ d.depth ≤ 60 ∧ d.shown.length ≤ sizeLine ∧ Q (.str d.shown) H
theorem call_repr (gd : X.A.guards = some []) (un : X.A.units + 64 < cLine) (sm : SmOk X.K) : CallR X (.builtin "repr") (rRepr X.K) := by
  intro pins s σ H xs us Q I r h
  obtain ⟨v, d, rfl, rv, sh, dp, hz, q⟩ := h
  obtain ⟨u, rfl, ru⟩ := r.one
  have go : ∀ a, u = .ref a → wpAny (model X.prog X.w) X.A (call (.builtin "repr") [u]) (EP X pins σ Q) X.xe s := fun a e => by
    subst e
    obtain ⟨as, hr, hn⟩ := rv.reads I sm ru
    exact repr_of_reads' hr sh (fun _ => hn) gd (by omega) (fun _ _ e => e) (fun h' u tk hk => ⟨.str d.shown, H, I.kept (t' := tk) hk, ⟨u, rfl⟩, q⟩) hz
  cases rv with
  | non => cases ru; exact PySem.P.repr_of_none ⟨.str (PyData.shown .none), H, I.tok _, ⟨_, rfl⟩, q⟩
  | bl b => cases ru; exact PySem.P.repr_of_bool ⟨.str (PyData.shown (.bool b)), H, I.tok _, ⟨_, rfl⟩, q⟩
  | int i => obtain ⟨t, rfl⟩ := ru; exact PySem.P.repr_of_int (by simpa [PyData.showable] using sh) ⟨.str (PyData.shown (.int i)), H, I.tok _, ⟨_, rfl⟩, q⟩
  | str x => obtain ⟨t, rfl⟩ := ru; exact PySem.P.repr_of_str ⟨.str (PyData.shown (.str x)), H, I.tok _, ⟨_, rfl⟩, q⟩ hz
  | lst _ _ => cases ru; exact go _ rfl
  | tup _ _ => cases ru; exact go _ rfl
  | dic _ _ _ => cases ru; exact go _ rfl
/-! ### list.count, flat items -/
def rCnt (K : PySem.W.Frag) : V → List V → Hp → VK → Prop := fun x xs H Q => ∃ (a : Addr) (ys : List V) (y : V), x = V.ref a ∧ xs = [y] ∧ SqL K H a ys ∧ flatV y = true ∧ ys.all flatV = true ∧ Q (.int (ys.countP fun z => eqV z y : Nat)) H
theorem count_eqU {y : V} : ∀ {ys : List V} {us : List Value}, Vals ys us → ys.all flatV = true → us.countP (eqU y) = ys.countP fun z => eqV z y
  | _, _, .nil, _ => rfl
  | z :: ys, u :: us, .cons r t, f => by
    rw [List.all_cons, Bool.and_eq_true] at f
    rw [List.countP_cons, List.countP_cons, eqU_of r f.1, count_eqU t f.2]
theorem mt_cnt : MtR X "list.count" (rCnt X.K) := by
  intro pins s σ H x xs v us Q I rx rxs h
  obtain ⟨p, ys, y, rfl, rfl, hs, fy, fys, q⟩ := h
  cases rx
  obtain ⟨uy, rfl, ry⟩ := rxs.one
  obtain ⟨its, rv, ⟨⟨cls, dd, data, sl⟩, n, ho, hc, hdn, hd⟩, hlen⟩ := I.list hs
  simp only at hc hd
  subst hc hd
  refine call_meets PySem.F.slot_list_count ⟨_, ho, rfl⟩ PySem.F.entry_list_count (PySem.F.args_list_count_2 _ _)
    (SeqAt.list_countAt p its.toArray n dd sl uy (eqU y)) ⟨ho, fun u' hu' => mem_eqAt ry fy rv fys u' (by simpa using hu'), ?_⟩
  have ec : its.toArray.toList.countP (eqU y) = ys.countP fun z => eqV z y := count_eqU rv fys
  refine ⟨.int (ys.countP fun z => eqV z y : Nat), H, I.tok _, ⟨s.toks, ?_⟩, q⟩
  show Value.int ((its.toArray.toList.countP (eqU y) : Nat) : Int) s.toks = Value.int ((ys.countP fun z => eqV z y : Nat) : Int) s.toks
  rw [ec]
end
end Zx


set_option Elab.async false
set_option linter.all false
set_option maxRecDepth 100000
set_option maxHeartbeats 2000000
namespace Zd
open PySem PySem.Spec PyProof.Rows L2 Zx

/-! ### data: values without addresses -/
inductive D where
  | non | bl (b : Bool) | int (i : Int) | str (x : Str)
  | tup (xs : List D) | lst (xs : List D)
  | obj (c : Nat) (fs : List D)
  | cell (n : Nat)
  | dic (ks : List Str) (vs : List D)
  | scr (xs : List D)
  | exc (c : Nat) (fs : List D)

/-- what a mutable cell holds -/
inductive Cell where
  | lst (ds : List D)
  | ins (c : Nat) (fs : List D)
abbrev Mem := List Cell
/-- an exception: its class, its fields, the memory behind -/
structure Ex where
  cls : Nat
  fs : List D
inductive Res (α : Type) where
  | ok (a : α) (m : Mem)
  | err (e : Ex) (m : Mem)
  | bad
def Res.bind {α β : Type} (r : Res α) (f : α → Mem → Res β) : Res β := match r with
  | .ok a m => f a m
  | .err e m => .err e m
  | .bad => .bad
abbrev Env := List (Option D)

/-! ### what the written part says of the classes: by number the address and the fields in their order -/
structure Par where
  K : PySem.W.Frag
  cls : Nat → Option (Addr × List Str)
  exc : Nat → Option (Addr × List Str)

section
variable (p : Par) (I : Hp) (A : List Addr)
mutual
inductive DR : D → V → Prop
  | non : DR .non .non
  | bl (b : Bool) : DR (.bl b) (.bl b)
  | int (i : Int) : DR (.int i) (.int i)
  | str (x : Str) : DR (.str x) (.str x)
  | tup {a : Addr} {xs : List V} {ds : List D} : I a = some (.tup xs) → DRs ds xs → DR (.tup ds) (.ref a)
  | lst {a : Addr} {xs : List V} {ds : List D} : I a = some (.lst xs) → DRs ds xs → DR (.lst ds) (.ref a)
  | scr {a : Addr} {xs : List V} {ds : List D} : SqL p.K I a xs → DRs ds xs → DR (.scr ds) (.ref a)
  | obj {c : Nat} {a Ca dx : Addr} {ns : List Str} {xs : List V} {ds : List D} : p.cls c = some (Ca, ns) → I a = some (.ins Ca dx (ns.zip xs)) → DRs ds xs → xs.length = ns.length → DR (.obj c ds) (.ref a)
  | cell {n : Nat} {a : Addr} : A[n]? = some a → DR (.cell n) (.ref a)
  | dic {a : Addr} {ks : List Str} {xs : List V} {ds : List D} : I a = some (.dK ((ks.map Sum.inr).zip xs)) → DRs ds xs → xs.length = ks.length → DR (.dic ks ds) (.ref a)
  | exc {c : Nat} {a Ca dx : Addr} {ns : List Str} {xs : List V} {ds : List D} : p.exc c = some (Ca, ns) → I a = some (xv a Ca (some dx)) → I dx = some (.xd (ns.zip xs)) → DRs ds xs → xs.length = ns.length → DR (.exc c ds) (.ref a)
  | exc0 {c : Nat} {a Ca : Addr} : p.exc c = some (Ca, []) → I a = some (xv a Ca none) → DR (.exc c []) (.ref a)
inductive DRs : List D → List V → Prop
  | nil : DRs [] []
  | cons {d : D} {v : V} {ds : List D} {vs : List V} : DR d v → DRs ds vs → DRs (d :: ds) (v :: vs)
end
end

section
variable {p : Par} {I I' : Hp} {A A' : List Addr}
theorem SqT.mono' {K : PySem.W.Frag} (h : ∀ a o, I a = some o → I' a = some o) {a : Addr} {xs : List V} (q : SqT K I a xs) : SqT K I' a xs := by
  rcases q with (q | ⟨o, q⟩) | q
  · exact .inl (.inl (h _ _ q))
  · exact .inl (.inr ⟨o, h _ _ q⟩)
  · exact .inr q
theorem SqL.mono' {K : PySem.W.Frag} (h : ∀ a o, I a = some o → I' a = some o) {a : Addr} {xs : List V} (q : SqL K I a xs) : SqL K I' a xs := Same.seq h q
mutual
theorem DR.mono (h : ∀ a o, I a = some o → I' a = some o) (g : ∀ (n : Nat) (a : Addr), A[n]? = some a → A'[n]? = some a) : ∀ {d : D} {v : V}, DR p I A d v → DR p I' A' d v
  | _, _, .non => .non
  | _, _, .bl b => .bl b
  | _, _, .int i => .int i
  | _, _, .str x => .str x
  | _, _, .tup q r => .tup (h _ _ q) (DRs.mono h g r)
  | _, _, .lst q r => .lst (h _ _ q) (DRs.mono h g r)
  | _, _, .scr q r => .scr (SqL.mono' h q) (DRs.mono h g r)
  | _, _, .obj c q r l => .obj c (h _ _ q) (DRs.mono h g r) l
  | _, _, .cell q => .cell (g _ _ q)
  | _, _, .dic q r l => .dic (h _ _ q) (DRs.mono h g r) l
  | _, _, .exc c q q2 r l => .exc c (h _ _ q) (h _ _ q2) (DRs.mono h g r) l
  | _, _, .exc0 c q => .exc0 c (h _ _ q)
theorem DRs.mono (h : ∀ a o, I a = some o → I' a = some o) (g : ∀ (n : Nat) (a : Addr), A[n]? = some a → A'[n]? = some a) : ∀ {ds : List D} {vs : List V}, DRs p I A ds vs → DRs p I' A' ds vs
  | _, _, .nil => .nil
  | _, _, .cons q r => .cons (DR.mono h g q) (DRs.mono h g r)
end
theorem DRs.length : ∀ {ds : List D} {vs : List V}, DRs p I A ds vs → ds.length = vs.length
  | _, _, .nil => rfl
  | _, _, .cons _ r => by rw [List.length_cons, List.length_cons, r.length]
theorem DRs.append : ∀ {ds es : List D} {vs ws : List V}, DRs p I A ds vs → DRs p I A es ws → DRs p I A (ds ++ es) (vs ++ ws)
  | _, _, _, _, .nil, s => s
  | _, _, _, _, .cons q r, s => .cons q (r.append s)
theorem DRs.get : ∀ {ds : List D} {vs : List V} {i : Nat} {d : D}, DRs p I A ds vs → ds[i]? = some d → ∃ v, vs[i]? = some v ∧ DR p I A d v
  | _, _, _, _, .nil, e => by simp at e
  | _, _, 0, _, .cons q _, e => by simp at e; subst e; exact ⟨_, rfl, q⟩
  | _, _, i + 1, d, .cons _ r, e => by
    obtain ⟨v, h1, h2⟩ := r.get (i := i) (d := d) (by simpa using e)
    exact ⟨v, by simpa using h1, h2⟩
theorem DRs.getV : ∀ {ds : List D} {vs : List V} {i : Nat} {v : V}, DRs p I A ds vs → vs[i]? = some v → ∃ d, ds[i]? = some d ∧ DR p I A d v
  | _, _, _, _, .nil, e => by simp at e
  | _, _, 0, _, .cons q _, e => by simp at e; subst e; exact ⟨_, rfl, q⟩
  | _, _, i + 1, v, .cons _ r, e => by
    obtain ⟨d, h1, h2⟩ := r.getV (i := i) (v := v) (by simpa using e)
    exact ⟨d, by simpa using h1, h2⟩
theorem DRs.take : ∀ {ds : List D} {vs : List V} (n : Nat), DRs p I A ds vs → DRs p I A (ds.take n) (vs.take n)
  | _, _, 0, _ => .nil
  | _, _, _ + 1, .nil => .nil
  | _, _, n + 1, .cons q r => .cons q (r.take n)
theorem DRs.drop : ∀ {ds : List D} {vs : List V} (n : Nat), DRs p I A ds vs → DRs p I A (ds.drop n) (vs.drop n)
  | _, _, 0, r => r
  | _, _, _ + 1, .nil => .nil
  | _, _, n + 1, .cons _ r => r.drop n
theorem DRs.set : ∀ {ds : List D} {vs : List V} (i : Nat) {d : D} {v : V}, DR p I A d v → DRs p I A ds vs → DRs p I A (ds.set i d) (vs.set i v)
  | _, _, _, _, _, _, .nil => .nil
  | _, _, 0, _, _, h, .cons _ r => .cons h r
  | _, _, i + 1, _, _, h, .cons q r => .cons q (r.set i h)
theorem DRs.snoc {ds : List D} {vs : List V} {d : D} {v : V} (r : DRs p I A ds vs) (q : DR p I A d v) : DRs p I A (ds ++ [d]) (vs ++ [v]) := r.append (.cons q .nil)
end

/-! ### the state -/
def CellAt (p : Par) (H I : Hp) (A : List Addr) (a : Addr) : Cell → Prop
  | .lst ds => ∃ xs, H a = some (.lst xs) ∧ DRs p I A ds xs
  | .ins c fs => ∃ Ca dx ns xs, p.cls c = some (Ca, ns) ∧ H a = some (.ins Ca dx ((ns.take xs.length).zip xs)) ∧ DRs p I A fs xs ∧ xs.length ≤ ns.length
structure RepM (p : Par) (H I : Hp) (A : List Addr) (m : Mem) : Prop where
  sub : ∀ a o, I a = some o → H a = some o
  nd : A.Nodup
  len : A.length = m.length
  cell : ∀ (n : Nat) (c : Cell) (a : Addr), m[n]? = some c → A[n]? = some a → I a = none ∧ CellAt p H I A a c
structure RepE (p : Par) (σ : L2.St) (I : Hp) (A : List Addr) (env : Env) : Prop where
  len : env.length = σ.length
  val : ∀ (i : Nat) (d : D), env[i]? = some (some d) → ∃ v, σ[i]? = some (some v) ∧ DR p I A d v
structure Ext (H I : Hp) (A : List Addr) (H' I' : Hp) (A' : List Addr) : Prop where
  sub : ∀ a o, I a = some o → I' a = some o
  keep : ∀ a o, H a = some o → a ∉ A → H' a = some o
  there : ∀ a o, H a = some o → ∃ o', H' a = some o'
  same : ∀ a o o', H a = some o → I' a = some o' → I a = some o'
  pre : ∃ B, A' = A ++ B ∧ ∀ a ∈ B, H a = none

section
variable {p : Par} {H H1 H2 I I1 I2 : Hp} {A A1 A2 : List Addr}
theorem Ext.refl : Ext H I A H I A := ⟨fun _ _ e => e, fun _ _ e _ => e, fun _ o e => ⟨o, e⟩, fun _ _ _ _ e => e, [], by simp, fun _ h => nomatch h⟩
theorem Ext.notin (e : Ext H I A H1 I1 A1) {a : Addr} {o : HO} (h : H a = some o) (n : a ∉ A) : a ∉ A1 := by
  obtain ⟨B, rfl, hb⟩ := e.pre
  intro hm
  rcases List.mem_append.mp hm with z | z
  · exact n z
  · rw [hb a z] at h; cases h
theorem Ext.trans (e : Ext H I A H1 I1 A1) (f : Ext H1 I1 A1 H2 I2 A2) : Ext H I A H2 I2 A2 := by
  refine ⟨fun a o h => f.sub a o (e.sub a o h), fun a o h n => f.keep a o (e.keep a o h n) (e.notin h n), fun a o h => ?_, fun a o o' h h' => ?_, ?_⟩
  · obtain ⟨o1, h1⟩ := e.there a o h
    exact f.there a o1 h1
  · obtain ⟨o1, h1⟩ := e.there a o h
    exact e.same a o o' h (f.same a o1 o' h1 h')
  · obtain ⟨B, rfl, hb⟩ := e.pre
    obtain ⟨B2, rfl, hb2⟩ := f.pre
    refine ⟨B ++ B2, by simp, fun a hm => ?_⟩
    rcases List.mem_append.mp hm with z | z
    · exact hb a z
    · cases q : H a with
      | none => rfl
      | some o =>
        obtain ⟨o1, h1⟩ := e.there a o q
        rw [hb2 a z] at h1; cases h1
theorem Ext.get (e : Ext H I A H1 I1 A1) : ∀ (n : Nat) (a : Addr), A[n]? = some a → A1[n]? = some a := fun n a h => by
  obtain ⟨B, rfl, _⟩ := e.pre
  have := (List.getElem?_eq_some_iff.mp h).1
  rw [List.getElem?_append_left this]; exact h
theorem Ext.dr (e : Ext H I A H1 I1 A1) {d : D} {v : V} (h : DR p I A d v) : DR p I1 A1 d v := h.mono e.sub e.get
theorem Ext.drs (e : Ext H I A H1 I1 A1) {d : List D} {v : List V} (h : DRs p I A d v) : DRs p I1 A1 d v := h.mono e.sub e.get
theorem RepE.ext {σ : L2.St} {env : Env} (r : RepE p σ I A env) (e : Ext H I A H1 I1 A1) : RepE p σ I1 A1 env := by
  refine ⟨r.len, fun i d h => ?_⟩
  obtain ⟨v, h1, h2⟩ := r.val i d h
  exact ⟨v, h1, e.dr h2⟩
end
end Zd


set_option Elab.async false
set_option linter.all false
set_option maxRecDepth 100000
set_option maxHeartbeats 2000000
namespace Zd
open PySem PySem.Spec PyProof.Rows L2 Zx
abbrev St := L2.St

/-! ### new objects -/
section
variable {p : Par} {H I : Hp} {A : List Addr} {m : Mem}
theorem CellAt.keep {H' I' : Hp} {A' : List Addr} {a : Addr} {c : Cell} (h : CellAt p H I A a c) (hs : ∀ a o, I a = some o → I' a = some o) (hg : ∀ (n : Nat) (a : Addr), A[n]? = some a → A'[n]? = some a) (hk : H' a = H a) : CellAt p H' I' A' a c := by
  cases c with
  | lst ds =>
    obtain ⟨xs, h1, h2⟩ := h
    exact ⟨xs, hk.trans h1, h2.mono hs hg⟩
  | ins c fs =>
    obtain ⟨Ca, dx, ns, xs, h1, h2, h3, h4⟩ := h
    exact ⟨Ca, dx, ns, xs, h1, hk.trans h2, h3.mono hs hg, h4⟩
theorem CellAt.there {a : Addr} {c : Cell} (h : CellAt p H I A a c) : ∃ o, H a = some o := by
  cases c with
  | lst ds =>
    obtain ⟨xs, h1, h2⟩ := h
    exact ⟨_, h1⟩
  | ins c fs =>
    obtain ⟨Ca, dx, ns, xs, h1, h2, h3, h4⟩ := h
    exact ⟨_, h2⟩
theorem RepM.at_ (M : RepM p H I A m) {a : Addr} (h : a ∈ A) : I a = none ∧ ∃ o, H a = some o := by
  obtain ⟨n, hn, e⟩ := List.getElem_of_mem h
  have e1 : A[n]? = some a := by rw [List.getElem?_eq_getElem hn, e]
  have hm : n < m.length := by rw [← M.len]; exact hn
  obtain ⟨h1, h2⟩ := M.cell n m[n] a (List.getElem?_eq_getElem hm) e1
  exact ⟨h1, h2.there⟩
theorem RepM.new (M : RepM p H I A m) {q : Addr} {o : HO} (hq : H q = none) : RepM p (upd H q o) (upd I q o) A m := by
  have nq : ∀ a ∈ A, a ≠ q := fun a ha z => by
    obtain ⟨_, o', h⟩ := M.at_ ha
    rw [z, hq] at h; cases h
  have iq : I q = none := by
    cases z : I q with
    | none => rfl
    | some u => rw [M.sub q u z] at hq; cases hq
  refine ⟨fun a u h => ?_, M.nd, M.len, fun n c a h1 h2 => ?_⟩
  · by_cases e : a = q
    · rw [e, upd_same] at h ⊢; exact h
    · rw [upd_ne e] at h ⊢; exact M.sub a u h
  · have ne := nq a (List.mem_of_getElem? h2)
    obtain ⟨h3, h4⟩ := M.cell n c a h1 h2
    refine ⟨by rw [upd_ne ne]; exact h3, h4.keep (fun b u hb => ?_) (fun _ _ z => z) (upd_ne ne)⟩
    rw [upd_ne (ne_of_none hb iq)]; exact hb
theorem RepM.ext_new (M : RepM p H I A m) {q : Addr} {o : HO} (hq : H q = none) : Ext H I A (upd H q o) (upd I q o) A := by
  have iq : I q = none := by
    cases z : I q with
    | none => rfl
    | some u => rw [M.sub q u z] at hq; cases hq
  refine ⟨fun a u h => ?_, fun a u h _ => ?_, fun a u h => ⟨u, ?_⟩, fun a u u' h h' => ?_, [], by simp, fun _ h => nomatch h⟩
  · rw [upd_ne (ne_of_none h iq)]; exact h
  · rw [upd_ne (ne_of_none h hq)]; exact h
  · rw [upd_ne (ne_of_none h hq)]; exact h
  · rw [upd_ne (ne_of_none h hq)] at h'; exact h'
end

/-! ### lifting -/
/-- what is wanted behind: R says how an outcome is borne -/
def ErrAt (p : Par) (H I : Hp) (A : List Addr) (e : Ex) (c : Value) (dx : Option Addr) : Prop :=
  ∃ Ca ns xs, p.exc e.cls = some (Ca, ns) ∧ c = .ref Ca ∧ DRs p I A e.fs xs ∧ xs.length = ns.length ∧ (ns = [] ∨ ∃ d0, dx = some d0 ∧ H d0 = some (.xd (ns.zip xs)))
def post {α β : Type} (R : Hp → List Addr → α → β → Prop) (p : Par) (H I : Hp) (A : List Addr) (Q : β → Hp → Prop) (E : XK) : Res α → Prop
  | .ok x m => ∀ y H' I' A', Ext H I A H' I' A' → RepM p H' I' A' m → R I' A' x y → Q y H'
  | .err e m => ∀ c dx H' I' A', Ext H I A H' I' A' → RepM p H' I' A' m → ErrAt p H' I' A' e c dx → E c dx H'
  | .bad => False
abbrev RD (p : Par) : Hp → List Addr → D → V → Prop := fun I A d v => DR p I A d v
abbrev RL (p : Par) : Hp → List Addr → List D → List V → Prop := fun I A d v => DRs p I A d v
abbrev RB : Hp → List Addr → Bool → Bool → Prop := fun _ _ b c => b = c
def lift {α β : Type} (R : Hp → List Addr → α → β → Prop) (p : Par) (W : WX) (f : Env → Mem → Res α) : St → Hp → (β → Hp → Prop) → Prop := fun σ H Q =>
  ∃ I A env mem, RepM p H I A mem ∧ RepE p σ I A env ∧ post R p H I A Q (fun c d H' => W c d σ H') (f env mem)
abbrev SE := Env → Mem → Res D
abbrev SL := Env → Mem → Res (List D)
abbrev SB := Env → Mem → Res Bool
abbrev liftE (p : Par) (W : WX) (f : SE) : TE := lift (RD p) p W f
abbrev liftL (p : Par) (W : WX) (f : SL) : TA := lift (RL p) p W f
abbrev liftT (p : Par) (W : WX) (f : SB) : TT := lift RB p W f

section
variable {α β γ δ : Type} {R : Hp → List Addr → α → β → Prop} {R2 : Hp → List Addr → γ → δ → Prop} {p : Par} {H I H1 I1 : Hp} {A A1 : List Addr} {Q : β → Hp → Prop} {Q2 : δ → Hp → Prop} {E : XK} {W : WX}
theorem post.ext {r : Res α} (h : post R p H I A Q E r) (e : Ext H I A H1 I1 A1) : post R p H1 I1 A1 Q E r := by
  cases r with
  | ok x m => exact fun y H' I' A' f => h y H' I' A' (e.trans f)
  | err x m => exact fun c dx H' I' A' f => h c dx H' I' A' (e.trans f)
  | bad => exact h
/-- first one thing, then another -/
theorem post.bind {r : Res α} {k : α → Mem → Res γ} (h : post R2 p H I A Q2 E (r.bind k)) :
    post R p H I A (fun y H1 => ∃ I1 A1 x m1, Ext H I A H1 I1 A1 ∧ RepM p H1 I1 A1 m1 ∧ R I1 A1 x y ∧ post R2 p H1 I1 A1 Q2 E (k x m1)) E r := by
  cases r with
  | ok x m => exact fun y H' I' A' f M r => ⟨I', A', x, m, f, M, r, post.ext (r := k x m) h f⟩
  | err x m => exact h
  | bad => exact h
theorem post.mono {r : Res α} {Q' : β → Hp → Prop} (h : post R p H I A Q E r) (hq : ∀ y H', Q y H' → Q' y H') : post R p H I A Q' E r := by
  cases r with
  | ok x m => exact fun y H' I' A' f M r => hq _ _ (h y H' I' A' f M r)
  | err x m => exact h
  | bad => exact h
theorem post.ok (x : α) (m : Mem) (h : post R p H I A Q E (.ok x m)) (M : RepM p H I A m) {y : β} (r : R I A x y) : Q y H := h y H I A .refl M r
theorem post.okN {x : α} {m : Mem} (h : post R p H I A Q E (.ok x m)) (M : RepM p H I A m) {y : β} {q : Addr} {o : HO} (hq : H q = none) (r : R (upd I q o) A x y) : Q y (upd H q o) := h y _ _ A (M.ext_new hq) (M.new hq) r
/-- from the whole's lift the first part's, with the rest behind -/
theorem lift.first {f : Env → Mem → Res α} {k : Env → α → Mem → Res γ} {σ : St} (h : lift R2 p W (fun env m => (f env m).bind (k env)) σ H Q2) :
    lift R p W f σ H (fun y H1 => ∃ I1 A1 env x m1, RepM p H1 I1 A1 m1 ∧ RepE p σ I1 A1 env ∧ R I1 A1 x y ∧ post R2 p H1 I1 A1 Q2 (fun c d H' => W c d σ H') (k env x m1)) := by
  obtain ⟨I, A, env, m, M, Er, hp⟩ := h
  refine ⟨I, A, env, m, M, Er, (post.bind hp).mono fun y H1 ⟨I1, A1, x, m1, e, M1, r, hp1⟩ => ⟨I1, A1, env, x, m1, M1, Er.ext e, r, hp1⟩⟩
theorem lift.mono {f : Env → Mem → Res α} {σ : St} {Q' : β → Hp → Prop} (h : lift R p W f σ H Q) (hq : ∀ y H', Q y H' → Q' y H') : lift R p W f σ H Q' := by
  obtain ⟨I, A, env, m, M, Er, hp⟩ := h
  exact ⟨I, A, env, m, M, Er, hp.mono hq⟩
end

/-! ### operations by their data -/
abbrev Prim := List D → Mem → Option D
/-- the operation's reading r is what prim says -/
def PrimOk (p : Par) (r : List V → Hp → VK → Prop) (prim : Prim) : Prop :=
  ∀ (H I : Hp) (A : List Addr) (m : Mem) (ds : List D) (vs : List V) (d : D) (Q : VK) (E : XK), RepM p H I A m → DRs p I A ds vs → prim ds m = some d → post (RD p) p H I A Q E (.ok d m) → r vs H Q
def Res.of {α : Type} (o : Option α) (m : Mem) : Res α := match o with
  | some a => .ok a m
  | none => .bad
def f1 (prim : Prim) (fa : SE) : SE := fun env m => (fa env m).bind fun x m => Res.of (prim [x] m) m
def f2 (prim : Prim) (fa fb : SE) : SE := fun env m => (fa env m).bind fun x m => (fb env m).bind fun y m => Res.of (prim [x, y] m) m
def f3 (prim : Prim) (fa fb fc : SE) : SE := fun env m => (fa env m).bind fun x m => (fb env m).bind fun y m => (fc env m).bind fun z m => Res.of (prim [x, y, z] m) m
section
variable {p : Par} {W : WX} {σ : St} {H : Hp} {Q : VK} {fa fb fc : SE} {prim : Prim}
theorem post.of {R : Hp → List Addr → D → V → Prop} {I : Hp} {A : List Addr} {E : XK} {o : Option D} {m : Mem} (h : post R p H I A Q E (Res.of o m)) : ∃ d, o = some d ∧ post R p H I A Q E (.ok d m) := by
  cases o with
  | none => exact False.elim h
  | some d => exact ⟨d, rfl, h⟩
theorem lift_1 {r : V → Hp → VK → Prop} (hp : PrimOk p (fun vs H Q => ∃ v, vs = [v] ∧ r v H Q) prim) (h : liftE p W (f1 prim fa) σ H Q) : liftE p W fa σ H fun v H1 => r v H1 Q := by
  refine (lift.first (R := RD p) (k := fun _ x m => Res.of (prim [x] m) m) h).mono fun v H1 ⟨I1, A1, env, x, m1, M1, E1, r1, h1⟩ => ?_
  obtain ⟨d, e, h2⟩ := h1.of
  obtain ⟨v', e', h3⟩ := hp H1 I1 A1 m1 [x] [v] d Q _ M1 (.cons r1 .nil) e h2
  cases e'
  exact h3
theorem lift_2 {r : R2} (hp : PrimOk p (fun vs H Q => ∃ v u, vs = [v, u] ∧ r v u H Q) prim) (h : liftE p W (f2 prim fa fb) σ H Q) : liftE p W fa σ H fun v H1 => liftE p W fb σ H1 fun u H2 => r v u H2 Q := by
  refine (lift.first (R := RD p) (k := fun env x m => (fb env m).bind fun y m => Res.of (prim [x, y] m) m) h).mono fun v H1 ⟨I1, A1, env, x, m1, M1, E1, r1, h1⟩ => ?_
  refine ⟨I1, A1, env, m1, M1, E1, (post.bind (R := RD p) h1).mono fun u H2 ⟨I2, A2, y, m2, e2, M2, r2, h2⟩ => ?_⟩
  obtain ⟨d, e, h3⟩ := h2.of
  obtain ⟨v', u', e', h4⟩ := hp H2 I2 A2 m2 [x, y] [v, u] d Q _ M2 (.cons (e2.dr r1) (.cons r2 .nil)) e h3
  cases e'
  exact h4
theorem lift_3 {r : V → V → V → Hp → VK → Prop} (hp : PrimOk p (fun vs H Q => ∃ v u w, vs = [v, u, w] ∧ r v u w H Q) prim) (h : liftE p W (f3 prim fa fb fc) σ H Q) :
    liftE p W fa σ H fun v H1 => liftE p W fb σ H1 fun u H2 => liftE p W fc σ H2 fun w H3 => r v u w H3 Q := by
  refine (lift.first (R := RD p) (k := fun env x m => (fb env m).bind fun y m => (fc env m).bind fun z m => Res.of (prim [x, y, z] m) m) h).mono fun v H1 ⟨I1, A1, env, x, m1, M1, E1, r1, h1⟩ => ?_
  refine ⟨I1, A1, env, m1, M1, E1, (post.bind (R := RD p) h1).mono fun u H2 ⟨I2, A2, y, m2, e2, M2, r2, h2⟩ => ?_⟩
  refine ⟨I2, A2, env, m2, M2, E1.ext e2, (post.bind (R := RD p) h2).mono fun w H3 ⟨I3, A3, z, m3, e3, M3, r3, h3⟩ => ?_⟩
  obtain ⟨d, e, h4⟩ := h3.of
  obtain ⟨v', u', w', e', h5⟩ := hp H3 I3 A3 m3 [x, y, z] [v, u, w] d Q _ M3 (.cons (e3.dr (e2.dr r1)) (.cons (e3.dr r2) (.cons r3 .nil))) e h4
  cases e'
  exact h5
end
/-- an argument list -/
def fNil : SL := fun _ m => .ok [] m
def fCons (fa : SE) (fr : SL) : SL := fun env m => (fa env m).bind fun x m => (fr env m).bind fun xs m => .ok (x :: xs) m
def fN (prim : Prim) (fl : SL) : SE := fun env m => (fl env m).bind fun xs m => Res.of (prim xs m) m
section
variable {p : Par} {W : WX} {σ : St} {H : Hp} {fa : SE} {fl : SL} {prim : Prim}
theorem lift_nil {Q : List V → Hp → Prop} (h : liftL p W fNil σ H Q) : tNil σ H Q := by
  obtain ⟨I, A, env, m, M, E, hp⟩ := h
  exact hp [] H I A .refl M .nil
theorem lift_cons {Q : List V → Hp → Prop} (h : liftL p W (fCons fa fl) σ H Q) : tCons (liftE p W fa) (liftL p W fl) σ H Q := by
  refine (lift.first (R := RD p) (k := fun env x m => (fl env m).bind fun xs m => .ok (x :: xs) m) h).mono fun v H1 ⟨I1, A1, env, x, m1, M1, E1, r1, h1⟩ => ?_
  refine ⟨I1, A1, env, m1, M1, E1, (post.bind (R := RL p) h1).mono fun us H2 ⟨I2, A2, ys, m2, e2, M2, r2, h2⟩ => ?_⟩
  exact h2 (v :: us) H2 I2 A2 .refl M2 (.cons (e2.dr r1) r2)
theorem lift_N {Q : VK} {r : List V → Hp → VK → Prop} (hp : PrimOk p r prim) (h : liftE p W (fN prim fl) σ H Q) : liftL p W fl σ H fun vs H1 => r vs H1 Q := by
  refine (lift.first (R := RL p) (k := fun _ xs m => Res.of (prim xs m) m) h).mono fun v H1 ⟨I1, A1, env, x, m1, M1, E1, r1, h1⟩ => ?_
  obtain ⟨d, e, h2⟩ := h1.of
  exact hp H1 I1 A1 m1 x v d Q _ M1 r1 e h2
end
/-! ### a weaker reading -/
theorem PE.imp {X : Cx} {e : Expr} {t t' : TE} (h : PE X e t) (i : ∀ σ H Q, t' σ H Q → t σ H Q) : PE X e t' := ⟨fun pins s σ H Q I q => h.run pins s σ H Q I (i _ _ _ q)⟩
theorem PT.imp {X : Cx} {e : Expr} {t t' : TT} (h : PT X e t) (i : ∀ σ H Q, t' σ H Q → t σ H Q) : PT X e t' := ⟨fun pins s σ H Q I q => h.run pins s σ H Q I (i _ _ _ q)⟩
theorem PW.imp {X : Cx} {e : Expr} {t t' : TT} (h : PW X e t) (i : ∀ σ H Q, t' σ H Q → t σ H Q) : PW X e t' := ⟨fun w pins s σ H Q I q => h.run w pins s σ H Q I (i _ _ _ q)⟩
theorem PA.imp {X : Cx} {es : List Expr} {t t' : TA} (h : PA X es t) (i : ∀ σ H Q, t' σ H Q → t σ H Q) : PA X es t' := ⟨fun pos pins s σ H Q I q => h.run pos pins s σ H Q I (i _ _ _ q)⟩
theorem PS.imp {X : Cx} {st : Stmt} {t t' : TS} (h : PS X st t) (i : ∀ D σ H, t' D σ H → t D σ H) : PS X st t' := ⟨fun pins s σ H D I q => h.run pins s σ H D I (i _ _ _ q)⟩
theorem PSs.imp {X : Cx} {st : List Stmt} {t t' : TS} (h : PSs X st t) (i : ∀ D σ H, t' D σ H → t D σ H) : PSs X st t' := ⟨fun pins s σ H D I q => h.run pins s σ H D I (i _ _ _ q)⟩
end Zd


set_option Elab.async false
set_option linter.all false
set_option maxRecDepth 100000
set_option maxHeartbeats 2000000
namespace Zd
open PySem PySem.Spec PyProof.Rows L2 Zx

section
variable {p : Par} {H I : Hp} {A : List Addr} {m : Mem}
theorem DR.int_inv {i : Int} {v : V} (h : DR p I A (.int i) v) : v = .int i := by cases h; rfl
theorem DR.bl_inv {b : Bool} {v : V} (h : DR p I A (.bl b) v) : v = .bl b := by cases h; rfl
theorem DR.str_inv {x : Str} {v : V} (h : DR p I A (.str x) v) : v = .str x := by cases h; rfl
theorem DR.tup_inv {ds : List D} {v : V} (h : DR p I A (.tup ds) v) : ∃ a xs, v = .ref a ∧ I a = some (.tup xs) ∧ DRs p I A ds xs := by
  cases h with
  | tup q r => exact ⟨_, _, rfl, q, r⟩
theorem DR.lst_inv {ds : List D} {v : V} (h : DR p I A (.lst ds) v) : ∃ a xs, v = .ref a ∧ I a = some (.lst xs) ∧ DRs p I A ds xs := by
  cases h with
  | lst q r => exact ⟨_, _, rfl, q, r⟩
theorem DR.scr_inv {ds : List D} {v : V} (h : DR p I A (.scr ds) v) : ∃ a xs, v = .ref a ∧ SqL p.K I a xs ∧ DRs p I A ds xs := by
  cases h with
  | scr q r => exact ⟨_, _, rfl, q, r⟩
theorem DRs.one {d : D} {vs : List V} (h : DRs p I A [d] vs) : ∃ v, vs = [v] ∧ DR p I A d v := by
  cases h with
  | cons q r => cases r; exact ⟨_, rfl, q⟩
theorem DRs.two {d e : D} {vs : List V} (h : DRs p I A [d, e] vs) : ∃ v u, vs = [v, u] ∧ DR p I A d v ∧ DR p I A e u := by
  cases h with
  | cons q r =>
    obtain ⟨u, e, q2⟩ := DRs.one r
    subst e
    exact ⟨_, _, rfl, q, q2⟩
/-- data that are not copied when they are taken apart: a list of intsD, texts, bools -/
def intsD : List D → Option (List Int)
  | [] => some []
  | .int i :: r => (intsD r).map (i :: ·)
  | _ => none
def blsD : List D → Option (List Bool)
  | [] => some []
  | .bl i :: r => (blsD r).map (i :: ·)
  | _ => none
def strsD : List D → Option (List Str)
  | [] => some []
  | .str i :: r => (strsD r).map (i :: ·)
  | _ => none
theorem ints_vals : ∀ {ds : List D} {vs : List V} {ns : List Int}, DRs p I A ds vs → intsD ds = some ns → vs = ns.map V.int
  | [], _, ns, h, e => by cases h; cases e; rfl
  | d :: ds, _, ns, h, e => by
    cases h with
    | cons q r =>
      cases d with
      | int i =>
        have e1 : (intsD ds).map (i :: ·) = some ns := e
        obtain ⟨ms, z, e2⟩ := Option.map_eq_some_iff.mp e1
        subst e2
        rw [q.int_inv, ints_vals r z]; rfl
      | _ => cases e
theorem bls_vals : ∀ {ds : List D} {vs : List V} {ns : List Bool}, DRs p I A ds vs → blsD ds = some ns → vs = ns.map V.bl
  | [], _, ns, h, e => by cases h; cases e; rfl
  | d :: ds, _, ns, h, e => by
    cases h with
    | cons q r =>
      cases d with
      | bl i =>
        have e1 : (blsD ds).map (i :: ·) = some ns := e
        obtain ⟨ms, z, e2⟩ := Option.map_eq_some_iff.mp e1
        subst e2
        rw [q.bl_inv, bls_vals r z]; rfl
      | _ => cases e
theorem strs_valsD : ∀ {ds : List D} {vs : List V} {ns : List Str}, DRs p I A ds vs → strsD ds = some ns → vs = ns.map V.str
  | [], _, ns, h, e => by cases h; cases e; rfl
  | d :: ds, _, ns, h, e => by
    cases h with
    | cons q r =>
      cases d with
      | str i =>
        have e1 : (strsD ds).map (i :: ·) = some ns := e
        obtain ⟨ms, z, e2⟩ := Option.map_eq_some_iff.mp e1
        subst e2
        rw [q.str_inv, strs_valsD r z]; rfl
      | _ => cases e
theorem tupI (M : RepM p H I A m) {a : Addr} {xs : List V} {K : PySem.W.Frag} (h : I a = some (.tup xs)) : SqT K H a xs := .of (M.sub _ _ h)
theorem lstI (M : RepM p H I A m) {a : Addr} {xs : List V} {K : PySem.W.Frag} (h : I a = some (.lst xs)) : SqL K H a xs := .of (M.sub _ _ h)
theorem scrI (M : RepM p H I A m) {a : Addr} {xs : List V} {K : PySem.W.Frag} (h : SqL K I a xs) : SqL K H a xs := SqL.mono' M.sub h
/-- what a sequence holds: a list, a tuple, the script, a list that is a cell -/
def seqOf (m : Mem) : D → Option (List D)
  | .lst ds => some ds
  | .tup ds => some ds
  | .scr ds => some ds
  | .cell n => match m[n]? with
    | some (.lst ds) => some ds
    | _ => none
  | _ => none
theorem RepM.there (M : RepM p H I A m) {n : Nat} {c : Cell} (h : m[n]? = some c) : ∃ a, A[n]? = some a := by
  have hn : n < m.length := (List.getElem?_eq_some_iff.mp h).1
  have hn2 : n < A.length := by rw [M.len]; exact hn
  exact ⟨A[n], List.getElem?_eq_getElem hn2⟩
theorem seq_of (M : RepM p H I A m) {d : D} {v : V} {ds : List D} (h : DR p I A d v) (e : seqOf m d = some ds) : ∃ a xs, v = .ref a ∧ (SqL p.K H a xs ∨ SqT p.K H a xs) ∧ DRs p I A ds xs := by
  cases d with
  | tup es => cases e; obtain ⟨a, xs, e1, e2, e3⟩ := h.tup_inv; exact ⟨a, xs, e1, .inr (tupI M e2), e3⟩
  | lst es => cases e; obtain ⟨a, xs, e1, e2, e3⟩ := h.lst_inv; exact ⟨a, xs, e1, .inl (lstI M e2), e3⟩
  | scr es => cases e; obtain ⟨a, xs, e1, e2, e3⟩ := h.scr_inv; exact ⟨a, xs, e1, .inl (scrI M e2), e3⟩
  | cell n =>
    have e1 : (match m[n]? with
      | some (.lst ds) => some ds
      | _ => none) = some ds := e
    cases z : m[n]? with
    | none => rw [z] at e1; cases e1
    | some c =>
      rw [z] at e1
      cases c with
      | ins _ _ => cases e1
      | lst es =>
        cases e1
        cases h with
        | cell q =>
          obtain ⟨_, xs, h1, h2⟩ := M.cell n _ _ z q
          exact ⟨_, xs, rfl, .inl (SqL.of h1), h2⟩
  | _ => cases e
/-- a new tuple, a new list -/
theorem post.tup {Q : VK} {E : XK} {ds : List D} {xs : List V} {q : Addr} (h : post (RD p) p H I A Q E (.ok (.tup ds) m)) (M : RepM p H I A m) (hq : H q = none) (r : DRs p I A ds xs) : Q (.ref q) (upd H q (.tup xs)) :=
  h.okN M hq (.tup upd_same (((M.ext_new hq)).drs r))
theorem post.lst {Q : VK} {E : XK} {ds : List D} {xs : List V} {q : Addr} (h : post (RD p) p H I A Q E (.ok (.lst ds) m)) (M : RepM p H I A m) (hq : H q = none) (r : DRs p I A ds xs) : Q (.ref q) (upd H q (.lst xs)) :=
  h.okN M hq (.lst upd_same (((M.ext_new hq)).drs r))
end

/-! ### arithmetic -/
def big (i : Int) : Prop := i.natAbs < 2 ^ 400000
def pAdd : Prim := fun ds m => match ds with
  | [.int i, .int j] => some (.int (i + j))
  | [.str x, .str y] => if x.length + y.length ≤ sizeLine then some (.str (x ++ y)) else none
  | [.lst x, .lst y] => if x.length + y.length ≤ sizeLine then some (.lst (x ++ y)) else none
  | [.tup x, .tup y] => if x.length + y.length ≤ sizeLine then some (.tup (x ++ y)) else none
  | _ => none
def rAdd4 (K : PySem.W.Frag) : R2 := fun x y H Q => (∃ i j, x = .int i ∧ y = .int j ∧ Q (.int (i + j)) H) ∨ (∃ i j, x = .str i ∧ y = .str j ∧ i.length + j.length ≤ sizeLine ∧ Q (.str (i ++ j)) H) ∨ rCat x y H Q ∨ rCatA K x y H Q
theorem op_add4 {X : Cx} : OpR X (binaryOp .Add) (rAdd4 X.K) := (op_add.or (op_add_str.or (op_cat.or op_catA)))
abbrev R2p (r : R2) : List V → Hp → VK → Prop := fun vs H Q => ∃ v u, vs = [v, u] ∧ r v u H Q
abbrev R1p (r : V → Hp → VK → Prop) : List V → Hp → VK → Prop := fun vs H Q => ∃ v, vs = [v] ∧ r v H Q
theorem ok_add {p : Par} : PrimOk p (R2p (rAdd4 p.K)) pAdd := by
  intro H I A m ds vs d Q E M r e h
  unfold pAdd at e
  split at e
  · cases e
    obtain ⟨v, u, rfl, q1, q2⟩ := r.two
    cases q1.int_inv; cases q2.int_inv
    exact ⟨_, _, rfl, .inl ⟨_, _, rfl, rfl, h.ok _ _ M (.int _)⟩⟩
  · split at e
    · rename_i hz
      cases e
      obtain ⟨v, u, rfl, q1, q2⟩ := r.two
      cases q1.str_inv; cases q2.str_inv
      exact ⟨_, _, rfl, .inr (.inl ⟨_, _, rfl, rfl, hz, h.ok _ _ M (.str _)⟩)⟩
    · cases e
  · split at e
    · rename_i hz
      cases e
      obtain ⟨v, u, rfl, q1, q2⟩ := r.two
      obtain ⟨a, xs, rfl, h1, h2⟩ := q1.lst_inv
      obtain ⟨b, ys, rfl, h3, h4⟩ := q2.lst_inv
      refine ⟨_, _, rfl, .inr (.inr (.inl ⟨a, b, xs, ys, rfl, rfl, M.sub _ _ h1, M.sub _ _ h3, ?_, fun q hq => h.lst M hq (h2.append h4)⟩))⟩
      rw [← h2.length, ← h4.length]; exact hz
    · cases e
  · split at e
    · rename_i hz
      cases e
      obtain ⟨v, u, rfl, q1, q2⟩ := r.two
      obtain ⟨a, xs, rfl, h1, h2⟩ := q1.tup_inv
      obtain ⟨b, ys, rfl, h3, h4⟩ := q2.tup_inv
      refine ⟨_, _, rfl, .inr (.inr (.inr ⟨a, b, xs, ys, rfl, rfl, tupI M h1, tupI M h3, ?_, fun hx => ?_, fun _ hy => ?_, fun _ _ q hq => h.tup M hq (h2.append h4)⟩))⟩
      · rw [← h2.length, ← h4.length]; exact hz
      · subst hx
        cases h2
        exact h.ok _ _ M (.tup h3 h4)
      · subst hy
        cases h4
        refine h.ok _ _ M (.tup h1 ?_)
        rw [List.append_nil]; exact h2
    · cases e
  · cases e
def pSub : Prim := fun ds m => match ds with
  | [.int i, .int j] => some (.int (i - j))
  | _ => none
theorem ok_sub {p : Par} : PrimOk p (R2p (rI0 fun i j => .int (i - j))) pSub := by
  intro H I A m ds vs d Q E M r e h
  unfold pSub at e
  split at e
  · cases e
    obtain ⟨v, u, rfl, q1, q2⟩ := r.two
    cases q1.int_inv; cases q2.int_inv
    exact ⟨_, _, rfl, _, _, rfl, rfl, h.ok _ _ M (.int _)⟩
  · cases e
/-- both factors together below a million bits; a list of some items often -/
instance (i j : Int) : Decidable (CMulW i j) := by unfold CMulW; infer_instance
def pMul : Prim := fun ds m => match ds with
  | [.int i, .int j] => if CMulW i j then some (.int (i * j)) else none
  | [.lst x, .int k] => if k < 2 ^ 62 ∧ -(2 ^ 62) ≤ k ∧ x.length * k.toNat ≤ sizeLine then some (.lst (List.replicate k.toNat x).flatten) else none
  | [.tup x, .int k] => if 2 ≤ k ∧ k ≤ 1000 ∧ 1 ≤ x.length ∧ x.length ≤ 1000 then some (.tup (List.replicate k.toNat x).flatten) else none
  | _ => none
def rMul3 (K : PySem.W.Frag) : R2 := fun x y H Q => rI CMulW (fun i j => .int (i * j)) x y H Q ∨ rRep x y H Q ∨ rRepT K x y H Q
theorem op_mul3 {X : Cx} : OpR X (binaryOp .Mult) (rMul3 X.K) := op_mulW.or (op_rep.or op_repT)
theorem DRs.rep {p : Par} {I : Hp} {A : List Addr} {ds : List D} {vs : List V} (h : DRs p I A ds vs) : ∀ k : Nat, DRs p I A (List.replicate k ds).flatten (List.replicate k vs).flatten
  | 0 => .nil
  | k + 1 => by rw [List.replicate_succ, List.replicate_succ, List.flatten_cons, List.flatten_cons]; exact h.append (h.rep k)
theorem ok_mul {p : Par} : PrimOk p (R2p (rMul3 p.K)) pMul := by
  intro H I A m ds vs d Q E M r e h
  unfold pMul at e
  split at e
  · split at e
    · rename_i hz
      cases e
      obtain ⟨v, u, rfl, q1, q2⟩ := r.two
      cases q1.int_inv; cases q2.int_inv
      exact ⟨_, _, rfl, .inl ⟨_, _, rfl, rfl, hz, h.ok _ _ M (.int _)⟩⟩
    · cases e
  · split at e
    · rename_i hz
      cases e
      obtain ⟨v, u, rfl, q1, q2⟩ := r.two
      obtain ⟨a, xs, rfl, h1, h2⟩ := q1.lst_inv
      cases q2.int_inv
      refine ⟨_, _, rfl, .inr (.inl ⟨a, _, xs, rfl, rfl, M.sub _ _ h1, by omega, by omega, ?_, fun q hq => h.lst M hq (h2.rep _)⟩)⟩
      rw [← h2.length]; exact hz.2.2
    · cases e
  · split at e
    · rename_i hz
      cases e
      obtain ⟨v, u, rfl, q1, q2⟩ := r.two
      obtain ⟨a, xs, rfl, h1, h2⟩ := q1.tup_inv
      cases q2.int_inv
      have hl := h2.length
      refine ⟨_, _, rfl, .inr (.inr ⟨a, _, xs, rfl, rfl, tupI M h1, ?_, hz.1, hz.2.1, by omega, fun q hq => h.tup M hq (h2.rep _)⟩)⟩
      intro z
      rw [z] at hl
      have := hz.2.2.1
      rw [hl] at this
      cases this
    · cases e
  · cases e
instance (i j : Int) : Decidable (CDivW i j) := by unfold CDivW; infer_instance
def pFdiv : Prim := fun ds m => match ds with
  | [.int i, .int j] => if CDivW i j then some (.int (i / j)) else none
  | _ => none
theorem ok_fdiv {p : Par} : PrimOk p (R2p (rI CDivW fun i j => .int (i / j))) pFdiv := by
  intro H I A m ds vs d Q E M r e h
  unfold pFdiv at e
  split at e
  · split at e
    · rename_i hz
      cases e
      obtain ⟨v, u, rfl, q1, q2⟩ := r.two
      cases q1.int_inv; cases q2.int_inv
      exact ⟨_, _, rfl, _, _, rfl, rfl, hz, h.ok _ _ M (.int _)⟩
    · cases e
  · cases e
def pMod : Prim := fun ds m => match ds with
  | [.int i, .int j] => if 0 < j then some (.int (i % j)) else none
  | _ => none
theorem ok_mod {p : Par} : PrimOk p (R2p (rI (fun _ j => 0 < j) fun i j => .int (i % j))) pMod := by
  intro H I A m ds vs d Q E M r e h
  unfold pMod at e
  split at e
  · split at e
    · rename_i hz
      cases e
      obtain ⟨v, u, rfl, q1, q2⟩ := r.two
      cases q1.int_inv; cases q2.int_inv
      exact ⟨_, _, rfl, _, _, rfl, rfl, hz, h.ok _ _ M (.int _)⟩
    · cases e
  · cases e
instance (i j : Int) : Decidable (CPow i j) := by unfold CPow; infer_instance
def pPow : Prim := fun ds m => match ds with
  | [.int i, .int j] => if CPow i j then some (.int (i ^ j.toNat)) else none
  | _ => none
theorem ok_pow {p : Par} : PrimOk p (R2p (rI CPow fun i j => .int (i ^ j.toNat))) pPow := by
  intro H I A m ds vs d Q E M r e h
  unfold pPow at e
  split at e
  · split at e
    · rename_i hz
      cases e
      obtain ⟨v, u, rfl, q1, q2⟩ := r.two
      cases q1.int_inv; cases q2.int_inv
      exact ⟨_, _, rfl, _, _, rfl, rfl, hz, h.ok _ _ M (.int _)⟩
    · cases e
  · cases e
def pNeg : Prim := fun ds m => match ds with
  | [.int i] => some (.int (-i))
  | _ => none
theorem ok_neg {p : Par} : PrimOk p (R1p (rU fun i => .int (-i))) pNeg := by
  intro H I A m ds vs d Q E M r e h
  unfold pNeg at e
  split at e
  · cases e
    obtain ⟨v, rfl, q1⟩ := r.one
    cases q1.int_inv
    exact ⟨_, rfl, _, rfl, h.ok _ _ M (.int _)⟩
  · cases e
/-! ### comparisons of intsD, order -/
def pCmp (f : Int → Int → Bool) : Prim := fun ds m => match ds with
  | [.int i, .int j] => some (.bl (f i j))
  | _ => none
theorem ok_cmp {p : Par} (f : Int → Int → Bool) : PrimOk p (R2p (rI0 fun i j => .bl (f i j))) (pCmp f) := by
  intro H I A m ds vs d Q E M r e h
  unfold pCmp at e
  split at e
  · cases e
    obtain ⟨v, u, rfl, q1, q2⟩ := r.two
    cases q1.int_inv; cases q2.int_inv
    exact ⟨_, _, rfl, _, _, rfl, rfl, h.ok _ _ M (.bl _)⟩
  · cases e
/-! ### is None -/
def D.isNon : D → Bool
  | .non => true
  | _ => false
theorem DR.isNon {p : Par} {I : Hp} {A : List Addr} {d : D} {v : V} (h : DR p I A d v) : decide (v = .non) = d.isNon := by
  cases h <;> first | rfl | exact decide_eq_false (fun z => nomatch z)
def pIsN : Prim := fun ds m => match ds with
  | [x, .non] => some (.bl x.isNon)
  | _ => none
def pNotN : Prim := fun ds m => match ds with
  | [x, .non] => some (.bl (!x.isNon))
  | _ => none
theorem ok_isN {p : Par} : PrimOk p (R2p fun x y H Q => y = .non ∧ Q (.bl (decide (x = .non))) H) pIsN := by
  intro H I A m ds vs d Q E M r e h
  unfold pIsN at e
  split at e
  · cases e
    obtain ⟨v, u, rfl, q1, q2⟩ := r.two
    cases q2
    exact ⟨_, _, rfl, rfl, by rw [q1.isNon]; exact h.ok _ _ M (.bl _)⟩
  · cases e
theorem ok_notN {p : Par} : PrimOk p (R2p fun x y H Q => y = .non ∧ Q (.bl (!decide (x = .non))) H) pNotN := by
  intro H I A m ds vs d Q E M r e h
  unfold pNotN at e
  split at e
  · cases e
    obtain ⟨v, u, rfl, q1, q2⟩ := r.two
    cases q2
    exact ⟨_, _, rfl, rfl, by rw [q1.isNon]; exact h.ok _ _ M (.bl _)⟩
  · cases e
end Zd


set_option Elab.async false
set_option linter.all false
set_option maxRecDepth 100000
set_option maxHeartbeats 2000000
namespace Zd
open PySem PySem.Spec PyProof.Rows L2 Zx

/-! ### deep data, == -/
mutual
def D.py : D → Option PyData
  | .non => some .none
  | .bl b => some (.bool b)
  | .int i => some (.int i)
  | .str x => some (.str x)
  | .tup xs => (pyAll xs).map .tuple
  | .lst xs => (pyAll xs).map .list
  | _ => none
def pyAll : List D → Option (List PyData)
  | [] => some []
  | d :: ds => match d.py, pyAll ds with
    | some x, some xs => some (x :: xs)
    | _, _ => none
end
section
variable {p : Par} {H I : Hp} {A : List Addr} {m : Mem}
mutual
theorem DR.dp (M : ∀ a o, I a = some o → H a = some o) : ∀ {d : D} {v : V} {x : PyData}, DR p I A d v → d.py = some x → Dp p.K H v x
  | _, _, _, .non, e => by cases e; exact .non
  | _, _, _, .bl b, e => by cases e; exact .bl b
  | _, _, _, .int i, e => by cases e; exact .int i
  | _, _, _, .str y, e => by cases e; exact .str y
  | _, _, _, .tup (ds := ds) q r, e => by
    have e1 : (pyAll ds).map PyData.tuple = some _ := e
    obtain ⟨ys, z, e2⟩ := Option.map_eq_some_iff.mp e1
    subst e2
    exact .tup (SqT.of (M _ _ q)) (DRs.dp M r z)
  | _, _, _, .lst (ds := ds) q r, e => by
    have e1 : (pyAll ds).map PyData.list = some _ := e
    obtain ⟨ys, z, e2⟩ := Option.map_eq_some_iff.mp e1
    subst e2
    exact .lst (SqL.of (M _ _ q)) (DRs.dp M r z)
  | _, _, _, .scr _ _, e => by cases e
  | _, _, _, .obj _ _ _ _, e => by cases e
  | _, _, _, .cell _, e => by cases e
  | _, _, _, .dic _ _ _, e => by cases e
  | _, _, _, .exc _ _ _ _ _, e => by cases e
  | _, _, _, .exc0 _ _, e => by cases e
theorem DRs.dp (M : ∀ a o, I a = some o → H a = some o) : ∀ {ds : List D} {vs : List V} {xs : List PyData}, DRs p I A ds vs → pyAll ds = some xs → DpAll p.K H vs xs
  | _, _, _, .nil, e => by cases e; exact .nil
  | _, _, _, .cons (d := d) (ds := ds) q r, e => by
    have e1 : (match d.py, pyAll ds with
      | some x, some xs => some (x :: xs)
      | _, _ => none) = some _ := e
    cases z1 : d.py with
    | none => rw [z1] at e1; cases e1
    | some x =>
      cases z2 : pyAll ds with
      | none => rw [z1, z2] at e1; cases e1
      | some ys =>
        rw [z1, z2] at e1
        cases e1
        exact .cons (DR.dp M q z1) (DRs.dp M r z2)
end
end
def pEq : Prim := fun ds m => match ds with
  | [.str x, .str y] => some (.bl (decide (x = y)))
  | [x, y] => (match x.py, y.py with
    | some a, some b => if (SeqAt.shaped a && SeqAt.shaped b) = true then some (.bl (PyData.eqv a b)) else none
    | _, _ => none)
  | _ => none
def pNe : Prim := fun ds m => match ds with
  | [.str x, .str y] => some (.bl (!decide (x = y)))
  | [x, y] => (match x.py, y.py with
    | some a, some b => if (SeqAt.shaped a && SeqAt.shaped b) = true then some (.bl (!PyData.eqv a b)) else none
    | _, _ => none)
  | _ => none
def rEq2 (K : PySem.W.Frag) : R2 := fun x y H Q => rEq x y H Q ∨ rEqD K x y H Q
def rNe2 (K : PySem.W.Frag) : R2 := fun x y H Q => rNe x y H Q ∨ rNeD K x y H Q
theorem op_eq2 {X : Cx} (hu : X.A.units + 64 < cLine) : OpR X (compareOp .Eq) (rEq2 X.K) := op_eq.or (op_eqD hu)
theorem op_ne2 {X : Cx} (hu : X.A.units + 64 < cLine) : OpR X (compareOp .NotEq) (rNe2 X.K) := op_ne.or (op_neD hu)
theorem ok_eq {p : Par} : PrimOk p (R2p (rEq2 p.K)) pEq := by
  intro H I A m ds vs d Q E M r e h
  unfold pEq at e
  split at e
  · rename_i x y
    cases e
    obtain ⟨v, u, rfl, q1, q2⟩ := r.two
    cases q1.str_inv
    cases q2.str_inv
    refine ⟨_, _, rfl, .inl ⟨rfl, ?_⟩⟩
    have e1 : decide (V.str x = V.str y) = decide (x = y) := by simp
    rw [e1]
    exact h.ok _ _ M (.bl _)
  · rename_i x y _
    split at e
    · rename_i a b ea eb
      split at e
      · rename_i hz
        cases e
        obtain ⟨v, u, rfl, q1, q2⟩ := r.two
        obtain ⟨h1, h2⟩ := Bool.and_eq_true_iff.mp hz
        exact ⟨_, _, rfl, .inr ⟨a, b, q1.dp M.sub ea, q2.dp M.sub eb, h1, h2, h.ok _ _ M (.bl _)⟩⟩
      · cases e
    · cases e
  · cases e
theorem ok_ne {p : Par} : PrimOk p (R2p (rNe2 p.K)) pNe := by
  intro H I A m ds vs d Q E M r e h
  unfold pNe at e
  split at e
  · rename_i x y
    cases e
    obtain ⟨v, u, rfl, q1, q2⟩ := r.two
    cases q1.str_inv
    cases q2.str_inv
    refine ⟨_, _, rfl, .inl ⟨rfl, ?_⟩⟩
    have e1 : decide (V.str x = V.str y) = decide (x = y) := by simp
    rw [e1]
    exact h.ok _ _ M (.bl _)
  · rename_i x y _
    split at e
    · rename_i a b ea eb
      split at e
      · rename_i hz
        cases e
        obtain ⟨v, u, rfl, q1, q2⟩ := r.two
        obtain ⟨h1, h2⟩ := Bool.and_eq_true_iff.mp hz
        exact ⟨_, _, rfl, .inr ⟨a, b, q1.dp M.sub ea, q2.dp M.sub eb, h1, h2, h.ok _ _ M (.bl _)⟩⟩
      · cases e
    · cases e
  · cases e

/-! ### in: a sign in a text, a flat thing in a list or tuple -/
def D.fl : D → Option V
  | .non => some .non
  | .bl b => some (.bl b)
  | .int i => some (.int i)
  | .str x => some (.str x)
  | _ => none
def flAll : List D → Option (List V)
  | [] => some []
  | d :: ds => match d.fl, flAll ds with
    | some x, some xs => some (x :: xs)
    | _, _ => none
section
variable {p : Par} {H I : Hp} {A : List Addr} {m : Mem}
theorem DR.fl {d : D} {v w : V} (h : DR p I A d v) (e : d.fl = some w) : v = w ∧ flatV w = true := by
  cases h <;> first | (cases e; exact ⟨rfl, rfl⟩) | cases e
theorem DRs.fl : ∀ {ds : List D} {vs ws : List V}, DRs p I A ds vs → flAll ds = some ws → vs = ws ∧ ws.all flatV = true
  | _, _, _, .nil, e => by cases e; exact ⟨rfl, rfl⟩
  | _, _, _, .cons (d := d) (ds := ds) q r, e => by
    have e1 : (match d.fl, flAll ds with
      | some x, some xs => some (x :: xs)
      | _, _ => none) = some _ := e
    cases z1 : d.fl with
    | none => rw [z1] at e1; cases e1
    | some x =>
      cases z2 : flAll ds with
      | none => rw [z1, z2] at e1; cases e1
      | some ys =>
        rw [z1, z2] at e1
        cases e1
        obtain ⟨a1, a2⟩ := q.fl z1
        obtain ⟨b1, b2⟩ := r.fl z2
        subst a1 b1
        exact ⟨rfl, by rw [List.all_cons, a2, b2]; rfl⟩
end
def pInB (neg : Bool) : Prim := fun ds m => match ds with
  | [.str x, .str z] => (match x.cps.toList with
    | [c] => some (.bl (if neg then !decide (c ∈ z.cps.toList) else decide (c ∈ z.cps.toList)))
    | _ => none)
  | [x, y] => (match x.fl, seqOf m y with
    | some v, some es => (match flAll es with
      | some ws => some (.bl (if neg then !inV v ws else inV v ws))
      | none => none)
    | _, _ => none)
  | _ => none

section
variable {p : Par}
def rInB (K : PySem.W.Frag) (neg : Bool) : R2 := fun x y H Q => (∃ (c : Nat) (z : Str), x = .str ⟨#[c]⟩ ∧ y = .str z ∧ Q (.bl (if neg then !decide (c ∈ z.cps.toList) else decide (c ∈ z.cps.toList))) H) ∨ rIn K neg x y H Q
theorem op_inB {X : Cx} : OpR X (compareOp .In) (rInB X.K false) := op_in_sign.or op_in_seq
theorem op_notInB {X : Cx} : OpR X (compareOp .NotIn) (rInB X.K true) := op_notIn_sign.or op_notIn_seq
theorem ok_in (neg : Bool) : PrimOk p (R2p (rInB p.K neg)) (pInB neg) := by
  intro H I A m ds vs d Q E M r e h
  unfold pInB at e
  split at e
  · rename_i x z
    split at e
    · rename_i c hc
      cases e
      obtain ⟨v, u, rfl, q1, q2⟩ := r.two
      cases q1.str_inv; cases q2.str_inv
      refine ⟨_, _, rfl, .inl ⟨c, z, ?_, rfl, h.ok _ _ M (.bl _)⟩⟩
      obtain ⟨⟨l⟩⟩ := x
      have hl : l = [c] := hc
      rw [hl]
    · cases e
  · rename_i x y _
    split at e
    · rename_i v0 es ev es'
      split at e
      · rename_i ws ew
        cases e
        obtain ⟨v, u, rfl, q1, q2⟩ := r.two
        obtain ⟨e1, f1⟩ := q1.fl ev
        subst e1
        obtain ⟨a, xs, rfl, hs, hd⟩ := seq_of M q2 es'
        obtain ⟨e2, f2⟩ := hd.fl ew
        subst e2
        exact ⟨_, _, rfl, .inr ⟨a, xs, rfl, hs, f1, f2, h.ok _ _ M (.bl _)⟩⟩
      · cases e
    · cases e
  · cases e
/-! ### a subscript -/
def pIdx : Prim := fun ds m => match ds with
  | [.str z, .int i] => if z.length ≤ sizeLine then (match atI z.cps.toList i with
    | some c => some (.str ⟨#[c]⟩)
    | none => none) else none
  | [x, .int i] => (match seqOf m x with
    | some es => atI es i
    | none => none)
  | _ => none
theorem atI_drs {I : Hp} {A : List Addr} {ds : List D} {vs : List V} {i : Int} {d : D} (r : DRs p I A ds vs) (e : atI ds i = some d) : ∃ v, atI vs i = some v ∧ DR p I A d v := by
  unfold atI at e ⊢
  rw [← r.length]
  obtain ⟨j, h1, h2⟩ := Option.bind_eq_some_iff.mp e
  obtain ⟨v, h3, h4⟩ := r.get h2
  exact ⟨v, Option.bind_eq_some_iff.mpr ⟨j, h1, h3⟩, h4⟩
theorem ok_idx : PrimOk p (R2p (rIx p.K)) pIdx := by
  intro H I A m ds vs d Q E M r e h
  unfold pIdx at e
  split at e
  · rename_i z i
    split at e
    · rename_i hz
      split at e
      · rename_i c hc
        cases e
        obtain ⟨v, u, rfl, q1, q2⟩ := r.two
        cases q1.str_inv; cases q2.int_inv
        exact ⟨_, _, rfl, .inr (.inr ⟨z, i, c, rfl, rfl, hz, hc, h.ok _ _ M (.str _)⟩)⟩
      · cases e
    · cases e
  · rename_i x i _
    split at e
    · rename_i es ee
      obtain ⟨v, u, rfl, q1, q2⟩ := r.two
      cases q2.int_inv
      obtain ⟨a, xs, rfl, hs, hd⟩ := seq_of M q1 ee
      obtain ⟨w, e1, r1⟩ := atI_drs hd e
      rcases hs with hs | hs
      · exact ⟨_, _, rfl, .inl ⟨a, xs, i, w, rfl, rfl, hs, e1, h.ok _ _ M r1⟩⟩
      · exact ⟨_, _, rfl, .inr (.inl ⟨a, xs, i, w, rfl, rfl, hs, e1, h.ok _ _ M r1⟩)⟩
    · cases e
  · cases e
/-! ### a slice -/
def cutD (xs : List D) (lo hi : Option Int) : List D := (xs.drop (HT.sIx xs.length 0 lo)).take (HT.sIx xs.length xs.length hi - HT.sIx xs.length 0 lo)
theorem cut_drs {I : Hp} {A : List Addr} {ds : List D} {vs : List V} (r : DRs p I A ds vs) (lo hi : Option Int) : DRs p I A (cutD ds lo hi) (cutV vs lo hi) := by
  unfold cutD cutV
  rw [← r.length]
  exact (r.drop _).take _
def slD (m : Mem) (x : D) (lo hi : Option Int) : Option D := match x with
  | .lst es => some (.lst (cutD es lo hi))
  | .scr es => some (.lst (cutD es lo hi))
  | .tup es => some (.tup (cutD es lo hi))
  | .str z => if z.length ≤ sizeLine then some (.str (cutS z lo hi)) else none
  | .cell n => (match m[n]? with
    | some (.lst es) => some (.lst (cutD es lo hi))
    | _ => none)
  | _ => none
def rSl3 (K : PySem.W.Frag) : V → Option Int → Option Int → Hp → VK → Prop := fun x lo hi H Q => rSlL K x lo hi H Q ∨ rSlA K x lo hi H Q ∨ (∃ z, x = .str z ∧ z.length ≤ sizeLine ∧ Q (.str (cutS z lo hi)) H)
theorem sl_or {X : Cx} {r r' : V → Option Int → Option Int → Hp → VK → Prop} (h : SlR X r) (h' : SlR X r') : SlR X (fun x lo hi H Q => r x lo hi H Q ∨ r' x lo hi H Q) := by
  intro pins s σ H x v vl vu lo hi sl Q I rx hs pl pu q
  rcases q with q | q
  · exact h pins s σ H x v vl vu lo hi sl Q I rx hs pl pu q
  · exact h' pins s σ H x v vl vu lo hi sl Q I rx hs pl pu q
theorem sl_3 {X : Cx} : SlR X (rSl3 X.K) := sl_or sl_list (sl_or sl_tupA sl_str)
theorem cutV_whole {xs : List V} {lo hi : Option Int} (h : HT.sIx xs.length 0 lo = 0 ∧ HT.sIx xs.length xs.length hi = xs.length) : cutV xs lo hi = xs := by
  unfold cutV
  rw [h.1, h.2]
  simp
theorem ok_sl {H I : Hp} {A : List Addr} {m : Mem} {x : D} {v : V} {lo hi : Option Int} {d : D} {Q : VK} {E : XK} (M : RepM p H I A m) (r : DR p I A x v) (e : slD m x lo hi = some d) (h : post (RD p) p H I A Q E (.ok d m)) : rSl3 p.K v lo hi H Q := by
  unfold slD at e
  split at e
  · cases e
    obtain ⟨a, xs, rfl, h1, h2⟩ := r.lst_inv
    exact .inl ⟨a, xs, rfl, lstI M h1, fun q hq => h.lst M hq (cut_drs h2 _ _)⟩
  · cases e
    obtain ⟨a, xs, rfl, h1, h2⟩ := r.scr_inv
    exact .inl ⟨a, xs, rfl, scrI M h1, fun q hq => h.lst M hq (cut_drs h2 _ _)⟩
  · cases e
    obtain ⟨a, xs, rfl, h1, h2⟩ := r.tup_inv
    refine .inr (.inl ⟨a, xs, rfl, tupI M h1, fun hw => h.ok _ _ M (.tup h1 ?_), fun _ q hq => h.tup M hq (cut_drs h2 _ _)⟩)
    have := cut_drs h2 lo hi
    rw [cutV_whole hw] at this
    exact this
  · split at e
    · rename_i hz
      cases e
      cases r.str_inv
      exact .inr (.inr ⟨_, rfl, hz, h.ok _ _ M (.str _)⟩)
    · cases e
  · split at e
    · rename_i es he
      cases e
      cases r with
      | cell q =>
        obtain ⟨_, xs, h1, h2⟩ := M.cell _ _ _ he q
        exact .inl ⟨_, xs, rfl, SqL.of h1, fun q hq => h.lst M hq (cut_drs h2 _ _)⟩
    · cases e
  · cases e
/-! ### built-ins of one value -/
def pLen : Prim := fun ds m => match ds with
  | [.str z] => if z.length ≤ sizeLine then some (.int z.length) else none
  | [x] => (match seqOf m x with
    | some es => some (.int es.length)
    | none => none)
  | _ => none
theorem ok_len : PrimOk p (fun xs H Q => ∃ x n, xs = [x] ∧ LenV p.K x H n ∧ Q (.int (n : Nat)) H) pLen := by
  intro H I A m ds vs d Q E M r e h
  unfold pLen at e
  split at e
  · rename_i z
    split at e
    · rename_i hz
      cases e
      obtain ⟨v, rfl, q1⟩ := r.one
      cases q1.str_inv
      exact ⟨_, z.length, rfl, ⟨hz, rfl⟩, h.ok _ _ M (.int _)⟩
    · cases e
  · rename_i x _
    split at e
    · rename_i es ee
      cases e
      obtain ⟨v, rfl, q1⟩ := r.one
      obtain ⟨a, xs, rfl, hs, hd⟩ := seq_of M q1 ee
      refine ⟨_, es.length, rfl, ?_, h.ok _ _ M (.int _)⟩
      rcases hs with hs | hs
      · exact .inl ⟨xs, hs, hd.length⟩
      · exact .inr ⟨xs, hs, hd.length⟩
    · cases e
  · cases e
def pTuple : Prim := fun ds m => match ds with
  | [x] => (match seqOf m x with
    | some es => some (.tup es)
    | none => none)
  | _ => none
theorem ok_tuple : PrimOk p (fun xs H Q => ∃ q ys, xs = [.ref q] ∧ ((SqL p.K H q ys ∧ ∀ l, H l = none → Q (.ref l) (upd H l (.tup ys))) ∨ (SqT p.K H q ys ∧ Q (.ref q) H))) pTuple := by
  intro H I A m ds vs d Q E M r e h
  unfold pTuple at e
  split at e
  · rename_i x
    split at e
    · rename_i es ee
      cases e
      obtain ⟨v, rfl, q1⟩ := r.one
      cases x with
      | tup fs =>
        cases ee
        obtain ⟨a, xs, rfl, h1, h2⟩ := q1.tup_inv
        exact ⟨a, xs, rfl, .inr ⟨tupI M h1, h.ok _ _ M (.tup h1 h2)⟩⟩
      | lst fs =>
        cases ee
        obtain ⟨a, xs, rfl, h1, h2⟩ := q1.lst_inv
        exact ⟨a, xs, rfl, .inl ⟨lstI M h1, fun q hq => h.tup M hq h2⟩⟩
      | scr fs =>
        cases ee
        obtain ⟨a, xs, rfl, h1, h2⟩ := q1.scr_inv
        exact ⟨a, xs, rfl, .inl ⟨scrI M h1, fun q hq => h.tup M hq h2⟩⟩
      | cell n =>
        obtain ⟨a, xs, e1, hs, hd⟩ := seq_of M q1 ee
        subst e1
        have e1 : (match m[n]? with
          | some (.lst ds) => some ds
          | _ => none) = some es := ee
        cases z : m[n]? with
        | none => rw [z] at e1; cases e1
        | some c =>
          rw [z] at e1
          cases c with
          | ins _ _ => cases e1
          | lst gs =>
            cases e1
            cases q1 with
            | cell q =>
              obtain ⟨_, xs, h1, h2⟩ := M.cell _ _ _ z q
              exact ⟨_, xs, rfl, .inl ⟨SqL.of h1, fun q hq => h.tup M hq h2⟩⟩
      | _ => cases ee
    · cases e
  · cases e
def pList : Prim := fun ds m => match ds with
  | [x] => (match seqOf m x with
    | some es => some (.lst es)
    | none => none)
  | _ => none
theorem ok_list : PrimOk p (fun xs H Q => ∃ q ys, xs = [.ref q] ∧ (SqL p.K H q ys ∨ SqT p.K H q ys) ∧ ∀ l, H l = none → Q (.ref l) (upd H l (.lst ys))) pList := by
  intro H I A m ds vs d Q E M r e h
  unfold pList at e
  split at e
  · rename_i x
    split at e
    · rename_i es ee
      cases e
      obtain ⟨v, rfl, q1⟩ := r.one
      obtain ⟨a, xs, rfl, hs, hd⟩ := seq_of M q1 ee
      exact ⟨a, xs, rfl, hs, fun q hq => h.lst M hq hd⟩
    · cases e
  · cases e
/-- a list's items -/
def lstOf (m : Mem) : D → Option (List D)
  | .lst ds => some ds
  | .scr ds => some ds
  | .cell n => match m[n]? with
    | some (.lst ds) => some ds
    | _ => none
  | _ => none
theorem lst_of {H I : Hp} {A : List Addr} {m : Mem} (M : RepM p H I A m) {d : D} {v : V} {ds : List D} (h : DR p I A d v) (e : lstOf m d = some ds) : ∃ a xs, v = .ref a ∧ SqL p.K H a xs ∧ DRs p I A ds xs := by
  cases d with
  | lst es => cases e; obtain ⟨a, xs, e1, e2, e3⟩ := h.lst_inv; exact ⟨a, xs, e1, lstI M e2, e3⟩
  | scr es => cases e; obtain ⟨a, xs, e1, e2, e3⟩ := h.scr_inv; exact ⟨a, xs, e1, scrI M e2, e3⟩
  | cell n =>
    have e1 : (match m[n]? with
      | some (.lst ds) => some ds
      | _ => none) = some ds := e
    cases z : m[n]? with
    | none => rw [z] at e1; cases e1
    | some c =>
      rw [z] at e1
      cases c with
      | ins _ _ => cases e1
      | lst es =>
        cases e1
        cases h with
        | cell q =>
          obtain ⟨_, xs, h1, h2⟩ := M.cell n _ _ z q
          exact ⟨_, xs, rfl, SqL.of h1, h2⟩
  | _ => cases e
def lmax : List Int → Int
  | [] => 0
  | [x] => x
  | x :: r => max x (lmax r)
theorem lmax_mem : ∀ {l : List Int}, l ≠ [] → lmax l ∈ l
  | [], h => absurd rfl h
  | [x], _ => List.mem_cons_self
  | x :: y :: r, _ => by
    have ih := lmax_mem (l := y :: r) (by simp)
    show max x (lmax (y :: r)) ∈ _
    rw [Int.max_def]
    split
    · exact List.mem_cons_of_mem _ ih
    · exact List.mem_cons_self
theorem lmax_ge : ∀ {l : List Int} {y : Int}, y ∈ l → y ≤ lmax l
  | [x], y, h => by
    rcases List.mem_cons.mp h with e | h
    · rw [e]; exact Int.le_refl _
    · cases h
  | x :: z :: r, y, h => by
    show y ≤ max x (lmax (z :: r))
    rcases List.mem_cons.mp h with e | h
    · rw [e]; exact Int.le_max_left _ _
    · exact Int.le_trans (lmax_ge h) (Int.le_max_right _ _)
def lmin : List Int → Int
  | [] => 0
  | [x] => x
  | x :: r => min x (lmin r)
theorem lmin_mem : ∀ {l : List Int}, l ≠ [] → lmin l ∈ l
  | [], h => absurd rfl h
  | [x], _ => List.mem_cons_self
  | x :: y :: r, _ => by
    have ih := lmin_mem (l := y :: r) (by simp)
    show min x (lmin (y :: r)) ∈ _
    rw [Int.min_def]
    split
    · exact List.mem_cons_self
    · exact List.mem_cons_of_mem _ ih
theorem lmin_le : ∀ {l : List Int} {y : Int}, y ∈ l → lmin l ≤ y
  | [x], y, h => by
    rcases List.mem_cons.mp h with e | h
    · rw [e]; exact Int.le_refl _
    · cases h
  | x :: z :: r, y, h => by
    show min x (lmin (z :: r)) ≤ y
    rcases List.mem_cons.mp h with e | h
    · rw [e]; exact Int.min_le_left _ _
    · exact Int.le_trans (Int.min_le_right _ _) (lmin_le h)
def pInts (f : List Int → Option D) : Prim := fun ds m => match ds with
  | [x] => (match lstOf m x with
    | some es => (match intsD es with
      | some ns => f ns
      | none => none)
    | none => none)
  | _ => none
def pSum : Prim := pInts fun ns => some (.int ns.sum)
def pMax : Prim := pInts fun ns => if ns = [] then none else some (.int (lmax ns))
def pMin : Prim := pInts fun ns => if ns = [] then none else some (.int (lmin ns))
theorem pInts_inv {f : List Int → Option D} {ds : List D} {m : Mem} {d : D} {H I : Hp} {A : List Addr} {vs : List V} (M : RepM p H I A m) (r : DRs p I A ds vs) (e : pInts f ds m = some d) : ∃ (a : Addr) (ns : List Int), vs = [V.ref a] ∧ SqL p.K H a (ns.map V.int) ∧ f ns = some d := by
  unfold pInts at e
  split at e
  · rename_i x
    split at e
    · rename_i es ee
      split at e
      · rename_i ns en
        obtain ⟨v, rfl, q1⟩ := r.one
        obtain ⟨a, xs, rfl, hs, hd⟩ := lst_of M q1 ee
        have := ints_vals hd en
        subst this
        exact ⟨a, ns, rfl, hs, e⟩
      · cases e
    · cases e
  · cases e
theorem ok_sum : PrimOk p (rSum p.K) pSum := by
  intro H I A m ds vs d Q E M r e h
  obtain ⟨a, ns, rfl, hs, e1⟩ := pInts_inv M r e
  cases e1
  exact ⟨a, ns, rfl, hs, h.ok _ _ M (.int _)⟩
theorem ok_max : PrimOk p (rMax p.K) pMax := by
  intro H I A m ds vs d Q E M r e h
  obtain ⟨a, ns, rfl, hs, e1⟩ := pInts_inv M r e
  split at e1
  · cases e1
  · rename_i hn
    cases e1
    refine ⟨a, ns, rfl, hs, List.length_pos_iff.mpr hn, fun y hy hle => ?_⟩
    have : y = lmax ns := Int.le_antisymm (lmax_ge hy) (hle _ (lmax_mem hn))
    rw [this]
    exact h.ok _ _ M (.int _)
theorem ok_min : PrimOk p (rMin p.K) pMin := by
  intro H I A m ds vs d Q E M r e h
  obtain ⟨a, ns, rfl, hs, e1⟩ := pInts_inv M r e
  split at e1
  · cases e1
  · rename_i hn
    cases e1
    refine ⟨a, ns, rfl, hs, List.length_pos_iff.mpr hn, fun y hy hle => ?_⟩
    have : y = lmin ns := Int.le_antisymm (hle _ (lmin_mem hn)) (lmin_le hy)
    rw [this]
    exact h.ok _ _ M (.int _)
def pBls (f : List Bool → Bool) : Prim := fun ds m => match ds with
  | [x] => (match lstOf m x with
    | some es => (match blsD es with
      | some ns => some (.bl (f ns))
      | none => none)
    | none => none)
  | _ => none
def pAll : Prim := pBls fun bs => bs.all id
def pAny : Prim := pBls fun bs => bs.any id
theorem ok_bls (f : List Bool → Bool) : PrimOk p (fun vs H Q => ∃ (a : Addr) (bs : List Bool), vs = [V.ref a] ∧ SqL p.K H a (bs.map V.bl) ∧ Q (.bl (f bs)) H) (pBls f) := by
  intro H I A m ds vs d Q E M r e h
  unfold pBls at e
  split at e
  · rename_i x
    split at e
    · rename_i es ee
      split at e
      · rename_i ns en
        cases e
        obtain ⟨v, rfl, q1⟩ := r.one
        obtain ⟨a, xs, rfl, hs, hd⟩ := lst_of M q1 ee
        have := bls_vals hd en
        subst this
        exact ⟨a, ns, rfl, hs, h.ok _ _ M (.bl _)⟩
      · cases e
    · cases e
  · cases e
theorem ok_all : PrimOk p (rAll p.K) pAll := ok_bls _
theorem ok_any : PrimOk p (rAny p.K) pAny := ok_bls _
def pInt : Prim := fun ds m => match ds with
  | [.int i] => some (.int i)
  | [.bl k] => some (.int (if k then 1 else 0))
  | _ => none
theorem ok_int : PrimOk p (fun xs H Q => (∃ i, xs = [.int i] ∧ Q (.int i) H) ∨ ∃ k, xs = [.bl k] ∧ Q (.int (if k then 1 else 0)) H) pInt := by
  intro H I A m ds vs d Q E M r e h
  unfold pInt at e
  split at e
  · cases e
    obtain ⟨v, rfl, q1⟩ := r.one
    cases q1.int_inv
    exact .inl ⟨_, rfl, h.ok _ _ M (.int _)⟩
  · cases e
    obtain ⟨v, rfl, q1⟩ := r.one
    cases q1.bl_inv
    exact .inr ⟨_, rfl, h.ok _ _ M (.int _)⟩
  · cases e
def pAbs : Prim := fun ds m => match ds with
  | [.int i] => some (.int (if i < 0 then -i else i))
  | _ => none
theorem ok_abs : PrimOk p (fun xs H Q => ∃ i, xs = [.int i] ∧ Q (.int (if i < 0 then -i else i)) H) pAbs := by
  intro H I A m ds vs d Q E M r e h
  unfold pAbs at e
  split at e
  · cases e
    obtain ⟨v, rfl, q1⟩ := r.one
    cases q1.int_inv
    exact ⟨_, rfl, h.ok _ _ M (.int _)⟩
  · cases e
def pStrI : Prim := fun ds m => match ds with
  | [.int i] => if i.natAbs.log2 < 1920 then some (.str (toString i)) else none
  | _ => none
theorem ok_strI : PrimOk p (fun xs H Q => ∃ i, xs = [.int i] ∧ i.natAbs.log2 < 1920 ∧ Q (.str (toString i)) H) pStrI := by
  intro H I A m ds vs d Q E M r e h
  unfold pStrI at e
  split at e
  · split at e
    · rename_i hz
      cases e
      obtain ⟨v, rfl, q1⟩ := r.one
      cases q1.int_inv
      exact ⟨_, rfl, hz, h.ok _ _ M (.str _)⟩
    · cases e
  · cases e
def pMax2 : Prim := fun ds m => match ds with
  | [.int i, .int j] => some (.int (if j > i then j else i))
  | _ => none
theorem ok_max2 : PrimOk p (fun xs H Q => ∃ i j, xs = [.int i, .int j] ∧ Q (.int (if j > i then j else i)) H) pMax2 := by
  intro H I A m ds vs d Q E M r e h
  unfold pMax2 at e
  split at e
  · cases e
    obtain ⟨v, u, rfl, q1, q2⟩ := r.two
    cases q1.int_inv; cases q2.int_inv
    exact ⟨_, _, rfl, h.ok _ _ M (.int _)⟩
  · cases e
def pMin2 : Prim := fun ds m => match ds with
  | [.int i, .int j] => some (.int (if j < i then j else i))
  | _ => none
theorem ok_min2 : PrimOk p (fun xs H Q => ∃ i j, xs = [.int i, .int j] ∧ Q (.int (if j < i then j else i)) H) pMin2 := by
  intro H I A m ds vs d Q E M r e h
  unfold pMin2 at e
  split at e
  · cases e
    obtain ⟨v, u, rfl, q1, q2⟩ := r.two
    cases q1.int_inv; cases q2.int_inv
    exact ⟨_, _, rfl, h.ok _ _ M (.int _)⟩
  · cases e
/-! ### displays -/
def pTup : Prim := fun ds m => if ds.length ≤ sizeLine then some (.tup ds) else none
theorem ok_tup : PrimOk p (fun vs H Q => vs.length ≤ sizeLine ∧ ∀ q, H q = none → Q (.ref q) (upd H q (.tup vs))) pTup := by
  intro H I A m ds vs d Q E M r e h
  unfold pTup at e
  split at e
  · rename_i hz
    cases e
    exact ⟨by rw [← r.length]; exact hz, fun q hq => h.tup M hq r⟩
  · cases e
def pLst : Prim := fun ds m => if ds.length ≤ sizeLine then some (.lst ds) else none
theorem ok_lst : PrimOk p (fun vs H Q => vs.length ≤ sizeLine ∧ ∀ q, H q = none → Q (.ref q) (upd H q (.lst vs))) pLst := by
  intro H I A m ds vs d Q E M r e h
  unfold pLst at e
  split at e
  · rename_i hz
    cases e
    exact ⟨by rw [← r.length]; exact hz, fun q hq => h.lst M hq r⟩
  · cases e
end
end Zd


set_option Elab.async false
set_option linter.all false
set_option maxRecDepth 100000
set_option maxHeartbeats 2000000
namespace Zd
open PySem PySem.Spec PyProof.Rows L2 Zx

/-! ### data for repr -/
mutual
def D.rd : D → Option PyData
  | .non => some .none
  | .bl b => some (.bool b)
  | .int i => some (.int i)
  | .str x => some (.str x)
  | .tup xs => (rdAll xs).map .tuple
  | .lst xs => (rdAll xs).map .list
  | .dic ks xs => (rdAll xs).map fun ys => .dict ((ks.map PyData.str).zip ys)
  | _ => none
def rdAll : List D → Option (List PyData)
  | [] => some []
  | d :: ds => match d.rd, rdAll ds with
    | some x, some xs => some (x :: xs)
    | _, _ => none
end
section
variable {p : Par} {H I : Hp} {A : List Addr} {m : Mem}
mutual
theorem DR.rv (M : ∀ a o, I a = some o → H a = some o) : ∀ {d : D} {v : V} {x : PyData}, DR p I A d v → d.rd = some x → Rv p.K H v x
  | _, _, _, .non, e => by cases e; exact .non
  | _, _, _, .bl b, e => by cases e; exact .bl b
  | _, _, _, .int i, e => by cases e; exact .int i
  | _, _, _, .str y, e => by cases e; exact .str y
  | _, _, _, .tup (ds := ds) q r, e => by
    have e1 : (rdAll ds).map PyData.tuple = some _ := e
    obtain ⟨ys, z, e2⟩ := Option.map_eq_some_iff.mp e1
    subst e2
    exact .tup (SqT.of (M _ _ q)) (DRs.rv M r z)
  | _, _, _, .lst (ds := ds) q r, e => by
    have e1 : (rdAll ds).map PyData.list = some _ := e
    obtain ⟨ys, z, e2⟩ := Option.map_eq_some_iff.mp e1
    subst e2
    exact .lst (SqL.of (M _ _ q)) (DRs.rv M r z)
  | _, _, _, .dic (ks := ks) (ds := ds) q r l, e => by
    have e1 : (rdAll ds).map (fun ys => PyData.dict ((ks.map PyData.str).zip ys)) = some _ := e
    obtain ⟨ys, z, e2⟩ := Option.map_eq_some_iff.mp e1
    subst e2
    exact .dic (M _ _ q) l (DRs.rv M r z)
  | _, _, _, .scr _ _, e => by cases e
  | _, _, _, .obj _ _ _ _, e => by cases e
  | _, _, _, .cell _, e => by cases e
  | _, _, _, .exc _ _ _ _ _, e => by cases e
  | _, _, _, .exc0 _ _, e => by cases e
theorem DRs.rv (M : ∀ a o, I a = some o → H a = some o) : ∀ {ds : List D} {vs : List V} {xs : List PyData}, DRs p I A ds vs → rdAll ds = some xs → RvAll p.K H vs xs
  | _, _, _, .nil, e => by cases e; exact .nil
  | _, _, _, .cons (d := d) (ds := ds) q r, e => by
    have e1 : (match d.rd, rdAll ds with
      | some x, some xs => some (x :: xs)
      | _, _ => none) = some _ := e
    cases z1 : d.rd with
    | none => rw [z1] at e1; cases e1
    | some x =>
      cases z2 : rdAll ds with
      | none => rw [z1, z2] at e1; cases e1
      | some ys =>
        rw [z1, z2] at e1
        cases e1
        exact .cons (DR.rv M q z1) (DRs.rv M r z2)
end
end
def pRepr : Prim := fun ds m => match ds with
  | [d] => (match d.rd with
    | some x => if (x.showable && decide (x.depth ≤ 60) && decide (x.shown.length ≤ sizeLine)) = true then some (.str x.shown) else none
    | none => none)
  | _ => none
section
variable {p : Par}
theorem ok_repr : PrimOk p (rRepr p.K) pRepr := by
  intro H I A m ds vs d Q E M r e h
  unfold pRepr at e
  split at e
  · rename_i d0
    split at e
    · rename_i x hx
      split at e
      · rename_i hz
        cases e
        obtain ⟨v, rfl, q1⟩ := r.one
        simp only [Bool.and_eq_true, decide_eq_true_eq] at hz
        exact ⟨v, x, rfl, q1.rv M.sub hx, hz.1.1, hz.1.2, hz.2, h.ok _ _ M (.str _)⟩
      · cases e
    · cases e
  · cases e
/-! ### list.count, list.index -/
def isL (m : Mem) (d : D) : Bool := (lstOf m d).isSome
theorem isL_ty {H I : Hp} {A : List Addr} {m : Mem} (M : RepM p H I A m) {d : D} {v : V} (h : DR p I A d v) (e : isL m d = true) : tyV p.K "list" v H := by
  obtain ⟨ds, e⟩ := Option.isSome_iff_exists.mp e
  obtain ⟨a, xs, rfl, q, _⟩ := lst_of M h e
  exact .inl ⟨rfl, _, q⟩
def pCnt : Prim := fun ds m => match ds with
  | [x, y] => (match (lstOf m x).bind flAll, y.fl with
    | some vs, some w => some (.int (vs.countP fun z => eqV z w : Nat))
    | _, _ => none)
  | _ => none
theorem ok_cnt : PrimOk p (fun vs H Q => ∃ x y, vs = [x, y] ∧ rCnt p.K x [y] H Q) pCnt := by
  intro H I A m ds vs d Q E M r e h
  unfold pCnt at e
  split at e
  · rename_i x y
    split at e
    · rename_i ws w h1 h2
      cases e
      obtain ⟨v, u, rfl, q1, q2⟩ := r.two
      obtain ⟨es, h3, h4⟩ := Option.bind_eq_some_iff.mp h1
      obtain ⟨a, xs, rfl, hs, hd⟩ := lst_of M q1 h3
      obtain ⟨rfl, f1⟩ := hd.fl h4
      obtain ⟨rfl, f2⟩ := q2.fl h2
      exact ⟨_, _, rfl, a, xs, _, rfl, rfl, hs, f2, f1, h.ok _ _ M (.int _)⟩
    · cases e
  · cases e
def pIndex : Prim := fun ds m => match ds with
  | [x, y] => (match (lstOf m x).bind flAll, y.fl with
    | some vs, some w => (vs.findIdx? fun z => eqV z w).map fun j => .int (j : Nat)
    | _, _ => none)
  | _ => none
theorem ok_index : PrimOk p (fun vs H Q => ∃ x y, vs = [x, y] ∧ rIndex p.K x [y] H Q) pIndex := by
  intro H I A m ds vs d Q E M r e h
  unfold pIndex at e
  split at e
  · rename_i x y
    split at e
    · rename_i ws w h1 h2
      obtain ⟨j, hj, e⟩ := Option.map_eq_some_iff.mp e
      subst e
      obtain ⟨v, u, rfl, q1, q2⟩ := r.two
      obtain ⟨es, h3, h4⟩ := Option.bind_eq_some_iff.mp h1
      obtain ⟨a, xs, rfl, hs, hd⟩ := lst_of M q1 h3
      obtain ⟨rfl, f1⟩ := hd.fl h4
      obtain ⟨rfl, f2⟩ := q2.fl h2
      obtain ⟨hl, h5, h6⟩ := List.findIdx?_eq_some_iff_getElem.mp hj
      refine ⟨_, _, rfl, a, xs, _, j, xs[j], rfl, rfl, hs, f2, f1, List.getElem?_eq_getElem hl, h5, fun k z hk hz => ?_, h.ok _ _ M (.int _)⟩
      have hkl : k < xs.length := by omega
      rw [List.getElem?_eq_getElem hkl] at hz
      cases hz
      exact Bool.eq_false_iff.mpr (h6 k hk)
    · cases e
  · cases e
/-! ### divmod, list(range(n)) -/
def pDivmod : Prim := fun ds m => match ds with
  | [.int i, .int j] => if (decide (0 < j) && !Builtin.divisionGoesByPylong i j) = true then some (.tup [.int (i / j), .int (i % j)]) else none
  | _ => none
theorem ok_divmod : PrimOk p (fun xs H Q => ∃ i j, xs = [.int i, .int j] ∧ CDivP i j ∧ ∀ p, H p = none → Q (.ref p) (upd H p (.tup [.int (i / j), .int (i % j)]))) pDivmod := by
  intro H I A m ds vs d Q E M r e h
  unfold pDivmod at e
  split at e
  · rename_i i j
    split at e
    · rename_i hz
      cases e
      obtain ⟨v, u, rfl, q1, q2⟩ := r.two
      cases q1.int_inv
      cases q2.int_inv
      simp only [Bool.and_eq_true, decide_eq_true_eq, Bool.not_eq_true'] at hz
      exact ⟨i, j, rfl, hz, fun q hq => h.tup M hq (.cons (.int _) (.cons (.int _) .nil))⟩
    · cases e
  · cases e
def rgD (n : Int) : List D := (List.range n.toNat).map fun i => .int (i : Nat)
theorem rgD_vals {I : Hp} {A : List Addr} (n : Int) : DRs p I A (rgD n) (rgV 0 n) := by
  unfold rgD rgV
  rw [show n - 0 = n by omega]
  generalize List.range n.toNat = l
  induction l with
  | nil => exact .nil
  | cons a l ih =>
    refine .cons ?_ ih
    show DR p I A (.int a) (.int (0 + (a : Nat)))
    rw [show (0 : Int) + (a : Nat) = (a : Nat) by omega]
    exact .int _
def pLRange : Prim := fun ds m => match ds with
  | [.int n] => if 0 ≤ n ∧ n ≤ 16777216 then some (.lst (rgD n)) else none
  | _ => none
theorem ok_lrange : PrimOk p (fun xs H Q => ∃ n, xs = [.int n] ∧ RgOk 0 n ∧ ∀ q, H q = none → Q (.ref q) (upd H q (.lst (rgV 0 n)))) pLRange := by
  intro H I A m ds vs d Q E M r e h
  unfold pLRange at e
  split at e
  · rename_i n
    split at e
    · rename_i hz
      cases e
      obtain ⟨v, rfl, q1⟩ := r.one
      cases q1.int_inv
      exact ⟨n, rfl, .of_le (Int.le_refl _) hz.2 (by decide) hz.1, fun q hq => h.lst M hq (rgD_vals n)⟩
    · cases e
  · cases e
/-! ### isinstance -/
/-- a datum's type by number -/
def D.tyc (m : Mem) : D → Option Nat
  | .non => some 0
  | .bl _ => some 1
  | .int _ => some 2
  | .str _ => some 3
  | .tup _ => some 4
  | .lst _ => some 5
  | .scr _ => some 5
  | .dic _ _ => some 6
  | .exc c _ => some (8 + 2 * c)
  | .cell n => (match m[n]? with
    | some (.lst _) => some 5
    | _ => none)
  | .obj _ _ => none
def Par.tv (p : Par) (t : Nat) : Option Value := match t with
  | 0 => some (.type "NoneType")
  | 1 => some (.type "bool")
  | 2 => some (.type "int")
  | 3 => some (.type "str")
  | 4 => some (.type "tuple")
  | 5 => some (.type "list")
  | 6 => some (.type "dict")
  | t => if t % 2 = 0 then (p.exc ((t - 8) / 2)).map fun q => .ref q.1 else (p.cls ((t - 9) / 2)).map fun q => .ref q.1
theorem tv_exc (p : Par) (c : Nat) : p.tv (8 + 2 * c) = (p.exc c).map fun q => .ref q.1 := by
  unfold Par.tv
  split <;> first | omega | skip
  rw [if_pos (by omega), show (8 + 2 * c - 8) / 2 = c by omega]
def rIs2 (K : PySem.W.Frag) : List V → Hp → VK → Prop := fun xs H Q => rIsi K xs H Q ∨ rIsx K xs H Q
theorem call_is2 {X : Cx} : CallR X (.builtin "isinstance") (rIs2 X.K) := CallR.or call_isi call_isx
theorem isi_ok {H I : Hp} {A : List Addr} {m : Mem} {d : D} {v cv : V} {t : Nat} {tv u : Value} {b : Bool} {Q : VK} (hx : ∀ c Ca ns, p.exc c = some (Ca, ns) → ExcC p.K Ca) (M : RepM p H I A m) (r : DR p I A d v) (e : d.tyc m = some t) (ht : p.tv t = some tv) (k : ClsV cv u)
    (hk : PySem.W.kitOne p.K tv u = some b) (q : Q (.bl b) H) : rIs2 p.K [v, cv] H Q := by
  have base : ∀ {v : V}, TyX p.K H v tv → rIs2 p.K [v, cv] H Q := fun ty => .inl ⟨_, cv, tv, u, b, rfl, k, ty, hk, q⟩
  cases d with
  | non => cases e; cases ht; cases r; exact base (.base .non)
  | bl x => cases e; cases ht; cases r; exact base (.base (.bl x))
  | int x => cases e; cases ht; cases r; exact base (.base (.int x))
  | str x => cases e; cases ht; cases r; exact base (.base (.str x))
  | tup xs => cases e; cases ht; cases r with | tup h1 h2 => exact base (.base (.tup (M.sub _ _ h1)))
  | lst xs => cases e; cases ht; cases r with | lst h1 h2 => exact base (.base (.lst (M.sub _ _ h1)))
  | dic ks xs => cases e; cases ht; cases r with | dic h1 h2 h3 => exact base (.base (.dK (M.sub _ _ h1)))
  | scr xs =>
    cases e; cases ht
    cases r with
    | scr h1 h2 =>
      rcases scrI (K := p.K) M h1 with (z | ⟨o, z⟩) | ⟨o, its, n, h3, h4, h5, h6, h7⟩
      · exact base (.base (.lst z))
      · exact base (.base (.frz z))
      · exact base (.kList h3 h4)
  | obj _ _ => cases e
  | exc c xs =>
    cases e
    rw [tv_exc] at ht
    cases r with
    | exc h1 h2 h3 h4 h5 =>
      rw [h1] at ht
      cases ht
      refine .inr ⟨_, _, _, cv, u, b, rfl, M.sub _ _ h2, fun dd ed => ?_, hx _ _ _ h1, k, hk, q⟩
      cases ed
      exact ⟨_, M.sub _ _ h3⟩
    | exc0 h1 h2 =>
      rw [h1] at ht
      cases ht
      exact .inr ⟨_, _, _, cv, u, b, rfl, M.sub _ _ h2, (fun dd ed => by cases ed), hx _ _ _ h1, k, hk, q⟩
  | cell n =>
    have e : (match m[n]? with
      | some (.lst _) => some 5
      | _ => none) = some t := e
    cases z : m[n]? with
    | none => rw [z] at e; cases e
    | some c =>
      rw [z] at e
      cases c with
      | ins _ _ => cases e
      | lst gs =>
        cases e; cases ht
        cases r with
        | cell q1 =>
          obtain ⟨_, xs, h1, h2⟩ := M.cell _ _ _ z q1
          exact base (.base (.lst h1))
end
end Zd


set_option Elab.async false
set_option linter.all false
set_option maxRecDepth 100000
set_option maxHeartbeats 2000000
namespace Zd
open PySem PySem.Spec PyProof.Rows L2 Zx

/-! ### the language of readings -/
inductive O1 where
  | neg | len | tuple | list | all | any | sum | max | min | int | abs | strI | repr | lrange
  deriving DecidableEq
inductive O2 where
  | add | sub | mul | fdiv | mod | pow | idx | max2 | min2 | divmod
  deriving DecidableEq
inductive OC where
  | lt | le | gt | ge | eq | ne | isin | notin | isn | notn
  deriving DecidableEq
inductive OM where
  | cnt | index
  deriving DecidableEq
def primM : OM → Prim
  | .cnt => pCnt | .index => pIndex
def prim1 : O1 → Prim
  | .neg => pNeg | .len => pLen | .tuple => pTuple | .list => pList | .all => pAll | .any => pAny | .sum => pSum | .max => pMax | .min => pMin | .int => pInt | .abs => pAbs | .strI => pStrI | .repr => pRepr | .lrange => pLRange
def prim2 : O2 → Prim
  | .add => pAdd | .sub => pSub | .mul => pMul | .fdiv => pFdiv | .mod => pMod | .pow => pPow | .idx => pIdx | .max2 => pMax2 | .min2 => pMin2 | .divmod => pDivmod
def primC : OC → Prim
  | .lt => pCmp fun i j => decide (i < j) | .le => pCmp fun i j => decide (i ≤ j) | .gt => pCmp fun i j => decide (j < i) | .ge => pCmp fun i j => decide (j ≤ i)
  | .eq => pEq | .ne => pNe | .isin => pInB false | .notin => pInB true | .isn => pIsN | .notn => pNotN
inductive C where
  | var (i : Nat) | kint (i : Int) | kstr (x : Str) | kbl (b : Bool) | knon | gint (x : Str) (i : Int) | gstr (x z : Str)
  | p1 (o : O1) (a : C) | p2 (o : O2) (a b : C) | cmp (o : OC) (a b : C) | chain (o o' : OC) (a b c : C)
  | sl (a lo hi : C) | and (a b : C) | or (a b : C) | one (a : C) | not (a : C) | ife (t a b : C)
  | tup (l : C) | lst (l : C) | nil | cons (a r : C) | mk (a : C)
  | call (j : Nat) (l : C)
  | comp (own : List (Str × Nat)) (elt tg it cond : C)
  | tName (i : Nat) | tTup (l : C)
  | iLst (a : C) | iTup (a : C) | iStr (a : C) | iRange (a : C) | iRange2 (a b : C)
  | m1 (o : OM) (a b : C) | isi (a : C) (k : Nat) | attr (a : C) (x : Str) | mkx (c : Nat) (a : C) | mkx0 (c : Nat) | dic0 | dic1 (k : Str) (a : C)
  | sIx (o i e : C) | sIxN (o i : C) (y : Nat) (e : C)
  | sRet (a : C) | sRetN | sSet (tg a : C) | sSetC (i : Nat) (cell : Bool) (c : C) | sIf (t a b : C) | sFor (tg it b : C) | sWhile (t b : C) | sExpr (a : C) | sPass | sNever

/-! ### the tables of a text -/
structure FD where
  name : Str
  ps : List Str
  dfl : List D
  N : List Str
  body : C
  glob : Bool
/-- an exception class: its fields -/
structure XD where
  name : Str
  ns : List Str
structure Gt where
  fs : List FD
  gis : List (Str × Int)
  gss : List (Str × Str)
  free : List Str
  xs : List XD
  tgs : List Str
  tys : List (Nat × List Nat)
def Gt.dfl (G : Gt) (j : Nat) (xs : List D) : List D := match G.fs[j]? with
  | some fd => xs ++ fd.dfl.drop (xs.length + fd.dfl.length - fd.ps.length)
  | none => xs
/-- isinstance: a type's number, a class's number -/
def Gt.isT (G : Gt) (t k : Nat) : Option Bool := (G.tys.lookup t).bind fun anc => if k < G.tgs.length then some (decide (k ∈ anc)) else none
def Gt.attr (G : Gt) (x : Str) : D → Option D
  | .exc c ds => (G.xs[c]?).bind fun xd => (xd.ns.zip ds).lookup x
  | _ => none
/-! ### meaning -/
inductive Fl where
  | nx (e : Env) (m : Mem) | ret (d : D) (m : Mem) | brk (e : Env) (m : Mem) | ct (e : Env) (m : Mem) | err (x : Ex) (e : Env) (m : Mem) | bad
def truth (m : Mem) : D → Option Bool
  | .non => some false
  | .bl b => some b
  | .int i => some (i != 0)
  | .str x => if x.length ≤ sizeLine then some ((x.length : Int) != 0) else none
  | .tup xs => some (!xs.isEmpty)
  | .lst xs => some (!xs.isEmpty)
  | .scr xs => some (!xs.isEmpty)
  | .cell n => (match m[n]? with
    | some (.lst xs) => some (!xs.isEmpty)
    | _ => none)
  | _ => none
def truthOf (f : SE) : SB := fun env m => (f env m).bind fun d m => Res.of (truth m d) m
structure Sm where
  E : SE := fun _ _ => .bad
  T : SB := fun _ _ => .bad
  L : SL := fun _ _ => .bad
  F : SL := fun _ _ => .bad
  I : SL := fun _ _ => .bad
  S : Env → Mem → Fl := fun _ _ => .bad
  G : D → Env → Option Env := fun _ _ => none
  GL : List D → Env → Option Env := fun _ _ => none
def sE (f : SE) : Sm := { E := f, T := truthOf f }
def asB (f : SB) : SE := fun env m => (f env m).bind fun b m => .ok (.bl b) m
def fChain (prim prim' : Prim) (fa fb fc : SE) : SE := fun env m => (fa env m).bind fun x m => (fb env m).bind fun y m => match prim [x, y] m with
  | some (.bl true) => (fc env m).bind fun z m => Res.of (prim' [y, z] m) m
  | some (.bl false) => .ok (.bl false) m
  | _ => .bad
def mkE (f : SL) : SE := fun env m => (f env m).bind fun ds m => .ok (.cell m.length) (m ++ [.lst ds])
def frz (f : SL) : SE := fun env m => (f env m).bind fun ds m => .ok (.lst ds) m
def wipeE (env : Env) : List Nat → Env
  | [] => env
  | v :: vs => (wipeE env vs).set v none
/-- what a comprehension's part may end with: nothing is raised -/
def calmR {α : Type} : Res α → Res α
  | .ok a m => .ok a m
  | _ => .bad
def compF (g : D → Env → Option Env) (cond : SB) (elt : SE) (env : Env) : List D → Mem → Res (List D)
  | [], m => .ok [] m
  | d :: ds, m => match g d env with
    | none => .bad
    | some env1 => (calmR (cond env1 m)).bind fun b m => match b with
      | true => (calmR (elt env1 m)).bind fun x m => (compF g cond elt env ds m).bind fun xs m => .ok (x :: xs) m
      | false => compF g cond elt env ds m
def fLst (l : SL) : SL := fun env m => (l env m).bind fun xs m => if xs.length ≤ sizeLine then .ok xs m else .bad
def fComp (g : D → Env → Option Env) (cond : SB) (elt : SE) (own : List Nat) (it : SL) : SL := fun env m => (it env m).bind fun ds m => if ds.length ≤ sizeLine then compF g cond elt (wipeE env own) ds m else .bad
def sF (f : SL) : Sm := { E := frz f, T := truthOf (frz f), F := f }
def loopF (g : D → Env → Option Env) (body : Env → Mem → Fl) : List D → Env → Mem → Fl
  | [], env, m => .nx env m
  | d :: ds, env, m => match g d env with
    | none => .bad
    | some env1 => match body env1 m with
      | .nx e m => loopF g body ds e m
      | .ct e m => loopF g body ds e m
      | .brk e m => .nx e m
      | f => f
def whileF (t : SB) (body : Env → Mem → Fl) : Nat → Env → Mem → Fl
  | 0, _, _ => .bad
  | k + 1, env, m => match t env m with
    | .ok true m => (match body env m with
      | .nx e m => whileF t body k e m
      | .ct e m => whileF t body k e m
      | .brk e m => .nx e m
      | f => f)
    | .ok false m => .nx env m
    | .err x m => .err x env m
    | .bad => .bad
def Res.fl (r : Res D) (env : Env) (f : D → Mem → Fl) : Fl := match r with
  | .ok d m => f d m
  | .err x m => .err x env m
  | .bad => .bad
def nilG : List D → Env → Option Env := fun ds env => match ds with
  | [] => some env
  | _ => none
def consG (g : D → Env → Option Env) (r : List D → Env → Option Env) : List D → Env → Option Env := fun ds env => match ds with
  | d :: es => (g d env).bind fun env => r es env
  | [] => none
def tupG (r : List D → Env → Option Env) : D → Env → Option Env := fun d env => match d with
  | .tup ds => r ds env
  | _ => none
def seqS (a r : Env → Mem → Fl) : Env → Mem → Fl := fun env m => match a env m with
  | .nx e m => r e m
  | f => f
def andE (a b : SE) : SE := fun env m => (a env m).bind fun x m => match x with
  | .bl true => b env m
  | .bl false => .ok (.bl false) m
  | _ => .bad
def orE (a b : SE) : SE := fun env m => (a env m).bind fun x m => match x with
  | .bl true => .ok (.bl true) m
  | .bl false => b env m
  | _ => .bad
def notE (a : SE) : SE := fun env m => (a env m).bind fun x m => match x with
  | .bl b => .ok (.bl (!b)) m
  | _ => .bad
def andT (a b : SB) : SB := fun env m => (a env m).bind fun k m => match k with
  | true => b env m
  | false => .ok false m
def orT (a b : SB) : SB := fun env m => (a env m).bind fun k m => match k with
  | true => .ok true m
  | false => b env m
def notT (a : SB) : SB := fun env m => (a env m).bind fun k m => .ok (!k) m
def ifeE (t : SB) (a b : SE) : SE := fun env m => (t env m).bind fun k m => match k with
  | true => a env m
  | false => b env m
def retS (a : SE) : Env → Mem → Fl := fun env m => (a env m).fl env fun d m => .ret d m
def setS (g : D → Env → Option Env) (a : SE) : Env → Mem → Fl := fun env m => (a env m).fl env fun d m => match g d env with
  | some e => .nx e m
  | none => .bad
def ifS (t : SB) (a b : Env → Mem → Fl) : Env → Mem → Fl := fun env m => match t env m with
  | .ok true m => a env m
  | .ok false m => b env m
  | .err x m => .err x env m
  | .bad => .bad
def forS (g : D → Env → Option Env) (it : SL) (b : Env → Mem → Fl) : Env → Mem → Fl := fun env m => match it env m with
  | .ok ds m => loopF g b ds env m
  | .err x m => .err x env m
  | .bad => .bad
def exprS (a : SE) : Env → Mem → Fl := fun env m => (a env m).fl env fun _ m => .nx env m
/-- lo, hi of a slice -/
def partOf (c : Sm) (isNil : Bool) : Env → Mem → Res (Option Int) := match isNil with
  | true => fun _ m => .ok none m
  | false => fun env m => (c.E env m).bind fun d m => match d with
    | .int i => .ok (some i) m
    | _ => .bad
def C.isNil : C → Bool
  | .nil => true
  | _ => false
def intIt (lo : Int) (n : Nat) : List D := (List.range n).map fun i => .int (lo + (i : Nat))
/-- a list's items, a tuple's, a text's signs -/
def itLst (m : Mem) : D → Option (List D)
  | .lst ds => some ds
  | .scr ds => some ds
  | _ => none
def itTup : D → Option (List D)
  | .tup ds => some ds
  | _ => none
def itStr : D → Option (List D)
  | .str x => some (x.cps.toList.map fun c => .str ⟨#[c]⟩)
  | _ => none
def itRange (d : D) : Option (List D) := match d with
  | .int j => if -(2 ^ 62) ≤ j ∧ j < 2 ^ 62 then some (intIt 0 j.toNat) else none
  | _ => none
def itRange2 (d e : D) : Option (List D) := match d, e with
  | .int i, .int j => if -(2 ^ 62) ≤ i ∧ i < 2 ^ 62 ∧ -(2 ^ 62) ≤ j ∧ j < 2 ^ 62 then some (intIt i (j - i).toNat) else none
  | _, _ => none
def fM (prim : Prim) (fa fb : SE) : SE := fun env m => (fa env m).bind fun x m => if isL m x = true then (fb env m).bind fun y m => Res.of (prim [x, y] m) m else .bad
def fIsi (G : Gt) (k : Nat) (fa : SE) : SE := fun env m => (fa env m).bind fun d m => Res.of (((d.tyc m).bind fun t => G.isT t k).map .bl) m
def fAttr (G : Gt) (x : Str) (fa : SE) : SE := fun env m => (fa env m).bind fun d m => Res.of (G.attr x d) m
def fMap (f : D → D) (fa : SE) : SE := fun env m => (fa env m).bind fun d m => .ok (f d) m
/-- x[j] = d -/
def setIx (m : Mem) (x j d : D) : Option Mem := match x, j with
  | .cell n, .int k => (match m[n]? with
    | some (.lst ds) => (ixN ds.length k).map fun i => m.set n (.lst (ds.set i d))
    | _ => none)
  | _, _ => none
def ixS (fo fi fe : SE) : Env → Mem → Fl := fun env m => (fe env m).fl env fun d m => (fo env m).fl env fun x m => (fi env m).fl env fun j m => match setIx m x j d with
  | some m => .nx env m
  | none => .bad
def two : D → Option (D × D)
  | .tup [a, b] => some (a, b)
  | _ => none
def ixNS (fo fi fe : SE) (y : Nat) : Env → Mem → Fl := fun env m => (fe env m).fl env fun d m => match two d with
  | some (d1, d2) => (fo env m).fl env fun x m => (fi env m).fl env fun j m => (match setIx m x j d1 with
    | some m => .nx (env.set y (some d2)) m
    | none => .bad)
  | none => .bad
section
variable (fu : Nat) (F : Nat → List D → Mem → Res D) (G : Gt)
def sem : C → Sm
  | .var i => sE fun env m => match env[i]? with
    | some (some d) => .ok d m
    | _ => .bad
  | .kint i => sE fun _ m => .ok (.int i) m
  | .kstr x => sE fun _ m => .ok (.str x) m
  | .kbl b => sE fun _ m => .ok (.bl b) m
  | .knon => sE fun _ m => .ok .non m
  | .gint _ i => sE fun _ m => .ok (.int i) m
  | .gstr _ z => sE fun _ m => .ok (.str z) m
  | .p1 o a => sE (f1 (prim1 o) (sem a).E)
  | .p2 o a b => sE (f2 (prim2 o) (sem a).E (sem b).E)
  | .cmp o a b => sE (f2 (primC o) (sem a).E (sem b).E)
  | .chain o o' a b c => sE (fChain (primC o) (primC o') (sem a).E (sem b).E (sem c).E)
  | .sl a lo hi => sE fun env m => ((sem a).E env m).bind fun x m => (partOf (sem lo) lo.isNil env m).bind fun l m => (partOf (sem hi) hi.isNil env m).bind fun h m => Res.of (slD m x l h) m
  | .and a b => { E := andE (sem a).E (sem b).E, T := andT (sem a).T (sem b).T }
  | .or a b => { E := orE (sem a).E (sem b).E, T := orT (sem a).T (sem b).T }
  | .one a => { E := (sem a).E, T := (sem a).T }
  | .not a => { E := notE (sem a).E, T := notT (sem a).T }
  | .ife t a b => { E := ifeE (sem t).T (sem a).E (sem b).E }
  | .tup l => sE (fN pTup (sem l).L)
  | .lst l => sF (fLst (sem l).L)
  | .nil => { L := fNil, S := fun env m => .nx env m, GL := nilG, T := fun _ m => .ok true m }
  | .cons a r => { L := fCons (sem a).E (sem r).L, S := seqS (sem a).S (sem r).S, GL := consG (sem a).G (sem r).GL }
  | .mk a => sE (mkE (sem a).F)
  | .call j l => sE fun env m => ((sem l).L env m).bind fun xs m => F j (G.dfl j xs) m
  | .comp own elt tg it cond => sF (fComp (sem tg).G (sem cond).T (sem elt).E (own.map (·.2)) (sem it).I)
  | .tName i => { G := fun d env => some (env.set i (some d)) }
  | .tTup l => { G := tupG (sem l).GL }
  | .iLst a => { I := fun env m => ((sem a).E env m).bind fun d m => Res.of (itLst m d) m }
  | .iTup a => { I := fun env m => ((sem a).E env m).bind fun d m => Res.of (itTup d) m }
  | .iStr a => { I := fun env m => ((sem a).E env m).bind fun d m => Res.of (itStr d) m }
  | .iRange a => { I := fun env m => ((sem a).E env m).bind fun d m => Res.of (itRange d) m }
  | .iRange2 a b => { I := fun env m => ((sem a).E env m).bind fun d m => ((sem b).E env m).bind fun e m => Res.of (itRange2 d e) m }
  | .sRet a => { S := retS (sem a).E }
  | .sRetN => { S := fun _ m => .ret .non m }
  | .sSet tg a => { S := setS (sem tg).G (sem a).E }
  | .sSetC i cell c => { S := setS (fun d env => some (env.set i (some d))) (if cell = true then mkE (sem c).F else frz (sem c).F) }
  | .sIf t a b => { S := ifS (sem t).T (sem a).S (sem b).S }
  | .sFor tg it b => { S := forS (sem tg).G (sem it).I (sem b).S }
  | .sWhile t b => { S := whileF (sem t).T (sem b).S fu }
  | .sExpr a => { S := exprS (sem a).E }
  | .m1 o a b => sE (fM (primM o) (sem a).E (sem b).E)
  | .isi a k => sE (fIsi G k (sem a).E)
  | .attr a x => sE (fAttr G x (sem a).E)
  | .mkx c a => sE (fMap (fun d => .exc c [d]) (sem a).E)
  | .mkx0 c => sE fun _ m => .ok (.exc c []) m
  | .dic0 => sE fun _ m => .ok (.dic [] []) m
  | .dic1 k a => sE (fMap (fun d => .dic [k] [d]) (sem a).E)
  | .sIx o i e => { S := ixS (sem o).E (sem i).E (sem e).E }
  | .sIxN o i y e => { S := ixNS (sem o).E (sem i).E (sem e).E y }
  | .sPass => { S := fun env m => .nx env m }
  | .sNever => {}
end
end Zd


set_option Elab.async false
set_option linter.all false
set_option maxRecDepth 100000
set_option maxHeartbeats 2000000
namespace Zd
open PySem PySem.Spec PyProof.Rows L2 Zx

/-! ### the look: is a reading that of the text? -/
def plainE : Expr → Bool
  | .Starred .. => false
  | .Set .. => false
  | _ => true
def noComp : Expr → Bool
  | .ListComp .. => false
  | .SetComp .. => false
  | .DictComp .. => false
  | _ => true
def noTup : Expr → Bool
  | .Tuple .. => false
  | _ => true
def dfltT : Expr → Bool
  | .UnaryOp .Not _ _ => false
  | .BoolOp .. => false
  | .IfExp .. => false
  | .Compare .. => false
  | _ => true
def noSl : Expr → Bool
  | .Slice .. => false
  | _ => true
def visB (sc : Scope) (x : Str) : Bool := match sc.names.lookup x with
  | some .local => true
  | some .cell => true
  | some .free => true
  | _ => false
def locB (sc : Scope) (x : Str) : Bool := match sc.names.lookup x with
  | some .local => true
  | some .cell => true
  | _ => false
def glbB (sc : Scope) (x : Str) : Bool := decide (sc.names.lookup x = some .globalImplicit)
def okN (x : Str) : Bool := !(x == ("__debug__" : Str)) && !(x == ("__classdict__" : Str)) && !(decide (x = "__name__"))
/-- a built-in's name -/
def frB (G : Gt) (sc : Scope) (nm x : Str) : Bool := decide (x = nm) && glbB sc x && decide (x ∈ G.free)
def O1.nm : O1 → Str
  | .neg => "" | .len => "len" | .tuple => "tuple" | .list => "list" | .all => "all" | .any => "any" | .sum => "sum" | .max => "max" | .min => "min" | .int => "int" | .abs => "abs" | .strI => "str" | .repr => "repr" | .lrange => "list"
def OC.op : OC → CmpOp
  | .lt => .Lt | .le => .LtE | .gt => .Gt | .ge => .GtE | .eq => .Eq | .ne => .NotEq | .isin => .In | .notin => .NotIn | .isn => .Is | .notn => .IsNot
def O2.op : O2 → Option Operator
  | .add => some .Add | .sub => some .Sub | .mul => some .Mult | .fdiv => some .FloorDiv | .mod => some .Mod | .pow => some .Pow | _ => none
structure Ck where
  E : Expr → Bool := fun _ => false
  T : Expr → Bool := fun _ => false
  W : Expr → Bool := fun _ => false
  F : Expr → Bool := fun _ => false
  L : List Expr → Bool := fun _ => false
  I : Expr → Expr → Bool := fun _ _ => false
  S : Stmt → Bool := fun _ => false
  B : List Stmt → Bool := fun _ => false
  G : Expr → Bool := fun _ => false
  GL : List Expr → Bool := fun _ => false
def kE (k : Expr → Bool) : Ck := { E := k, T := fun e => k e && dfltT e }
def kCall1 (G : Gt) (sc : Scope) (nm : Str) (k : Expr → Bool) : Expr → Bool
  | .Call (.Name x _) [b] [] _ => frB G sc nm x && plainE b && k b
  | _ => false
def kCall2 (G : Gt) (sc : Scope) (nm : Str) (k k' : Expr → Bool) : Expr → Bool
  | .Call (.Name x _) [b, c] [] _ => frB G sc nm x && plainE b && plainE c && k b && k' c
  | _ => false
def k1 (G : Gt) (sc : Scope) (o : O1) (k : Expr → Bool) : Expr → Bool := match o with
  | .neg => fun e => (match e with
    | .UnaryOp .USub b _ => k b
    | _ => false)
  | .lrange => fun e => (match e with
    | .Call (.Name x _) [.Call (.Name y _) [b] [] _] [] _ => frB G sc "list" x && frB G sc "range" y && plainE b && k b
    | _ => false)
  | o => kCall1 G sc o.nm k
def k2 (G : Gt) (sc : Scope) (o : O2) (k k' : Expr → Bool) : Expr → Bool := match o with
  | .idx => fun e => (match e with
    | .Subscript a b _ => noSl b && k a && k' b
    | _ => false)
  | .max2 => kCall2 G sc "max" k k'
  | .min2 => kCall2 G sc "min" k k'
  | .divmod => kCall2 G sc "divmod" k k'
  | o => fun e => (match e with
    | .BinOp a op b _ => decide (o.op = some op) && k a && k' b
    | _ => false)
def OM.nm : OM → Str
  | .cnt => "count" | .index => "index"
def noCall : Expr → Bool
  | .Call .. => false
  | _ => true
def kM1 (o : OM) (k k' : Expr → Bool) : Expr → Bool
  | .Call (.Attribute a f ap) [b] [] cp => decide (f = o.nm) && noCall a && plainE b && (ap.endLine == cp.line) && k a && k' b
  | _ => false
def kIsi (G : Gt) (sc : Scope) (y : Option Str) (k : Expr → Bool) : Expr → Bool
  | .Call (.Name x _) [b, .Name z _] [] _ => frB G sc "isinstance" x && plainE b && decide (y = some z) && !G.tys.isEmpty && glbB sc z && okN z && k b
  | _ => false
def kAttr (x : Str) (k : Expr → Bool) : Expr → Bool
  | .Attribute a f _ => decide (f = x) && noCall a && k a
  | _ => false
def kMkx (sc : Scope) (xd : Option XD) (k : Expr → Bool) : Expr → Bool
  | .Call (.Name x _) [b] [] _ => (match xd with
    | some xd => decide (xd.name = x) && glbB sc x && okN x && plainE b && decide (xd.ns.length = 1) && k b
    | none => false)
  | .Call (.Name x _) [] [⟨f, b, _⟩] _ => (match xd with
    | some xd => decide (xd.name = x) && glbB sc x && okN x && decide (f.map (fun f => [f]) = some xd.ns) && k b
    | none => false)
  | _ => false
def kMkx0 (sc : Scope) (xd : Option XD) : Expr → Bool
  | .Call (.Name x _) [] [] _ => (match xd with
    | some xd => decide (xd.name = x) && glbB sc x && okN x && decide (xd.ns = [])
    | none => false)
  | _ => false
def kDic0 : Expr → Bool
  | .Dict [] [] _ => true
  | _ => false
def kDic1 (x : Str) (k : Expr → Bool) : Expr → Bool
  | .Dict [some (.Constant (.str y) _ _)] [b] _ => decide (x = y) && k b
  | _ => false
def kIx (ko ki ke : Expr → Bool) : Stmt → Bool
  | .Assign [.Subscript o i _] e _ => noSl i && noComp e && ko o && ki i && ke e
  | _ => false
def kIxN (N : List Str) (sc : Scope) (y : Nat) (ko ki ke : Expr → Bool) : Stmt → Bool
  | .Assign [.Tuple [.Subscript o i _, .Name z _] _ _] e _ => noSl i && noComp e && noTup e && decide (N[y]? = some z) && locB sc z && ko o && ki i && ke e
  | _ => false
def kCmp (o : OC) (k k' : Expr → Bool) : Expr → Bool
  | .Compare a [op] [b] _ => decide (op = o.op) && !(behindInMarks op b) && k a && k' b
  | _ => false
def kChain (o o' : OC) (ka kb kc : Expr → Bool) : Expr → Bool
  | .Compare a [op, op'] [b, c] _ => decide (op = o.op) && decide (op' = o'.op) && !(lastMarks [op, op'] [b, c]) && ka a && kb b && kc c
  | _ => false
def kPart (isNil : Bool) (k : Expr → Bool) : Option Expr → Bool
  | none => isNil
  | some e => !isNil && k e
def kTests (isNil : Bool) (k : Expr → Bool) : List Expr → Bool
  | [] => isNil
  | [c] => !isNil && k c
  | _ => false
def subB (xs ys : List Nat) : Bool := xs.all fun i => decide (i ∈ ys)
def isLC : Expr → Bool
  | .ListComp .. => true
  | _ => false
def kSet (g k : Expr → Bool) : Stmt → Bool
  | .Assign [t] e _ => (match t with
    | .Tuple _ _ _ => noTup e
    | .Name _ _ => true
    | _ => false) && noComp e && g t && k e
  | _ => false
def kSetC (N : List Str) (sc : Scope) (i : Nat) (k : Expr → Bool) : Stmt → Bool
  | .Assign [.Name x _] e _ => isLC e && decide (N[i]? = some x) && locB sc x && k e
  | _ => false
def kExprS (k : Expr → Bool) : Stmt → Bool
  | .Expr e _ => noComp e && k e
  | _ => false
def kComp (N : List Str) (sc : Scope) (own : List (Str × Nat)) (slots : List Nat) (g : Scope → Expr → Bool) (it : Expr → Expr → Bool) (cond : Scope → List Expr → Bool) (elt : Scope → Expr → Bool) : Expr → Bool
  | .ListComp e [⟨tg, iter, ifs, 0⟩] scope _ => blkC N sc scope own && subB slots (own.map (·.2)) && plainE iter && g scope tg && it tg iter && cond scope ifs && elt scope e
  | _ => false
def kAnd (k k' : Expr → Bool) : Expr → Bool
  | .BoolOp .And (x :: y :: r) pos => k x && k' (.BoolOp .And (y :: r) pos)
  | _ => false
def kOr (k k' : Expr → Bool) : Expr → Bool
  | .BoolOp .Or (x :: y :: r) pos => k x && k' (.BoolOp .Or (y :: r) pos)
  | _ => false
def kOne (k : Expr → Bool) : Expr → Bool
  | .BoolOp _ [x] _ => k x
  | _ => false
def kNot (k : Expr → Bool) : Expr → Bool
  | .UnaryOp .Not x _ => k x
  | _ => false
def kIfe (t a b : Expr → Bool) : Expr → Bool
  | .IfExp c x y _ => t c && a x && b y
  | _ => false
def kF (k : Expr → Bool) : Ck := { E := k, T := fun e => k e && dfltT e, F := k }
def kLst (k : List Expr → Bool) : Expr → Bool
  | .List es _ => k es
  | _ => false
def kCons (k : Expr → Bool) (r : List Expr → Bool) : List Expr → Bool
  | e :: es => plainE e && k e && r es
  | [] => false
def kConsB (k : Stmt → Bool) (r : List Stmt → Bool) : List Stmt → Bool
  | e :: es => k e && r es
  | [] => false
def kTN (N : List Str) (sc : Scope) (i : Nat) : Expr → Bool
  | .Name x _ => decide (N[i]? = some x) && locB sc x
  | _ => false
def kTT (k : List Expr → Bool) : Expr → Bool
  | .Tuple es _ _ => k es
  | _ => false
def C.slots : C → List Nat
  | .tName i => [i]
  | .tTup l => l.slots
  | .cons a r => a.slots ++ r.slots
  | _ => []
section
variable (G : Gt) (N : List Str)
def chk : C → Scope → Ck
  | .var i, sc => kE fun e => match e with
    | .Name x _ => decide (N[i]? = some x) && visB sc x && okN x
    | _ => false
  | .kint i, _ => kE fun e => match e with
    | .Constant (.int j) _ _ => decide (i = j)
    | _ => false
  | .kstr x, _ => kE fun e => match e with
    | .Constant (.str y) _ _ => decide (x = y)
    | _ => false
  | .kbl b, _ => kE fun e => match e with
    | .Constant (.bool c) _ _ => decide (b = c)
    | _ => false
  | .knon, _ => kE fun e => match e with
    | .Constant .none _ _ => true
    | _ => false
  | .gint x i, sc => kE fun e => match e with
    | .Name y _ => decide (x = y) && glbB sc y && okN y && decide (G.gis.lookup y = some i)
    | _ => false
  | .gstr x z, sc => kE fun e => match e with
    | .Name y _ => decide (x = y) && glbB sc y && okN y && decide (G.gss.lookup y = some z)
    | _ => false
  | .p1 o a, sc => kE (k1 G sc o (chk a sc).E)
  | .p2 o a b, sc => kE (k2 G sc o (chk a sc).E (chk b sc).E)
  | .cmp o a b, sc => { E := kCmp o (chk a sc).E (chk b sc).E, T := kCmp o (chk a sc).E (chk b sc).E }
  | .chain o o' a b c, sc => { E := kChain o o' (chk a sc).E (chk b sc).E (chk c sc).E, T := kChain o o' (chk a sc).E (chk b sc).E (chk c sc).E }
  | .sl a lo hi, sc => kE fun e => match e with
    | .Subscript b (.Slice l h none _) _ => (chk a sc).E b && kPart lo.isNil (chk lo sc).E l && kPart hi.isNil (chk hi sc).E h
    | _ => false
  | .and a b, sc => { E := kAnd (chk a sc).E (chk b sc).E, T := kAnd (chk a sc).T (chk b sc).W, W := kAnd (chk a sc).T (chk b sc).W }
  | .or a b, sc => { E := kOr (chk a sc).E (chk b sc).E, T := kOr (chk a sc).T (chk b sc).W, W := kOr (chk a sc).T (chk b sc).W }
  | .one a, sc => { E := kOne (chk a sc).E, W := kOne (chk a sc).T }
  | .not a, sc => { E := kNot (chk a sc).E, T := kNot (chk a sc).T }
  | .ife t a b, sc => { E := kIfe (chk t sc).T (chk a sc).E (chk b sc).E }
  | .tup l, sc => kE fun e => match e with
    | .Tuple es _ _ => (chk l sc).L es
    | _ => false
  | .lst l, sc => kF (kLst (chk l sc).L)
  | .nil, _ => { L := fun es => es.isEmpty, B := fun es => es.isEmpty, GL := fun es => es.isEmpty }
  | .cons a r, sc => { L := kCons (chk a sc).E (chk r sc).L, B := kConsB (chk a sc).S (chk r sc).B, GL := kCons (chk a sc).G (chk r sc).GL }
  | .mk a, sc => kE (chk a sc).F
  | .call j l, sc => kE fun e => match e with
    | .Call (.Name x _) (b :: es) [] _ => (match G.fs[j]? with
      | some fd => fd.glob && fd.dfl.all (fun d => d.fl.isSome) && decide (fd.name = x) && glbB sc x && okN x && decide ((b :: es).length ≤ fd.ps.length) && decide (fd.ps.length ≤ (b :: es).length + fd.dfl.length) && (chk l sc).L (b :: es)
      | none => false)
    | _ => false
  | .comp own elt tg it cond, sc => kF (kComp N sc own tg.slots (fun s => (chk tg s).G) (chk it sc).I (fun s => kTests cond.isNil (chk cond s).T) (fun s => (chk elt s).E))
  | .tName i, sc => { G := kTN N sc i }
  | .tTup l, sc => { G := kTT (chk l sc).GL }
  | .iLst a, sc => { I := fun _ e => (chk a sc).E e }
  | .iTup a, sc => { I := fun _ e => (chk a sc).E e }
  | .iStr a, sc => { I := fun _ e => (chk a sc).E e }
  | .iRange a, sc => { I := fun _ e => kCall1 G sc "range" (chk a sc).E e }
  | .iRange2 a b, sc => { I := fun _ e => kCall2 G sc "range" (chk a sc).E (chk b sc).E e }
  | .sRet a, sc => { S := fun s => (match s with
    | .Return (some e) _ => (chk a sc).E e
    | _ => false) }
  | .sRetN, _ => { S := fun s => (match s with
    | .Return none _ => true
    | _ => false) }
  | .sSet tg a, sc => { S := kSet (chk tg sc).G (chk a sc).E }
  | .sSetC i _ c, sc => { S := kSetC N sc i (chk c sc).F }
  | .sIf t a b, sc => { S := fun s => (match s with
    | .If c x y _ => (chk t sc).T c && (chk a sc).B x && (chk b sc).B y
    | _ => false) }
  | .sFor tg it b, sc => { S := fun s => (match s with
    | .For t i x [] _ => (chk tg sc).G t && plainE i && (chk it sc).I t i && (chk b sc).B x
    | _ => false) }
  | .sWhile t b, sc => { S := fun s => (match s with
    | .While c x [] _ => (chk t sc).T c && (chk b sc).B x
    | _ => false) }
  | .sExpr a, sc => { S := kExprS (chk a sc).E }
  | .m1 o a b, sc => kE (kM1 o (chk a sc).E (chk b sc).E)
  | .isi a k, sc => kE (kIsi G sc G.tgs[k]? (chk a sc).E)
  | .attr a x, sc => kE (kAttr x (chk a sc).E)
  | .mkx c a, sc => kE (kMkx sc G.xs[c]? (chk a sc).E)
  | .mkx0 c, sc => kE (kMkx0 sc G.xs[c]?)
  | .dic0, _ => kE kDic0
  | .dic1 k a, sc => kE (kDic1 k (chk a sc).E)
  | .sIx o i e, sc => { S := kIx (chk o sc).E (chk i sc).E (chk e sc).E }
  | .sIxN o i y e, sc => { S := kIxN N sc y (chk o sc).E (chk i sc).E (chk e sc).E }
  | .sPass, _ => { S := fun s => (match s with
    | .Pass _ => true
    | _ => false) }
  | .sNever, _ => { S := fun _ => true }
end
end Zd


set_option Elab.async false
set_option linter.all false
set_option maxRecDepth 100000
set_option maxHeartbeats 2000000
namespace Zd
open PySem PySem.Spec PyProof.Rows L2 Zx

/-! ### more lifts -/
/-- what a fresh list's maker ends with -/
def postF (p : Par) (H I : Hp) (A : List Addr) (Q : VK) (E : XK) : Res (List D) → Prop
  | .ok ds m => ∀ a xs H' I' A', Ext H I A H' I' A' → RepM p H' I' A' m → H a = none → I' a = none → a ∉ A' → H' a = some (.lst xs) → DRs p I' A' ds xs → Q (.ref a) H'
  | .err e m => ∀ c dx H' I' A', Ext H I A H' I' A' → RepM p H' I' A' m → ErrAt p H' I' A' e c dx → E c dx H'
  | .bad => False
def liftF (p : Par) (W : WX) (f : SL) : TE := fun σ H Q => ∃ I A env mem, RepM p H I A mem ∧ RepE p σ I A env ∧ postF p H I A Q (fun c d H' => W c d σ H') (f env mem)
def ItOk (p : Par) (J : It) (I0 : Hp) (A0 : List Addr) (items : List D) : Prop := ∃ (G : Hp → Prop) (Y : Nat → Hp → V → Hp → Prop), Walk J items.length G Y ∧
  (∀ H I : Hp, (∀ a o, I0 a = some o → I a = some o) → (∀ a o, I a = some o → H a = some o) → G H) ∧
  (∀ (i : Nat) (H I : Hp) (A : List Addr) (m : Mem) (x : V) (H' : Hp), (∀ a o, I0 a = some o → I a = some o) → (∀ (n : Nat) (a : Addr), A0[n]? = some a → A[n]? = some a) → RepM p H I A m → i < items.length → Y i H x H' →
    ∃ I', Ext H I A H' I' A ∧ RepM p H' I' A m ∧ ∃ d, items[i]? = some d ∧ DR p I' A d x)
abbrev RI (p : Par) : Hp → List Addr → List D → It → Prop := fun I A ds J => ItOk p J I A ds
abbrev liftI (p : Par) (W : WX) (f : SL) : TI := lift (RI p) p W f
def liftG (p : Par) (slots : List Nat) (g : D → Env → Option Env) : TG := fun v σ H Q => ∃ I A env mem d env', RepM p H I A mem ∧ RepE p σ I A env ∧ DR p I A d v ∧ g d env = some env' ∧
  ∀ σ', RepE p σ' I A env' → σ'.length = σ.length → (∀ i, i ∉ slots → σ'[i]? = σ[i]?) → Q σ' H
def liftGs (p : Par) (slots : List Nat) (g : List D → Env → Option Env) : TGs := fun vs σ H Q => ∃ I A env mem ds env', RepM p H I A mem ∧ RepE p σ I A env ∧ DRs p I A ds vs ∧ g ds env = some env' ∧
  ∀ σ', RepE p σ' I A env' → σ'.length = σ.length → (∀ i, i ∉ slots → σ'[i]? = σ[i]?) → Q σ' H
def postS (p : Par) (H I : Hp) (A : List Addr) (Dn : Ends) (W : WX) : Fl → Prop
  | .nx env m => ∀ σ' H' I' A', Ext H I A H' I' A' → RepM p H' I' A' m → RepE p σ' I' A' env → Dn.nx σ' H'
  | .brk env m => ∀ σ' H' I' A', Ext H I A H' I' A' → RepM p H' I' A' m → RepE p σ' I' A' env → Dn.bk σ' H'
  | .ct env m => ∀ σ' H' I' A', Ext H I A H' I' A' → RepM p H' I' A' m → RepE p σ' I' A' env → Dn.ct σ' H'
  | .ret d m => ∀ v H' I' A', Ext H I A H' I' A' → RepM p H' I' A' m → DR p I' A' d v → Dn.rt v H'
  | .err x env m => ∀ c dx σ' H' I' A', Ext H I A H' I' A' → RepM p H' I' A' m → RepE p σ' I' A' env → ErrAt p H' I' A' x c dx → W c dx σ' H'
  | .bad => False
def liftS (p : Par) (W : WX) (f : Env → Mem → Fl) : TS := fun Dn σ H => ∃ I A env mem, RepM p H I A mem ∧ RepE p σ I A env ∧ postS p H I A Dn W (f env mem)

section
variable {p : Par} {H I H1 I1 : Hp} {A A1 : List Addr} {m : Mem} {W : WX} {σ : St} {env : Env}
theorem postS.ext {Dn : Ends} {f : Fl} (h : postS p H I A Dn W f) (e : Ext H I A H1 I1 A1) : postS p H1 I1 A1 Dn W f := by
  cases f with
  | nx env m => exact fun σ' H' I' A' f => h σ' H' I' A' (e.trans f)
  | brk env m => exact fun σ' H' I' A' f => h σ' H' I' A' (e.trans f)
  | ct env m => exact fun σ' H' I' A' f => h σ' H' I' A' (e.trans f)
  | ret d m => exact fun v H' I' A' f => h v H' I' A' (e.trans f)
  | err x env m => exact fun c dx σ' H' I' A' f => h c dx σ' H' I' A' (e.trans f)
  | bad => exact h
theorem postF.ext {Q : VK} {E : XK} {r : Res (List D)} (h : postF p H I A Q E r) (e : Ext H I A H1 I1 A1) : postF p H1 I1 A1 Q E r := by
  cases r with
  | ok ds m => exact fun a xs H' I' A' f M n => h a xs H' I' A' (e.trans f) M (by
      cases q : H a with
      | none => rfl
      | some o =>
        obtain ⟨o', z⟩ := e.there a o q
        rw [n] at z; cases z)
  | err x m => exact fun c dx H' I' A' f => h c dx H' I' A' (e.trans f)
  | bad => exact h
/-- a list that is tracked but no data as yet becomes data -/
theorem RepM.freeze (M : RepM p H I A m) {a : Addr} {o : HO} (h : H a = some o) (hi : I a = none) (hA : a ∉ A) : RepM p H (upd I a o) A m := by
  refine ⟨fun b u hb => ?_, M.nd, M.len, fun n c b h1 h2 => ?_⟩
  · by_cases e : b = a
    · rw [e, upd_same] at hb; rw [e, h]; exact hb
    · rw [upd_ne e] at hb; exact M.sub b u hb
  · have ne : b ≠ a := fun z => hA (z ▸ List.mem_of_getElem? h2)
    obtain ⟨h3, h4⟩ := M.cell n c b h1 h2
    refine ⟨by rw [upd_ne ne]; exact h3, h4.keep (fun b u hb => ?_) (fun _ _ z => z) rfl⟩
    rw [upd_ne (ne_of_none hb hi)]; exact hb
theorem Ext.freeze (e : Ext H I A H1 I1 A1) {a : Addr} {o : HO} (hn : H a = none) (hi : I1 a = none) : Ext H I A H1 (upd I1 a o) A1 := by
  refine ⟨fun b u h => ?_, e.keep, e.there, fun b u u' h h' => ?_, e.pre⟩
  · have := e.sub b u h
    rw [upd_ne (ne_of_none this hi)]; exact this
  · rw [upd_ne (ne_of_none h hn)] at h'; exact e.same b u u' h h'
/-- .. or a cell -/
theorem RepM.cell_new (M : RepM p H I A m) {a : Addr} {xs : List V} {ds : List D} (h : H a = some (.lst xs)) (hi : I a = none) (hA : a ∉ A) (r : DRs p I A ds xs) : RepM p H I (A ++ [a]) (m ++ [.lst ds]) := by
  have hg : ∀ (n : Nat) (b : Addr), A[n]? = some b → (A ++ [a])[n]? = some b := fun n b q => by
    have := (List.getElem?_eq_some_iff.mp q).1
    rw [List.getElem?_append_left this]; exact q
  refine ⟨M.sub, ?_, by rw [List.length_append, List.length_append, M.len]; rfl, fun n c b h1 h2 => ?_⟩
  · rw [List.nodup_append]
    exact ⟨M.nd, by simp, fun x hx y hy => by
      have : y = a := by simpa using hy
      rw [this]; rintro rfl; exact hA hx⟩
  · by_cases hn : n < m.length
    · rw [List.getElem?_append_left hn] at h1
      rw [List.getElem?_append_left (by rw [M.len]; exact hn)] at h2
      obtain ⟨h3, h4⟩ := M.cell n c b h1 h2
      exact ⟨h3, h4.keep (fun _ _ z => z) hg rfl⟩
    · have e1 : n = m.length := by
        have := (List.getElem?_eq_some_iff.mp h1).1
        rw [List.length_append] at this
        simp at this
        omega
      subst e1
      rw [List.getElem?_append_right (Nat.le_refl _)] at h1
      rw [← M.len, List.getElem?_append_right (Nat.le_refl _)] at h2
      simp at h1 h2
      subst h1 h2
      exact ⟨hi, xs, h, r.mono (fun _ _ z => z) hg⟩
theorem Ext.cell_new (e : Ext H I A H1 I1 A1) {a : Addr} (hn : H a = none) : Ext H I A H1 I1 (A1 ++ [a]) := by
  obtain ⟨B, rfl, hb⟩ := e.pre
  refine ⟨e.sub, e.keep, e.there, e.same, B ++ [a], by simp, fun b hm => ?_⟩
  rcases List.mem_append.mp hm with z | z
  · exact hb b z
  · have : b = a := by simpa using z
    rw [this]; exact hn
theorem liftE_frz {f : SL} {Q : VK} (h : liftE p W (frz f) σ H Q) : liftF p W f σ H Q := by
  obtain ⟨I, A, env, m, M, Er, hp⟩ := h
  refine ⟨I, A, env, m, M, Er, ?_⟩
  unfold frz at hp
  cases q : f env m with
  | ok ds m1 =>
    rw [q] at hp
    intro a xs H' I' A' e M' n1 n2 n3 h1 r
    refine hp (.ref a) H' (upd I' a (.lst xs)) A' (e.freeze n1 n2) (M'.freeze h1 n2 n3) (.lst upd_same (r.mono (fun b u hb => ?_) fun _ _ z => z))
    rw [upd_ne (ne_of_none hb n2)]; exact hb
  | err x m1 => rw [q] at hp; exact hp
  | bad => rw [q] at hp; exact hp
theorem liftE_mk {f : SL} {Q : VK} (h : liftE p W (mkE f) σ H Q) : liftF p W f σ H Q := by
  obtain ⟨I, A, env, m, M, Er, hp⟩ := h
  refine ⟨I, A, env, m, M, Er, ?_⟩
  unfold mkE at hp
  cases q : f env m with
  | ok ds m1 =>
    rw [q] at hp
    intro a xs H' I' A' e M' n1 n2 n3 h1 r
    refine hp (.ref a) H' I' (A' ++ [a]) (e.cell_new n1) (M'.cell_new h1 n2 n3 r) (.cell ?_)
    rw [← M'.len, List.getElem?_append_right (Nat.le_refl _)]
    simp
  | err x m1 => rw [q] at hp; exact hp
  | bad => rw [q] at hp; exact hp
/-! ### a fresh display -/
theorem lift_fLst {l : SL} {Q : VK} (h : liftF p W (fLst l) σ H Q) : tLst (liftL p W l) σ H Q := by
  obtain ⟨I, A, env, m, M, Er, hp⟩ := h
  refine ⟨I, A, env, m, M, Er, ?_⟩
  unfold fLst at hp
  cases q : l env m with
  | ok ds m1 =>
    rw [q] at hp
    have hp : postF p H I A Q (fun c d H' => W c d σ H') (if ds.length ≤ sizeLine then .ok ds m1 else .bad) := hp
    by_cases hz : ds.length ≤ sizeLine
    · rw [if_pos hz] at hp
      intro xs H' I' A' e M' r
      have r' : DRs p I' A' ds xs := r
      refine ⟨by rw [← r'.length]; exact hz, fun a ha => ?_⟩
      have hi : I' a = none := by
        cases z : I' a with
        | none => rfl
        | some u => rw [M'.sub a u z] at ha; cases ha
      have hA : a ∉ A' := fun z => by
        obtain ⟨_, o, h⟩ := M'.at_ z
        rw [ha] at h; cases h
      have hn : H a = none := by
        cases q : H a with
        | none => rfl
        | some o =>
          obtain ⟨o', z⟩ := e.there a o q
          rw [ha] at z; cases z
      refine hp a xs (upd H' a (.lst xs)) I' A' ?_ ?_ hn hi hA upd_same r'
      · exact ⟨e.sub, fun b o hb nb => by rw [upd_ne (ne_of_none hb hn)]; exact e.keep b o hb nb, fun b o hb => by rw [upd_ne (ne_of_none hb hn)]; exact e.there b o hb, e.same, e.pre⟩
      · refine ⟨fun b o hb => ?_, M'.nd, M'.len, fun n c b h1 h2 => ?_⟩
        · rw [upd_ne (ne_of_none hb hi)]; exact M'.sub b o hb
        · have ne : b ≠ a := fun z => hA (z ▸ List.mem_of_getElem? h2)
          obtain ⟨h3, h4⟩ := M'.cell n c b h1 h2
          exact ⟨h3, h4.keep (fun _ _ z => z) (fun _ _ z => z) (upd_ne ne)⟩
    · rw [if_neg hz] at hp
      exact False.elim hp
  | err x m1 => rw [q] at hp; exact hp
  | bad => rw [q] at hp; exact hp
theorem RepM.upd_free (M : RepM p H I A m) {a : Addr} {o : HO} (hi : I a = none) (hA : a ∉ A) : RepM p (upd H a o) I A m := by
  refine ⟨fun b u hb => ?_, M.nd, M.len, fun n c b h1 h2 => ?_⟩
  · rw [upd_ne (ne_of_none hb hi)]; exact M.sub b u hb
  · have ne : b ≠ a := fun z => hA (z ▸ List.mem_of_getElem? h2)
    obtain ⟨h3, h4⟩ := M.cell n c b h1 h2
    exact ⟨h3, h4.keep (fun _ _ z => z) (fun _ _ z => z) (upd_ne ne)⟩
theorem Ext.upd_free (e : Ext H I A H1 I1 A1) {a : Addr} {o : HO} (hn : H a = none) : Ext H I A (upd H1 a o) I1 A1 :=
  ⟨e.sub, fun b u hb nb => by rw [upd_ne (ne_of_none hb hn)]; exact e.keep b u hb nb, fun b u hb => by rw [upd_ne (ne_of_none hb hn)]; exact e.there b u hb, e.same, e.pre⟩
theorem Ext.none_of (e : Ext H I A H1 I1 A1) {a : Addr} (h : H1 a = none) : H a = none := by
  cases q : H a with
  | none => rfl
  | some o =>
    obtain ⟨o', z⟩ := e.there a o q
    rw [h] at z; cases z
theorem RepM.free (M : RepM p H I A m) {a : Addr} (h : H a = none) : I a = none ∧ a ∉ A := by
  refine ⟨?_, fun z => ?_⟩
  · cases q : I a with
    | none => rfl
    | some u => rw [M.sub a u q] at h; cases h
  · obtain ⟨_, o, q⟩ := M.at_ z
    rw [h] at q; cases q
/-! ### targets -/
theorem RepE.set {d : D} {v : V} {i : Nat} (r : RepE p σ I A env) (h : DR p I A d v) : RepE p (σ.set i (some v)) I A (env.set i (some d)) := by
  refine ⟨by rw [List.length_set, List.length_set]; exact r.len, fun j e hj => ?_⟩
  by_cases hji : i = j
  · subst hji
    by_cases hl : i < env.length
    · rw [List.getElem?_set_self hl] at hj
      cases hj
      exact ⟨v, by rw [List.getElem?_set_self (by rw [← r.len]; exact hl)], h⟩
    · rw [List.getElem?_eq_none (by rw [List.length_set]; omega)] at hj
      cases hj
  · rw [List.getElem?_set_ne hji] at hj
    obtain ⟨u, h1, h2⟩ := r.val j e hj
    exact ⟨u, by rw [List.getElem?_set_ne hji]; exact h1, h2⟩
theorem RepE.wipe {vs : List Nat} (r : RepE p σ I A env) : RepE p (wipe σ vs) I A (wipeE env vs) := by
  induction vs with
  | nil => exact r
  | cons w vs ih =>
    refine ⟨by show ((wipeE env vs).set w none).length = ((L2.wipe σ vs).set w none).length; rw [List.length_set, List.length_set]; exact ih.len, fun j e hj => ?_⟩
    have hj : ((wipeE env vs).set w none)[j]? = some (some e) := hj
    by_cases hji : w = j
    · subst hji
      by_cases hl : w < (wipeE env vs).length
      · rw [List.getElem?_set_self hl] at hj; cases hj
      · rw [List.getElem?_eq_none (by rw [List.length_set]; omega)] at hj; cases hj
    · rw [List.getElem?_set_ne hji] at hj
      obtain ⟨u, h1, h2⟩ := ih.val j e hj
      exact ⟨u, by show ((L2.wipe σ vs).set w none)[j]? = _; rw [List.getElem?_set_ne hji]; exact h1, h2⟩
theorem liftG_name {i : Nat} {v : V} {Q : St → Hp → Prop} (h : liftG p [i] (fun d env => some (env.set i (some d))) v σ H Q) : gName i v σ H Q := by
  obtain ⟨I, A, env, mem, d, env', M, Er, r, e, q⟩ := h
  cases e
  exact q _ (Er.set r) (List.length_set ..) fun j hj => by
    rw [List.getElem?_set_ne (fun z => hj (by simp [z]))]
theorem liftGs_nil {vs : List V} {Q : St → Hp → Prop} (h : liftGs p [] nilG vs σ H Q) : gNil vs σ H Q := by
  obtain ⟨I, A, env, mem, ds, env', M, Er, r, e, q⟩ := h
  cases ds with
  | nil =>
    cases e
    cases r
    exact ⟨rfl, q σ Er rfl fun _ _ => rfl⟩
  | cons d ds => cases e
theorem liftGs_cons {s1 s2 : List Nat} {g : D → Env → Option Env} {gl : List D → Env → Option Env} {vs : List V} {Q : St → Hp → Prop} (h : liftGs p (s1 ++ s2) (consG g gl) vs σ H Q) : gCons (liftG p s1 g) (liftGs p s2 gl) vs σ H Q := by
  obtain ⟨I, A, env, mem, ds, env', M, Er, r, e, q⟩ := h
  cases ds with
  | nil => cases e
  | cons d ds =>
    cases r with
    | cons r1 r2 =>
      rename_i v us
      have e : (g d env).bind (fun env => gl ds env) = some env' := e
      obtain ⟨env1, e1, e2⟩ := Option.bind_eq_some_iff.mp e
      refine ⟨v, us, rfl, I, A, env, mem, d, env1, M, Er, r1, e1, fun σ1 E1 l1 k1 => ?_⟩
      refine ⟨I, A, env1, mem, ds, env', M, E1, r2, e2, fun σ2 E2 l2 k2 => q σ2 E2 (l2.trans l1) fun i hi => ?_⟩
      rw [k2 i (fun z => hi (List.mem_append_right _ z)), k1 i (fun z => hi (List.mem_append_left _ z))]
theorem liftG_tup {n : Nat} {s : List Nat} {gl : List D → Env → Option Env} {v : V} {Q : St → Hp → Prop} (hn : ∀ ds env env', gl ds env = some env' → ds.length = n) (h : liftG p s (tupG gl) v σ H Q) : gTup p.K n (liftGs p s gl) v σ H Q := by
  obtain ⟨I, A, env, mem, d, env', M, Er, r, e, q⟩ := h
  unfold tupG at e
  split at e
  · obtain ⟨a, xs, rfl, h1, h2⟩ := r.tup_inv
    exact ⟨a, xs, rfl, tupI M h1, by rw [← h2.length]; exact hn _ _ _ e, I, A, env, mem, _, env', M, Er, h2, e, q⟩
  · cases e
theorem wipe_eq : ∀ {vs : List Nat} {σ σ' : St}, σ'.length = σ.length → (∀ i, i ∉ vs → σ'[i]? = σ[i]?) → L2.wipe σ' vs = L2.wipe σ vs := fun {vs σ σ'} hl h => by
  have key : ∀ (vs : List Nat) (τ : St) (i : Nat), (L2.wipe τ vs)[i]? = if i ∈ vs then (if i < τ.length then some none else none) else τ[i]? := by
    intro vs
    induction vs with
    | nil => intro τ i; simp [L2.wipe]
    | cons w vs ih =>
      intro τ i
      show ((L2.wipe τ vs).set w none)[i]? = _
      by_cases e : w = i
      · subst e
        rw [if_pos List.mem_cons_self]
        by_cases hlt : w < τ.length
        · rw [if_pos hlt, List.getElem?_set_self (by rw [L2.wipe_length]; exact hlt)]
        · rw [if_neg hlt, List.getElem?_eq_none (by rw [List.length_set, L2.wipe_length]; omega)]
      · rw [List.getElem?_set_ne e, ih]
        by_cases hm : i ∈ vs
        · rw [if_pos hm, if_pos (List.mem_cons_of_mem _ hm)]
        · rw [if_neg hm, if_neg (fun z => (List.mem_cons.mp z).elim (fun q => e q.symm) hm)]
  refine List.ext_getElem? fun i => ?_
  rw [key, key, hl]
  by_cases hm : i ∈ vs
  · rw [if_pos hm, if_pos hm]
  · rw [if_neg hm, if_neg hm, h i hm]
end
end Zd


set_option Elab.async false
set_option linter.all false
set_option maxRecDepth 100000
set_option maxHeartbeats 2000000
namespace Zd
open PySem PySem.Spec PyProof.Rows L2 Zx

section
variable {p : Par} {H I H1 I1 : Hp} {A A1 : List Addr} {m : Mem} {W : WX} {σ : St} {env : Env}
theorem Ext.subA (e : Ext H I A H1 I1 A1) : ∀ (n : Nat) (a : Addr), A[n]? = some a → A1[n]? = some a := e.get
/-! ### what is walked -/
theorem itOk_seq {K : PySem.W.Frag} {J : It} {xs : List V} {ds : List D} {S : Hp → Prop} (w : Walk J xs.length S (YAt xs)) (hS : ∀ H' I' : Hp, (∀ a o, I a = some o → I' a = some o) → (∀ a o, I' a = some o → H' a = some o) → S H') (r : DRs p I A ds xs) : ItOk p J I A ds := by
  refine ⟨S, YAt xs, by rw [r.length]; exact w, hS, fun i H' I' A' m' x H2 h1 h2 M hi y => ?_⟩
  obtain ⟨e, hx⟩ := y
  subst e
  obtain ⟨d, e1, r1⟩ := r.getV hx
  exact ⟨I', .refl, M, d, e1, r1.mono h1 h2⟩
theorem post.ofI {R : Hp → List Addr → List D → It → Prop} {Q : It → Hp → Prop} {E : XK} {o : Option (List D)} (h : post R p H I A Q E (Res.of o m)) : ∃ d, o = some d ∧ post R p H I A Q E (.ok d m) := by
  cases o with
  | none => exact False.elim h
  | some d => exact ⟨d, rfl, h⟩
def fIt (f : Mem → D → Option (List D)) (a : SE) : SL := fun env m => (a env m).bind fun d m => Res.of (f m d) m
theorem lift_iLst {fa : SE} {R : It → Hp → Prop} (h : liftI p W (fIt itLst fa) σ H R) : iList p.K (liftE p W fa) σ H R := by
  refine (lift.first (R := RD p) (k := fun _ d m => Res.of (itLst m d) m) h).mono fun v H1 ⟨I1, A1, env, d, m1, M1, E1, r1, h1⟩ => ?_
  obtain ⟨ds, e, h2⟩ := h1.ofI
  have key : ∃ a xs, v = .ref a ∧ (∀ H' I' : Hp, (∀ a o, I1 a = some o → I' a = some o) → (∀ a o, I' a = some o → H' a = some o) → SqL p.K H' a xs) ∧ DRs p I1 A1 ds xs := by
    cases d with
    | lst es =>
      cases e
      obtain ⟨a, xs, e1, e2, e3⟩ := r1.lst_inv
      exact ⟨a, xs, e1, fun H' I' h1 h2 => SqL.of (h2 _ _ (h1 _ _ e2)), e3⟩
    | scr es =>
      cases e
      obtain ⟨a, xs, e1, e2, e3⟩ := r1.scr_inv
      exact ⟨a, xs, e1, fun H' I' h1 h2 => SqL.mono' h2 (SqL.mono' h1 e2), e3⟩
    | _ => cases e
  obtain ⟨a, xs, rfl, hS, r⟩ := key
  exact ⟨a, rfl, ⟨xs, hS H1 I1 (fun _ _ z => z) M1.sub⟩, h2 (Itl p.K a) H1 I1 A1 .refl M1 (itOk_seq (K := p.K) walk_list hS r)⟩
theorem lift_iTup {fa : SE} {R : It → Hp → Prop} (h : liftI p W (fIt (fun _ => itTup) fa) σ H R) : iTup p.K (liftE p W fa) σ H R := by
  refine (lift.first (R := RD p) (k := fun _ d m => Res.of (itTup d) m) h).mono fun v H1 ⟨I1, A1, env, d, m1, M1, E1, r1, h1⟩ => ?_
  obtain ⟨ds, e, h2⟩ := h1.ofI
  cases d with
  | tup es =>
    cases e
    obtain ⟨a, xs, rfl, e2, e3⟩ := r1.tup_inv
    have hS : ∀ H' I' : Hp, (∀ a o, I1 a = some o → I' a = some o) → (∀ a o, I' a = some o → H' a = some o) → SqT p.K H' a xs := fun H' I' h1 h2 => SqT.of (h2 _ _ (h1 _ _ e2))
    exact ⟨a, rfl, ⟨xs, hS H1 I1 (fun _ _ z => z) M1.sub⟩, h2 (Itt p.K a) H1 I1 A1 .refl M1 (itOk_seq (K := p.K) walk_tup hS e3)⟩
  | _ => cases e
theorem lift_iStr {fa : SE} {R : It → Hp → Prop} (h : liftI p W (fIt (fun _ => itStr) fa) σ H R) : iStr (liftE p W fa) σ H R := by
  refine (lift.first (R := RD p) (k := fun _ d m => Res.of (itStr d) m) h).mono fun v H1 ⟨I1, A1, env, d, m1, M1, E1, r1, h1⟩ => ?_
  obtain ⟨ds, e, h2⟩ := h1.ofI
  cases d with
  | str z =>
    cases e
    cases r1.str_inv
    refine ⟨z, rfl, h2 (Its z) H1 I1 A1 .refl M1 ⟨fun _ => True, (fun i H v H' => H' = H ∧ ∃ c, z.cps[i]? = some c ∧ v = .str ⟨#[c]⟩), ?_, fun _ _ _ _ => trivial, fun i H' I' A' m' x H2 k1 k2 M hi y => ?_⟩⟩
    · have : (z.cps.toList.map fun c => D.str ⟨#[c]⟩).length = z.cps.size := by simp
      rw [this]
      exact walk_str
    · obtain ⟨e, c, hc, ex⟩ := y
      subst e
      refine ⟨I', .refl, M, .str ⟨#[c]⟩, ?_, ex ▸ .str _⟩
      rw [List.getElem?_map]
      have : z.cps.toList[i]? = some c := by simpa using hc
      rw [this]; rfl
  | _ => cases e
theorem itOk_range {lo : Int} {n : Nat} : ItOk p (Itr lo n) I A (intIt lo n) := by
  refine ⟨fun _ => True, YFn (fun i => .int (lo + (i : Nat))), ?_, fun _ _ _ _ => trivial, fun i H' I' A' m' x H2 k1 k2 M hi y => ?_⟩
  · have : (intIt lo n).length = n := by simp [intIt]
    rw [this]
    exact walk_range
  · obtain ⟨e, ex⟩ := y
    subst e
    have hi : i < n := by simpa [intIt] using hi
    refine ⟨I', .refl, M, .int (lo + (i : Nat)), ?_, ex ▸ .int _⟩
    simp [intIt, hi]
theorem lift_iRange {fa : SE} {R : It → Hp → Prop} (h : liftI p W (fIt (fun _ => itRange) fa) σ H R) : iRng1 (tCons (liftE p W fa) tNil) σ H R := by
  refine (lift.first (R := RD p) (k := fun _ d m => Res.of (itRange d) m) h).mono fun v H1 ⟨I1, A1, env, d, m1, M1, E1, r1, h1⟩ => ?_
  obtain ⟨ds, e, h2⟩ := h1.ofI
  cases d with
  | int j =>
    unfold itRange at e
    by_cases hz : -(2 ^ 62) ≤ j ∧ j < 2 ^ 62
    · have e : (if -(2 ^ 62) ≤ j ∧ j < 2 ^ 62 then some (intIt 0 j.toNat) else none) = some ds := e
      rw [if_pos hz] at e
      cases e
      cases r1.int_inv
      exact ⟨j, rfl, hz.1, hz.2, h2 _ H1 I1 A1 .refl M1 itOk_range⟩
    · have e : (if -(2 ^ 62) ≤ j ∧ j < 2 ^ 62 then some (intIt 0 j.toNat) else none) = some ds := e
      rw [if_neg hz] at e
      cases e
  | _ => cases e
def fIt2 (f : D → D → Option (List D)) (a b : SE) : SL := fun env m => (a env m).bind fun d m => (b env m).bind fun e m => Res.of (f d e) m
theorem lift_iRange2 {fa fb : SE} {R : It → Hp → Prop} (h : liftI p W (fIt2 itRange2 fa fb) σ H R) : iRng2 (tCons (liftE p W fa) (tCons (liftE p W fb) tNil)) σ H R := by
  refine (lift.first (R := RD p) (k := fun env d m => (fb env m).bind fun e m => Res.of (itRange2 d e) m) h).mono fun v H1 ⟨I1, A1, env, d, m1, M1, E1, r1, h1⟩ => ?_
  refine ⟨I1, A1, env, m1, M1, E1, (post.bind (R := RD p) h1).mono fun u H2 ⟨I2, A2, e, m2, e2, M2, r2, h2⟩ => ?_⟩
  obtain ⟨ds, ez, h3⟩ := h2.ofI
  cases d with
  | int i =>
    cases e with
    | int j =>
      have ez : (if -(2 ^ 62) ≤ i ∧ i < 2 ^ 62 ∧ -(2 ^ 62) ≤ j ∧ j < 2 ^ 62 then some (intIt i (j - i).toNat) else none) = some ds := ez
      by_cases hz : -(2 ^ 62) ≤ i ∧ i < 2 ^ 62 ∧ -(2 ^ 62) ≤ j ∧ j < 2 ^ 62
      · rw [if_pos hz] at ez
        cases ez
        cases r1.int_inv
        cases r2.int_inv
        exact ⟨i, j, rfl, hz, h3 _ H2 I2 A2 .refl M2 itOk_range⟩
      · rw [if_neg hz] at ez
        cases ez
    | _ => cases ez
  | _ => cases ez
/-! ### a comprehension -/
abbrev WF : WX := fun _ _ _ _ => False
theorem compF_noerr {g : D → Env → Option Env} {cond : SB} {elt : SE} {env : Env} : ∀ {ds : List D} {m : Mem} {e : Ex} {m' : Mem}, compF g cond elt env ds m ≠ .err e m'
  | [], m, e, m' => by intro h; cases h
  | d :: ds, m, e, m' => by
    intro h
    unfold compF at h
    cases q : g d env with
    | none => rw [q] at h; cases h
    | some env1 =>
      rw [q] at h
      cases q2 : cond env1 m with
      | ok b m2 =>
        simp only [q2, calmR, Res.bind] at h
        cases b with
        | false => exact compF_noerr h
        | true =>
          cases q3 : elt env1 m2 with
          | ok x m3 =>
            simp only [q3] at h
            cases q4 : compF g cond elt env ds m3 with
            | ok xs m4 => simp only [q4] at h; cases h
            | err _ _ => exact compF_noerr q4
            | bad => simp only [q4] at h; cases h
          | err _ _ => simp only [q3] at h; cases h
          | bad => simp only [q3] at h; cases h
      | err _ _ => simp only [q2, calmR, Res.bind] at h; cases h
      | bad => simp only [q2, calmR, Res.bind] at h; cases h
theorem drop_cons {ds : List D} {i : Nat} {d : D} (h : ds[i]? = some d) : ds.drop i = d :: ds.drop (i + 1) := by
  obtain ⟨hl, e⟩ := List.getElem?_eq_some_iff.mp h
  rw [List.drop_eq_getElem_cons hl, e]
/-- one turn that comes through -/
theorem compF_step {g : D → Env → Option Env} {cond : SB} {elt : SE} {env : Env} {d : D} {ds xs : List D} {m m' : Mem} (h : compF g cond elt env (d :: ds) m = .ok xs m') :
    ∃ env1, g d env = some env1 ∧ ∃ b m2, cond env1 m = .ok b m2 ∧ (b = true → ∃ x m3 xs', elt env1 m2 = .ok x m3 ∧ compF g cond elt env ds m3 = .ok xs' m' ∧ xs = x :: xs') ∧ (b = false → compF g cond elt env ds m2 = .ok xs m') := by
  unfold compF at h
  cases q : g d env with
  | none => rw [q] at h; cases h
  | some env1 =>
    rw [q] at h
    refine ⟨env1, rfl, ?_⟩
    cases q2 : cond env1 m with
    | ok b m2 =>
      simp only [q2, calmR, Res.bind] at h
      refine ⟨b, m2, rfl, fun hb => ?_, fun hb => ?_⟩
      · subst hb
        cases q3 : elt env1 m2 with
        | ok x m3 =>
          simp only [q3] at h
          cases q4 : compF g cond elt env ds m3 with
          | ok xs' m4 => simp only [q4] at h; cases h; exact ⟨x, m3, xs', rfl, q4, rfl⟩
          | err _ _ => exact absurd q4 compF_noerr
          | bad => simp only [q4] at h; cases h
        | err _ _ => simp only [q3] at h; cases h
        | bad => simp only [q3] at h; cases h
      · subst hb
        exact h
    | err _ _ => simp only [q2, calmR, Res.bind] at h; cases h
    | bad => simp only [q2, calmR, Res.bind] at h; cases h
theorem lift_comp {g : D → Env → Option Env} {slots own : List Nat} {cond : SB} {elt : SE} {it : SL} {Q : VK} (hs : ∀ i ∈ slots, i ∈ own) (h : liftF p W (fComp g cond elt own it) σ H Q) :
    tLc (liftI p W it) (liftG p slots g) (liftT p WF cond) (liftE p WF elt) own σ H Q := by
  obtain ⟨I, A, env, m, M, Er, hp⟩ := h
  refine ⟨I, A, env, m, M, Er, ?_⟩
  unfold fComp at hp
  cases q : it env m with
  | err x m1 => rw [q] at hp; exact hp
  | bad => rw [q] at hp; exact hp
  | ok ds m1 =>
    rw [q] at hp
    have hp : postF p H I A Q (fun c d H' => W c d σ H') (if ds.length ≤ sizeLine then compF g cond elt (wipeE env own) ds m1 else .bad) := hp
    by_cases hz : ds.length ≤ sizeLine
    · rw [if_pos hz] at hp
      rintro J H1 I1 A1 e1 M1 ⟨Gw, Yw, w, hG, hY⟩ Dd hD
      cases qc : compF g cond elt (wipeE env own) ds m1 with
      | err x m2 => exact absurd qc compF_noerr
      | bad => rw [qc] at hp; exact False.elim hp
      | ok res mE =>
        rw [qc] at hp
        obtain ⟨iD, aD⟩ := M1.free hD
        have nD : H Dd = none := e1.none_of hD
        refine lc_it w (fun i Hh => ∃ Ih Ah mh acc accV xs, Hh Dd = some (.lst accV) ∧ Ih Dd = none ∧ Dd ∉ Ah ∧ RepM p Hh Ih Ah mh ∧ Ext H1 I1 A1 Hh Ih Ah ∧ DRs p Ih Ah acc accV ∧ acc.length ≤ i ∧
          compF g cond elt (wipeE env own) (ds.drop i) mh = .ok xs mE ∧ acc ++ xs = res) ?_ ?_ ?_ ?_
        · exact ⟨I1, A1, m1, [], [], res, upd_same, iD, aD, M1.upd_free iD aD, (Ext.refl).upd_free hD, .nil, Nat.zero_le _, by rw [List.drop_zero]; exact qc, rfl⟩
        · rintro i Hh hi ⟨Ih, Ah, mh, acc, accV, xs, k1, k2, k3, M2, e2, k4, k5, k6, k7⟩
          exact hG Hh Ih e2.sub M2.sub
        · rintro i x Hh Hn hi ⟨Ih, Ah, mh, acc, accV, xs, k1, k2, k3, M2, e2, k4, k5, k6, k7⟩ y
          obtain ⟨In, e3, M3, d, hd, rd⟩ := hY i Hh Ih Ah mh x Hn e2.sub e2.get M2 hi y
          rw [drop_cons hd] at k6
          obtain ⟨env1, hg, b, m3, hc, hbt, hbf⟩ := compF_step k6
          have Ew : RepE p (L2.wipe σ own) In Ah (wipeE env own) := (((Er.ext e1).ext e2).ext e3).wipe
          have kn := e3.keep Dd _ k1 k3
          have k2n : In Dd = none := by
            cases z : In Dd with
            | none => rfl
            | some o =>
              have := e3.same Dd _ _ k1 z
              rw [k2] at this; cases this
          refine ⟨In, Ah, wipeE env own, mh, d, env1, M3, Ew, rd, hg, fun σ2 E2 hl hk => ⟨?_, ?_⟩⟩
          · have hw : L2.wipe (L2.wipe σ own) own = L2.wipe σ own := by
              have : ∀ i, i ∉ own → (L2.wipe σ own)[i]? = σ[i]? := fun i hi => wipe_out hi
              exact wipe_eq (wipe_length _ _) this
            rw [← hw]
            exact wipe_eq hl fun i hi => hk i fun z => hi (hs i z)
          · refine ⟨In, Ah, env1, mh, M3, E2, ?_⟩
            rw [hc]
            intro bv H3 I3 A3 e4 M4 hb
            have hb : b = bv := hb
            subst hb
            have k1' := e4.keep Dd _ kn k3
            have k3' := e4.notin kn k3
            have k2' : I3 Dd = none := by
              cases z : I3 Dd with
              | none => rfl
              | some o =>
                have := e4.same Dd _ _ kn z
                rw [k2n] at this; cases this
            cases b with
            | false =>
              rw [if_neg Bool.false_ne_true]
              exact ⟨I3, A3, m3, acc, accV, xs, k1', k2', k3', M4, (e2.trans e3).trans e4, e4.drs (e3.drs k4), Nat.le_succ_of_le k5, hbf rfl, k7⟩
            | true =>
              rw [if_pos rfl]
              obtain ⟨xd, m4, xs', hx, hr, hxs⟩ := hbt rfl
              refine ⟨I3, A3, env1, m3, M4, E2.ext e4, ?_⟩
              rw [hx]
              intro yv H4 I4 A4 e5 M5 ry
              have k1'' := e5.keep Dd _ k1' k3'
              have k3'' := e5.notin k1' k3'
              have k2'' : I4 Dd = none := by
                cases z : I4 Dd with
                | none => rfl
                | some o =>
                  have := e5.same Dd _ _ k1' z
                  rw [k2'] at this; cases this
              have k4' := e5.drs (e4.drs (e3.drs k4))
              refine ⟨accV, k1'', ?_, I4, A4, m4, acc ++ [xd], accV ++ [yv], xs', upd_same, k2'', k3'', M5.upd_free k2'' k3'', ((((e2.trans e3).trans e4).trans e5).upd_free hD), k4'.snoc ry, ?_, hr, ?_⟩
              · rw [← k4.length]; omega
              · rw [List.length_append, List.length_singleton]; omega
              · rw [← k7, hxs]; simp
        · rintro Hh ⟨Ih, Ah, mh, acc, accV, xs, k1, k2, k3, M2, e2, k4, k5, k6, k7⟩
          rw [List.drop_length] at k6
          cases k6
          rw [List.append_nil] at k7
          subst k7
          exact hp Dd accV Hh Ih Ah (e1.trans e2) M2 nD k2 k3 k1 k4
    · rw [if_neg hz] at hp
      exact False.elim hp
end
end Zd


set_option Elab.async false
set_option linter.all false
set_option maxRecDepth 100000
set_option maxHeartbeats 2000000
namespace Zd
open PySem PySem.Spec PyProof.Rows L2 Zx

section
variable {p : Par} {H I H1 I1 : Hp} {A A1 : List Addr} {m : Mem} {W : WX} {σ : St} {env : Env} {Dn : Ends}
/-! ### statements -/
theorem liftS_expr {fa : SE} {k : Env → D → Mem → Fl} (h : liftS p W (fun env m => (fa env m).fl env (k env)) Dn σ H) :
    liftE p W fa σ H fun v H1 => ∃ I1 A1 env d m1, RepM p H1 I1 A1 m1 ∧ RepE p σ I1 A1 env ∧ DR p I1 A1 d v ∧ postS p H1 I1 A1 Dn W (k env d m1) := by
  obtain ⟨I, A, env, m, M, Er, hp⟩ := h
  refine ⟨I, A, env, m, M, Er, ?_⟩
  dsimp only at hp
  cases q : fa env m with
  | ok d m1 =>
    rw [q] at hp
    intro v H1 I1 A1 e M1 r
    exact ⟨I1, A1, env, d, m1, M1, Er.ext e, r, postS.ext (f := k env d m1) hp e⟩
  | err x m1 =>
    rw [q] at hp
    intro c dx H1 I1 A1 e M1 r
    exact hp c dx σ H1 I1 A1 e M1 (Er.ext e) r
  | bad => rw [q] at hp; exact hp
theorem lift_ret {fa : SE} (h : liftS p W (retS fa) Dn σ H) : tRet (liftE p W fa) Dn σ H :=
  (liftS_expr (k := fun _ d m => .ret d m) h).mono fun v H1 ⟨I1, A1, env, d, m1, M1, E1, r, hp⟩ => hp v H1 I1 A1 .refl M1 r
theorem lift_exprS {fa : SE} (h : liftS p W (exprS fa) Dn σ H) : tDrop (liftE p W fa) Dn σ H :=
  (liftS_expr (k := fun env d m => .nx env m) h).mono fun v H1 ⟨I1, A1, env, d, m1, M1, E1, r, hp⟩ => hp σ H1 I1 A1 .refl M1 E1
theorem lift_set {fa : SE} {g : D → Env → Option Env} {slots : List Nat} (h : liftS p W (setS g fa) Dn σ H) : tAsg (liftE p W fa) (liftG p slots g) Dn σ H :=
  (liftS_expr (k := fun env d m => match g d env with
    | some e => .nx e m
    | none => .bad) h).mono fun v H1 ⟨I1, A1, env, d, m1, M1, E1, r, hp⟩ => by
    cases q : g d env with
    | none => rw [q] at hp; exact False.elim hp
    | some env' =>
      rw [q] at hp
      exact ⟨I1, A1, env, m1, d, env', M1, E1, r, q, fun σ' E' _ _ => hp σ' H1 I1 A1 .refl M1 E'⟩
theorem lift_test {t : SB} {k : Bool → Env → Mem → Fl} (h : liftS p W (fun env m => match t env m with
    | .ok b m => k b env m
    | .err x m => .err x env m
    | .bad => .bad) Dn σ H) : liftT p W t σ H fun b H1 => liftS p W (k b) Dn σ H1 := by
  obtain ⟨I, A, env, m, M, Er, hp⟩ := h
  refine ⟨I, A, env, m, M, Er, ?_⟩
  dsimp only at hp
  cases q : t env m with
  | ok d m1 =>
    rw [q] at hp
    intro v H1 I1 A1 e M1 r
    have r : d = v := r
    subst r
    exact ⟨I1, A1, env, m1, M1, Er.ext e, postS.ext (f := k d env m1) hp e⟩
  | err x m1 =>
    rw [q] at hp
    intro c dx H1 I1 A1 e M1 r
    exact hp c dx σ H1 I1 A1 e M1 (Er.ext e) r
  | bad => rw [q] at hp; exact hp
theorem lift_if {t : SB} {a b : Env → Mem → Fl} (h : liftS p W (ifS t a b) Dn σ H) : tIfS (liftT p W t) (liftS p W a) (liftS p W b) Dn σ H := by
  have h' : liftS p W (fun env m => match t env m with
    | .ok c m => (if c = true then a else b) env m
    | .err x m => .err x env m
    | .bad => .bad) Dn σ H := by
    obtain ⟨I, A, env, m, M, Er, hp⟩ := h
    refine ⟨I, A, env, m, M, Er, ?_⟩
    unfold ifS at hp
    dsimp only
    revert hp
    cases t env m with
    | ok c m1 => cases c <;> exact fun hp => hp
    | err x m1 => exact fun hp => hp
    | bad => exact fun hp => hp
  refine (lift_test (k := fun c => if c = true then a else b) h').mono fun c H1 q => ?_
  cases c with
  | true => exact q
  | false => exact q
theorem lift_seq {a r : Env → Mem → Fl} (h : liftS p W (seqS a r) Dn σ H) : tSeq (liftS p W a) (liftS p W r) Dn σ H := by
  obtain ⟨I, A, env, m, M, Er, hp⟩ := h
  refine ⟨I, A, env, m, M, Er, ?_⟩
  unfold seqS at hp
  cases q : a env m with
  | nx e1 m1 =>
    rw [q] at hp
    intro σ' H' I' A' e M' E'
    exact ⟨I', A', e1, m1, M', E', postS.ext (f := r e1 m1) hp e⟩
  | brk e1 m1 => rw [q] at hp; exact hp
  | ct e1 m1 => rw [q] at hp; exact hp
  | ret d m1 => rw [q] at hp; exact hp
  | err x e1 m1 => rw [q] at hp; exact hp
  | bad => rw [q] at hp; exact hp
theorem lift_nx (h : liftS p W (fun env m => .nx env m) Dn σ H) : tNext Dn σ H := by
  obtain ⟨I, A, env, m, M, Er, hp⟩ := h
  exact hp σ H I A .refl M Er
/-- a for -/
theorem lift_for {g : D → Env → Option Env} {slots : List Nat} {it : SL} {b : Env → Mem → Fl} (h : liftS p W (forS g it b) Dn σ H) : tFor (liftI p W it) (liftG p slots g) (liftS p W b) Dn σ H := by
  obtain ⟨I, A, env, m, M, Er, hp⟩ := h
  refine ⟨I, A, env, m, M, Er, ?_⟩
  unfold forS at hp
  cases q : it env m with
  | err x m1 =>
    rw [q] at hp
    intro c dx H1 I1 A1 e M1 r
    exact hp c dx σ H1 I1 A1 e M1 (Er.ext e) r
  | bad => rw [q] at hp; exact hp
  | ok ds m1 =>
    rw [q] at hp
    rintro J H1 I1 A1 e1 M1 ⟨Gw, Yw, w, hG, hY⟩
    have hp1 : postS p H1 I1 A1 Dn W (loopF g b ds env m1) := postS.ext hp e1
    refine for_it w (fun i σi Hi => ∃ Ii Ai envi mi, RepM p Hi Ii Ai mi ∧ RepE p σi Ii Ai envi ∧ Ext H1 I1 A1 Hi Ii Ai ∧ postS p Hi Ii Ai Dn W (loopF g b (ds.drop i) envi mi)) ?_ ?_ ?_ ?_
    · exact ⟨I1, A1, env, m1, M1, Er.ext e1, .refl, by rw [List.drop_zero]; exact hp1⟩
    · rintro i σi Hi hi ⟨Ii, Ai, envi, mi, M2, E2, e2, k⟩
      exact hG Hi Ii e2.sub M2.sub
    · rintro i x σi Hi Hn hi ⟨Ii, Ai, envi, mi, M2, E2, e2, k⟩ y
      obtain ⟨In, e3, M3, d, hd, rd⟩ := hY i Hi Ii Ai mi x Hn e2.sub e2.get M2 hi y
      rw [drop_cons hd] at k
      have k : postS p Hi Ii Ai Dn W (match g d envi with
        | none => .bad
        | some env1 => match b env1 mi with
          | .nx e m => loopF g b (ds.drop (i + 1)) e m
          | .ct e m => loopF g b (ds.drop (i + 1)) e m
          | .brk e m => .nx e m
          | f => f) := k
      cases qg : g d envi with
      | none => rw [qg] at k; exact False.elim k
      | some env1 =>
        rw [qg] at k
        refine ⟨In, Ai, envi, mi, d, env1, M3, E2.ext e3, rd, qg, fun σ2 E4 _ _ => ⟨In, Ai, env1, mi, M3, E4, ?_⟩⟩
        have k := postS.ext k e3
        have e23 := e2.trans e3
        cases qb : b env1 mi with
        | nx en mn =>
          simp only [qb] at k
          intro σ' H' I' A' e4 M4 E5
          exact ⟨I', A', en, mn, M4, E5, e23.trans e4, postS.ext k e4⟩
        | ct en mn =>
          simp only [qb] at k
          intro σ' H' I' A' e4 M4 E5
          exact ⟨I', A', en, mn, M4, E5, e23.trans e4, postS.ext k e4⟩
        | brk en mn => simp only [qb] at k; exact k
        | ret dd mn => simp only [qb] at k; exact k
        | err xx en mn => simp only [qb] at k; exact k
        | bad => simp only [qb] at k; exact k
    · rintro σi Hi ⟨Ii, Ai, envi, mi, M2, E2, e2, k⟩
      rw [List.drop_length] at k
      exact k σi Hi Ii Ai .refl M2 E2
/-- a while -/
theorem lift_while {t : SB} {b : Env → Mem → Fl} {fu : Nat} (h : liftS p W (whileF t b fu) Dn σ H) : tWhile (liftT p W t) (liftS p W b) Dn σ H := by
  obtain ⟨I, A, env, m, M, Er, hp⟩ := h
  refine ⟨fun k σi Hi => ∃ Ii Ai envi mi, RepM p Hi Ii Ai mi ∧ RepE p σi Ii Ai envi ∧ postS p Hi Ii Ai Dn W (whileF t b k envi mi), ⟨fu, I, A, env, m, M, Er, hp⟩, ?_⟩
  rintro k σi Hi ⟨Ii, Ai, envi, mi, M2, E2, q⟩
  cases k with
  | zero => exact False.elim q
  | succ k =>
    refine ⟨Ii, Ai, envi, mi, M2, E2, ?_⟩
    have q : postS p Hi Ii Ai Dn W (match t envi mi with
      | .ok true m => (match b envi m with
        | .nx e m => whileF t b k e m
        | .ct e m => whileF t b k e m
        | .brk e m => .nx e m
        | f => f)
      | .ok false m => .nx envi m
      | .err x m => .err x envi m
      | .bad => .bad) := q
    cases qt : t envi mi with
    | err x m1 =>
      rw [qt] at q
      intro c dx H1 I1 A1 e M1 r
      exact q c dx σi H1 I1 A1 e M1 (E2.ext e) r
    | bad => rw [qt] at q; exact q
    | ok c m1 =>
      rw [qt] at q
      intro cv H1 I1 A1 e1 M1 hc
      have hc : c = cv := hc
      subst hc
      cases c with
      | false =>
        rw [if_neg Bool.false_ne_true]
        exact q σi H1 I1 A1 e1 M1 (E2.ext e1)
      | true =>
        rw [if_pos rfl]
        refine ⟨fun σ' H' => ∃ Ii Ai envi mi, RepM p H' Ii Ai mi ∧ RepE p σ' Ii Ai envi ∧ postS p H' Ii Ai Dn W (whileF t b k envi mi), fun σ' H' h => ⟨k, Nat.lt_succ_self _, h⟩, I1, A1, envi, m1, M1, E2.ext e1, ?_⟩
        have q := postS.ext q e1
        cases qb : b envi m1 with
        | nx en mn =>
          simp only [qb] at q
          intro σ' H' I' A' e4 M4 E5
          exact ⟨I', A', en, mn, M4, E5, postS.ext q e4⟩
        | ct en mn =>
          simp only [qb] at q
          intro σ' H' I' A' e4 M4 E5
          exact ⟨I', A', en, mn, M4, E5, postS.ext q e4⟩
        | brk en mn => simp only [qb] at q; exact q
        | ret dd mn => simp only [qb] at q; exact q
        | err xx en mn => simp only [qb] at q; exact q
        | bad => simp only [qb] at q; exact q
/-! ### expressions made of tests -/
theorem lift_and {a b : SE} {Q : VK} (h : liftE p W (andE a b) σ H Q) : tAndV (liftE p W a) (liftE p W b) σ H Q := by
  refine (lift.first (R := RD p) (k := fun env x m => match x with
    | .bl true => b env m
    | .bl false => .ok (.bl false) m
    | _ => .bad) h).mono fun v H1 ⟨I1, A1, env, x, m1, M1, E1, r1, h1⟩ => ?_
  cases x with
  | bl c =>
    cases r1.bl_inv
    refine ⟨c, rfl, ?_⟩
    cases c with
    | true => exact ⟨I1, A1, env, m1, M1, E1, h1⟩
    | false => exact h1.ok _ _ M1 (.bl _)
  | _ => exact False.elim h1
theorem lift_or {a b : SE} {Q : VK} (h : liftE p W (orE a b) σ H Q) : tOrV (liftE p W a) (liftE p W b) σ H Q := by
  refine (lift.first (R := RD p) (k := fun env x m => match x with
    | .bl true => .ok (.bl true) m
    | .bl false => b env m
    | _ => .bad) h).mono fun v H1 ⟨I1, A1, env, x, m1, M1, E1, r1, h1⟩ => ?_
  cases x with
  | bl c =>
    cases r1.bl_inv
    refine ⟨c, rfl, ?_⟩
    cases c with
    | false => exact ⟨I1, A1, env, m1, M1, E1, h1⟩
    | true => exact h1.ok _ _ M1 (.bl _)
  | _ => exact False.elim h1
theorem lift_not {a : SE} {Q : VK} (h : liftE p W (notE a) σ H Q) : tNotV (liftE p W a) σ H Q := by
  refine (lift.first (R := RD p) (k := fun env x m => match x with
    | .bl b => .ok (D.bl (!b)) m
    | _ => .bad) h).mono fun v H1 ⟨I1, A1, env, x, m1, M1, E1, r1, h1⟩ => ?_
  cases x with
  | bl c =>
    cases r1.bl_inv
    exact ⟨c, rfl, h1.ok _ _ M1 (.bl _)⟩
  | _ => exact False.elim h1
theorem lift_andT {a b : SB} {Q : Bool → Hp → Prop} (h : liftT p W (andT a b) σ H Q) : tAnd (liftT p W a) (liftT p W b) σ H Q := by
  refine (lift.first (R := RB) (k := fun env x m => match x with
    | true => b env m
    | false => .ok false m) h).mono fun v H1 ⟨I1, A1, env, x, m1, M1, E1, r1, h1⟩ => ?_
  have r1 : x = v := r1
  subst r1
  cases x with
  | true => exact ⟨I1, A1, env, m1, M1, E1, h1⟩
  | false => exact h1 false H1 I1 A1 .refl M1 rfl
theorem lift_orT {a b : SB} {Q : Bool → Hp → Prop} (h : liftT p W (orT a b) σ H Q) : tOr (liftT p W a) (liftT p W b) σ H Q := by
  refine (lift.first (R := RB) (k := fun env x m => match x with
    | true => .ok true m
    | false => b env m) h).mono fun v H1 ⟨I1, A1, env, x, m1, M1, E1, r1, h1⟩ => ?_
  have r1 : x = v := r1
  subst r1
  cases x with
  | false => exact ⟨I1, A1, env, m1, M1, E1, h1⟩
  | true => exact h1 true H1 I1 A1 .refl M1 rfl
theorem lift_notT {a : SB} {Q : Bool → Hp → Prop} (h : liftT p W (notT a) σ H Q) : tNot (liftT p W a) σ H Q := by
  refine (lift.first (R := RB) (k := fun env x m => .ok (!x) m) h).mono fun v H1 ⟨I1, A1, env, x, m1, M1, E1, r1, h1⟩ => ?_
  have r1 : x = v := r1
  subst r1
  exact h1 (!x) H1 I1 A1 .refl M1 rfl
theorem lift_ife {t : SB} {a b : SE} {Q : VK} (h : liftE p W (ifeE t a b) σ H Q) : tIf (liftT p W t) (liftE p W a) (liftE p W b) σ H Q := by
  refine (lift.first (R := RB) (k := fun env x m => match x with
    | true => a env m
    | false => b env m) h).mono fun v H1 ⟨I1, A1, env, x, m1, M1, E1, r1, h1⟩ => ?_
  have r1 : x = v := r1
  subst r1
  cases x with
  | true => exact ⟨I1, A1, env, m1, M1, E1, h1⟩
  | false => exact ⟨I1, A1, env, m1, M1, E1, h1⟩
/-- a value's truth -/
theorem truth_ok {m : Mem} {d : D} {v : V} {k : Bool} (M : RepM p H I A m) (r : DR p I A d v) (e : truth m d = some k) : TruV p.K v H k := by
  cases d with
  | non => cases r; cases e; rfl
  | bl b => cases r; cases e; rfl
  | int i => cases r; cases e; rfl
  | str x =>
    cases r
    have e : (if x.length ≤ sizeLine then some ((x.length : Int) != 0) else none) = some k := e
    by_cases hz : x.length ≤ sizeLine
    · rw [if_pos hz] at e; cases e; exact ⟨hz, rfl⟩
    · rw [if_neg hz] at e; cases e
  | tup xs =>
    cases e
    obtain ⟨a, ys, rfl, h1, h2⟩ := r.tup_inv
    exact .inr (.inl ⟨ys, tupI M h1, by cases h2 <;> rfl⟩)
  | lst xs =>
    cases e
    obtain ⟨a, ys, rfl, h1, h2⟩ := r.lst_inv
    exact .inl ⟨ys, lstI M h1, by cases h2 <;> rfl⟩
  | scr xs =>
    cases e
    obtain ⟨a, ys, rfl, h1, h2⟩ := r.scr_inv
    exact .inl ⟨ys, scrI M h1, by cases h2 <;> rfl⟩
  | cell n =>
    have e : (match m[n]? with
      | some (.lst xs) => some (!xs.isEmpty)
      | _ => none) = some k := e
    cases z : m[n]? with
    | none => rw [z] at e; cases e
    | some c =>
      rw [z] at e
      cases c with
      | ins _ _ => cases e
      | lst gs =>
        cases e
        cases r with
        | cell q =>
          obtain ⟨_, xs, h1, h2⟩ := M.cell _ _ _ z q
          exact .inl ⟨xs, SqL.of h1, by cases h2 <;> rfl⟩
  | _ => cases e
theorem lift_truth {f : SE} {Q : Bool → Hp → Prop} (h : liftT p W (truthOf f) σ H Q) : liftE p W f σ H fun x H' => ∃ k, TruV p.K x H' k ∧ Q k H' := by
  refine (lift.first (R := RD p) (k := fun env d m => Res.of (truth m d) m) h).mono fun v H1 ⟨I1, A1, env, x, m1, M1, E1, r1, h1⟩ => ?_
  cases q : truth m1 x with
  | none => rw [q] at h1; exact False.elim h1
  | some k =>
    rw [q] at h1
    exact ⟨k, truth_ok M1 r1 q, h1 k H1 I1 A1 .refl M1 rfl⟩
/-- a test that is a comparison -/
theorem lift_testE {f : SE} {Q : Bool → Hp → Prop} (hb : ∀ env m d m', f env m = .ok d m' → ∃ b, d = D.bl b) (h : liftT p W (truthOf f) σ H Q) : liftE p W f σ H fun x H' => ∃ k, x = .bl k ∧ Q k H' := by
  obtain ⟨I, A, env, m, M, Er, hp⟩ := h
  refine ⟨I, A, env, m, M, Er, ?_⟩
  unfold truthOf at hp
  cases q : f env m with
  | ok d m1 =>
    rw [q] at hp
    obtain ⟨b, rfl⟩ := hb _ _ _ _ q
    intro v H1 I1 A1 e M1 r
    cases DR.bl_inv r
    exact ⟨b, rfl, hp b H1 I1 A1 e M1 rfl⟩
  | err x m1 => rw [q] at hp; exact hp
  | bad => rw [q] at hp; exact hp
/-- a slice's parts -/
theorem lift_part {c : Sm} {isNil : Bool} {Q : Option Int → Hp → Prop} (h : lift (fun (_ : Hp) (_ : List Addr) (a b : Option Int) => a = b) p W (partOf c isNil) σ H Q) : (isNil = true → tNoPart σ H Q) ∧ (isNil = false → tPart (liftE p W c.E) σ H Q) := by
  refine ⟨fun e => ?_, fun e => ?_⟩
  · subst e
    obtain ⟨I, A, env, m, M, Er, hp⟩ := h
    exact hp none H I A .refl M rfl
  · subst e
    refine (lift.first (R := RD p) (k := fun env d m => match d with
      | .int i => .ok (some i) m
      | _ => .bad) h).mono fun v H1 ⟨I1, A1, env, x, m1, M1, E1, r1, h1⟩ => ?_
    cases x with
    | int i =>
      cases r1.int_inv
      exact ⟨i, rfl, h1 (some i) H1 I1 A1 .refl M1 rfl⟩
    | _ => exact False.elim h1
end
end Zd


set_option Elab.async false
set_option linter.all false
set_option maxRecDepth 100000
set_option maxHeartbeats 2000000
namespace Zd
open PySem PySem.Spec PyProof.Rows L2 Zx

/-! ### functions' promises -/
def spOf (p : Par) (n : Nat) (F : List D → Mem → Res D) : Sp := fun vs H Q E => vs.length = n ∧ ∃ I A ds mem, RepM p H I A mem ∧ DRs p I A ds vs ∧ post (RD p) p H I A Q E (F ds mem)
def FD.dvs (fd : FD) : List V := fd.dfl.map fun d => d.fl.getD .non
structure FnX (p : Par) (F : Nat → List D → Mem → Res D) (n : Nat) (X : Cx) (j : Nat) (fd : FD) : Prop where
  ex : ∃ (f : Addr) (fdt : FuncData), (fd.glob = true → X.mg fd.name = some (.ref f)) ∧ PySem.W.keepIn X.K (.ref f) = true ∧
    (∀ k, k ≤ fd.dfl.length → ∃ ds, Vals (fd.dvs.drop k) ds ∧ Binds X.K fdt fd.ps ds) ∧
    FnG X.prog X.w X.K X.mg X.base (L2.CX X.prog X.w) (2 * n + 2) f fdt fd.ps (spOf p fd.ps.length (F j))
structure XOk (p : Par) (X : Cx) (c : Nat) (xd : XD) : Prop where
  ex : ∃ Ca b, p.exc c = some (Ca, xd.ns) ∧ X.mg xd.name = some (.ref Ca) ∧ XCl X.K Ca b ∧ (∀ f, f ∈ xd.ns → PySem.W.findIn X.K (.ref Ca) f = some none) ∧ (∀ f, xd.ns = [f] → ∃ fI fd, Mk1 X Ca b f fI fd) ∧ (xd.ns = [] → PySem.W.excIn X.K Ca b.mro b.new = true)
def TgOk (X : Cx) (y : Str) (cv : V) (u : Value) : Prop := ClsV cv u ∧ ((X.mg y = some u) ∨ (X.mg y = none ∧ ∃ n, bootBuiltins y = some (.type n) ∧ u = .type n ∧ cv = .ty n))
structure Good (G : Gt) (N : List Str) (p : Par) (F : Nat → List D → Mem → Res D) (n : Nat) (X : Cx) (sc : Scope) (W : WX) : Prop where
  K : X.K = p.K
  N : X.N = N
  nd : X.N.Nodup
  calm : X.calm = true
  room : Room (2 * n + 3) X.A
  gd : X.A.guards = some []
  sm : SmOk X.K
  knd : X.env.scope.kind = .function
  lcl : ∀ x, sc.names.lookup x = some .local → X.env.scope.names.lookup x = some .local
  cel : ∀ x, sc.names.lookup x = some .cell → X.env.scope.names.lookup x = some .cell
  fre : ∀ x, sc.names.lookup x = some .free → X.env.scope.names.lookup x = some .cell ∨ X.env.scope.names.lookup x = some .free
  glb : ∀ x, sc.names.lookup x = some .globalImplicit → X.env.scope.names.lookup x = some .globalImplicit
  fnc : ∀ x, sc.names.lookup x = some .cell → X.fn x = true
  free : ∀ x, x ∈ G.free → X.mg x = none
  gis : ∀ x i, G.gis.lookup x = some i → ∃ t, X.mg x = some (.int i t)
  gss : ∀ x z, G.gss.lookup x = some z → ∃ t, X.mg x = some (.str z t)
  fn : ∀ j fd, G.fs[j]? = some fd → FnX p F n X j fd
  xs : ∀ c xd, G.xs[c]? = some xd → XOk p X c xd
  xa : ∀ c Ca ns, p.exc c = some (Ca, ns) → ExcC p.K Ca ∧ ∃ xd, G.xs[c]? = some xd
  kit : ∀ t k b, G.isT t k = some b → ∃ y tv cv u, G.tgs[k]? = some y ∧ p.tv t = some tv ∧ TgOk X y cv u ∧ PySem.W.kitOne p.K tv u = some b
  tk : Takes X W
structure GoodS (G : Gt) (N : List Str) (p : Par) (F : Nat → List D → Mem → Res D) (n : Nat) (X : Cx) (sc : Scope) (W : WX) : Prop extends Good G N p F n X sc W where
  po : PassesOwn (model X.prog X.w) X.A X.env X.xe

/-! ### syntax -/
theorem star_cons {e : Expr} {es : List Expr} {env : PySem.Env} (h : plainE e = true) : starEach (e :: es) env = (false, eval e env) :: starEach es env := by
  cases e <;> first | rfl | cases h
theorem star_any {pos : Pos} {env : PySem.Env} : ∀ {es : List Expr}, es.all plainE = true → (backTo pos (starEach es env)).any (·.1) = false
  | [], _ => rfl
  | e :: es, h => by
    rw [List.all_cons, Bool.and_eq_true] at h
    rw [star_cons h.1]
    show (false || (backTo pos (starEach es env)).any (·.1)) = false
    rw [star_any h.2]; rfl
theorem asg_cons {e : Expr} {es : List Expr} {env : PySem.Env} (h : plainE e = true) : assignEach (e :: es) env = (false, assign e env) :: assignEach es env := by
  cases e <;> first | rfl | cases h
theorem isTrue_dflt {e : Expr} (h : dfltT e = true) (env : PySem.Env) (whole : Sem Value) : isTrue e env whole = (do let v ← whole; standAt e.pos; holding [v] (truthy v)) := by
  cases e with
  | UnaryOp op x pos => cases op <;> first | rfl | cases h
  | BoolOp _ _ _ => cases h
  | IfExp _ _ _ _ => cases h
  | Compare _ _ _ _ => cases h
  | _ => rfl
theorem swaps_no {e : Expr} (h : noComp e = true) (t : Option Expr) (l : Nat) (env : PySem.Env) : swapsWith e t l env = pure false := by
  cases e <;> first | rfl | cases h
theorem swapped_no {t e : Expr} (h : noTup t = true ∨ noTup e = true) (hl : ∀ ts p, t ≠ .List ts p) (env : PySem.Env) : swappedStores [t] e env = pure none := by
  unfold swappedStores
  cases t with
  | Tuple ts k p =>
    rcases h with h | h
    · cases h
    · cases e <;> first | rfl | cases h
  | List ts p => exact absurd rfl (hl ts p)
  | _ => rfl
theorem folded_no {e : Expr} (h : plainE e = true) (env : PySem.Env) (x : Value) : foldedSetIterable e env x = pure x := by
  cases e <;> first | rfl | cases h
theorem plainIx {b : Expr} (h : noSl b = true) : PlainIx b := fun o i => by
  cases b <;> first | rfl | cases h
theorem asg_any {env : PySem.Env} : ∀ {es : List Expr}, es.all plainE = true → (assignEach es env).findIdx? (·.1) = none ∧ (assignEach es env).length = es.length
  | [], _ => ⟨rfl, rfl⟩
  | e :: es, h => by
    rw [List.all_cons, Bool.and_eq_true] at h
    obtain ⟨h1, h2⟩ := asg_any (env := env) h.2
    rw [asg_cons h.1]
    refine ⟨?_, by rw [List.length_cons, h2, List.length_cons]⟩
    rw [List.findIdx?_cons, h1]; rfl
theorem band {a b : Bool} (h : (a && b) = true) : a = true ∧ b = true := Bool.and_eq_true_iff.mp h
theorem okN1 {x : Str} (h : okN x = true) : (x == ("__debug__" : Str)) = false ∧ (x == ("__classdict__" : Str)) = false ∧ x ≠ "__name__" := by
  unfold okN at h
  obtain ⟨h1, h3⟩ := band h
  obtain ⟨h1, h2⟩ := band h1
  refine ⟨by simpa using h1, by simpa using h2, by simpa using h3⟩
section
variable {G : Gt} {N : List Str} {p : Par} {fu n : Nat} {F : Nat → List D → Mem → Res D} {X : Cx} {sc : Scope} {W : WX}
theorem Good.vis (g : Good G N p F n X sc W) {x : Str} (h : visB sc x = true) : Vis X.env.scope x := by
  unfold visB at h
  split at h
  · rename_i e; exact .inl (g.lcl x e)
  · rename_i e; exact .inr (.inl (g.cel x e))
  · rename_i e
    rcases g.fre x e with z | z
    · exact .inr (.inl z)
    · exact .inr (.inr z)
  · cases h
theorem Good.loc (g : Good G N p F n X sc W) {x : Str} (h : locB sc x = true) : Loc X.env.scope x ∧ (X.fn x = true ∨ X.env.scope.names.lookup x = some .local) := by
  unfold locB at h
  split at h
  · rename_i e; exact ⟨.inl (g.lcl x e), .inr (g.lcl x e)⟩
  · rename_i e; exact ⟨.inr (g.cel x e), .inl (g.fnc x e)⟩
  · cases h
theorem Good.gl (g : Good G N p F n X sc W) {x : Str} (h : glbB sc x = true) : Gl X x := g.glb x (of_decide_eq_true h)
theorem Good.fr (g : Good G N p F n X sc W) {nm x : Str} (h : frB G sc nm x = true) : x = nm ∧ Gl X x ∧ X.mg x = none := by
  unfold frB at h
  obtain ⟨h1, h3⟩ := band h
  obtain ⟨h1, h2⟩ := band h1
  exact ⟨of_decide_eq_true h1, g.gl h2, g.free x (of_decide_eq_true h3)⟩
theorem Good.units (g : Good G N p F n X sc W) : X.A.units + 64 < cLine := g.room.units
/-- a comprehension's block -/
theorem Good.blkOk (g : Good G N p F n X sc W) {scope : Scope} {own : List (Str × Nat)} (h : blkC N sc scope own = true) : BlkOk X.N X.env.scope scope own := by
  have b := blkOk_by h
  rw [g.N]
  refine ⟨b.kind, b.uniq, b.ix, fun y hy e => ?_, b.own⟩
  rcases b.free y hy e with z | z
  · exact .inl (g.cel _ z)
  · exact g.fre _ z
theorem relS_free {sc : Scope} : ∀ {names : List (Str × NameKind)} {x : Str}, names.lookup x = some .free →
    (names.map fun (n, k) => if (k == NameKind.free && sc.kind == .function && sc.names.lookup n == some .cell) then (n, NameKind.cell) else (n, k)).lookup x = some .cell ∨
    (names.map fun (n, k) => if (k == NameKind.free && sc.kind == .function && sc.names.lookup n == some .cell) then (n, NameKind.cell) else (n, k)).lookup x = some .free
  | [], _, h => by simp at h
  | (n, k₀) :: r, x, h => by
    have ih := @relS_free sc r x
    show List.lookup x ((if (k₀ == NameKind.free && sc.kind == .function && sc.names.lookup n == some .cell) = true then (n, NameKind.cell) else (n, k₀)) :: (r.map _)) = some _ ∨ List.lookup x ((if (k₀ == NameKind.free && sc.kind == .function && sc.names.lookup n == some .cell) = true then (n, NameKind.cell) else (n, k₀)) :: (r.map _)) = some _
    cases hx : x == n with
    | true =>
      simp only [List.lookup_cons, hx] at h
      cases h
      by_cases hc : (NameKind.free == NameKind.free && sc.kind == .function && sc.names.lookup n == some .cell) = true
      · rw [if_pos hc]; simp only [List.lookup_cons, hx]; simp
      · rw [if_neg hc]; simp only [List.lookup_cons, hx]; simp
    | false =>
      simp only [List.lookup_cons, hx] at h
      by_cases hc : (k₀ == NameKind.free && sc.kind == .function && sc.names.lookup n == some .cell) = true
      · rw [if_pos hc]; simp only [List.lookup_cons, hx]; exact ih h
      · rw [if_neg hc]; simp only [List.lookup_cons, hx]; exact ih h
theorem takesF {X : Cx} : Takes X WF := fun _ _ x => by
  obtain ⟨_, _, _, _, _, _, _, _, _, _, _, _, _, _, _, _, z⟩ := x
  exact z.elim
theorem Good.blk (g : Good G N p F n X sc W) {scope : Scope} {own : List (Str × Nat)} (h : blkC N sc scope own = true) (s : Shared) (H : Hp) (C : Addr) (cl : List (Str × Addr)) (fp : List Addr) :
    Good G N p F n (X.blk s H scope (compEnvC scope cl C X.env) fp) scope WF := by
  have b := g.blkOk h
  have es : (X.blk s H scope (compEnvC scope cl C X.env) fp).env.scope = relS scope X.env.scope := rfl
  refine ⟨g.K, g.N, g.nd, g.calm, g.room, g.gd, g.sm, ?_, fun x e => ?_, fun x e => ?_, fun x e => ?_, fun x e => ?_, fun x e => ?_, g.free, g.gis, g.gss, fun j fd e => ?_, fun c xd e => ?_, g.xa, g.kit, takesF⟩
  · rw [es]; exact b.kind
  · rw [es]; exact lookup_relS_keep (by decide) e
  · rw [es]; exact lookup_relS_keep (by decide) e
  · rw [es]; exact relS_free e
  · rw [es]; exact lookup_relS_keep (by decide) e
  · show (scope.names.lookup x == some NameKind.cell) = true
    rw [e]; rfl
  · obtain ⟨f, fdt, h1, h2, h3, h4⟩ := g.fn j fd e
    exact ⟨f, fdt, h1, h2, h3, h4⟩
  · obtain ⟨Ca, b, h1, h2, h3, h6, h4, h5⟩ := g.xs c xd e
    refine ⟨Ca, b, h1, h2, h3, h6, fun f ef => ?_, h5⟩
    obtain ⟨fI, fd, k⟩ := h4 f ef
    exact ⟨fI, fd, k.cl, k.no, k.ini, k.tI, k.run, k.bp, k.bk⟩
end
end Zd


set_option Elab.async false
set_option linter.all false
set_option maxRecDepth 100000
set_option maxHeartbeats 4000000
namespace Zd
open PySem PySem.Spec PyProof.Rows L2 Zx

structure Sound (G : Gt) (N : List Str) (p : Par) (fu : Nat) (F : Nat → List D → Mem → Res D) (n : Nat) (c : C) : Prop where
  E : ∀ {X sc W}, Good G N p F n X sc W → ∀ e, (chk G N c sc).E e = true → PE X e (liftE p W (sem fu F G c).E) := by intro X sc W g e h; cases h
  T : ∀ {X sc W}, Good G N p F n X sc W → ∀ e, (chk G N c sc).T e = true → PT X e (liftT p W (sem fu F G c).T) := by intro X sc W g e h; cases h
  Wb : ∀ {X sc W}, Good G N p F n X sc W → ∀ e, (chk G N c sc).W e = true → PW X e (liftT p W (sem fu F G c).T) := by intro X sc W g e h; cases h
  Fr : ∀ {X sc W}, Good G N p F n X sc W → ∀ e, (chk G N c sc).F e = true → PE X e (liftF p W (sem fu F G c).F) := by intro X sc W g e h; cases h
  Sw : ∀ {X sc W}, Good G N p F n X sc W → ∀ e, (chk G N c sc).F e = true → isLC e = true → ∀ (i : Nat) (y : Str) (py pos : Pos), swapsWith e (some (.Name y py)) pos.line X.env = pure true → X.N[i]? = some y → X.env.scope.names.lookup y = some .local →
    PS X (.Assign [.Name y py] e pos) (tAsg (liftF p W (sem fu F G c).F) (gName i)) := by intro X sc W g e h; cases h
  L : ∀ {X sc W}, Good G N p F n X sc W → ∀ es, (chk G N c sc).L es = true → es.all plainE = true ∧ (∀ env m xs m', (sem fu F G c).L env m = .ok xs m' → xs.length = es.length) ∧ PA X es (liftL p W (sem fu F G c).L) := by intro X sc W g e h; cases h
  I : ∀ {X sc W}, Good G N p F n X sc W → ∀ tg e, (chk G N c sc).I tg e = true → PI X tg e (liftI p W (sem fu F G c).I) := by intro X sc W g t e h; cases h
  Tg : ∀ {X sc W}, Good G N p F n X sc W → ∀ e, (chk G N c sc).G e = true → PG X e (liftG p c.slots (sem fu F G c).G) := by intro X sc W g e h; cases h
  GL : ∀ {X sc W}, Good G N p F n X sc W → ∀ es, (chk G N c sc).GL es = true → es.all plainE = true ∧ (∀ ds env env', (sem fu F G c).GL ds env = some env' → ds.length = es.length) ∧ PGs X es (liftGs p c.slots (sem fu F G c).GL) := by intro X sc W g e h; cases h
  S : ∀ {X sc W}, GoodS G N p F n X sc W → ∀ st, (chk G N c sc).S st = true → PS X st (liftS p W (sem fu F G c).S) := by intro X sc W g e h; cases h
  B : ∀ {X sc W}, GoodS G N p F n X sc W → ∀ st, (chk G N c sc).B st = true → PSs X st (liftS p W (sem fu F G c).S) := by intro X sc W g e h; cases h

section
variable {G : Gt} {N : List Str} {p : Par} {fu n : Nat} {F : Nat → List D → Mem → Res D}
/-- a plain expression: its test is its truth -/
theorem Sound.kE {c : C} {k : Scope → Expr → Bool} {f : SE} (hc : ∀ sc, chk G N c sc = Zd.kE (k sc)) (hs : sem fu F G c = sE f) (h : ∀ {X sc W}, Good G N p F n X sc W → ∀ e, k sc e = true → PE X e (liftE p W f)) : Sound G N p fu F n c := by
  have no : ∀ {a : Bool} {P : Prop}, a = false → a = true → P := fun h h' => by rw [h] at h'; cases h'
  refine ⟨fun g e he => ?_, fun g e he => ?_, fun {_ sc _} g e he => no (by rw [hc sc]; rfl) he, fun {_ sc _} g e he => no (by rw [hc sc]; rfl) he, fun {_ sc _} g e he => no (by rw [hc sc]; rfl) he, fun {_ sc _} g e he => no (by rw [hc sc]; rfl) he, fun {_ sc _} g t e he => no (by rw [hc sc]; rfl) he, fun {_ sc _} g e he => no (by rw [hc sc]; rfl) he, fun {_ sc _} g e he => no (by rw [hc sc]; rfl) he, fun {_ sc _} g e he => no (by rw [hc sc]; rfl) he, fun {_ sc _} g e he => no (by rw [hc sc]; rfl) he⟩
  · rename_i X sc W
    rw [hc sc] at he
    rw [hs]
    exact h g e he
  · rename_i X sc W
    rw [hc sc] at he
    rw [hs]
    obtain ⟨h1, h2⟩ := band he
    refine PT.imp (pt_truth (h g e h1) fun whole => isTrue_dflt h2 X.env whole) fun σ H Q q => ?_
    rw [g.K]
    exact lift_truth q
/-- a fresh list -/
theorem Sound.kF {c : C} {k : Scope → Expr → Bool} {f : SL} (hc : ∀ sc, chk G N c sc = Zd.kF (k sc)) (hs : sem fu F G c = sF f) (h : ∀ {X sc W}, Good G N p F n X sc W → ∀ e, k sc e = true → PE X e (liftF p W f))
    (sw : ∀ {X sc W}, Good G N p F n X sc W → ∀ e, k sc e = true → isLC e = true → ∀ (i : Nat) (y : Str) (py pos : Pos), swapsWith e (some (.Name y py)) pos.line X.env = pure true → X.N[i]? = some y → X.env.scope.names.lookup y = some .local →
      PS X (.Assign [.Name y py] e pos) (tAsg (liftF p W f) (gName i))) : Sound G N p fu F n c := by
  have no : ∀ {a : Bool} {P : Prop}, a = false → a = true → P := fun h h' => by rw [h] at h'; cases h'
  refine ⟨fun g e he => ?_, fun g e he => ?_, fun {_ sc _} g e he => no (by rw [hc sc]; rfl) he, fun g e he => ?_, fun g e he => ?_, fun {_ sc _} g e he => no (by rw [hc sc]; rfl) he, fun {_ sc _} g t e he => no (by rw [hc sc]; rfl) he, fun {_ sc _} g e he => no (by rw [hc sc]; rfl) he, fun {_ sc _} g e he => no (by rw [hc sc]; rfl) he, fun {_ sc _} g e he => no (by rw [hc sc]; rfl) he, fun {_ sc _} g e he => no (by rw [hc sc]; rfl) he⟩
  · rename_i X sc W
    rw [hc sc] at he
    rw [hs]
    exact PE.imp (h g e he) fun σ H Q q => liftE_frz q
  · rename_i X sc W
    rw [hc sc] at he
    rw [hs]
    obtain ⟨h1, h2⟩ := band he
    refine PT.imp (pt_truth (h g e h1) fun whole => isTrue_dflt h2 X.env whole) fun σ H Q q => ?_
    rw [g.K]
    exact liftE_frz (lift_truth (f := frz f) q)
  · rename_i X sc W
    rw [hc sc] at he
    rw [hs]
    exact h g e he
  · rename_i X sc W
    rw [hc sc] at he
    rw [hs]
    exact sw g e he

/-! ### names and constants -/
theorem snd_const {c : C} {k : Expr → Bool} {d : D} {v : V} (hc : ∀ sc, chk G N c sc = Zd.kE k) (hs : sem fu F G c = sE fun _ m => .ok d m) (hd : ∀ p I A, DR p I A d v) (h : ∀ {X : Cx} e, k e = true → PE X e (tC v)) : Sound G N p fu F n c :=
  .kE (k := fun _ => k) hc hs fun g e he => PE.imp (h e he) fun σ H Q ⟨I, A, env, m, M, Er, hp⟩ => hp v H I A .refl M (hd _ _ _)
theorem snd_kint (i : Int) : Sound G N p fu F n (.kint i) := snd_const (fun _ => rfl) rfl (fun _ _ _ => .int i) fun e he => by
  cases e with
  | Constant c j pos =>
    cases c with
    | int z =>
      have e : i = z := of_decide_eq_true he
      subst e
      exact pe_int
    | _ => cases he
  | _ => cases he
theorem snd_kstr (x : Str) : Sound G N p fu F n (.kstr x) := snd_const (fun _ => rfl) rfl (fun _ _ _ => .str x) fun e he => by
  cases e with
  | Constant c j pos =>
    cases c with
    | str z =>
      have e : x = z := of_decide_eq_true he
      subst e
      exact pe_str
    | _ => cases he
  | _ => cases he
theorem snd_kbl (b : Bool) : Sound G N p fu F n (.kbl b) := snd_const (fun _ => rfl) rfl (fun _ _ _ => .bl b) fun e he => by
  cases e with
  | Constant c j pos =>
    cases c with
    | bool z =>
      have e : b = z := of_decide_eq_true he
      subst e
      exact pe_bl
    | _ => cases he
  | _ => cases he
theorem snd_knon : Sound G N p fu F n .knon := snd_const (fun _ => rfl) rfl (fun _ _ _ => .non) fun e he => by
  cases e with
  | Constant c j pos =>
    cases c with
    | none => exact pe_non
    | _ => cases he
  | _ => cases he
theorem snd_var (i : Nat) : Sound G N p fu F n (.var i) := by
  refine .kE (k := fun sc e => match e with
    | .Name x _ => decide (N[i]? = some x) && visB sc x && okN x
    | _ => false) (fun _ => rfl) rfl fun {X sc W} g e he => ?_
  cases e with
  | Name x pos =>
    obtain ⟨h1, h3⟩ := band he
    obtain ⟨h1, h2⟩ := band h1
    have h1 := of_decide_eq_true h1
    obtain ⟨o1, o2, o3⟩ := okN1 h3
    refine PE.imp (pe_var (i := i) (by rw [g.N]; exact h1) (g.vis h2) o1 o2) fun σ H Q ⟨I, A, env, m, M, Er, hp⟩ => ?_
    dsimp only at hp
    cases q : env[i]? with
    | none => rw [q] at hp; exact False.elim hp
    | some o =>
      cases o with
      | none => rw [q] at hp; exact False.elim hp
      | some d =>
        rw [q] at hp
        obtain ⟨v, e1, r⟩ := Er.val i d q
        exact ⟨v, e1, hp v H I A .refl M r⟩
  | _ => cases he
theorem snd_gint (x : Str) (i : Int) : Sound G N p fu F n (.gint x i) := by
  refine .kE (k := fun sc e => match e with
    | .Name y _ => decide (x = y) && glbB sc y && okN y && decide (G.gis.lookup y = some i)
    | _ => false) (fun _ => rfl) rfl fun {X sc W} g e he => ?_
  cases e with
  | Name y pos =>
    obtain ⟨h1, h4⟩ := band he
    obtain ⟨h1, h3⟩ := band h1
    obtain ⟨h1, h2⟩ := band h1
    obtain ⟨o1, o2, o3⟩ := okN1 h3
    obtain ⟨t, ht⟩ := g.gis y i (of_decide_eq_true h4)
    exact PE.imp (pe_glob (v := .int i) (g.gl h2) ht ⟨t, rfl⟩ o1) fun σ H Q ⟨I, A, env, m, M, Er, hp⟩ => hp (.int i) H I A .refl M (.int i)
  | _ => cases he
theorem snd_gstr (x z : Str) : Sound G N p fu F n (.gstr x z) := by
  refine .kE (k := fun sc e => match e with
    | .Name y _ => decide (x = y) && glbB sc y && okN y && decide (G.gss.lookup y = some z)
    | _ => false) (fun _ => rfl) rfl fun {X sc W} g e he => ?_
  cases e with
  | Name y pos =>
    obtain ⟨h1, h4⟩ := band he
    obtain ⟨h1, h3⟩ := band h1
    obtain ⟨h1, h2⟩ := band h1
    obtain ⟨o1, o2, o3⟩ := okN1 h3
    obtain ⟨t, ht⟩ := g.gss y z (of_decide_eq_true h4)
    exact PE.imp (pe_glob (v := .str z) (g.gl h2) ht ⟨t, rfl⟩ o1) fun σ H Q ⟨I, A, env, m, M, Er, hp⟩ => hp (.str z) H I A .refl M (.str z)
  | _ => cases he
/-! ### lists of expressions -/
theorem snd_nil : Sound G N p fu F n .nil where
  L := fun {X sc W} g es h => by
    have e : es = [] := by
      cases es with
      | nil => rfl
      | cons _ _ => cases h
    subst e
    exact ⟨rfl, fun _ _ _ _ q => by cases q; rfl, PA.imp pa_nil fun σ H Q q => lift_nil q⟩
  GL := fun {X sc W} g es h => by
    have e : es = [] := by
      cases es with
      | nil => rfl
      | cons _ _ => cases h
    subst e
    refine ⟨rfl, fun ds env env' q => ?_, ⟨fun pins s σ H vs us Q I r q => pgs_nil.run pins s σ H vs us Q I r (liftGs_nil q)⟩⟩
    cases ds with
    | nil => rfl
    | cons _ _ => cases q
  B := fun {X sc W} g es h => by
    have e : es = [] := by
      cases es with
      | nil => rfl
      | cons _ _ => cases h
    subst e
    exact PSs.imp pss_nil fun D σ H q => lift_nx q
theorem snd_cons {a r : C} (ha : Sound G N p fu F n a) (hr : Sound G N p fu F n r) : Sound G N p fu F n (.cons a r) where
  L := fun {X sc W} g es h => by
    cases es with
    | nil => cases h
    | cons e es =>
      have h : (plainE e && (chk G N a sc).E e && (chk G N r sc).L es) = true := h
      obtain ⟨h1, h3⟩ := band h
      obtain ⟨h1, h2⟩ := band h1
      obtain ⟨k1, k0, k2⟩ := hr.L g es h3
      refine ⟨by rw [List.all_cons, h1, k1]; rfl, fun env m xs m' q => ?_, PA.imp (pa_cons (ha.E g e h2) k2 (star_cons h1)) fun σ H Q q => lift_cons q⟩
      have q : (((sem fu F G a).E env m).bind fun x m => ((sem fu F G r).L env m).bind fun xs m => .ok (x :: xs) m) = .ok xs m' := q
      cases q1 : (sem fu F G a).E env m with
      | ok x m1 =>
        rw [q1] at q
        simp only [Res.bind] at q
        cases q2 : (sem fu F G r).L env m1 with
        | ok ys m2 =>
          rw [q2] at q
          cases q
          rw [List.length_cons, List.length_cons, k0 _ _ _ _ q2]
        | err _ _ => rw [q2] at q; cases q
        | bad => rw [q2] at q; cases q
      | err _ _ => rw [q1] at q; cases q
      | bad => rw [q1] at q; cases q
  GL := fun {X sc W} g es h => by
    cases es with
    | nil => cases h
    | cons e es =>
      have h : (plainE e && (chk G N a sc).G e && (chk G N r sc).GL es) = true := h
      obtain ⟨h1, h3⟩ := band h
      obtain ⟨h1, h2⟩ := band h1
      obtain ⟨k1, k2, k3⟩ := hr.GL g es h3
      refine ⟨by rw [List.all_cons, h1, k1]; rfl, fun ds env env' q => ?_, ⟨fun pins s σ H vs us Q I rv q => (pgs_cons (ha.Tg g e h2) k3 (by rw [asg_cons h1]; rfl)).run pins s σ H vs us Q I rv (liftGs_cons q)⟩⟩
      cases ds with
      | nil => cases q
      | cons d ds =>
        have q : ((sem fu F G a).G d env).bind (fun env => (sem fu F G r).GL ds env) = some env' := q
        obtain ⟨env1, e1, e2⟩ := Option.bind_eq_some_iff.mp q
        rw [List.length_cons, List.length_cons, k2 ds env1 env' e2]
  B := fun {X sc W} g es h => by
    cases es with
    | nil => cases h
    | cons e es =>
      have h : ((chk G N a sc).S e && (chk G N r sc).B es) = true := h
      obtain ⟨h1, h2⟩ := band h
      exact PSs.imp (pss_cons (ha.S g e h1) (hr.B g es h2)) fun D σ H q => lift_seq q
/-! ### targets -/
theorem snd_tName (i : Nat) : Sound G N p fu F n (.tName i) where
  Tg := fun {X sc W} g e h => by
    cases e with
    | Name x pos =>
      have h : (decide (N[i]? = some x) && locB sc x) = true := h
      obtain ⟨h1, h2⟩ := band h
      obtain ⟨l1, l2⟩ := g.loc h2
      have pg := pg_name (pos := pos) g.nd (i := i) (x := x) (by rw [g.N]; exact of_decide_eq_true h1) l1 l2
      exact ⟨fun pins s σ H v u Q I r q => pg.run pins s σ H v u Q I r (liftG_name q)⟩
    | _ => cases h
theorem snd_tTup {l : C} (hl : Sound G N p fu F n l) : Sound G N p fu F n (.tTup l) where
  Tg := fun {X sc W} g e h => by
    cases e with
    | Tuple es k pos =>
      have h : (chk G N l sc).GL es = true := h
      obtain ⟨h1, h2, h3⟩ := hl.GL g es h
      obtain ⟨a1, a2⟩ := asg_any (env := X.env) h1
      have pg := pg_tup (pos := pos) (k := k) g.calm h3 a2 a1
      rw [g.K] at pg
      exact ⟨fun pins s σ H v u Q I r q => pg.run pins s σ H v u Q I r (liftG_tup h2 q)⟩
    | _ => cases h
end
end Zd


set_option Elab.async false
set_option linter.all false
set_option maxRecDepth 100000
set_option maxHeartbeats 4000000
namespace Zd
open PySem PySem.Spec PyProof.Rows L2 Zx
section
variable {p : Par} {W : WX} {σ : St} {H : Hp} {Q : VK} {fa fb fc : SE} {prim prim' : Prim}
theorem lift_1L {r : List V → Hp → VK → Prop} (hp : PrimOk p r prim) (h : liftE p W (f1 prim fa) σ H Q) : tCB r (tCons (liftE p W fa) tNil) σ H Q := by
  refine (lift.first (R := RD p) (k := fun _ x m => Res.of (prim [x] m) m) h).mono fun v H1 ⟨I1, A1, env, x, m1, M1, E1, r1, h1⟩ => ?_
  obtain ⟨d, e, h2⟩ := h1.of
  exact hp H1 I1 A1 m1 [x] [v] d Q _ M1 (.cons r1 .nil) e h2
theorem lift_2L {r : List V → Hp → VK → Prop} (hp : PrimOk p r prim) (h : liftE p W (f2 prim fa fb) σ H Q) : tCB r (tCons (liftE p W fa) (tCons (liftE p W fb) tNil)) σ H Q := by
  refine (lift.first (R := RD p) (k := fun env x m => (fb env m).bind fun y m => Res.of (prim [x, y] m) m) h).mono fun v H1 ⟨I1, A1, env, x, m1, M1, E1, r1, h1⟩ => ?_
  refine ⟨I1, A1, env, m1, M1, E1, (post.bind (R := RD p) h1).mono fun u H2 ⟨I2, A2, y, m2, e2, M2, r2, h2⟩ => ?_⟩
  obtain ⟨d, e, h3⟩ := h2.of
  exact hp H2 I2 A2 m2 [x, y] [v, u] d Q _ M2 (.cons (e2.dr r1) (.cons r2 .nil)) e h3
theorem lift_chain {r r' : R2} (hp : PrimOk p (R2p r) prim) (hp' : PrimOk p (R2p r') prim') (h : liftE p W (fChain prim prim' fa fb fc) σ H Q) : tChain r r' (liftE p W fa) (liftE p W fb) (liftE p W fc) σ H Q := by
  refine (lift.first (R := RD p) (k := fun env x m => (fb env m).bind fun y m => match prim [x, y] m with
    | some (.bl true) => (fc env m).bind fun z m => Res.of (prim' [y, z] m) m
    | some (.bl false) => .ok (.bl false) m
    | _ => .bad) h).mono fun v H1 ⟨I1, A1, env, x, m1, M1, E1, r1, h1⟩ => ?_
  refine ⟨I1, A1, env, m1, M1, E1, (post.bind (R := RD p) h1).mono fun u H2 ⟨I2, A2, y, m2, e2, M2, r2, h2⟩ => ?_⟩
  have r1' := e2.dr r1
  have go : ∀ {k : Bool}, prim [x, y] m2 = some (.bl k) → (∀ H3 I3, Ext H2 I2 A2 H3 I3 A2 → RepM p H3 I3 A2 m2 → (if k = true then liftE p W fc σ H3 (fun w' H4 => r' u w' H4 Q) else Q (.bl false) H3)) → r v u H2 fun z H3 => ∃ k, z = .bl k ∧ (if k = true then liftE p W fc σ H3 (fun w' H4 => r' u w' H4 Q) else Q (.bl false) H3) := fun {k} e hk => by
    obtain ⟨v', u', e', h4⟩ := hp H2 I2 A2 m2 [x, y] [v, u] (.bl k) (fun z H3 => ∃ k, z = .bl k ∧ (if k = true then liftE p W fc σ H3 (fun w' H4 => r' u w' H4 Q) else Q (.bl false) H3)) (fun _ _ _ => True) M2 (.cons r1' (.cons r2 .nil)) e
      (fun w H3 I3 A3 e3 M3 rw => by
        cases DR.bl_inv rw
        refine ⟨k, rfl, ?_⟩
        obtain ⟨B, rfl, hB⟩ := e3.pre
        have hl := M3.len
        have hB0 : B = [] := by
          have := M2.len
          rw [List.length_append] at hl
          cases B with
          | nil => rfl
          | cons b B => rw [List.length_cons] at hl; omega
        subst hB0
        rw [List.append_nil] at e3 M3
        exact hk H3 I3 e3 M3)
    cases e'
    exact h4
  split at h2
  · rename_i e
    refine go e fun H3 I3 e3 M3 => ?_
    rw [if_pos rfl]
    refine ⟨I3, A2, env, m2, M3, (E1.ext e2).ext e3, (post.bind (R := RD p) (h2.ext e3)).mono fun w H4 ⟨I4, A4, z, m4, e4, M4, r4, h4⟩ => ?_⟩
    obtain ⟨d, e5, h5⟩ := h4.of
    obtain ⟨u', w', e6, h6⟩ := hp' H4 I4 A4 m4 [y, z] [u, w] d Q _ M4 (.cons (e4.dr (e3.dr r2)) (.cons r4 .nil)) e5 h5
    cases e6
    exact h6
  · rename_i e
    refine go e fun H3 I3 e3 M3 => ?_
    rw [if_neg Bool.false_ne_true]
    exact h2 (.bl false) H3 I3 A2 e3 M3 (.bl _)
  · exact False.elim h2
end

/-! ### built-ins by name -/
theorem bt_len : bootBuiltins "len" = some (.builtin "len") := by decide +kernel
theorem bt_tuple : bootBuiltins "tuple" = some (.type "tuple") := by decide +kernel
theorem bt_list : bootBuiltins "list" = some (.type "list") := by decide +kernel
theorem bt_all : bootBuiltins "all" = some (.builtin "all") := by decide +kernel
theorem bt_any : bootBuiltins "any" = some (.builtin "any") := by decide +kernel
theorem bt_sum : bootBuiltins "sum" = some (.builtin "sum") := by decide +kernel
theorem bt_max : bootBuiltins "max" = some (.builtin "max") := by decide +kernel
theorem bt_min : bootBuiltins "min" = some (.builtin "min") := by decide +kernel
theorem bt_int : bootBuiltins "int" = some (.type "int") := by decide +kernel
theorem bt_abs : bootBuiltins "abs" = some (.builtin "abs") := by decide +kernel
theorem bt_str : bootBuiltins "str" = some (.type "str") := by decide +kernel
section
variable {G : Gt} {N : List Str} {p : Par} {fu n : Nat} {F : Nat → List D → Mem → Res D}
section
variable {X : Cx} {sc : Scope} {W : WX} {nm : Str} {fa fb : SE} {k k' : Expr → Bool}
theorem bi1 {id : String} {r : List V → Hp → VK → Prop} {prim : Prim} (g : Good G N p F n X sc W) (hv : bootBuiltins nm = some (.builtin id)) (hn : nm ≠ "__name__") (hd : (nm == ("__debug__" : Str)) = false) (hc : CallR X (.builtin id) r) (ok : PrimOk p r prim)
    (ha : ∀ e, k e = true → PE X e (liftE p W fa)) (e : Expr) (he : kCall1 G sc nm k e = true) : PE X e (liftE p W (f1 prim fa)) := by
  cases e with
  | Call f as ks pos =>
    unfold kCall1 at he
    split at he
    · rename_i x px b pos' e
      cases e
      obtain ⟨h1, h3⟩ := band he
      obtain ⟨h1, h2⟩ := band h1
      obtain ⟨rfl, hg, hm⟩ := g.fr h1
      exact PE.imp (pe_callB hc hg hm hv (pa_cons (ha b h3) pa_nil (star_cons h2)) hn hd (star_cons h2) rfl) fun σ H Q q => lift_1L ok q
    · cases he
  | _ => cases he
theorem ti1 {T : String} {r : List V → Hp → VK → Prop} {prim : Prim} (g : Good G N p F n X sc W) (hv : bootBuiltins nm = some (.type T)) (hn : nm ≠ "__name__") (hd : (nm == ("__debug__" : Str)) = false) (hc : CallR X (.type T) r) (ok : PrimOk p r prim)
    (ha : ∀ e, k e = true → PE X e (liftE p W fa)) (e : Expr) (he : kCall1 G sc nm k e = true) : PE X e (liftE p W (f1 prim fa)) := by
  cases e with
  | Call f as ks pos =>
    unfold kCall1 at he
    split at he
    · rename_i x px b pos' e
      cases e
      obtain ⟨h1, h3⟩ := band he
      obtain ⟨h1, h2⟩ := band h1
      obtain ⟨rfl, hg, hm⟩ := g.fr h1
      exact PE.imp (pe_callTy hc hg hm hv (pa_cons (ha b h3) pa_nil (star_cons h2)) hn hd (star_cons h2) rfl) fun σ H Q q => lift_1L ok q
    · cases he
  | _ => cases he
theorem bi2 {id : String} {r : List V → Hp → VK → Prop} {prim : Prim} (g : Good G N p F n X sc W) (hv : bootBuiltins nm = some (.builtin id)) (hn : nm ≠ "__name__") (hd : (nm == ("__debug__" : Str)) = false) (hc : CallR X (.builtin id) r) (ok : PrimOk p r prim)
    (ha : ∀ e, k e = true → PE X e (liftE p W fa)) (hb : ∀ e, k' e = true → PE X e (liftE p W fb)) (e : Expr) (he : kCall2 G sc nm k k' e = true) : PE X e (liftE p W (f2 prim fa fb)) := by
  cases e with
  | Call f as ks pos =>
    unfold kCall2 at he
    split at he
    · rename_i x px b c pos' e
      cases e
      obtain ⟨h1, h5⟩ := band he
      obtain ⟨h1, h4⟩ := band h1
      obtain ⟨h1, h3⟩ := band h1
      obtain ⟨h1, h2⟩ := band h1
      obtain ⟨rfl, hg, hm⟩ := g.fr h1
      refine PE.imp (pe_callB hc hg hm hv (pa_cons (ha b h4) (pa_cons (hb c h5) pa_nil (star_cons h3)) (star_cons h2)) hn hd (star_cons h2) (star_any ?_)) fun σ H Q q => lift_2L ok q
      rw [List.all_cons, h3]; rfl
    · cases he
  | _ => cases he
end
theorem snd_p1 (o : O1) {a : C} (ha : Sound G N p fu F n a) : Sound G N p fu F n (.p1 o a) := by
  refine .kE (k := fun sc => k1 G sc o (chk G N a sc).E) (fun _ => rfl) rfl fun {X sc W} g e he => ?_
  have hE := ha.E g
  cases o with
  | neg =>
    cases e with
    | UnaryOp op b pos =>
      cases op with
      | USub => exact PE.imp (pe_un un_neg (hE b he)) fun σ H Q q => lift_1 ok_neg q
      | _ => cases he
    | _ => cases he
  | len => exact bi1 g bt_len (by decide) (by decide) (by rw [← g.K] at *; exact call_len) ok_len hE e he
  | tuple => exact ti1 g bt_tuple (by decide) (by decide) (g.K ▸ call_tuple_of) ok_tuple hE e he
  | list => exact ti1 g bt_list (by decide) (by decide) (g.K ▸ call_list_of) ok_list hE e he
  | all => exact bi1 g bt_all (by decide) (by decide) (g.K ▸ cr_all g.calm) ok_all hE e he
  | any => exact bi1 g bt_any (by decide) (by decide) (g.K ▸ cr_any g.calm) ok_any hE e he
  | sum => exact bi1 g bt_sum (by decide) (by decide) (g.K ▸ cr_sum g.calm) ok_sum hE e he
  | max => exact bi1 g bt_max (by decide) (by decide) (g.K ▸ cr_max g.calm) ok_max hE e he
  | min => exact bi1 g bt_min (by decide) (by decide) (g.K ▸ cr_min g.calm) ok_min hE e he
  | int => exact ti1 g bt_int (by decide) (by decide) call_int1 ok_int hE e he
  | abs => exact bi1 g bt_abs (by decide) (by decide) call_abs ok_abs hE e he
  | strI => exact ti1 g bt_str (by decide) (by decide) call_str_int ok_strI hE e he
  | repr => exact bi1 g PyProof.Rows.boot_repr (by decide) (by decide) (g.K ▸ call_repr g.gd g.units g.sm) ok_repr hE e he
  | lrange =>
    dsimp only [k1] at he
    split at he
    · rename_i x p0 y p1 b p2 pos
      obtain ⟨h1, h4⟩ := band he
      obtain ⟨h1, h3⟩ := band h1
      obtain ⟨h1, h2⟩ := band h1
      obtain ⟨rfl, hg, hm⟩ := g.fr h1
      obtain ⟨rfl, hg2, hm2⟩ := g.fr h2
      refine PE.imp (pe_listRg g.calm hg hm (prg_1 hg2 hm2 (hE b h4) (star_cons h3)) rfl) fun σ H Q q => ?_
      refine (lift_1L ok_lrange q).mono fun vs H1 z => ?_
      obtain ⟨n, e1, z1, z2⟩ := z
      cases e1
      exact ⟨n, rfl, z1, z2⟩
    · cases he
theorem bin_inv {o : Operator} {k k' : Expr → Bool} {e : Expr} {oo : O2} (ho : oo.op = some o) (he : (match e with
    | .BinOp a op b _ => decide (oo.op = some op) && k a && k' b
    | _ => false) = true) : ∃ a b pos, e = .BinOp a o b pos ∧ k a = true ∧ k' b = true := by
  cases e with
  | BinOp a op b pos =>
    obtain ⟨h1, h3⟩ := band he
    obtain ⟨h1, h2⟩ := band h1
    have e1 := of_decide_eq_true h1
    rw [ho] at e1
    cases e1
    exact ⟨a, b, pos, rfl, h2, h3⟩
  | _ => cases he
theorem snd_p2 (o : O2) {a b : C} (ha : Sound G N p fu F n a) (hb : Sound G N p fu F n b) : Sound G N p fu F n (.p2 o a b) := by
  refine .kE (k := fun sc => k2 G sc o (chk G N a sc).E (chk G N b sc).E) (fun _ => rfl) rfl fun {X sc W} g e he => ?_
  have hA := ha.E g
  have hB := hb.E g
  cases o with
  | add =>
    obtain ⟨x, y, pos, rfl, h1, h2⟩ := bin_inv (oo := .add) rfl he
    exact PE.imp (pe_op (g.K ▸ op_add4) (hA x h1) (hB y h2)) fun σ H Q q => lift_2 ok_add q
  | sub =>
    obtain ⟨x, y, pos, rfl, h1, h2⟩ := bin_inv (oo := .sub) rfl he
    exact PE.imp (pe_op op_sub (hA x h1) (hB y h2)) fun σ H Q q => lift_2 ok_sub q
  | mul =>
    obtain ⟨x, y, pos, rfl, h1, h2⟩ := bin_inv (oo := .mul) rfl he
    exact PE.imp (pe_op (g.K ▸ op_mul3) (hA x h1) (hB y h2)) fun σ H Q q => lift_2 ok_mul q
  | fdiv =>
    obtain ⟨x, y, pos, rfl, h1, h2⟩ := bin_inv (oo := .fdiv) rfl he
    exact PE.imp (pe_op op_fdivW (hA x h1) (hB y h2)) fun σ H Q q => lift_2 ok_fdiv q
  | mod =>
    obtain ⟨x, y, pos, rfl, h1, h2⟩ := bin_inv (oo := .mod) rfl he
    exact PE.imp (pe_op op_mod (hA x h1) (hB y h2)) fun σ H Q q => lift_2 ok_mod q
  | pow =>
    obtain ⟨x, y, pos, rfl, h1, h2⟩ := bin_inv (oo := .pow) rfl he
    exact PE.imp (pe_op op_pow (hA x h1) (hB y h2)) fun σ H Q q => lift_2 ok_pow q
  | idx =>
    cases e with
    | Subscript x y pos =>
      have he : (noSl y && (chk G N a sc).E x && (chk G N b sc).E y) = true := he
      obtain ⟨h1, h3⟩ := band he
      obtain ⟨h1, h2⟩ := band h1
      exact PE.imp (pe_ix (g.K ▸ ix_seq) (hA x h2) (hB y h3) (plainIx h1)) fun σ H Q q => lift_2 ok_idx q
    | _ => cases he
  | max2 => exact bi2 g bt_max (by decide) (by decide) (call_max2 g.calm) ok_max2 hA hB e he
  | min2 => exact bi2 g bt_min (by decide) (by decide) (call_min2 g.calm) ok_min2 hA hB e he
  | divmod => exact bi2 g PyProof.Rows.boot_divmod (by decide) (by decide) call_divmodW ok_divmod hA hB e he
/-! ### comparisons -/
theorem primC_bl (o : OC) {ds : List D} {m : Mem} {d : D} (h : primC o ds m = some d) : ∃ b, d = .bl b := by
  have c1 : ∀ f, pCmp f ds m = some d → ∃ b, d = .bl b := fun f h => by
    unfold pCmp at h; split at h <;> cases h; exact ⟨_, rfl⟩
  have c2 : ∀ b, pInB b ds m = some d → ∃ b, d = .bl b := fun b h => by
    unfold pInB at h
    split at h
    · split at h <;> cases h; exact ⟨_, rfl⟩
    · split at h
      · split at h <;> cases h; exact ⟨_, rfl⟩
      · cases h
    · cases h
  cases o with
  | lt => exact c1 _ h
  | le => exact c1 _ h
  | gt => exact c1 _ h
  | ge => exact c1 _ h
  | eq =>
    have h : pEq ds m = some d := h
    unfold pEq at h
    split at h
    · cases h; exact ⟨_, rfl⟩
    · split at h
      · split at h <;> cases h; exact ⟨_, rfl⟩
      · cases h
    · cases h
  | ne =>
    have h : pNe ds m = some d := h
    unfold pNe at h
    split at h
    · cases h; exact ⟨_, rfl⟩
    · split at h
      · split at h <;> cases h; exact ⟨_, rfl⟩
      · cases h
    · cases h
  | isin => exact c2 _ h
  | notin => exact c2 _ h
  | isn =>
    have h : pIsN ds m = some d := h
    unfold pIsN at h
    split at h <;> cases h
    exact ⟨_, rfl⟩
  | notn =>
    have h : pNotN ds m = some d := h
    unfold pNotN at h
    split at h <;> cases h
    exact ⟨_, rfl⟩
/-- the rule of each comparison -/
theorem oc_rule (o : OC) {X : Cx} {sc : Scope} {W : WX} (g : Good G N p F n X sc W) : ∃ r : R2, OpR X (compareOp o.op) r ∧ PrimOk p (R2p r) (primC o) := by
  cases o with
  | lt => exact ⟨_, op_lt, ok_cmp _⟩
  | le => exact ⟨_, op_le, ok_cmp _⟩
  | gt => exact ⟨_, op_gt, ok_cmp _⟩
  | ge => exact ⟨_, op_ge, ok_cmp _⟩
  | eq => exact ⟨_, g.K ▸ op_eq2 g.units, ok_eq⟩
  | ne => exact ⟨_, g.K ▸ op_ne2 g.units, ok_ne⟩
  | isin => exact ⟨_, g.K ▸ op_inB, ok_in false⟩
  | notin => exact ⟨_, g.K ▸ op_notInB, ok_in true⟩
  | isn => exact ⟨_, op_isN, ok_isN⟩
  | notn => exact ⟨_, op_notN, ok_notN⟩
theorem f2_bl {o : OC} {fa fb : SE} : ∀ env m d m', f2 (primC o) fa fb env m = .ok d m' → ∃ b, d = D.bl b := fun env m d m' h => by
  unfold f2 at h
  cases q1 : fa env m with
  | ok x m1 =>
    rw [q1] at h
    simp only [Res.bind] at h
    cases q2 : fb env m1 with
    | ok y m2 =>
      rw [q2] at h
      simp only [Res.bind] at h
      cases q3 : primC o [x, y] m2 with
      | none => rw [q3] at h; cases h
      | some z =>
        rw [q3] at h
        cases h
        exact primC_bl o q3
    | err _ _ => rw [q2] at h; cases h
    | bad => rw [q2] at h; cases h
  | err _ _ => rw [q1] at h; cases h
  | bad => rw [q1] at h; cases h
theorem snd_cmp (o : OC) {a b : C} (ha : Sound G N p fu F n a) (hb : Sound G N p fu F n b) : Sound G N p fu F n (.cmp o a b) where
  E := fun {X sc W} g e h => by
    have h : kCmp o (chk G N a sc).E (chk G N b sc).E e = true := h
    unfold kCmp at h
    split at h
    · rename_i x op y pos _
      obtain ⟨h1, h4⟩ := band h
      obtain ⟨h1, h3⟩ := band h1
      obtain ⟨h1, h2⟩ := band h1
      have e1 := of_decide_eq_true h1
      subst e1
      obtain ⟨r, ho, hp⟩ := oc_rule o g
      exact PE.imp (pe_cmpR ho (ha.E g x h3) (hb.E g y h4) (by simpa using h2)) fun σ H Q q => lift_2 hp q
    · cases h
  T := fun {X sc W} g e h => by
    have h : kCmp o (chk G N a sc).E (chk G N b sc).E e = true := h
    unfold kCmp at h
    split at h
    · rename_i x op y pos _
      obtain ⟨h1, h4⟩ := band h
      obtain ⟨h1, h3⟩ := band h1
      obtain ⟨h1, h2⟩ := band h1
      have e1 := of_decide_eq_true h1
      subst e1
      obtain ⟨r, ho, hp⟩ := oc_rule o g
      exact PT.imp (pt_cmpR ho (ha.E g x h3) (hb.E g y h4) (by simpa using h2)) fun σ H Q q => lift_2 hp (lift_testE f2_bl q)
    · cases h
theorem chain_bl {o o' : OC} {fa fb fc : SE} : ∀ env m d m', fChain (primC o) (primC o') fa fb fc env m = .ok d m' → ∃ b, d = D.bl b := fun env m d m' h => by
  unfold fChain at h
  cases q1 : fa env m with
  | ok x m1 =>
    rw [q1] at h
    simp only [Res.bind] at h
    cases q2 : fb env m1 with
    | ok y m2 =>
      rw [q2] at h
      simp only [Res.bind] at h
      split at h
      · cases q4 : fc env m2 with
        | ok z m4 =>
          rw [q4] at h
          simp only [Res.bind] at h
          cases q3 : primC o' [y, z] m4 with
          | none => rw [q3] at h; cases h
          | some w =>
            rw [q3] at h
            cases h
            exact primC_bl o' q3
        | err _ _ => rw [q4] at h; cases h
        | bad => rw [q4] at h; cases h
      · cases h; exact ⟨_, rfl⟩
      · cases h
    | err _ _ => rw [q2] at h; cases h
    | bad => rw [q2] at h; cases h
  | err _ _ => rw [q1] at h; cases h
  | bad => rw [q1] at h; cases h
theorem snd_chain (o o' : OC) {a b c : C} (ha : Sound G N p fu F n a) (hb : Sound G N p fu F n b) (hc : Sound G N p fu F n c) : Sound G N p fu F n (.chain o o' a b c) where
  E := fun {X sc W} g e h => by
    have h : kChain o o' (chk G N a sc).E (chk G N b sc).E (chk G N c sc).E e = true := h
    unfold kChain at h
    split at h
    · rename_i x op op' y z pos _
      obtain ⟨h1, h6⟩ := band h
      obtain ⟨h1, h5⟩ := band h1
      obtain ⟨h1, h4⟩ := band h1
      obtain ⟨h1, h3⟩ := band h1
      obtain ⟨h1, h2⟩ := band h1
      have e1 := of_decide_eq_true h1
      have e2 := of_decide_eq_true h2
      subst e1 e2
      obtain ⟨r, ho, hp⟩ := oc_rule o g
      obtain ⟨r', ho', hp'⟩ := oc_rule o' g
      exact PE.imp (pe_chain ho ho' (ha.E g x h4) (hb.E g y h5) (hc.E g z h6) (by simpa using h3)) fun σ H Q q => lift_chain hp hp' q
    · cases h
  T := fun {X sc W} g e h => by
    have h : kChain o o' (chk G N a sc).E (chk G N b sc).E (chk G N c sc).E e = true := h
    unfold kChain at h
    split at h
    · rename_i x op op' y z pos _
      obtain ⟨h1, h6⟩ := band h
      obtain ⟨h1, h5⟩ := band h1
      obtain ⟨h1, h4⟩ := band h1
      obtain ⟨h1, h3⟩ := band h1
      obtain ⟨h1, h2⟩ := band h1
      have e1 := of_decide_eq_true h1
      have e2 := of_decide_eq_true h2
      subst e1 e2
      obtain ⟨r, ho, hp⟩ := oc_rule o g
      obtain ⟨r', ho', hp'⟩ := oc_rule o' g
      exact PT.imp (pt_chain ho ho' (ha.E g x h4) (hb.E g y h5) (hc.E g z h6) (by simpa using h3)) fun σ H Q q => lift_chain hp hp' (lift_testE chain_bl q)
    · cases h
end
end Zd


set_option Elab.async false
set_option linter.all false
set_option maxRecDepth 100000
set_option maxHeartbeats 4000000
namespace Zd
open PySem PySem.Spec PyProof.Rows L2 Zx

section
variable {α β γ δ : Type} {R : Hp → List Addr → α → β → Prop} {R2 : Hp → List Addr → γ → δ → Prop} {p : Par} {H : Hp} {Q2 : δ → Hp → Prop} {W : WX}
theorem lift.firstE {f : Env → Mem → Res α} {k : Env → α → Mem → Res γ} {σ : St} (h : lift R2 p W (fun env m => (f env m).bind (k env)) σ H Q2) :
    lift R p W f σ H (fun y H1 => ∃ I1 A1 env x m0 m1, f env m0 = .ok x m1 ∧ RepM p H1 I1 A1 m1 ∧ RepE p σ I1 A1 env ∧ R I1 A1 x y ∧ post R2 p H1 I1 A1 Q2 (fun c d H' => W c d σ H') (k env x m1)) := by
  obtain ⟨I, A, env, m, M, Er, hp⟩ := h
  refine ⟨I, A, env, m, M, Er, ?_⟩
  dsimp only at hp
  cases q : f env m with
  | ok x m1 =>
    rw [q] at hp
    intro y H1 I1 A1 e M1 r
    exact ⟨I1, A1, env, x, m, m1, q, M1, Er.ext e, r, post.ext (r := k env x m1) hp e⟩
  | err x m1 => rw [q] at hp; exact hp
  | bad => rw [q] at hp; exact hp
end
section
variable {G : Gt} {N : List Str} {p : Par} {fu n : Nat} {F : Nat → List D → Mem → Res D}

/-! ### and, or, not -/
theorem and_inv {k k' : Expr → Bool} {e : Expr} (h : kAnd k k' e = true) : ∃ x y r pos, e = .BoolOp .And (x :: y :: r) pos ∧ k x = true ∧ k' (.BoolOp .And (y :: r) pos) = true := by
  unfold kAnd at h
  split at h
  · rename_i x y r pos
    obtain ⟨h1, h2⟩ := band h
    exact ⟨x, y, r, pos, rfl, h1, h2⟩
  · cases h
theorem or_inv {k k' : Expr → Bool} {e : Expr} (h : kOr k k' e = true) : ∃ x y r pos, e = .BoolOp .Or (x :: y :: r) pos ∧ k x = true ∧ k' (.BoolOp .Or (y :: r) pos) = true := by
  unfold kOr at h
  split at h
  · rename_i x y r pos
    obtain ⟨h1, h2⟩ := band h
    exact ⟨x, y, r, pos, rfl, h1, h2⟩
  · cases h
theorem one_inv {k : Expr → Bool} {e : Expr} (h : kOne k e = true) : ∃ op x pos, e = .BoolOp op [x] pos ∧ k x = true := by
  unfold kOne at h
  split at h
  · rename_i op x pos
    exact ⟨op, x, pos, rfl, h⟩
  · cases h
theorem not_inv {k : Expr → Bool} {e : Expr} (h : kNot k e = true) : ∃ x pos, e = .UnaryOp .Not x pos ∧ k x = true := by
  unfold kNot at h
  split at h
  · rename_i x pos
    exact ⟨x, pos, rfl, h⟩
  · cases h
theorem snd_and {a b : C} (ha : Sound G N p fu F n a) (hb : Sound G N p fu F n b) : Sound G N p fu F n (.and a b) where
  E := fun {X sc W} g e h => by
    obtain ⟨x, y, r, pos, rfl, h1, h2⟩ := and_inv h
    exact PE.imp (pe_and (ha.E g x h1) (hb.E g _ h2)) fun σ H Q q => lift_and q
  T := fun {X sc W} g e h => by
    obtain ⟨x, y, r, pos, rfl, h1, h2⟩ := and_inv h
    exact PT.imp (pw_and (ha.T g x h1) (hb.Wb g _ h2)).pt fun σ H Q q => lift_andT q
  Wb := fun {X sc W} g e h => by
    obtain ⟨x, y, r, pos, rfl, h1, h2⟩ := and_inv h
    exact PW.imp (pw_and (ha.T g x h1) (hb.Wb g _ h2)) fun σ H Q q => lift_andT q
theorem snd_or {a b : C} (ha : Sound G N p fu F n a) (hb : Sound G N p fu F n b) : Sound G N p fu F n (.or a b) where
  E := fun {X sc W} g e h => by
    obtain ⟨x, y, r, pos, rfl, h1, h2⟩ := or_inv h
    exact PE.imp (pe_or (ha.E g x h1) (hb.E g _ h2)) fun σ H Q q => lift_or q
  T := fun {X sc W} g e h => by
    obtain ⟨x, y, r, pos, rfl, h1, h2⟩ := or_inv h
    exact PT.imp (pw_or (ha.T g x h1) (hb.Wb g _ h2)).pt fun σ H Q q => lift_orT q
  Wb := fun {X sc W} g e h => by
    obtain ⟨x, y, r, pos, rfl, h1, h2⟩ := or_inv h
    exact PW.imp (pw_or (ha.T g x h1) (hb.Wb g _ h2)) fun σ H Q q => lift_orT q
theorem snd_one {a : C} (ha : Sound G N p fu F n a) : Sound G N p fu F n (.one a) where
  E := fun {X sc W} g e h => by
    obtain ⟨op, x, pos, rfl, h1⟩ := one_inv h
    exact pe_one (ha.E g x h1)
  Wb := fun {X sc W} g e h => by
    obtain ⟨op, x, pos, rfl, h1⟩ := one_inv h
    cases op with
    | And => exact pw_and1 (ha.T g x h1)
    | Or => exact pw_or1 (ha.T g x h1)
theorem snd_not {a : C} (ha : Sound G N p fu F n a) : Sound G N p fu F n (.not a) where
  E := fun {X sc W} g e h => by
    obtain ⟨x, pos, rfl, h1⟩ := not_inv h
    exact PE.imp (pe_not (ha.E g x h1)) fun σ H Q q => lift_not q
  T := fun {X sc W} g e h => by
    obtain ⟨x, pos, rfl, h1⟩ := not_inv h
    exact PT.imp (pt_not (ha.T g x h1)) fun σ H Q q => lift_notT q
theorem snd_ife {t a b : C} (ht : Sound G N p fu F n t) (ha : Sound G N p fu F n a) (hb : Sound G N p fu F n b) : Sound G N p fu F n (.ife t a b) where
  E := fun {X sc W} g e h => by
    cases e with
    | IfExp c x y pos =>
      have h : ((chk G N t sc).T c && (chk G N a sc).E x && (chk G N b sc).E y) = true := h
      obtain ⟨h1, h3⟩ := band h
      obtain ⟨h1, h2⟩ := band h1
      exact PE.imp (pe_ifExp (ht.T g c h1) (ha.E g x h2) (hb.E g y h3)) fun σ H Q q => lift_ife q
    | _ => cases h
/-! ### displays -/
theorem snd_tup {l : C} (hl : Sound G N p fu F n l) : Sound G N p fu F n (.tup l) := by
  refine .kE (k := fun sc e => match e with
    | .Tuple es _ _ => (chk G N l sc).L es
    | _ => false) (fun _ => rfl) rfl fun {X sc W} g e he => ?_
  cases e with
  | Tuple es k pos =>
    obtain ⟨h1, h0, h2⟩ := hl.L g es he
    exact PE.imp (pe_tup h2) fun σ H Q q => lift_N ok_tup q
  | _ => cases he
theorem snd_lst {l : C} (hl : Sound G N p fu F n l) : Sound G N p fu F n (.lst l) := by
  refine .kF (k := fun sc => kLst (chk G N l sc).L) (fun _ => rfl) rfl (fun {X sc W} g e he => ?_) fun {X sc W} g e he hlc => ?_
  · cases e with
    | List es pos =>
      obtain ⟨h1, h0, h2⟩ := hl.L g es he
      exact PE.imp (pe_lst h2) fun σ H Q q => lift_fLst q
    | _ => cases he
  · exfalso
    cases e <;> first | cases he | cases hlc
theorem snd_mk {a : C} (ha : Sound G N p fu F n a) : Sound G N p fu F n (.mk a) :=
  .kE (k := fun sc => (chk G N a sc).F) (fun _ => rfl) rfl fun {X sc W} g e he => PE.imp (ha.Fr g e he) fun σ H Q q => liftE_mk q
/-! ### slices -/
theorem part_ok {lo : C} (h : Sound G N p fu F n lo) {X : Cx} {sc : Scope} {W : WX} (g : Good G N p F n X sc W) {l : Option Expr} (hk : kPart lo.isNil (chk G N lo sc).E l = true) : PO X l (lift (fun (_ : Hp) (_ : List Addr) (a b : Option Int) => a = b) p W (partOf (sem fu F G lo) lo.isNil)) := by
  cases l with
  | none =>
    exact ⟨fun pins s σ H Q I q => po_none.run pins s σ H Q I ((lift_part q).1 hk)⟩
  | some e =>
    obtain ⟨h1, h2⟩ := band hk
    exact ⟨fun pins s σ H Q I q => (po_some (h.E g e h2)).run pins s σ H Q I ((lift_part q).2 (by simpa using h1))⟩
theorem snd_sl {a lo hi : C} (ha : Sound G N p fu F n a) (hl : Sound G N p fu F n lo) (hh : Sound G N p fu F n hi) : Sound G N p fu F n (.sl a lo hi) := by
  refine .kE (k := fun sc e => match e with
    | .Subscript b (.Slice l h none _) _ => (chk G N a sc).E b && kPart lo.isNil (chk G N lo sc).E l && kPart hi.isNil (chk G N hi sc).E h
    | _ => false) (fun _ => rfl) rfl fun {X sc W} g e he => ?_
  split at he
  · rename_i b l h p2 pos
    obtain ⟨h1, h3⟩ := band he
    obtain ⟨h1, h2⟩ := band h1
    refine PE.imp (pe_slice sl_3 (ha.E g b h1) (part_ok hl g h2) (part_ok hh g h3)) fun σ H Q q => ?_
    refine (lift.first (R := RD p) (k := fun env x m => (partOf (sem fu F G lo) lo.isNil env m).bind fun l m => (partOf (sem fu F G hi) hi.isNil env m).bind fun h m => Res.of (slD m x l h) m) q).mono fun v H1 ⟨I1, A1, env, x, m1, M1, E1, r1, h1⟩ => ?_
    refine ⟨I1, A1, env, m1, M1, E1, (post.bind (R := fun (_ : Hp) (_ : List Addr) (a b : Option Int) => a = b) h1).mono fun u H2 ⟨I2, A2, y, m2, e2, M2, r2, h2⟩ => ?_⟩
    cases r2
    refine ⟨I2, A2, env, m2, M2, E1.ext e2, (post.bind (R := fun (_ : Hp) (_ : List Addr) (a b : Option Int) => a = b) h2).mono fun w H3 ⟨I3, A3, z, m3, e3, M3, r3, h3⟩ => ?_⟩
    cases r3
    obtain ⟨d, e4, h4⟩ := h3.of
    rw [g.K]
    exact ok_sl M3 (e3.dr (e2.dr r1)) e4 h4
  · cases he
/-! ### calls -/
theorem DR.ofFl {I : Hp} {A : List Addr} {d : D} {v : V} (h : d.fl = some v) : DR p I A d v := by
  cases d with
  | non => cases h; exact .non
  | bl b => cases h; exact .bl b
  | int i => cases h; exact .int i
  | str x => cases h; exact .str x
  | _ => cases h
theorem DRs.ofFl {I : Hp} {A : List Addr} : ∀ {ds : List D}, (ds.all fun d => d.fl.isSome) = true → DRs p I A ds (ds.map fun d => d.fl.getD .non)
  | [], _ => .nil
  | d :: ds, h => by
    rw [List.all_cons] at h
    obtain ⟨h1, h2⟩ := band h
    obtain ⟨v, hv⟩ := Option.isSome_iff_exists.mp h1
    refine .cons ?_ (DRs.ofFl h2)
    show DR p I A d (d.fl.getD .non)
    rw [hv]
    exact DR.ofFl hv
theorem snd_call (j : Nat) {l : C} (hl : Sound G N p fu F n l) : Sound G N p fu F n (.call j l) := by
  refine .kE (k := fun sc e => match e with
    | .Call (.Name x _) (b :: es) [] _ => (match G.fs[j]? with
      | some fd => fd.glob && fd.dfl.all (fun d => d.fl.isSome) && decide (fd.name = x) && glbB sc x && okN x && decide ((b :: es).length ≤ fd.ps.length) && decide (fd.ps.length ≤ (b :: es).length + fd.dfl.length) && (chk G N l sc).L (b :: es)
      | none => false)
    | _ => false) (fun _ => rfl) rfl fun {X sc W} g e he => ?_
  split at he
  · rename_i x p0 b es pos
    split at he
    · rename_i fd hj
      obtain ⟨h1, h8⟩ := band he
      obtain ⟨h1, h7⟩ := band h1
      obtain ⟨h1, h6⟩ := band h1
      obtain ⟨h1, h5⟩ := band h1
      obtain ⟨h1, h4⟩ := band h1
      obtain ⟨h1, h3⟩ := band h1
      obtain ⟨hgl, hdf⟩ := band h1
      have h3 := of_decide_eq_true h3
      have h6 := of_decide_eq_true h6
      have h7 := of_decide_eq_true h7
      subst h3
      obtain ⟨f, fdt, m1, m2, m3, m4⟩ := (g.fn j fd hj).ex
      obtain ⟨l1, l0, l2⟩ := hl.L g (b :: es) h8
      obtain ⟨o1, o2, o3⟩ := okN1 h5
      rw [List.all_cons] at l1
      obtain ⟨l1, l3⟩ := band l1
      obtain ⟨dv, hv, hb⟩ := m3 ((b :: es).length + fd.dfl.length - fd.ps.length) (by omega)
      refine PE.imp (pe_callG m4 (g.room.mono (by omega)) g.gd (g.gl h4) (m1 hgl) m2 hb hv (passAt g.tk) l2 o1 (star_cons l1) (star_any l3)) fun σ H Q q => ?_
      refine (lift.firstE (R := RL p) (k := fun env xs m => F j (G.dfl j xs) m) q).mono fun vs H1 ⟨I1, A1, env, xs, m0, m1, hx, M1, E1, r1, h9⟩ => ?_
      have hlen := l0 _ _ _ _ hx
      have r2 : DRs p I1 A1 (G.dfl j xs) (vs ++ fd.dvs.drop ((b :: es).length + fd.dfl.length - fd.ps.length)) := by
        unfold Gt.dfl
        rw [hj]
        dsimp only
        rw [hlen]
        exact r1.append ((DRs.ofFl hdf).drop _)
      refine ⟨?_, I1, A1, _, m1, M1, r2, h9⟩
      have e1 : vs.length = xs.length := r1.length.symm
      have e2 : fd.dvs.length = fd.dfl.length := by unfold FD.dvs; rw [List.length_map]
      rw [List.length_append, List.length_drop, e1, hlen, e2]
      omega
    · cases he
  · cases he
/-! ### comprehensions -/
theorem tests_ok {cond : C} (h : Sound G N p fu F n cond) {X : Cx} {sc : Scope} {W : WX} (g : Good G N p F n X sc W) {ifs : List Expr} (hk : kTests cond.isNil (chk G N cond sc).T ifs = true) : PTs X ifs (liftT p W (sem fu F G cond).T) := by
  cases ifs with
  | nil =>
    have hn : cond.isNil = true := hk
    cases cond <;> first | cases hn | skip
    exact ⟨fun pins s σ H Q I ⟨I1, A1, env, m, M, E, hp⟩ => pts_nil.run pins s σ H Q I (hp true H I1 A1 .refl M rfl)⟩
  | cons c r =>
    cases r with
    | nil =>
      obtain ⟨h1, h2⟩ := band hk
      exact pts_one (h.T g c h2)
    | cons _ _ => cases hk
theorem sub_ok {xs ys : List Nat} (h : subB xs ys = true) : ∀ i ∈ xs, i ∈ ys := fun i hi => of_decide_eq_true (List.all_eq_true.mp h i hi)
theorem snd_comp (own : List (Str × Nat)) {elt tg it cond : C} (he : Sound G N p fu F n elt) (ht : Sound G N p fu F n tg) (hi : Sound G N p fu F n it) (hc : Sound G N p fu F n cond) : Sound G N p fu F n (.comp own elt tg it cond) := by
  have inv : ∀ {X sc W}, Good G N p F n X sc W → ∀ e, kComp N sc own tg.slots (fun s => (chk G N tg s).G) (chk G N it sc).I (fun s => kTests cond.isNil (chk G N cond s).T) (fun s => (chk G N elt s).E) e = true →
      ∃ e0 t0 iter ifs scope pos, e = .ListComp e0 [⟨t0, iter, ifs, 0⟩] scope pos ∧ plainE iter = true ∧ PI X t0 iter (liftI p W (sem fu F G it).I) ∧ BlkOk X.N X.env.scope scope own ∧ (∀ i ∈ tg.slots, i ∈ own.map (·.2)) ∧
        (∀ (s : Shared) (H : Hp) (C : Addr) (cl : List (Str × Addr)) (fp : List Addr), PG (X.blk s H scope (compEnvC scope cl C X.env) fp) t0 (liftG p tg.slots (sem fu F G tg).G)) ∧
        (∀ (s : Shared) (H : Hp) (C : Addr) (cl : List (Str × Addr)) (fp : List Addr), PTs (X.blk s H scope (compEnvC scope cl C X.env) fp) ifs (liftT p WF (sem fu F G cond).T)) ∧
        (∀ (s : Shared) (H : Hp) (C : Addr) (cl : List (Str × Addr)) (fp : List Addr), PE (X.blk s H scope (compEnvC scope cl C X.env) fp) e0 (liftE p WF (sem fu F G elt).E)) := fun {X sc W} g e h => by
    unfold kComp at h
    split at h
    · rename_i e0 t0 iter ifs scope pos
      obtain ⟨h1, h7⟩ := band h
      obtain ⟨h1, h6⟩ := band h1
      obtain ⟨h1, h5⟩ := band h1
      obtain ⟨h1, h4⟩ := band h1
      obtain ⟨h1, h3⟩ := band h1
      obtain ⟨h1, h2⟩ := band h1
      exact ⟨e0, t0, iter, ifs, scope, pos, rfl, h3, hi.I g t0 iter h5, g.blkOk h1, sub_ok h2, fun s H C cl fp => ht.Tg (g.blk h1 s H C cl fp) t0 h4, fun s H C cl fp => tests_ok hc (g.blk h1 s H C cl fp) h6, fun s H C cl fp => he.E (g.blk h1 s H C cl fp) e0 h7⟩
    · cases h
  refine .kF (k := fun sc => kComp N sc own tg.slots (fun s => (chk G N tg s).G) (chk G N it sc).I (fun s => kTests cond.isNil (chk G N cond s).T) (fun s => (chk G N elt s).E)) (fun _ => rfl) rfl (fun {X sc W} g e h => ?_) fun {X sc W} g e h _ i y py pos hsw hy hl => ?_
  · obtain ⟨e0, t0, iter, ifs, scope, pos, rfl, a1, a2, a3, a4, a5, a6, a7⟩ := inv g e h
    exact PE.imp (pe_lc g.calm g.nd a2 a3 a5 a6 a7 (folded_no a1 _)) fun σ H Q q => lift_comp a4 q
  · obtain ⟨e0, t0, iter, ifs, scope, pos, rfl, a1, a2, a3, a4, a5, a6, a7⟩ := inv g e h
    exact PS.imp (ps_setLc g.calm g.nd hy hl hsw a2 a3 a5 a6 a7 (folded_no a1 _)) fun D σ H q => lift_comp a4 q
/-! ### what is iterated over -/
theorem snd_iLst {a : C} (ha : Sound G N p fu F n a) : Sound G N p fu F n (.iLst a) where
  I := fun {X sc W} g tg e h => by
    have r := pi_list (tg := tg) (ha.E g e h)
    rw [g.K] at r
    exact ⟨fun pins s σ H R I q => r.run pins s σ H R I (lift_iLst q)⟩
theorem snd_iTup {a : C} (ha : Sound G N p fu F n a) : Sound G N p fu F n (.iTup a) where
  I := fun {X sc W} g tg e h => by
    have r := pi_tup (tg := tg) (ha.E g e h)
    rw [g.K] at r
    exact ⟨fun pins s σ H R I q => r.run pins s σ H R I (lift_iTup q)⟩
theorem snd_iStr {a : C} (ha : Sound G N p fu F n a) : Sound G N p fu F n (.iStr a) where
  I := fun {X sc W} g tg e h => by
    have r := pi_str (tg := tg) (ha.E g e h)
    exact ⟨fun pins s σ H R I q => r.run pins s σ H R I (lift_iStr q)⟩
theorem snd_iRange {a : C} (ha : Sound G N p fu F n a) : Sound G N p fu F n (.iRange a) where
  I := fun {X sc W} g tg e h => by
    have h : kCall1 G sc "range" (chk G N a sc).E e = true := h
    unfold kCall1 at h
    split at h
    · rename_i x p0 b pos _
      obtain ⟨h1, h3⟩ := band h
      obtain ⟨h1, h2⟩ := band h1
      obtain ⟨rfl, hg, hm⟩ := g.fr h1
      have r := pi_range1 (tg := tg) (p := p0) (pos := pos) hg hm (pa_cons (ha.E g b h3) pa_nil (star_cons h2)) (star_cons h2)
      exact ⟨fun pins s σ H R I q => r.run pins s σ H R I (lift_iRange q)⟩
    · cases h
theorem snd_iRange2 {a b : C} (ha : Sound G N p fu F n a) (hb : Sound G N p fu F n b) : Sound G N p fu F n (.iRange2 a b) where
  I := fun {X sc W} g tg e h => by
    have h : kCall2 G sc "range" (chk G N a sc).E (chk G N b sc).E e = true := h
    unfold kCall2 at h
    split at h
    · rename_i x p0 b c pos _
      obtain ⟨h1, h5⟩ := band h
      obtain ⟨h1, h4⟩ := band h1
      obtain ⟨h1, h3⟩ := band h1
      obtain ⟨h1, h2⟩ := band h1
      obtain ⟨rfl, hg, hm⟩ := g.fr h1
      have s2 : starEach [c] X.env = [(false, eval c X.env)] := star_cons h3
      have r := pi_range2 (tg := tg) (p := p0) (pos := pos) hg hm (pa_cons (ha.E g b h4) (pa_cons (hb.E g c h5) pa_nil (star_cons h3)) (star_cons h2)) (by rw [star_cons h2, s2]) s2
      exact ⟨fun pins s σ H R I q => r.run pins s σ H R I (lift_iRange2 q)⟩
    · cases h
/-! ### methods, isinstance, exceptions, dicts -/
theorem base_ok {o : Expr} (h : noCall o = true) (f : Str) (env : PySem.Env) (w : Sem Value) : attributeBase o f env w = w := by
  cases o <;> first | rfl | cases h
theorem lift_M {prim : Prim} {r : V → List V → Hp → VK → Prop} {fa fb : SE} {W : WX} {σ : St} {H : Hp} {Q : VK} (hp : PrimOk p (fun vs H Q => ∃ x y, vs = [x, y] ∧ r x [y] H Q) prim) (h : liftE p W (fM prim fa fb) σ H Q) : tBM p.K "list" r (liftE p W fa) (tCons (liftE p W fb) tNil) σ H Q := by
  refine (lift.first (R := RD p) (k := fun env x m => if isL m x = true then (fb env m).bind fun y m => Res.of (prim [x, y] m) m else .bad) h).mono fun v H1 ⟨I1, A1, env, x, m1, M1, E1, r1, h1⟩ => ?_
  by_cases hl : isL m1 x = true
  · rw [if_pos hl] at h1
    refine ⟨isL_ty M1 r1 hl, I1, A1, env, m1, M1, E1, (post.bind (R := RD p) h1).mono fun u H2 ⟨I2, A2, y, m2, e2, M2, r2, h2⟩ => ?_⟩
    obtain ⟨d, e, h3⟩ := h2.of
    obtain ⟨v', u', e', h4⟩ := hp H2 I2 A2 m2 [x, y] [v, u] d Q _ M2 (.cons (e2.dr r1) (.cons r2 .nil)) e h3
    cases e'
    exact h4
  · rw [if_neg hl] at h1
    exact False.elim h1
theorem snd_m1 (o : OM) {a b : C} (ha : Sound G N p fu F n a) (hb : Sound G N p fu F n b) : Sound G N p fu F n (.m1 o a b) := by
  refine .kE (k := fun sc => kM1 o (chk G N a sc).E (chk G N b sc).E) (fun _ => rfl) rfl fun {X sc W} g e he => ?_
  unfold kM1 at he
  split at he
  · rename_i x f ap y cp
    obtain ⟨h1, h6⟩ := band he
    obtain ⟨h1, h5⟩ := band h1
    obtain ⟨h1, h4⟩ := band h1
    obtain ⟨h1, h3⟩ := band h1
    obtain ⟨h1, h2⟩ := band h1
    have ef := of_decide_eq_true h1
    subst ef
    have st : starEach [y] X.env = [(false, eval y X.env)] := star_cons h3
    have few : ((backTo cp (starEach [y] X.env)).all (fun x => !x.1) && (backToKw cp (keywordEach [] X.env)).all (fun x => x.1.isSome) && decide (([y] : List Expr).length + ([] : List Keyword).length + (if ([] : List Keyword).isEmpty then 0 else 1) < 30)) = true := by rw [st]; rfl
    cases o with
    | cnt => exact PE.imp (g.K ▸ pe_bm PySem.F.plainAttrs_list PySem.F.slot_list_count PySem.F.type_list_count mt_cnt (ha.E g x h5) (pa_cons (hb.E g y h6) pa_nil (star_cons h3)) (base_ok h2 _ _ _) few h4 (star_cons h3) rfl) fun σ H Q q => g.K ▸ lift_M ok_cnt q
    | index => exact PE.imp (g.K ▸ pe_bm PySem.F.plainAttrs_list PySem.F.slot_list_index PySem.F.type_list_index mt_index (ha.E g x h5) (pa_cons (hb.E g y h6) pa_nil (star_cons h3)) (base_ok h2 _ _ _) few h4 (star_cons h3) rfl) fun σ H Q q => g.K ▸ lift_M ok_index q
  · cases he
theorem snd_isi {a : C} (k : Nat) (ha : Sound G N p fu F n a) : Sound G N p fu F n (.isi a k) := by
  refine .kE (k := fun sc => kIsi G sc G.tgs[k]? (chk G N a sc).E) (fun _ => rfl) rfl fun {X sc W} g e he => ?_
  unfold kIsi at he
  split at he
  · rename_i x p0 b z p1 pos
    obtain ⟨h1, h6⟩ := band he
    obtain ⟨h1, h5⟩ := band h1
    obtain ⟨h1, h4⟩ := band h1
    obtain ⟨h1, h0⟩ := band h1
    obtain ⟨h1, h3⟩ := band h1
    obtain ⟨h1, h2⟩ := band h1
    obtain ⟨rfl, hg, hm⟩ := g.fr h1
    have hz := of_decide_eq_true h3
    obtain ⟨o1, o2, o3⟩ := okN1 h5
    have hk : ∃ t b, G.isT t k = some b := by
      unfold Gt.isT
      cases ht : G.tys with
      | nil => rw [ht] at h0; cases h0
      | cons q r =>
        refine ⟨q.1, decide (k ∈ q.2), ?_⟩
        have hlt : k < G.tgs.length := (List.getElem?_eq_some_iff.mp hz).1
        rw [List.lookup_cons]
        simp [hlt]
    · obtain ⟨t0, b0, e0⟩ := hk
      obtain ⟨y0, tv0, cv, u, hy, _, tg, _⟩ := g.kit t0 k b0 e0
      rw [hz] at hy
      cases hy
      have pz : PE X (.Name z p1) (tC cv) := by
        obtain ⟨k1, k2⟩ := tg
        rcases k2 with k2 | ⟨k2, nn, k3, rfl, rfl⟩
        · exact pe_glob (g.gl h4) k2 (by cases k1 <;> rfl) o1
        · exact pe_bltn (g.gl h4) k2 k3 rfl o3 o1
      refine PE.imp (pe_callB (call_is2 (X := X)) hg hm PyProof.Rows.boot_isinstance (pa_cons (ha.E g b h6) (pa_cons pz pa_nil (star_cons rfl)) (star_cons h2)) (by decide) (by decide) (star_cons h2) rfl) fun σ H Q q => ?_
      refine (lift.first (R := RD p) (k := fun env d m => Res.of (((d.tyc m).bind fun t => G.isT t k).map D.bl) m) q).mono fun v H1 ⟨I1, A1, env, d, m1, M1, E1, r1, h7⟩ => ?_
      obtain ⟨d2, e2, h8⟩ := h7.of
      obtain ⟨bb, e3, e4⟩ := Option.map_eq_some_iff.mp e2
      subst e4
      obtain ⟨t, e5, e6⟩ := Option.bind_eq_some_iff.mp e3
      obtain ⟨y1, tv, cv1, u1, hy1, ht, tg1, hkit⟩ := g.kit t k bb e6
      rw [hz] at hy1
      cases hy1
      have euu : cv1 = cv ∧ u1 = u := by
        obtain ⟨k1, k2⟩ := tg
        obtain ⟨k1', k2'⟩ := tg1
        rcases k2 with k2 | ⟨k2, nn, k3, rfl, rfl⟩
        · rcases k2' with k2' | ⟨k2', _⟩
          · rw [k2] at k2'
            cases k2'
            cases k1 <;> cases k1' <;> exact ⟨rfl, rfl⟩
          · rw [k2] at k2'; cases k2'
        · rcases k2' with k2' | ⟨k2', nn', k3', rfl, rfl⟩
          · rw [k2] at k2'; cases k2'
          · rw [k3] at k3'
            cases k3'
            exact ⟨rfl, rfl⟩
      obtain ⟨rfl, rfl⟩ := euu
      show rIs2 X.K [v, cv1] H1 Q
      rw [g.K]
      exact isi_ok (fun c Ca ns hc => (g.xa c Ca ns hc).1) M1 r1 e5 ht tg1.1 hkit (h8.ok _ _ M1 (.bl _))
  · cases he
theorem snd_attr {a : C} (f : Str) (ha : Sound G N p fu F n a) : Sound G N p fu F n (.attr a f) := by
  refine .kE (k := fun sc => kAttr f (chk G N a sc).E) (fun _ => rfl) rfl fun {X sc W} g e he => ?_
  unfold kAttr at he
  split at he
  · rename_i x f' pos
    obtain ⟨h1, h3⟩ := band he
    obtain ⟨h1, h2⟩ := band h1
    have ef := of_decide_eq_true h1
    subst ef
    refine PE.imp (pe_xa (ha.E g x h3) (base_ok h2 _ _ _)) fun σ H Q q => ?_
    refine (lift.first (R := RD p) (k := fun env d m => Res.of (G.attr f' d) m) q).mono fun v H1 ⟨I1, A1, env, d, m1, M1, E1, r1, h7⟩ => ?_
    obtain ⟨d2, e2, h8⟩ := h7.of
    cases d with
    | exc c ds =>
      obtain ⟨xd, hx, hl⟩ := Option.bind_eq_some_iff.mp (show (G.xs[c]?).bind (fun xd => (xd.ns.zip ds).lookup f') = some d2 from e2)
      obtain ⟨Ca, b, k1, k2, k3, k6, k4, k5⟩ := (g.xs c xd hx).ex
      cases r1 with
      | exc0 z1 z2 => rw [List.zip_nil_right] at hl; cases hl
      | exc z1 z2 z3 z4 z5 =>
        rw [k1] at z1
        cases z1
        have key : ∀ {ns : List Str} {xs : List V} {ds : List D}, DRs p I1 A1 ds xs → (ns.zip ds).lookup f' = some d2 → ∃ v, (ns.zip xs).lookup f' = some v ∧ DR p I1 A1 d2 v ∧ f' ∈ ns := by
          intro ns
          induction ns with
          | nil => intro xs ds _ hl; cases hl
          | cons nm ns ih =>
            intro xs ds r hl
            cases r with
            | nil => cases hl
            | @cons d v ds vs r1 r2 =>
              have hl : ((nm, d) :: ns.zip ds).lookup f' = some d2 := hl
              show ∃ w, ((nm, v) :: ns.zip vs).lookup f' = some w ∧ DR p I1 A1 d2 w ∧ f' ∈ nm :: ns
              rw [List.lookup_cons] at hl ⊢
              cases hf : f' == nm with
              | true => rw [hf] at hl; cases hl; exact ⟨v, rfl, r1, by rw [beq_iff_eq.mp hf]; exact List.mem_cons_self⟩
              | false =>
                rw [hf] at hl
                obtain ⟨w, z1, z2, z3⟩ := ih r2 hl
                exact ⟨w, z1, z2, List.mem_cons_of_mem _ z3⟩
        obtain ⟨w, hw, rw', hmem⟩ := key z4 hl
        have hno := k6 f' hmem
        exact ⟨_, Ca, _, _, w, b, rfl, k3, hno, M1.sub _ _ z2, M1.sub _ _ z3, hw, h8.ok _ _ M1 rw'⟩
    | _ => cases e2
  · cases he
/-- what an exception's making lays -/
theorem exc_new {I H : Hp} {A : List Addr} {m : Mem} {c : Nat} {Ca a d : Addr} {f : Str} {x : D} {v : V} {Q : VK} {E : XK} (hc : p.exc c = some (Ca, [f])) (M : RepM p H I A m) (r : DR p I A x v) (ha : H a = none) (hd : H d = none) (hne : d ≠ a) (h : post (RD p) p H I A Q E (.ok (.exc c [x]) m)) :
    Q (.ref a) (upd (upd H d (.xd [(f, v)])) a (xv a Ca (some d))) := by
  have M1 := M.new (o := .xd [(f, v)]) hd
  have e1 := M.ext_new (o := .xd [(f, v)]) hd
  have ha1 : upd H d (.xd [(f, v)]) a = none := by rw [upd_ne (Ne.symm hne)]; exact ha
  have M2 := M1.new (o := xv a Ca (some d)) ha1
  have e2 := M1.ext_new (o := xv a Ca (some d)) ha1
  refine h (.ref a) _ _ A (e1.trans e2) M2 (.exc (xs := [v]) (ns := [f]) hc upd_same ?_ ((e1.trans e2).drs (.cons r .nil)) rfl)
  rw [upd_ne hne, upd_same]
  rfl
theorem snd_mkx (c : Nat) {a : C} (ha : Sound G N p fu F n a) : Sound G N p fu F n (.mkx c a) := by
  refine .kE (k := fun sc => kMkx sc G.xs[c]? (chk G N a sc).E) (fun _ => rfl) rfl fun {X sc W} g e he => ?_
  have fin : ∀ {f : Str} {Ca : Addr}, p.exc c = some (Ca, [f]) → ∀ σ H Q, liftE p W (sem fu F G (.mkx c a)).E σ H Q → tMk1 Ca f (liftE p W (sem fu F G a).E) σ H Q := fun {f Ca} hc σ H Q q => by
    refine (lift.first (R := RD p) (k := fun env d m => .ok (D.exc c [d]) m) q).mono fun v H1 ⟨I1, A1, env, d, m1, M1, E1, r1, h7⟩ => ?_
    exact fun a d ha hd hne => exc_new hc M1 r1 ha hd hne h7
  unfold kMkx at he
  split at he
  · rename_i x p0 b pos
    split at he
    · rename_i xd hx
      obtain ⟨h1, h6⟩ := band he
      obtain ⟨h1, h5⟩ := band h1
      obtain ⟨h1, h4⟩ := band h1
      obtain ⟨h1, h3⟩ := band h1
      obtain ⟨h1, h2⟩ := band h1
      have e1 := of_decide_eq_true h1
      have hl := of_decide_eq_true h5
      obtain ⟨f, hf⟩ := List.length_eq_one_iff.mp hl
      obtain ⟨Ca, bs, k1, k2, k3, k6, k4, k5⟩ := (g.xs c xd hx).ex
      obtain ⟨fI, fd, k7⟩ := k4 f hf
      rw [e1] at k2
      rw [hf] at k1
      exact PE.imp (pe_mk1 k7 (g.room.mono (by omega)) (g.gl h2) k2 (ha.E g b h6) (okN1 h3).1 (star_cons h4)) (fin k1)
    · cases he
  · rename_i x p0 f b p1 pos
    split at he
    · rename_i xd hx
      obtain ⟨h1, h5⟩ := band he
      obtain ⟨h1, h4⟩ := band h1
      obtain ⟨h1, h3⟩ := band h1
      obtain ⟨h1, h2⟩ := band h1
      have e1 := of_decide_eq_true h1
      obtain ⟨f', ef, hf⟩ := Option.map_eq_some_iff.mp (of_decide_eq_true h4)
      subst ef
      obtain ⟨Ca, bs, k1, k2, k3, k6, k4, k5⟩ := (g.xs c xd hx).ex
      obtain ⟨fI, fd, k7⟩ := k4 f' hf.symm
      rw [e1] at k2
      rw [← hf] at k1
      exact PE.imp (pe_mk1K k7 (g.room.mono (by omega)) (g.gl h2) k2 (ha.E g b h5) (okN1 h3).1) (fin k1)
    · cases he
  · cases he
theorem snd_mkx0 (c : Nat) : Sound G N p fu F n (.mkx0 c) := by
  refine .kE (k := fun sc => kMkx0 sc G.xs[c]?) (fun _ => rfl) rfl fun {X sc W} g e he => ?_
  unfold kMkx0 at he
  split at he
  · rename_i x p0 pos
    split at he
    · rename_i xd hx
      obtain ⟨h1, h4⟩ := band he
      obtain ⟨h1, h3⟩ := band h1
      obtain ⟨h1, h2⟩ := band h1
      have e1 := of_decide_eq_true h1
      have hf := of_decide_eq_true h4
      obtain ⟨Ca, bs, k1, k2, k3, _, k4, k5⟩ := (g.xs c xd hx).ex
      rw [e1] at k2
      rw [hf] at k1
      have k6 := k5 hf
      refine PE.imp (pe_mk0 k6 k3.kC (g.gl h2) k2 (okN1 h3).1) fun σ H Q ⟨I, A, env, m, M, E, q⟩ => ?_
      intro a ha
      exact q.okN M ha (.exc0 k1 upd_same)
    · cases he
  · cases he
theorem snd_dic0 : Sound G N p fu F n .dic0 := by
  refine .kE (k := fun _ => kDic0) (fun _ => rfl) rfl fun {X sc W} g e he => ?_
  unfold kDic0 at he
  split at he
  · refine PE.imp pe_dnewK fun σ H Q ⟨I, A, env, m, M, E, q⟩ => ?_
    intro a ha
    exact q.okN M ha (.dic (ks := []) (xs := []) upd_same .nil rfl)
  · cases he
theorem snd_dic1 (x : Str) {a : C} (ha : Sound G N p fu F n a) : Sound G N p fu F n (.dic1 x a) := by
  refine .kE (k := fun sc => kDic1 x (chk G N a sc).E) (fun _ => rfl) rfl fun {X sc W} g e he => ?_
  unfold kDic1 at he
  split at he
  · rename_i y j p0 b pos
    obtain ⟨h1, h2⟩ := band he
    have e1 := of_decide_eq_true h1
    subst e1
    refine PE.imp (pe_disp (pps_cons pe_str (ha.E g b h2) pps_nil) rfl rfl (by simp) (by simp)) fun σ H Q ⟨I, A, env, m, M, Er, q⟩ => ?_
    intro l hl
    obtain ⟨n1, n2⟩ := M.free hl
    refine ⟨I, A, env, m, M.upd_free n1 n2, Er, ?_⟩
    have q : post (RD p) p H I A Q (fun c d H' => W c d σ H') (((sem fu F G a).E env m).bind fun d m => .ok (.dic [x] [d]) m) := q
    have e0 : Ext H I A (upd H l (.dK [])) I A := Ext.upd_free .refl hl
    cases qa : (sem fu F G a).E env m with
    | bad => rw [qa] at q; exact q
    | err ex m1 =>
      rw [qa] at q
      exact fun c dx H1 I1 A1 e1 M1 r1 => q c dx H1 I1 A1 (e0.trans e1) M1 r1
    | ok d m1 =>
      rw [qa] at q
      intro v H1 I1 A1 e1 M1 r1
      have hl1 : upd H l (.dK []) l = some (.dK []) := upd_same
      have hH1 : H1 l = some (.dK []) := e1.keep _ _ hl1 n2
      have hA1 : l ∉ A1 := e1.notin hl1 n2
      have hI1 : I1 l = none := by
        cases z : I1 l with
        | none => rfl
        | some o => rw [e1.same _ _ _ hl1 z] at n1; cases n1
      refine ⟨hH1, [(Sum.inr x, v)], rfl, by simp, ?_⟩
      have M2 := M1.upd_free (o := .dK [(Sum.inr x, v)]) hI1 hA1
      have M3 := M2.freeze upd_same hI1 hA1
      have e2 := (Ext.upd_free (o := .dK [(Sum.inr x, v)]) (e0.trans e1) hl).freeze (o := .dK [(Sum.inr x, v)]) hl hI1
      refine q (.ref l) _ _ A1 e2 M3 (.dic (ks := [x]) (xs := [v]) upd_same (.cons (r1.mono (fun b u hb => ?_) fun _ _ z => z) .nil) rfl)
      rw [upd_ne (ne_of_none hb hI1)]; exact hb
  · cases he
/-! ### statements -/
theorem snd_sRet {a : C} (ha : Sound G N p fu F n a) : Sound G N p fu F n (.sRet a) where
  S := fun {X sc W} g st h => by
    cases st with
    | Return o pos =>
      cases o with
      | none => cases h
      | some e => exact PS.imp (ps_ret (ha.E g.toGood e h)) fun D σ H q => lift_ret q
    | _ => cases h
theorem snd_sRetN : Sound G N p fu F n .sRetN where
  S := fun {X sc W} g st h => by
    cases st with
    | Return o pos =>
      cases o with
      | some e => cases h
      | none => exact PS.imp ps_retN fun D σ H ⟨I, A, env, m, M, E, hp⟩ => hp .non H I A .refl M .non
    | _ => cases h
theorem snd_sExpr {a : C} (ha : Sound G N p fu F n a) : Sound G N p fu F n (.sExpr a) where
  S := fun {X sc W} g st h => by
    cases st with
    | Expr e pos =>
      obtain ⟨h1, h2⟩ := band h
      exact PS.imp (ps_expr (ha.E g.toGood e h2) (swaps_no h1 _ _ _)) fun D σ H q => lift_exprS q
    | _ => cases h
theorem snd_sPass : Sound G N p fu F n .sPass where
  S := fun {X sc W} g st h => by
    cases st with
    | Pass pos => exact PS.imp ps_pass fun D σ H q => lift_nx q
    | _ => cases h
theorem snd_sNever : Sound G N p fu F n .sNever where
  S := fun {X sc W} g st h => PS.imp ps_never fun D σ H ⟨I, A, env, m, M, E, hp⟩ => hp
theorem snd_sSet {tg a : C} (ht : Sound G N p fu F n tg) (ha : Sound G N p fu F n a) : Sound G N p fu F n (.sSet tg a) where
  S := fun {X sc W} g st h => by
    have h : kSet (chk G N tg sc).G (chk G N a sc).E st = true := h
    unfold kSet at h
    split at h
    · rename_i t e pos _
      obtain ⟨h1, h4⟩ := band h
      obtain ⟨h1, h3⟩ := band h1
      obtain ⟨h1, h2⟩ := band h1
      have hn : (noTup t = true ∨ noTup e = true) ∧ (∀ ts p, t ≠ .List ts p) ∧ plainE t = true := by
        cases t with
        | Tuple ts k p => exact ⟨.inr h1, fun _ _ z => (by cases z), rfl⟩
        | Name x p => exact ⟨.inl rfl, fun _ _ z => (by cases z), rfl⟩
        | _ => cases h1
      exact PS.imp (ps_asg (ha.E g.toGood e h4) (ht.Tg g.toGood t h3) (swaps_no h2 _ _ _) (swapped_no hn.1 hn.2.1 _) (by rw [asg_cons hn.2.2]; rfl)) fun D σ H q => lift_set q
    · cases h
theorem snd_sSetC (i : Nat) (cell : Bool) {c : C} (hc : Sound G N p fu F n c) : Sound G N p fu F n (.sSetC i cell c) where
  S := fun {X sc W} g st h => by
    have h : kSetC N sc i (chk G N c sc).F st = true := h
    unfold kSetC at h
    split at h
    · rename_i y py e pos _
      obtain ⟨h1, h4⟩ := band h
      obtain ⟨h1, h3⟩ := band h1
      obtain ⟨h1, h2⟩ := band h1
      have hy : X.N[i]? = some y := by rw [g.N]; exact of_decide_eq_true h2
      obtain ⟨l1, l2⟩ := g.loc h3
      have fin : ∀ {D σ H}, liftS p W (setS (fun d env => some (env.set i (some d))) (if cell = true then mkE (sem fu F G c).F else frz (sem fu F G c).F)) D σ H → tAsg (liftF p W (sem fu F G c).F) (gName i) D σ H := fun {D σ H} q => by
        have q := lift_set (slots := [i]) q
        cases cell with
        | true => exact liftE_mk (lift.mono q fun v H' z => liftG_name z)
        | false => exact liftE_frz (lift.mono q fun v H' z => liftG_name z)
      have hsw : ∃ b, swapsWith e (some (.Name y py)) pos.line X.env = pure b ∧ (b = true → X.env.scope.names.lookup y = some .local) := by
        cases e with
        | ListComp e0 gs s p1 =>
          refine ⟨_, rfl, fun hb => ?_⟩
          simp only [Bool.and_eq_true] at hb
          have hb := hb.1.1.2
          simpa [Env.kindOf] using hb
        | _ => cases h1
      obtain ⟨b, hb, hl⟩ := hsw
      cases b with
      | true => exact PS.imp (hc.Sw g.toGood e h4 h1 i y py pos hb hy (hl rfl)) fun D σ H q => fin q
      | false =>
        exact PS.imp (ps_asg (hc.Fr g.toGood e h4) (pg_name g.nd hy l1 l2) hb rfl rfl) fun D σ H q => fin q
    · cases h
theorem snd_sIf {t a b : C} (ht : Sound G N p fu F n t) (ha : Sound G N p fu F n a) (hb : Sound G N p fu F n b) : Sound G N p fu F n (.sIf t a b) where
  S := fun {X sc W} g st h => by
    cases st with
    | If c x y pos =>
      have h : ((chk G N t sc).T c && (chk G N a sc).B x && (chk G N b sc).B y) = true := h
      obtain ⟨h1, h3⟩ := band h
      obtain ⟨h1, h2⟩ := band h1
      exact PS.imp (ps_if (ht.T g.toGood c h1) (ha.B g x h2) (hb.B g y h3)) fun D σ H q => lift_if q
    | _ => cases h
theorem snd_sFor {tg it b : C} (ht : Sound G N p fu F n tg) (hi : Sound G N p fu F n it) (hb : Sound G N p fu F n b) : Sound G N p fu F n (.sFor tg it b) where
  S := fun {X sc W} g st h => by
    unfold chk at h
    dsimp only at h
    split at h
    · rename_i t i x pos
      obtain ⟨h1, h4⟩ := band h
      obtain ⟨h1, h3⟩ := band h1
      obtain ⟨h1, h2⟩ := band h1
      exact PS.imp (ps_for g.po g.calm (hi.I g.toGood t i h3) (ht.Tg g.toGood t h1) (hb.B g x h4) (folded_no h2 _)) fun D σ H q => lift_for q
    · cases h
theorem snd_sWhile {t b : C} (ht : Sound G N p fu F n t) (hb : Sound G N p fu F n b) : Sound G N p fu F n (.sWhile t b) where
  S := fun {X sc W} g st h => by
    unfold chk at h
    dsimp only at h
    split at h
    · rename_i c x pos
      obtain ⟨h1, h2⟩ := band h
      exact PS.imp (ps_while g.po (ht.T g.toGood c h1) (hb.B g x h2)) fun D σ H q => lift_while q
    · cases h
/-! ### o[i] = e -/
theorem setIx_ok {I H : Hp} {A : List Addr} {m m' : Mem} {x j d : D} {ov iv v : V} (M : RepM p H I A m) (rx : DR p I A x ov) (rj : DR p I A j iv) (rd : DR p I A d v) (e : setIx m x j d = some m') :
    ∃ (a : Addr) (xs : List V) (k : Int) (i : Nat), ov = .ref a ∧ iv = .int k ∧ H a = some (.lst xs) ∧ ixN xs.length k = some i ∧ RepM p (upd H a (.lst (xs.set i v))) I A m' ∧ Ext H I A (upd H a (.lst (xs.set i v))) I A := by
  unfold setIx at e
  split at e
  · rename_i n k
    split at e
    · rename_i ds hn
      obtain ⟨i, hi, rfl⟩ := Option.map_eq_some_iff.mp e
      cases rj.int_inv
      cases rx with
      | @cell _ a ha =>
        obtain ⟨hIa, xs, h1, h2⟩ := M.cell n _ a hn ha
        rw [h2.length] at hi
        have ham : a ∈ A := List.mem_of_getElem? ha
        refine ⟨a, xs, k, i, rfl, rfl, h1, hi, ⟨fun b o hb => ?_, M.nd, ?_, fun n' c b hc hb => ?_⟩, ⟨fun _ _ z => z, fun b o z hb => ?_, fun b o z => ?_, fun b o o' _ z => z, [], by simp, fun _ h => nomatch h⟩⟩
        · rw [upd_ne (ne_of_none hb hIa)]; exact M.sub b o hb
        · rw [List.length_set]; exact M.len
        · by_cases hbn : n' = n
          · subst hbn
            rw [ha] at hb
            cases hb
            rw [List.getElem?_set_self (List.getElem?_eq_some_iff.mp hn).1] at hc
            cases hc
            exact ⟨hIa, _, upd_same, h2.set i rd⟩
          · rw [List.getElem?_set_ne (Ne.symm hbn)] at hc
            obtain ⟨h3, h4⟩ := M.cell n' c b hc hb
            have hne : b ≠ a := fun z => by
              subst z
              have l1 := (List.getElem?_eq_some_iff.mp hb).1
              have l2 := (List.getElem?_eq_some_iff.mp ha).1
              have g1 : A[n'] = b := by have := hb; rw [List.getElem?_eq_getElem l1] at this; exact Option.some.inj this
              have g2 : A[n] = b := by have := ha; rw [List.getElem?_eq_getElem l2] at this; exact Option.some.inj this
              exact hbn ((List.getElem_inj M.nd).mp (g1.trans g2.symm))
            exact ⟨h3, h4.keep (fun _ _ z => z) (fun _ _ z => z) (upd_ne hne)⟩
        · have : b ≠ a := fun e => hb (e ▸ ham)
          rw [upd_ne this]; exact z
        · by_cases hb : b = a
          · rw [hb, upd_same]; exact ⟨_, rfl⟩
          · rw [upd_ne hb]; exact ⟨o, z⟩
    · cases e
  · cases e
section
variable {W : WX} {σ : St} {H I : Hp} {A : List Addr} {m : Mem} {env : Env} {Dn : Ends}
theorem expr_at {fa : SE} {k : D → Mem → Fl} (M : RepM p H I A m) (Er : RepE p σ I A env) (h : postS p H I A Dn W ((fa env m).fl env k)) :
    liftE p W fa σ H fun v H1 => ∃ I1 A1 d m1, Ext H I A H1 I1 A1 ∧ RepM p H1 I1 A1 m1 ∧ RepE p σ I1 A1 env ∧ DR p I1 A1 d v ∧ postS p H1 I1 A1 Dn W (k d m1) := by
  refine ⟨I, A, env, m, M, Er, ?_⟩
  cases q : fa env m with
  | ok d m1 =>
    rw [q] at h
    intro v H1 I1 A1 e M1 r
    exact ⟨I1, A1, d, m1, e, M1, Er.ext e, r, postS.ext (f := k d m1) h e⟩
  | err x m1 =>
    rw [q] at h
    intro c dx H1 I1 A1 e M1 r
    exact h c dx σ H1 I1 A1 e M1 (Er.ext e) r
  | bad => rw [q] at h; exact h
theorem lift_ix {fo fi fe : SE} (h : liftS p W (ixS fo fi fe) Dn σ H) : tAsg (liftE p W fe) (gSub (liftE p W fo) (liftE p W fi) rSetL) Dn σ H := by
  obtain ⟨I, A, env, m, M, Er, hp⟩ := h
  refine (expr_at M Er hp).mono fun v H1 ⟨I1, A1, d, m1, e1, M1, E1, r1, h1⟩ => ?_
  refine (expr_at M1 E1 h1).mono fun ov H2 ⟨I2, A2, x, m2, e2, M2, E2, r2, h2⟩ => ?_
  refine (expr_at M2 E2 h2).mono fun iv H3 ⟨I3, A3, j, m3, e3, M3, E3, r3, h3⟩ => ?_
  cases q : setIx m3 x j d with
  | none => rw [q] at h3; exact False.elim h3
  | some m4 =>
    rw [q] at h3
    obtain ⟨a, xs, k, i, rfl, rfl, hx, hi, M4, e4⟩ := setIx_ok M3 (e3.dr r2) r3 (e3.dr (e2.dr r1)) q
    exact ⟨a, xs, k, i, rfl, rfl, hx, hi, h3 σ _ _ _ e4 M4 (E3.ext e4)⟩
theorem two_inv {d d1 d2 : D} (h : two d = some (d1, d2)) : d = .tup [d1, d2] := by
  unfold two at h
  split at h
  · cases h; rfl
  · cases h
theorem lift_ixN {fo fi fe : SE} {y : Nat} (h : liftS p W (ixNS fo fi fe y) Dn σ H) : tAsg (liftE p W fe) (gTup p.K 2 (gCons (gSub (liftE p W fo) (liftE p W fi) rSetL) (gCons (gName y) gNil))) Dn σ H := by
  obtain ⟨I, A, env, m, M, Er, hp⟩ := h
  refine (expr_at M Er hp).mono fun v H1 ⟨I1, A1, d, m1, e1, M1, E1, r1, h1⟩ => ?_
  cases q2 : two d with
  | none => rw [q2] at h1; exact False.elim h1
  | some w =>
    obtain ⟨d1, d2⟩ := w
    rw [q2] at h1
    have := two_inv q2
    subst this
    obtain ⟨a, ys, rfl, hI, hr⟩ := r1.tup_inv
    obtain ⟨v1, v2, rfl, rv1, rv2⟩ := hr.two
    refine ⟨a, _, rfl, tupI M1 hI, rfl, v1, [v2], rfl, ?_⟩
    refine (expr_at M1 E1 h1).mono fun ov H2 ⟨I2, A2, x, m2, e2, M2, E2, r2, h2⟩ => ?_
    refine (expr_at M2 E2 h2).mono fun iv H3 ⟨I3, A3, j, m3, e3, M3, E3, r3, h3⟩ => ?_
    cases q : setIx m3 x j d1 with
    | none => rw [q] at h3; exact False.elim h3
    | some m4 =>
      rw [q] at h3
      obtain ⟨a, xs, k, i, rfl, rfl, hx, hi, M4, e4⟩ := setIx_ok M3 (e3.dr r2) r3 (e3.dr (e2.dr rv1)) q
      refine ⟨a, xs, k, i, rfl, rfl, hx, hi, v2, [], rfl, rfl, ?_⟩
      exact h3 _ _ _ _ e4 M4 ((E3.ext e4).set (e4.dr (e3.dr (e2.dr rv2))))
end
theorem sub_asg {o i : Expr} {pos : Pos} (h : noSl i = true) (env : PySem.Env) (v : Value) : assign (.Subscript o i pos) env v = (do
      let ov ← holding [v] (eval o env)
      let iv ← holding [v, ov] (eval i env)
      standAt pos
      holding [v, ov, iv] (setItem ov iv v)
      release [v, ov, iv] []) := by
  cases i <;> first | rfl | cases h
theorem snd_sIx {o i e : C} (ho : Sound G N p fu F n o) (hi : Sound G N p fu F n i) (he : Sound G N p fu F n e) : Sound G N p fu F n (.sIx o i e) where
  S := fun {X sc W} g st h => by
    have h : kIx (chk G N o sc).E (chk G N i sc).E (chk G N e sc).E st = true := h
    unfold kIx at h
    split at h
    · rename_i o0 i0 p0 e0 pos _
      obtain ⟨h1, h5⟩ := band h
      obtain ⟨h1, h4⟩ := band h1
      obtain ⟨h1, h3⟩ := band h1
      obtain ⟨h1, h2⟩ := band h1
      exact PS.imp (ps_asg (he.E g.toGood e0 h5) (pg_sub (ho.E g.toGood o0 h3) (hi.E g.toGood i0 h4) set_list (sub_asg h1 _)) (by unfold swapsWithSole; exact swaps_no h2 _ _ _) (swapped_no (.inl rfl) (fun _ _ z => by cases z) _) rfl) fun D σ H q => lift_ix q
    · cases h
theorem snd_sIxN {o i e : C} (y : Nat) (ho : Sound G N p fu F n o) (hi : Sound G N p fu F n i) (he : Sound G N p fu F n e) : Sound G N p fu F n (.sIxN o i y e) where
  S := fun {X sc W} g st h => by
    have h : kIxN N sc y (chk G N o sc).E (chk G N i sc).E (chk G N e sc).E st = true := h
    unfold kIxN at h
    split at h
    · rename_i o0 i0 p0 z p1 k p2 e0 pos _
      obtain ⟨h1, h8⟩ := band h
      obtain ⟨h1, h7⟩ := band h1
      obtain ⟨h1, h6⟩ := band h1
      obtain ⟨h1, h5⟩ := band h1
      obtain ⟨h1, h4⟩ := band h1
      obtain ⟨h1, h3⟩ := band h1
      obtain ⟨h1, h2⟩ := band h1
      obtain ⟨l1, l2⟩ := g.loc h5
      have pgn := pg_name (pos := p1) g.nd (i := y) (x := z) (by rw [g.N]; exact of_decide_eq_true h4) l1 l2
      have pg := pg_tup (pos := p2) (k := k) (n := 2) g.calm (pgs_cons (pg_sub (ho.E g.toGood o0 h6) (hi.E g.toGood i0 h7) (pos := p0) set_list (sub_asg h1 _)) (pgs_cons pgn pgs_nil rfl) rfl) rfl rfl
      rw [g.K] at pg
      exact PS.imp (ps_asg (he.E g.toGood e0 h8) pg (by unfold swapsWithSole; exact swaps_no h2 _ _ _) (swapped_no (.inr h3) (fun _ _ z => by cases z) _) rfl) fun D σ H q => lift_ixN q
    · cases h
theorem sound : ∀ c : C, Sound G N p fu F n c
  | .var i => snd_var i
  | .kint i => snd_kint i
  | .kstr x => snd_kstr x
  | .kbl b => snd_kbl b
  | .knon => snd_knon
  | .gint x i => snd_gint x i
  | .gstr x z => snd_gstr x z
  | .p1 o a => snd_p1 o (sound a)
  | .p2 o a b => snd_p2 o (sound a) (sound b)
  | .cmp o a b => snd_cmp o (sound a) (sound b)
  | .chain o o' a b c => snd_chain o o' (sound a) (sound b) (sound c)
  | .sl a lo hi => snd_sl (sound a) (sound lo) (sound hi)
  | .and a b => snd_and (sound a) (sound b)
  | .or a b => snd_or (sound a) (sound b)
  | .one a => snd_one (sound a)
  | .not a => snd_not (sound a)
  | .ife t a b => snd_ife (sound t) (sound a) (sound b)
  | .tup l => snd_tup (sound l)
  | .lst l => snd_lst (sound l)
  | .nil => snd_nil
  | .cons a r => snd_cons (sound a) (sound r)
  | .mk a => snd_mk (sound a)
  | .call j l => snd_call j (sound l)
  | .comp own elt tg it cond => snd_comp own (sound elt) (sound tg) (sound it) (sound cond)
  | .tName i => snd_tName i
  | .tTup l => snd_tTup (sound l)
  | .iLst a => snd_iLst (sound a)
  | .iTup a => snd_iTup (sound a)
  | .iStr a => snd_iStr (sound a)
  | .iRange a => snd_iRange (sound a)
  | .iRange2 a b => snd_iRange2 (sound a) (sound b)
  | .sRet a => snd_sRet (sound a)
  | .sRetN => snd_sRetN
  | .sSet tg a => snd_sSet (sound tg) (sound a)
  | .sSetC i cell c => snd_sSetC i cell (sound c)
  | .sIf t a b => snd_sIf (sound t) (sound a) (sound b)
  | .sFor tg it b => snd_sFor (sound tg) (sound it) (sound b)
  | .sWhile t b => snd_sWhile (sound t) (sound b)
  | .sExpr a => snd_sExpr (sound a)
  | .m1 o a b => snd_m1 o (sound a) (sound b)
  | .isi a k => snd_isi k (sound a)
  | .attr a x => snd_attr x (sound a)
  | .mkx c a => snd_mkx c (sound a)
  | .mkx0 c => snd_mkx0 c
  | .dic0 => snd_dic0
  | .dic1 k a => snd_dic1 k (sound a)
  | .sIx o i e => snd_sIx (sound o) (sound i) (sound e)
  | .sIxN o i y e => snd_sIxN y (sound o) (sound i) (sound e)
  | .sPass => snd_sPass
  | .sNever => snd_sNever
end
end Zd


set_option Elab.async false
set_option linter.all false
set_option maxRecDepth 100000
set_option maxHeartbeats 4000000
namespace Zd
open PySem PySem.Spec PyProof.Rows L2 Zx

/-! ### the program's meaning -/
def outF : Fl → Res D
  | .nx _ m => .ok .non m
  | .ret d m => .ok d m
  | .err x _ m => .err x m
  | _ => .bad
def startE (N : List Str) (xs : List D) : Env := xs.map some ++ List.replicate (N.length - xs.length) none
def evalF (G : Gt) (fu : Nat) : Nat → Nat → List D → Mem → Res D
  | 0 => fun _ _ _ => .bad
  | n + 1 => fun j xs m => match G.fs[j]? with
    | none => .bad
    | some fd => outF ((sem fu (evalF G fu n) G fd.body).S (startE fd.N xs) m)

/-! ### each def keeps its promise -/
structure FdOk (G : Gt) (p : Par) (mg : Str → Option Value) (fd : FD) (f : Addr) (fdt : FuncData) : Prop where
  ex : ∃ x qual params body scope dvs kws, FunD p.K x qual params body scope dvs kws f fdt ∧ FnScope fd.N fd.ps scope ∧ (chk G fd.N fd.body scope).B body = true
  gl : fd.glob = true → mg fd.name = some (.ref f)
  kp : PySem.W.keepIn p.K (.ref f) = true
  bd : ∀ k, k ≤ fd.dfl.length → ∃ ds, Vals (fd.dvs.drop k) ds ∧ Binds p.K fdt fd.ps ds
structure XdOk (p : Par) (mg : Str → Option Value) (c : Nat) (xd : XD) : Prop where
  ex : ∃ Ca b, p.exc c = some (Ca, xd.ns) ∧ mg xd.name = some (.ref Ca) ∧ XCl p.K Ca b ∧ (∀ f, f ∈ xd.ns → PySem.W.findIn p.K (.ref Ca) f = some none) ∧
    (∀ f, xd.ns = [f] → PySem.W.takerIn p.K Ca f = some none ∧ ∃ fI fd x qual params body scope dvs kws, PySem.W.findIn p.K (.ref Ca) "__init__" = some (some (.ref fI)) ∧ PySem.W.typeIn p.K (.ref fI) = some (.type "function") ∧ FunD p.K x qual params body scope dvs kws fI fd ∧ initB f body scope = true ∧
      Binds p.K fd (psI f) [] ∧ ∀ (s : Shared) (a u : Value), p.K.In s.heap → BindsTo s fd ⟨[a], [(f, u)]⟩ ((psI f).zip [a, u])) ∧ (xd.ns = [] → PySem.W.excIn p.K Ca b.mro b.new = true)
structure ProgOk (G : Gt) (p : Par) (mg : Str → Option Value) : Prop where
  sm : SmOk p.K
  xs : ∀ (c : Nat) (xd : XD), G.xs[c]? = some xd → XdOk p mg c xd
  xa : ∀ c Ca ns, p.exc c = some (Ca, ns) → ExcC p.K Ca ∧ ∃ xd, G.xs[c]? = some xd
  kit : ∀ t k b, G.isT t k = some b → ∃ y tv cv u, G.tgs[k]? = some y ∧ p.tv t = some tv ∧ (ClsV cv u ∧ ((mg y = some u) ∨ (mg y = none ∧ ∃ n, bootBuiltins y = some (.type n) ∧ u = .type n ∧ cv = .ty n))) ∧ PySem.W.kitOne p.K tv u = some b
  free : ∀ x, x ∈ G.free → mg x = none
  gis : ∀ x i, G.gis.lookup x = some i → ∃ t, mg x = some (.int i t)
  gss : ∀ x z, G.gss.lookup x = some z → ∃ t, mg x = some (.str z t)
  fs : ∀ (j : Nat) (fd : FD), G.fs[j]? = some fd → ∃ f fdt, FdOk G p mg fd f fdt

section
variable {G : Gt} {p : Par} {fu n : Nat} {P : Program} {w : World} {mg : Str → Option Value} {base : Heap}
theorem startE_rep {I : Hp} {A : List Addr} {N : List Str} {ds : List D} {vs : List V} (r : DRs p I A ds vs) : RepE p (L2.start N vs) I A (startE N ds) := by
  refine ⟨?_, fun i d h => ?_⟩
  · unfold startE L2.start
    rw [List.length_append, List.length_append, List.length_map, List.length_map, List.length_replicate, List.length_replicate, r.length]
  · unfold startE at h
    unfold L2.start
    have hl := r.length
    by_cases hi : i < ds.length
    · rw [List.getElem?_append_left (by rw [List.length_map]; exact hi), List.getElem?_map] at h
      obtain ⟨d', e1, e2⟩ := Option.map_eq_some_iff.mp h
      cases e2
      obtain ⟨v, e3, e4⟩ := r.get e1
      refine ⟨v, ?_, e4⟩
      rw [List.getElem?_append_left (by rw [List.length_map, ← hl]; exact hi), List.getElem?_map, e3]
      rfl
    · rw [List.getElem?_append_right (by rw [List.length_map]; omega)] at h
      have := List.mem_of_getElem? h
      have := List.eq_of_mem_replicate this
      cases this
theorem out_post {I H : Hp} {A : List Addr} {Q : VK} {E : XK} {f : Fl} (h : post (RD p) p H I A Q E (outF f)) : postS p H I A { nx := fun _ H' => Q .non H', rt := Q } (fun c d _ H' => E c d H') f := by
  cases f with
  | nx env m => exact fun σ' H' I' A' e M _ => h .non H' I' A' e M .non
  | ret d m => exact fun v H' I' A' e M r => h v H' I' A' e M r
  | err x env m => exact fun c dx σ' H' I' A' e M _ r => h c dx H' I' A' e M r
  | _ => exact False.elim h
theorem fn_ok0 {f : Addr} {fdt : FuncData} {ps : List Str} {k : Nat} {sp : Sp} (h : ∀ vs H Q E, ¬ sp vs H Q E) : FnG P w p.K mg base (L2.CX P w) k f fdt ps sp :=
  ⟨fun vs H Q E q => absurd q (h _ _ _ _), fun A outer s H args us vs Q E _ _ _ _ _ q => absurd q (h _ _ _ _)⟩
theorem fns_ok (ok : ProgOk G p mg) : ∀ n j fd f fdt, G.fs[j]? = some fd → FdOk G p mg fd f fdt → FnG P w p.K mg base (L2.CX P w) (2 * n + 2) f fdt fd.ps (spOf p fd.ps.length (evalF G fu n j)) := by
  intro n
  induction n with
  | zero =>
    intro j fd f fdt hj _
    refine fn_ok0 fun vs H Q E q => ?_
    obtain ⟨_, I, A, ds, m, M, r, h⟩ := q
    exact h
  | succ n ih =>
    intro j fd f fdt hj F
    obtain ⟨x, qual, params, body, scope, dvs, kws, FD', S, hk⟩ := F.ex
    have FO : FnG P w p.K mg base (L2.CX P w) (2 * n + 3 + 1) f fdt fd.ps (spOf p fd.ps.length (evalF G fu (n + 1) j)) := by
      refine FD'.okG S (fun vs H Q E q => q.1) fun cdv A outer s H vs Q E hr hgd q => ?_
      obtain ⟨hl, I, Ad, ds, m, M, r, hp⟩ := q
      have e : evalF G fu (n + 1) j ds m = outF ((sem fu (evalF G fu n) G fd.body).S (startE fd.N ds) m) := by
        show (match G.fs[j]? with
          | none => Res.bad
          | some fd => outF ((sem fu (evalF G fu n) G fd.body).S (startE fd.N ds) m)) = _
        rw [hj]
      rw [e] at hp
      have tk : Takes (cxOf (L2.CX P w) P w p.K mg base fd.N qual scope f cdv A outer s H E) (fun c d _ H' => E c d H') := takes_of rfl rfl rfl rfl
      have g : GoodS G fd.N p (evalF G fu n) n (cxOf (L2.CX P w) P w p.K mg base fd.N qual scope f cdv A outer s H E) scope (fun c d _ H' => E c d H') := {
        K := rfl, N := rfl, nd := S.nd, calm := rfl, room := hr, gd := hgd, sm := ok.sm, knd := S.kind
        lcl := fun x e => e, cel := fun x e => e, fre := fun x e => .inr e, glb := fun x e => e, fnc := fun x e => rfl
        free := ok.free, gis := ok.gis, gss := ok.gss
        fn := fun j' fd' e => by
          obtain ⟨f', fdt', F'⟩ := ok.fs j' fd' e
          exact ⟨f', fdt', F'.gl, F'.kp, F'.bd, ih j' fd' f' fdt' e F'⟩
        xs := fun c xd e => by
          obtain ⟨Ca, b, h1, h2, h3, h4, h5, h6⟩ := (ok.xs c xd e).ex
          refine ⟨Ca, b, h1, h2, h3, h4, fun f ef => ?_, h6⟩
          obtain ⟨k1, fI, fd', x', qual', params', body', scope', dvs', kws', k2, k3, k4, k5, k6, k7⟩ := h5 f ef
          exact ⟨fI, fd', h3, k1, k2, k3, init_ok k4 k5, k6, k7⟩
        xa := ok.xa, kit := ok.kit
        tk := tk, po := passes_of rfl }
      exact ⟨_, (sound fd.body).B g body hk, I, Ad, startE fd.N ds, m, M, startE_rep r, out_post hp⟩
    exact FO
end
end Zd


set_option Elab.async false
set_option linter.all false
set_option maxRecDepth 100000
set_option maxHeartbeats 4000000
namespace Zd
open PySem PySem.Spec PyProof.Rows L2 Zx

/-! ### the Hook: any look at the written part -/
def asX (g : Addr → Option Obj) (n : Nat) : List Addr := He.asD g n ++ [sysModules]
def obsX (ck : PySem.W.Frag → Bool) (fn : List He.DefD) (K : PySem.W.Frag) : He.AlD := (ck K && fn.all fun d => d.ok K, fn.map fun d => He.fnW K d.at_)
def SaysX (ck : PySem.W.Frag → Bool) (fn : List He.DefD) (K : PySem.W.Frag) : Prop := obsX ck fn K = He.valD fn
def obsXG (n : Nat) (ck : PySem.W.Frag → Bool) (fn : List He.DefD) (g : Addr → Option Obj) : He.AlD := obsX ck fn (He.frG g (asX g n))
def hookX (n : Nat) (ck : PySem.W.Frag → Bool) (fn : List He.DefD) : PySem.W.Hook where
  α := He.AlD
  obs := fun s => obsXG n ck fn s.heap.get?
  val := fun _ => He.valD fn
  says := fun _ h => ∃ K : PySem.W.Frag, K.In h ∧ SaysX ck fn K
  of := fun _ _ e => ⟨_, He.frG_in, e⟩
  keeps := fun _ _ _ ⟨K, hK, c⟩ k => ⟨K, PySem.W.Frag.In.keeps hK k, c⟩
theorem obsXG_eq {n : Nat} {ck : PySem.W.Frag → Bool} {fn : List He.DefD} {g : Addr → Option Obj} {s : Shared} (h : ∀ a, g a = s.heap.get? a) : obsXG n ck fn g = (hookX n ck fn).obs s := by
  have e : g = s.heap.get? := funext h
  rw [e] <;> rfl
section
variable {ck : PySem.W.Frag → Bool} {fn : List He.DefD} {K : PySem.W.Frag}
theorem SaysX.ck_ (c : SaysX ck fn K) : ck K = true := (He.ba (show (ck K && fn.all fun d => d.ok K) = true from congrArg (fun z : He.AlD => z.1) c)).1
theorem SaysX.def_ (c : SaysX ck fn K) (i : Nat) {d : He.DefD} (h : fn[i]? = some d) : ∃ fd, FunD K d.name d.qual d.params d.body d.scope (d.dvs K) (d.kws K) (He.fAd K d.at_) fd := by
  have c2 := (He.ba (show (ck K && fn.all fun d => d.ok K) = true from congrArg (fun z : He.AlD => z.1) c)).2
  have e : fn.map (fun d => He.fnW K d.at_) = fn.map He.DefD.val := congrArg (fun z : He.AlD => z.2) c
  have e2 : (fn.map fun d => He.fnW K d.at_)[i]? = (fn.map He.DefD.val)[i]? := by rw [e]
  rw [List.getElem?_map, List.getElem?_map, h] at e2
  exact He.DefD.funD (Option.some.inj e2) (List.all_eq_true.mp c2 d (List.mem_of_getElem? h))
end

/-! ### what is looked at -/
def tgV (K : PySem.W.Frag) (y : Str) : Option (V × Value) := match PySem.W.nsIn K mainGlobals y with
  | some (some (.ref a)) => some (.ref a, .ref a)
  | some none => (match bootBuiltins y with
    | some (.type n) => some (.ty n, .type n)
    | _ => none)
  | _ => none
def parOf (G : Gt) (K : PySem.W.Frag) : Par := { K := K, cls := fun _ => none, exc := fun c => (G.xs[c]?).map fun xd => (He.ga K xd.name, xd.ns) }
def noneB (a : Option (Option Value)) : Bool := decide (a = some none)
def xdB (K : PySem.W.Frag) (xd : XD) (b : Bs) : Bool :=
  optV (PySem.W.nsIn K mainGlobals xd.name) (.ref (He.ga K xd.name)) && xclB K (He.ga K xd.name) b && (xd.ns.all fun f => noneB (PySem.W.findIn K (.ref (He.ga K xd.name)) f) && decide (PySem.W.takerIn K (He.ga K xd.name) f = some none)) &&
  (match xd.ns with
    | [] => PySem.W.excIn K (He.ga K xd.name) b.mro b.new
    | _ => optV (PySem.W.findIn K (.ref (He.ga K xd.name)) "__init__") (.ref (He.ma K (He.ga K xd.name) "__init__")) && decide (PySem.W.typeIn K (.ref (He.ma K (He.ga K xd.name) "__init__")) = some (.type "function")))
def xdsB (K : PySem.W.Frag) : List XD → List Bs → Bool
  | [], _ => true
  | xd :: xs, b :: bs => xdB K xd b && xdsB K xs bs
  | _, _ => false
def kitsB (G : Gt) (K : PySem.W.Frag) : Bool := G.tys.all fun q => (List.range G.tgs.length).all fun k => match G.tgs[k]?, (parOf G K).tv q.1 with
  | some y, some tv => (match tgV K y with
    | some (_, u) => decide (PySem.W.kitOne K tv u = some (decide (k ∈ q.2)))
    | none => false)
  | _, _ => false
def smB (K : PySem.W.Frag) : Bool := match K.lookup sysModules with
  | some o => decide (o.cls = .type "dict")
  | none => false
def progB (G : Gt) (bs : List Bs) (K : PySem.W.Frag) : Bool :=
  smB K && (G.free.all fun x => noneB (PySem.W.nsIn K mainGlobals x)) && (G.gis.all fun q => (He.Fa.int q.1 q.2).ok K) && (G.gss.all fun q => (He.Fa.str q.1 q.2).ok K) && (G.fs.all fun fd => !fd.glob || optV (PySem.W.nsIn K mainGlobals fd.name) (.ref (He.ga K fd.name))) &&
  xdsB K G.xs bs && kitsB G K
theorem mem_lookup {α : Type} {x : Str} {v : α} : ∀ {l : List (Str × α)}, l.lookup x = some v → (x, v) ∈ l
  | [], h => by cases h
  | (y, u) :: r, h => by
    rw [List.lookup_cons] at h
    cases e : x == y with
    | true => rw [e] at h; cases h; rw [beq_iff_eq.mp e]; exact List.mem_cons_self
    | false => rw [e] at h; exact List.mem_cons_of_mem _ (mem_lookup h)
theorem mem_lookupN {α : Type} {x : Nat} {v : α} : ∀ {l : List (Nat × α)}, l.lookup x = some v → (x, v) ∈ l
  | [], h => by cases h
  | (y, u) :: r, h => by
    rw [List.lookup_cons] at h
    cases e : x == y with
    | true => rw [e] at h; cases h; rw [beq_iff_eq.mp e]; exact List.mem_cons_self
    | false => rw [e] at h; exact List.mem_cons_of_mem _ (mem_lookupN h)
theorem xds_at {K : PySem.W.Frag} : ∀ {xs : List XD} {bs : List Bs} {c : Nat} {xd : XD}, xdsB K xs bs = true → xs[c]? = some xd → ∃ b, xdB K xd b = true
  | [], _, _, _, _, h => by simp at h
  | x :: xs, [], _, _, h, _ => by cases h
  | x :: xs, b :: bs, 0, xd, h, e => by
    simp at e
    subst e
    exact ⟨b, (band h).1⟩
  | x :: xs, b :: bs, c + 1, xd, h, e => xds_at (band h).2 (by simpa using e)
section
variable {G : Gt} {bs : List Bs} {K : PySem.W.Frag} {h : Heap} {mg : Str → Option Value}
/-- the text's facts from the look -/
theorem prog_ok (ck : progB G bs K = true) (X : K.In h) (N : h.Ns mainGlobals mg)
    (hfs : ∀ (j : Nat) (fd : FD), G.fs[j]? = some fd → (fd.glob = true → mg fd.name = some (.ref (He.ga K fd.name))) → ∃ f fdt, FdOk G (parOf G K) mg fd f fdt)
    (hxs : ∀ (c : Nat) (xd : XD) (f : Str), G.xs[c]? = some xd → xd.ns = [f] → ∃ fd x qual params body scope dvs kws, FunD K x qual params body scope dvs kws (He.ma K (He.ga K xd.name) "__init__") fd ∧ initB f body scope = true ∧
      Binds K fd (psI f) [] ∧ ∀ (s : Shared) (a u : Value), K.In s.heap → BindsTo s fd ⟨[a], [(f, u)]⟩ ((psI f).zip [a, u])) : ProgOk G (parOf G K) mg := by
  unfold progB at ck
  obtain ⟨ck, c7⟩ := band ck
  obtain ⟨ck, c6⟩ := band ck
  obtain ⟨ck, c5⟩ := band ck
  obtain ⟨ck, c4⟩ := band ck
  obtain ⟨ck, c3⟩ := band ck
  obtain ⟨c1, c2⟩ := band ck
  have nsN : ∀ {x : Str}, noneB (PySem.W.nsIn K mainGlobals x) = true → mg x = none := fun e => PySem.W.mg_none_of X N (of_decide_eq_true e)
  have nsS : ∀ {x : Str} {v : Value}, optV (PySem.W.nsIn K mainGlobals x) v = true → mg x = some v := fun e => PySem.W.mg_of X N (of_decide_eq_true e)
  have hxd : ∀ (c : Nat) (xd : XD), G.xs[c]? = some xd → ∃ b, mg xd.name = some (.ref (He.ga K xd.name)) ∧ XCl K (He.ga K xd.name) b ∧ (∀ f, f ∈ xd.ns → PySem.W.findIn K (.ref (He.ga K xd.name)) f = some none ∧ PySem.W.takerIn K (He.ga K xd.name) f = some none) ∧
      (match xd.ns with
        | [] => PySem.W.excIn K (He.ga K xd.name) b.mro b.new
        | _ => optV (PySem.W.findIn K (.ref (He.ga K xd.name)) "__init__") (.ref (He.ma K (He.ga K xd.name) "__init__")) && decide (PySem.W.typeIn K (.ref (He.ma K (He.ga K xd.name) "__init__")) = some (.type "function"))) = true := fun c xd hc => by
    obtain ⟨b, hb⟩ := xds_at c6 hc
    unfold xdB at hb
    obtain ⟨hb, h4⟩ := band hb
    obtain ⟨hb, h3⟩ := band hb
    obtain ⟨h1, h2⟩ := band hb
    refine ⟨b, nsS h1, xclB_ok h2, fun f hf => ?_, h4⟩
    obtain ⟨k1, k2⟩ := band (List.all_eq_true.mp h3 f hf)
    exact ⟨of_decide_eq_true k1, of_decide_eq_true k2⟩
  refine ⟨?_, fun c xd hc => ?_, fun c Ca ns hc => ?_, fun t k b hb => ?_, fun x hx => nsN (List.all_eq_true.mp c2 x hx), fun x i hi => He.int_ok X N (List.all_eq_true.mp c3 _ (mem_lookup hi)), fun x z hz => He.str_ok X N (List.all_eq_true.mp c4 _ (mem_lookup hz)), fun j fd hj => hfs j fd hj fun hg => ?_⟩
  · unfold smB at c1
    split at c1
    · rename_i o ho
      refine ⟨o, ho, fun e => ?_⟩
      have := of_decide_eq_true c1
      rw [this] at e
      exact absurd (Value.type.inj e) (by decide)
    · cases c1
  · obtain ⟨b, h1, h2, h3, h4⟩ := hxd c xd hc
    refine ⟨He.ga K xd.name, b, ?_, h1, h2, fun f hf => (h3 f hf).1, fun f hf => ?_, fun hn => ?_⟩
    · show (G.xs[c]?).map _ = _
      rw [hc]; rfl
    · rw [hf] at h4
      obtain ⟨k1, k2⟩ := band h4
      obtain ⟨fd, x, qual, params, body, scope, dvs, kws, q1, q2, q3, q4⟩ := hxs c xd f hc hf
      exact ⟨(h3 f (by rw [hf]; exact List.mem_cons_self)).2, _, fd, x, qual, params, body, scope, dvs, kws, of_decide_eq_true k1, of_decide_eq_true k2, q1, q2, q3, q4⟩
    · rw [hn] at h4
      exact h4
  · obtain ⟨xd, e1, e2⟩ := Option.map_eq_some_iff.mp (show (G.xs[c]?).map (fun xd => (He.ga K xd.name, xd.ns)) = some (Ca, ns) from hc)
    cases e2
    obtain ⟨b, h1, h2, _⟩ := hxd c xd e1
    exact ⟨h2.toExcC, xd, e1⟩
  · unfold Gt.isT at hb
    obtain ⟨anc, e1, e2⟩ := Option.bind_eq_some_iff.mp hb
    split at e2
    · rename_i hlt
      cases e2
      have k1 := List.all_eq_true.mp c7 _ (mem_lookupN e1)
      have k2 := List.all_eq_true.mp k1 k (List.mem_range.mpr hlt)
      split at k2
      · rename_i y tv hy ht
        split at k2
        · rename_i cv u hu
          refine ⟨y, tv, cv, u, hy, ht, ?_, of_decide_eq_true k2⟩
          unfold tgV at hu
          split at hu
          · rename_i a ha
            cases hu
            exact ⟨.own a, .inl (PySem.W.mg_of X N ha)⟩
          · rename_i hn
            split at hu
            · rename_i nn hnn
              cases hu
              exact ⟨.ty nn, .inr ⟨PySem.W.mg_none_of X N hn, nn, hnn, rfl, rfl⟩⟩
            · cases hu
          · cases hu
        · cases k2
      · cases k2
    · cases e2
  · have k1 := List.all_eq_true.mp c5 fd (List.mem_of_getElem? hj)
    rw [hg] at k1
    exact nsS k1
end
/-! ### a def's static look -/
def scB (N ps : List Str) (sc : Scope) : Bool := (match sc.kind with | .function => true | _ => false) && !sc.isCoroutine && !sc.isGenerator && decide N.Nodup && decide (N.take ps.length = ps) &&
  (ps.all fun x => match sc.names.lookup x with | some .local => true | some .cell => true | _ => false) && (sc.names.all fun y => match y.2 with | .free => false | _ => true)
theorem scB_ok {N ps : List Str} {sc : Scope} (h : scB N ps sc = true) : FnScope N ps sc := by
  unfold scB at h
  simp only [Bool.and_eq_true, decide_eq_true_eq, Bool.not_eq_true'] at h
  obtain ⟨⟨⟨⟨⟨⟨h1, h2⟩, h3⟩, h4⟩, h5⟩, h6⟩, h7⟩ := h
  refine ⟨?_, h2, h3, h4, h5, fun x hx => ?_, fun y hy e => ?_⟩
  · split at h1
    · assumption
    · cases h1
  · have := List.all_eq_true.mp h6 x hx
    split at this
    · rename_i e; exact .inl e
    · rename_i e; exact .inr e
    · cases this
  · have := List.all_eq_true.mp h7 y hy
    rw [e] at this
    cases this
def fdB (G : Gt) (fd : FD) (d : He.DefD) : Bool := scB fd.N fd.ps d.scope && (chk G fd.N fd.body d.scope).B d.body && (match d.at_ with | (x, none) => decide (x = fd.name) | _ => false)
theorem fd_ok {G : Gt} {K : PySem.W.Frag} {mg : Str → Option Value} {fd : FD} {d : He.DefD} {fdt : FuncData} (h : fdB G fd d = true) (F : FunD K d.name d.qual d.params d.body d.scope (d.dvs K) (d.kws K) (He.fAd K d.at_) fdt)
    (hg : fd.glob = true → mg fd.name = some (.ref (He.ga K fd.name))) (hb : ∀ k, k ≤ fd.dfl.length → ∃ ds, Vals (fd.dvs.drop k) ds ∧ Binds K fdt fd.ps ds) : FdOk G (parOf G K) mg fd (He.fAd K d.at_) fdt := by
  unfold fdB at h
  obtain ⟨h, h3⟩ := band h
  obtain ⟨h1, h2⟩ := band h
  refine ⟨⟨_, _, _, _, _, _, _, F, scB_ok h1, h2⟩, fun e => ?_, F.kp, hb⟩
  have q := hg e
  split at h3
  · rename_i x ex
    have := of_decide_eq_true h3
    subst this
    rw [ex]
    exact q
  · cases h3
theorem binds0 {K : PySem.W.Frag} {x qual : Str} {params : Arguments} {body : List Stmt} {scope : Scope} {kws : List (Str × V)} {f : Addr} {fd : FuncData} {ps : List Str} {fdd : FD} (hd : fdd.dfl = []) (hp : fdd.ps = ps) (F : FunD K x qual params body scope [] kws f fd)
    (h : ∀ (kV doc pm : Value) (an : Option Addr) (cdv ct : Value) (us : List Value), us.length = ps.length → bindArgs (PySem.W.fnOf x qual params body scope .none kV doc pm an cdv ct) ⟨us, []⟩ = pure (ps.zip us)) :
    ∀ k, k ≤ fdd.dfl.length → ∃ ds, Vals (fdd.dvs.drop k) ds ∧ Binds K fd fdd.ps ds := fun k hk => by
  refine ⟨[], ?_, hp ▸ F.bindsN h⟩
  unfold FD.dvs
  rw [hd]
  cases k <;> exact .nil
theorem bindsK1 {K : PySem.W.Frag} {x qual : Str} {params : Arguments} {body : List Stmt} {scope : Scope} {kws : List (Str × V)} {fI : Addr} {fd : FuncData} {f : Str} (F : FunD K x qual params body scope [] kws fI fd)
    (h : ∀ (kV doc pm : Value) (an : Option Addr) (cdv ct : Value) (a u : Value), bindArgs (PySem.W.fnOf x qual params body scope .none kV doc pm an cdv ct) ⟨[a], [(f, u)]⟩ = pure ((psI f).zip [a, u])) (s : Shared) (a u : Value) : BindsTo s fd ⟨[a], [(f, u)]⟩ ((psI f).zip [a, u]) := by
  obtain ⟨oc, od, dV, kV, doc, pm, an, cdv, ct, osl, rfl, lk, hcd, hD, hK⟩ := F.ex
  rcases hD with ⟨_, rfl⟩ | ⟨e, _⟩
  · exact .of_eq (h kV doc pm an cdv ct a u)
  · exact absurd rfl e
end Zd


set_option Elab.async false
set_option linter.all false
set_option maxRecDepth 100000
set_option maxHeartbeats 4000000
namespace Zd
open PySem PySem.Spec PyProof.Rows L2 Zx
/-- a law's end: walk_ofE of the kit, the exceptions' form leaning on the world -/
theorem walk_ofW {l : PySem.W.OpenLaw} {n k : Nat} {q : Program} {loose : List Str} {XP : (Str → Option Value) → Heap → Prop} {YP : World → Heap → Prop} {d : DefRec} {x : Str}
    (hn : l.most = some n) (hn2 : n ≤ sizeLine) (hdf : d.params.defaults = []) (hr : Room k callerA)
    (F : ∀ (w : World) (mg : Str → Option Value) (fa : Addr) (h : Heap), YP w h → h.Ns mainGlobals mg → mg d.name = some (.ref fa) →
      ∃ (K : PySem.W.Frag) (fd : FuncData) (sp : Sp), K.In h ∧ (∀ (s : Shared) (u : Value), BindsTo s fd ⟨[u], []⟩ [(x, u)]) ∧
        (∀ (H : Hp) (a : Addr) (ns : List Int), ns.length ≤ n → Only H → SqL K H a (ns.map V.int) → sp [.ref a] H (fun v _ => v = .bl true) fun _ _ _ => False) ∧
        ∀ base : Heap, K.In base → base.Ns mainGlobals mg → FnG l.prog w K mg base (L2.CX l.prog w) k fa fd [x] sp) :
    PySem.W.WalkO q loose XP YP l.row.toRowW d [] (fun f vs => PySem.call f vs) := by
  refine Att.attach_call hn hdf fun w s₀ s₁ mg mb fa o pm cd doc a vs ns G Y ho hd hcd hmg hobj hints hlen hg => ?_
  obtain ⟨K, fd, sp, KX, hb, hsp, hF⟩ := F w mg fa _ Y G.T.g hmg
  exact law_callG KX G.T.g G.T.b G.T.builtins G.T.nolimit hg hobj hints (Nat.le_trans hlen hn2) hr hF hb (fun H hO hS => hsp H a ns hlen hO hS) fun H e s' ⟨_, _, _, _, _, _, _, _, _, _, _, _, z⟩ => z
theorem glob_ok {G : Gt} {bs : List Bs} {K : PySem.W.Frag} {h : Heap} {mg : Str → Option Value} (ck : progB G bs K = true) (X : K.In h) (N : h.Ns mainGlobals mg) {j : Nat} {fd : FD} (hj : G.fs[j]? = some fd) (hg : fd.glob = true) : mg fd.name = some (.ref (He.ga K fd.name)) := by
  unfold progB at ck
  obtain ⟨ck, _⟩ := band ck
  obtain ⟨ck, _⟩ := band ck
  obtain ⟨ck, c5⟩ := band ck
  have k1 := List.all_eq_true.mp c5 fd (List.mem_of_getElem? hj)
  rw [hg] at k1
  exact PySem.W.mg_of X N (of_decide_eq_true k1)
theorem ints_drs {p : Par} {I : Hp} {A : List Addr} : ∀ ns : List Int, DRs p I A (ns.map D.int) (ns.map V.int)
  | [] => .nil
  | i :: ns => .cons (.int i) (ints_drs ns)
theorem law_sp {p : Par} {F : List D → Mem → Res D} {n : Nat} (h : ∀ ns : List Int, ns.length ≤ n → ∃ m', F [.scr (ns.map D.int)] [] = .ok (.bl true) m') (H : Hp) (a : Addr) (ns : List Int) (hl : ns.length ≤ n) (hS : SqL p.K H a (ns.map V.int)) :
    spOf p 1 F [.ref a] H (fun v _ => v = .bl true) fun _ _ _ => False := by
  obtain ⟨m', e⟩ := h ns hl
  refine ⟨rfl, H, [], [.scr (ns.map D.int)], [], ⟨fun _ _ e => e, List.nodup_nil, rfl, fun n c a h => by simp at h⟩, .cons (.scr hS (ints_drs ns)) .nil, ?_⟩
  rw [e]
  intro y H' I' A' _ _ r
  cases r
  rfl
end Zd


set_option Elab.async false
set_option linter.all false
set_option maxRecDepth 100000
set_option maxHeartbeats 0
namespace Gn
open PySem Zd
def b__law_jug_0 : C := (.cons (.sSet (.tName 3) (.p2 .add (.p2 .mul (.var 3) (.kint 2862933555777941757)) (.p2 .mod (.p1 .int (.var 4)) (.kint 9223372036854775337)))) (.cons (.sSet (.tName 3) (.p2 .mod (.p1 .int (.p2 .add (.var 3) (.kint 5))) (.kint 9223372036854775783))) .nil))
def b__law_jug : C := (.cons (.sSet (.tName 2) (.ife (.cmp .lt (.var 1) (.p1 .len (.var 0))) (.p2 .idx (.var 0) (.var 1)) (.p2 .add (.kint 40) (.var 1)))) (.cons (.sSet (.tName 3) (.p2 .mul (.kint 1299709) (.p2 .add (.var 1) (.kint 2)))) (.cons (.sFor (.tName 4) (.iLst (.p2 .add (.sl (.var 0) .nil (.kint 3)) (.lst (.cons (.var 2) .nil)))) b__law_jug_0) (.cons (.sRet (.mk (.lst (.cons (.ife (.cmp .ge (.p1 .abs (.var 2)) (.p2 .pow (.kint 10) (.kint 18))) (.p1 .abs (.var 2)) (.kint 0)) (.cons (.var 3) (.cons (.kint 0) .nil)))))) .nil))))
def n__law_jug : List Str := ["_law_script", "_law_at", "_law_own", "_law_mixed", "_law_each"]
def f__law_jug : FD := { name := "_law_jug", ps := ["_law_script", "_law_at"], dfl := [], N := n__law_jug, body := b__law_jug, glob := true }
def b__law_pour_0 : C := (.cons (.sIxN (.var 0) (.kint 0) 3 (.p2 .divmod (.p2 .idx (.var 0) (.kint 0)) (.var 1))) (.cons (.sRet (.var 3)) .nil))
def b__law_pour : C := (.cons (.sIf (.cmp .gt (.p2 .idx (.var 0) (.kint 0)) (.kint 0)) b__law_pour_0 .nil) (.cons (.sIx (.var 0) (.kint 2) (.p2 .add (.p2 .idx (.var 0) (.kint 2)) (.kint 1))) (.cons (.sSet (.tName 2) (.p2 .add (.p2 .mul (.p2 .idx (.var 0) (.kint 1)) (.kint 3202034522624059733)) (.p2 .mul (.p2 .mul (.kint 104395301) (.p2 .idx (.var 0) (.kint 2))) (.p2 .idx (.var 0) (.kint 2))))) (.cons (.sIx (.var 0) (.kint 1) (.p2 .mod (.p1 .int (.p2 .add (.var 2) (.kint 1))) (.kint 9223372036854775783))) (.cons (.sRet (.p2 .mod (.p1 .int (.p2 .fdiv (.p2 .idx (.var 0) (.kint 1)) (.kint 16777216))) (.var 1))) .nil)))))
def n__law_pour : List Str := ["_law_jug_here", "_law_many", "_law_mixed", "_law_digit"]
def f__law_pour : FD := { name := "_law_pour", ps := ["_law_jug_here", "_law_many"], dfl := [], N := n__law_pour, body := b__law_pour, glob := true }
def b__law_bases : C := (.cons (.sSet (.tName 1) (.lst (.cons (.isi (.var 0) 5) (.cons (.isi (.var 0) 4) (.cons (.isi (.var 0) 3) .nil))))) (.cons (.sSet (.tName 2) (.lst (.cons (.isi (.var 0) 2) (.cons (.isi (.var 0) 1) (.cons (.isi (.var 0) 0) .nil))))) (.cons (.sRet (.ife (.cmp .eq (.var 1) (.var 2)) (.var 1) (.lst .nil))) .nil)))
def n__law_bases : List Str := ["_law_e", "_law_own", "_law_plain"]
def f__law_bases : FD := { name := "_law_bases", ps := ["_law_e"], dfl := [], N := n__law_bases, body := b__law_bases, glob := true }
def b__law_odd : C := (.cons (.sSet (.tName 1) (.lst (.cons .knon (.cons (.kbl true) (.cons (.kbl false) (.cons (.kstr "") (.cons (.kstr "a") (.cons (.kstr "A") (.cons (.kint 0) (.cons (.p1 .neg (.kint 1)) (.cons (.kint 5) (.cons (.p2 .add (.p2 .pow (.kint 10) (.kint 30)) (.kint 1)) (.cons (.tup .nil) (.cons (.lst .nil) (.cons .dic0 (.cons (.tup (.cons (.kint 1) .nil)) (.cons (.tup (.cons (.kstr "a") .nil)) (.cons (.tup (.cons (.kstr "a") (.cons (.kint 1) (.cons (.kint 1) .nil)))) (.cons (.lst (.cons (.kstr "a") (.cons (.kint 1) .nil))) (.cons (.lst (.cons (.kint 1) .nil)) .nil)))))))))))))))))))) (.cons (.sRet (.p2 .idx (.var 1) (.call 1 (.cons (.var 0) (.cons (.kint 18) .nil))))) .nil))
def n__law_odd : List Str := ["_law_jug_here", "_law_menu"]
def f__law_odd : FD := { name := "_law_odd", ps := ["_law_jug_here"], dfl := [], N := n__law_odd, body := b__law_odd, glob := true }
def b__law_class_0 : C := (.cons (.sRet (.p1 .neg (.kint 1))) .nil)
def b__law_class : C := (.cons (.sSet (.tName 1) (.lst (.cons (.isi (.var 0) 26) (.cons (.isi (.var 0) 25) (.cons (.isi (.var 0) 24) .nil))))) (.cons (.sSet (.tName 1) (.p2 .add (.var 1) (.lst (.cons (.isi (.var 0) 23) (.cons (.isi (.var 0) 22) (.cons (.isi (.var 0) 21) .nil)))))) (.cons (.sSet (.tName 1) (.p2 .add (.var 1) (.lst (.cons (.isi (.var 0) 20) (.cons (.isi (.var 0) 19) (.cons (.isi (.var 0) 18) .nil)))))) (.cons (.sSet (.tName 1) (.p2 .add (.var 1) (.lst (.cons (.isi (.var 0) 17) (.cons (.isi (.var 0) 16) (.cons (.isi (.var 0) 15) .nil)))))) (.cons (.sSet (.tName 1) (.p2 .add (.var 1) (.lst (.cons (.isi (.var 0) 14) (.cons (.isi (.var 0) 13) (.cons (.isi (.var 0) 12) .nil)))))) (.cons (.sSet (.tName 1) (.p2 .add (.var 1) (.lst (.cons (.isi (.var 0) 11) (.cons (.isi (.var 0) 10) (.cons (.isi (.var 0) 9) .nil)))))) (.cons (.sSet (.tName 1) (.p2 .add (.var 1) (.lst (.cons (.isi (.var 0) 8) (.cons (.isi (.var 0) 7) (.cons (.isi (.var 0) 6) .nil)))))) (.cons (.sIf (.cmp .ne (.m1 .cnt (.var 1) (.kbl true)) (.kint 1)) b__law_class_0 .nil) (.cons (.sSet (.tName 2) (.m1 .index (.var 1) (.kbl true))) (.cons (.sRet (.ife (.cmp .eq (.call 2 (.cons (.var 0) .nil)) (.lst (.cons (.cmp .lt (.var 2) (.kint 16)) (.cons (.cmp .eq (.var 2) (.kint 16)) (.cons (.cmp .gt (.var 2) (.kint 16)) .nil))))) (.var 2) (.p1 .neg (.kint 1)))) .nil))))))))))
def n__law_class : List Str := ["_law_e", "_law_marks", "_law_at"]
def f__law_class : FD := { name := "_law_class", ps := ["_law_e"], dfl := [], N := n__law_class, body := b__law_class, glob := true }
def b__law_keeps_0 : C := (.cons (.sRet .knon) .nil)
def b__law_keeps : C := (.cons (.sIf (.cmp .isin (.var 1) (.lst (.cons (.p1 .neg (.kint 1)) (.cons (.kint 19) .nil)))) b__law_keeps_0 .nil) (.cons (.sRet (.ife (.or (.chain .lt .lt (.kint 8) (.var 1) (.kint 16)) (.one (.cmp .eq (.var 1) (.kint 20)))) (.attr (.var 0) "index") (.attr (.var 0) "given"))) .nil))
def n__law_keeps : List Str := ["_law_e", "_law_at"]
def f__law_keeps : FD := { name := "_law_keeps", ps := ["_law_e", "_law_at"], dfl := [], N := n__law_keeps, body := b__law_keeps, glob := true }
def b__law_by_place : C := (.cons (.sSet (.tName 1) (.lst (.cons (.mkx 1 (.var 0)) (.cons (.mkx 2 (.var 0)) (.cons (.mkx 3 (.var 0)) (.cons (.mkx 4 (.var 0)) (.cons (.mkx 5 (.var 0)) .nil))))))) (.cons (.sSet (.tName 1) (.p2 .add (.var 1) (.lst (.cons (.mkx 6 (.var 0)) (.cons (.mkx 7 (.var 0)) (.cons (.mkx 8 (.var 0)) (.cons (.mkx 9 (.var 0)) (.cons (.mkx 10 (.var 0)) .nil)))))))) (.cons (.sSet (.tName 1) (.p2 .add (.var 1) (.lst (.cons (.mkx 11 (.var 0)) (.cons (.mkx 12 (.var 0)) (.cons (.mkx 13 (.var 0)) (.cons (.mkx 14 (.var 0)) .nil))))))) (.cons (.sSet (.tName 1) (.p2 .add (.var 1) (.lst (.cons (.mkx 15 (.var 0)) (.cons (.mkx 16 (.var 0)) (.cons (.mkx 18 (.var 0)) (.cons (.mkx 20 (.var 0)) (.cons (.mkx 21 (.var 0)) .nil)))))))) (.cons (.sRet (.p2 .add (.var 1) (.lst (.cons (.mkx0 22) (.cons (.mkx 23 (.var 0)) .nil))))) .nil)))))
def n__law_by_place : List Str := ["_law_odd_here", "_law_some"]
def f__law_by_place : FD := { name := "_law_by_place", ps := ["_law_odd_here"], dfl := [], N := n__law_by_place, body := b__law_by_place, glob := true }
def b__law_by_name : C := (.cons (.sSet (.tName 1) (.lst (.cons (.mkx 1 (.var 0)) (.cons (.mkx 2 (.var 0)) (.cons (.mkx 3 (.var 0)) (.cons (.mkx 4 (.var 0)) .nil)))))) (.cons (.sSet (.tName 1) (.p2 .add (.var 1) (.lst (.cons (.mkx 5 (.var 0)) (.cons (.mkx 6 (.var 0)) (.cons (.mkx 7 (.var 0)) .nil)))))) (.cons (.sSet (.tName 1) (.p2 .add (.var 1) (.lst (.cons (.mkx 8 (.var 0)) (.cons (.mkx 9 (.var 0)) (.cons (.mkx 10 (.var 0)) (.cons (.mkx 11 (.var 0)) .nil))))))) (.cons (.sSet (.tName 1) (.p2 .add (.var 1) (.lst (.cons (.mkx 12 (.var 0)) (.cons (.mkx 13 (.var 0)) (.cons (.mkx 14 (.var 0)) .nil)))))) (.cons (.sSet (.tName 1) (.p2 .add (.var 1) (.lst (.cons (.mkx 15 (.var 0)) (.cons (.mkx 16 (.var 0)) (.cons (.mkx 18 (.var 0)) .nil)))))) (.cons (.sRet (.p2 .add (.var 1) (.lst (.cons (.mkx 20 (.var 0)) (.cons (.mkx 21 (.var 0)) (.cons (.mkx0 22) (.cons (.mkx 23 (.var 0)) .nil))))))) .nil))))))
def n__law_by_name : List Str := ["_law_odd_here", "_law_some"]
def f__law_by_name : FD := { name := "_law_by_name", ps := ["_law_odd_here"], dfl := [], N := n__law_by_name, body := b__law_by_name, glob := true }
def b__law_right_0 : C := (.comp [("_law_at", 6)] (.call 5 (.cons (.p2 .idx (.var 4) (.var 6)) (.cons (.var 6) .nil))) (.tName 6) (.iRange (.kint 21)) .nil)
def b__law_right_1 : C := (.cons (.sRet (.kbl false)) .nil)
def b__law_right_2 : C := (.comp [("_law_e", 5)] (.call 4 (.cons (.var 5) .nil)) (.tName 5) (.iLst (.var 4)) .nil)
def b__law_right_3 : C := (.cons (.sRet (.kbl false)) .nil)
def b__law_right_4 : C := (.cons (.sIf (.cmp .ne b__law_right_2 (.p1 .lrange (.kint 21))) b__law_right_3 .nil) (.cons (.sIf (.cmp .ne (.p1 .repr b__law_right_0) (.p1 .repr (.var 3))) b__law_right_1 .nil) .nil))
def b__law_right_5 : C := (.cons (.sSet (.tName 2) (.p2 .idx (.lst (.cons (.tup (.cons (.var 2) (.cons (.var 2) .nil))) (.cons (.dic1 "given" (.var 2)) (.cons (.p2 .mul (.call 1 (.cons (.var 0) (.cons (.p2 .pow (.kint 10) (.kint 15)) .nil))) (.p2 .pow (.kint 10) (.kint 25))) .nil)))) (.call 1 (.cons (.var 0) (.cons (.kint 3) .nil))))) .nil)
def b__law_right_6 : C := (.cons (.sSet (.tName 2) (.call 3 (.cons (.var 0) .nil))) (.cons (.sIf (.cmp .eq (.call 1 (.cons (.var 0) (.cons (.kint 3) .nil))) (.kint 0)) b__law_right_5 .nil) (.cons (.sSet (.tName 3) (.p2 .add (.p2 .mul (.lst (.cons (.var 2) .nil)) (.kint 19)) (.lst (.cons .knon (.cons (.var 2) .nil))))) (.cons (.sFor (.tName 4) (.iLst (.lst (.cons (.call 6 (.cons (.var 2) .nil)) (.cons (.call 7 (.cons (.var 2) .nil)) .nil)))) b__law_right_4) .nil))))
def b__law_right : C := (.cons (.sFor (.tName 1) (.iRange (.kint 4)) b__law_right_6) (.cons (.sRet (.kbl true)) .nil))
def n__law_right : List Str := ["_law_jug_here", "_law_turn", "_law_odd_here", "_law_due", "_law_some", "_law_e", "_law_at"]
def f__law_right : FD := { name := "_law_right", ps := ["_law_jug_here"], dfl := [], N := n__law_right, body := b__law_right, glob := true }
def b_law_0 : C := (.cons (.sRet (.kbl false)) .nil)
def b_law_1 : C := (.cons (.sIf (.not (.call 8 (.cons (.call 0 (.cons (.var 0) (.cons (.var 1) .nil))) .nil))) b_law_0 .nil) .nil)
def b_law_2 : C := (.cons (.sRet (.kbl false)) .nil)
def b_law : C := (.cons (.sIf (.cmp .ne (.p1 .repr (.lst (.cons (.gint "MOST_SIDE" 4) (.cons (.gint "MOST_BOUND" 4) (.cons (.gint "MOST_TABLES" 12) (.cons (.gint "MOST_MEETINGS" 1000000000000000000000000000000) (.cons (.gint "MOST_CHANGES" 5) .nil))))))) (.p1 .repr (.lst (.cons (.kint 4) (.cons (.kint 4) (.cons (.kint 12) (.cons (.p2 .pow (.kint 10) (.kint 30)) (.cons (.kint 5) .nil)))))))) b_law_2 .nil) (.cons (.sFor (.tName 1) (.iRange (.p2 .max2 (.kint 2) (.p2 .min2 (.p1 .len (.var 0)) (.kint 4)))) b_law_1) (.cons (.sRet (.kbl true)) .nil)))
def n_law : List Str := ["_law_script", "_law_at"]
def f_law : FD := { name := "law", ps := ["_law_script"], dfl := [], N := n_law, body := b_law, glob := true }
def fs : List FD := ([f__law_jug, f__law_pour, f__law_bases, f__law_odd, f__law_class, f__law_keeps, f__law_by_place, f__law_by_name, f__law_right, f_law] : List FD)
def xs : List XD := ([⟨"WrongValue", []⟩, ⟨"InvalidText", ["given"]⟩, ⟨"InvalidNumber", ["given"]⟩, ⟨"InvalidName", ["given"]⟩, ⟨"InvalidTables", ["given"]⟩, ⟨"InvalidRound", ["given"]⟩, ⟨"InvalidSchedule", ["given"]⟩, ⟨"InvalidWish", ["given"]⟩, ⟨"InvalidIndex", ["given"]⟩, ⟨"NotAFair", ["given"]⟩, ⟨"InvalidHosts", ["index"]⟩, ⟨"InvalidGuests", ["index"]⟩, ⟨"InvalidMeetings", ["index"]⟩, ⟨"InvalidUrgent", ["index"]⟩, ⟨"InvalidGrowth", ["index"]⟩, ⟨"InvalidChanges", ["index"]⟩, ⟨"InvalidAsked", ["index"]⟩, ⟨"WrongName", []⟩, ⟨"UnknownName", ["given"]⟩, ⟨"NoAnswer", []⟩] : List XD) ++ ([⟨"TooFewRounds", ["given"]⟩, ⟨"TooMany", ["given"]⟩, ⟨"NothingToUndo", []⟩, ⟨"Broken", ["index"]⟩] : List XD)
def tgs : List Str := (["ArithmeticError", "LookupError", "ValueError", "NoAnswer", "WrongName", "WrongValue", "Broken", "NothingToUndo", "TooMany", "TooFewRounds", "UnknownName", "InvalidAsked", "InvalidChanges", "InvalidGrowth", "InvalidUrgent", "InvalidMeetings", "InvalidGuests", "InvalidHosts", "NotAFair", "InvalidIndex"] : List Str) ++ (["InvalidWish", "InvalidSchedule", "InvalidRound", "InvalidTables", "InvalidName", "InvalidNumber", "InvalidText"] : List Str)
def tys : List (Nat × List Nat) := ([(0, []), (1, []), (2, []), (3, []), (4, []), (5, []), (6, []), (8, [2, 5]), (10, [2, 5, 26]), (12, [2, 5, 25]), (14, [2, 5, 24]), (16, [2, 5, 23]), (18, [2, 5, 22]), (20, [2, 5, 21]), (22, [2, 5, 20]), (24, [2, 5, 19]), (26, [2, 5, 18]), (28, [2, 5, 17]), (30, [2, 5, 16]), (32, [2, 5, 15])] : List (Nat × List Nat)) ++ ([(34, [2, 5, 14]), (36, [2, 5, 13]), (38, [2, 5, 12]), (40, [2, 5, 11]), (42, [1, 4]), (44, [1, 4, 10]), (46, [0, 3]), (48, [0, 3, 9]), (50, [0, 3, 8]), (52, [0, 3, 7]), (54, [0, 3, 6])] : List (Nat × List Nat))
def gis : List (Str × Int) := [("MOST_SIDE", 4), ("MOST_BOUND", 4), ("MOST_TABLES", 12), ("MOST_MEETINGS", 1000000000000000000000000000000), ("MOST_CHANGES", 5)]
def gss : List (Str × Str) := []
def free : List Str := ["ArithmeticError", "LookupError", "ValueError", "abs", "divmod", "int", "isinstance", "len", "list", "max", "min", "range", "repr"]
def G : Gt := { fs := fs, gis := gis, gss := gss, free := free, xs := xs, tgs := tgs, tys := tys }
end Gn


set_option Elab.async false
set_option linter.all false
set_option maxRecDepth 100000
set_option maxHeartbeats 0
namespace Gh
open PySem PySem.Spec PyProof.Rows L2 Zx Zd
def top (i : Nat) : Stmt := PySem.Challenge.pw_meetrounds_k01_limits_and_errors.main.body.getD i (.Pass ⟨0, 0, 0, 0⟩)
def dOf (x : Str) (st : Stmt) (dfl : List He.Dv) : He.DefD := ⟨(x, none), x, x, defArgs st, defBody st, defScope st, dfl, []⟩
def mOf (c x q : Str) (st : Stmt) (dfl : List He.Dv) : He.DefD := ⟨(c, some x), x, q, defArgs st, defBody st, defScope st, dfl, []⟩
def d__law_jug : He.DefD := dOf "_law_jug" (top 31) []
def d__law_pour : He.DefD := dOf "_law_pour" (top 32) []
def d__law_bases : He.DefD := dOf "_law_bases" (top 33) []
def d__law_odd : He.DefD := dOf "_law_odd" (top 34) []
def d__law_class : He.DefD := dOf "_law_class" (top 35) []
def d__law_keeps : He.DefD := dOf "_law_keeps" (top 36) []
def d__law_by_place : He.DefD := dOf "_law_by_place" (top 37) []
def d__law_by_name : He.DefD := dOf "_law_by_name" (top 38) []
def d__law_right : He.DefD := dOf "_law_right" (top 39) []
def d_law : He.DefD := dOf "law" (top 40) []
def i_InvalidText : He.DefD := mOf "InvalidText" "__init__" "InvalidText.__init__" (inClass (top 2) 0) []
def i_InvalidNumber : He.DefD := mOf "InvalidNumber" "__init__" "InvalidNumber.__init__" (inClass (top 3) 0) []
def i_InvalidName : He.DefD := mOf "InvalidName" "__init__" "InvalidName.__init__" (inClass (top 4) 0) []
def i_InvalidTables : He.DefD := mOf "InvalidTables" "__init__" "InvalidTables.__init__" (inClass (top 5) 0) []
def i_InvalidRound : He.DefD := mOf "InvalidRound" "__init__" "InvalidRound.__init__" (inClass (top 6) 0) []
def i_InvalidSchedule : He.DefD := mOf "InvalidSchedule" "__init__" "InvalidSchedule.__init__" (inClass (top 7) 0) []
def i_InvalidWish : He.DefD := mOf "InvalidWish" "__init__" "InvalidWish.__init__" (inClass (top 8) 0) []
def i_InvalidIndex : He.DefD := mOf "InvalidIndex" "__init__" "InvalidIndex.__init__" (inClass (top 9) 0) []
def i_NotAFair : He.DefD := mOf "NotAFair" "__init__" "NotAFair.__init__" (inClass (top 10) 0) []
def i_InvalidHosts : He.DefD := mOf "InvalidHosts" "__init__" "InvalidHosts.__init__" (inClass (top 11) 0) []
def i_InvalidGuests : He.DefD := mOf "InvalidGuests" "__init__" "InvalidGuests.__init__" (inClass (top 12) 0) []
def i_InvalidMeetings : He.DefD := mOf "InvalidMeetings" "__init__" "InvalidMeetings.__init__" (inClass (top 13) 0) []
def i_InvalidUrgent : He.DefD := mOf "InvalidUrgent" "__init__" "InvalidUrgent.__init__" (inClass (top 14) 0) []
def i_InvalidGrowth : He.DefD := mOf "InvalidGrowth" "__init__" "InvalidGrowth.__init__" (inClass (top 15) 0) []
def i_InvalidChanges : He.DefD := mOf "InvalidChanges" "__init__" "InvalidChanges.__init__" (inClass (top 16) 0) []
def i_InvalidAsked : He.DefD := mOf "InvalidAsked" "__init__" "InvalidAsked.__init__" (inClass (top 17) 0) []
def i_UnknownName : He.DefD := mOf "UnknownName" "__init__" "UnknownName.__init__" (inClass (top 19) 0) []
def i_TooFewRounds : He.DefD := mOf "TooFewRounds" "__init__" "TooFewRounds.__init__" (inClass (top 21) 0) []
def i_TooMany : He.DefD := mOf "TooMany" "__init__" "TooMany.__init__" (inClass (top 22) 0) []
def i_Broken : He.DefD := mOf "Broken" "__init__" "Broken.__init__" (inClass (top 24) 0) []
def fn : List He.DefD := ([d__law_jug, d__law_pour, d__law_bases, d__law_odd, d__law_class, d__law_keeps, d__law_by_place, d__law_by_name, d__law_right, d_law, i_InvalidText, i_InvalidNumber, i_InvalidName, i_InvalidTables, i_InvalidRound, i_InvalidSchedule, i_InvalidWish, i_InvalidIndex, i_NotAFair, i_InvalidHosts] : List He.DefD) ++ ([i_InvalidGuests, i_InvalidMeetings, i_InvalidUrgent, i_InvalidGrowth, i_InvalidChanges, i_InvalidAsked, i_UnknownName, i_TooFewRounds, i_TooMany, i_Broken] : List He.DefD)
def bs : List Bs := ([.ve, .ve, .ve, .ve, .ve, .ve, .ve, .ve, .ve, .ve, .ve, .ve, .ve, .ve, .ve, .ve, .ve, .le, .le, .ae] : List Bs) ++ ([.ae, .ae, .ae, .ae] : List Bs)
def loose : List Str := (["WrongValue", "InvalidText", "InvalidNumber", "InvalidName", "InvalidTables", "InvalidRound", "InvalidSchedule", "InvalidWish", "InvalidIndex", "NotAFair", "InvalidHosts", "InvalidGuests", "InvalidMeetings", "InvalidUrgent", "InvalidGrowth", "InvalidChanges", "InvalidAsked", "WrongName", "UnknownName", "NoAnswer"] : List Str) ++ (["TooFewRounds", "TooMany", "NothingToUndo", "Broken", "MOST_SIDE", "MOST_BOUND", "MOST_TABLES", "MOST_MEETINGS", "MOST_CHANGES", "_law_jug", "_law_pour", "_law_bases", "_law_odd", "_law_class", "_law_keeps", "_law_by_place", "_law_by_name", "_law_right"] : List Str)
def ck (K : PySem.W.Frag) : Bool := progB Gn.G bs K
abbrev R : PySem.W.OpenRow := PySem.W.OpenLaw.row PySem.Challenge.rw_meetrounds_k01_limits_and_errors
abbrev hk : PySem.W.Hook := hookX 4 ck fn
def ob (s : PySem.W.SharedT) : He.AlD := obsXG 4 ck fn (HandSHeadRun.getT s)
theorem ob_eq (s : PySem.W.SharedT) : ob s = hk.obs s.abs := obsXG_eq (HandSHeadRun.getT_eq s)
theorem run (w : World) : HandSHeadRun.RunEq R (PySem.W.view R.prog [40]) hk ob 20000 loose w := by
  intro os
  kernel_rfl
theorem st__law_jug : fdB Gn.G Gn.f__law_jug d__law_jug = true := by kernel_rfl
theorem st__law_pour : fdB Gn.G Gn.f__law_pour d__law_pour = true := by kernel_rfl
theorem st__law_bases : fdB Gn.G Gn.f__law_bases d__law_bases = true := by kernel_rfl
theorem st__law_odd : fdB Gn.G Gn.f__law_odd d__law_odd = true := by kernel_rfl
theorem st__law_class : fdB Gn.G Gn.f__law_class d__law_class = true := by kernel_rfl
theorem st__law_keeps : fdB Gn.G Gn.f__law_keeps d__law_keeps = true := by kernel_rfl
theorem st__law_by_place : fdB Gn.G Gn.f__law_by_place d__law_by_place = true := by kernel_rfl
theorem st__law_by_name : fdB Gn.G Gn.f__law_by_name d__law_by_name = true := by kernel_rfl
theorem st__law_right : fdB Gn.G Gn.f__law_right d__law_right = true := by kernel_rfl
theorem st_law : fdB Gn.G Gn.f_law d_law = true := by kernel_rfl
section
variable {K : PySem.W.Frag} {h : Heap} {mg : Str → Option Value}
theorem fs_ok (c : SaysX ck fn K) : ∀ (j : Nat) (fd : FD), Gn.G.fs[j]? = some fd → (fd.glob = true → mg fd.name = some (.ref (He.ga K fd.name))) → ∃ f fdt, FdOk Gn.G (parOf Gn.G K) mg fd f fdt := fun j fd hj hg => by
  match j, hj with
  | 0, hj =>
    have e : Gn.f__law_jug = fd := Option.some.inj hj
    subst e
    obtain ⟨fdt, F⟩ := c.def_ 0 (d := d__law_jug) rfl
    exact ⟨_, fdt, fd_ok st__law_jug F hg (binds0 (ps := ["_law_script", "_law_at"]) rfl rfl F fun _ _ _ _ _ _ us hl => match us, hl with | [_, _], _ => rfl)⟩
  | 1, hj =>
    have e : Gn.f__law_pour = fd := Option.some.inj hj
    subst e
    obtain ⟨fdt, F⟩ := c.def_ 1 (d := d__law_pour) rfl
    exact ⟨_, fdt, fd_ok st__law_pour F hg (binds0 (ps := ["_law_jug_here", "_law_many"]) rfl rfl F fun _ _ _ _ _ _ us hl => match us, hl with | [_, _], _ => rfl)⟩
  | 2, hj =>
    have e : Gn.f__law_bases = fd := Option.some.inj hj
    subst e
    obtain ⟨fdt, F⟩ := c.def_ 2 (d := d__law_bases) rfl
    exact ⟨_, fdt, fd_ok st__law_bases F hg (binds0 (ps := ["_law_e"]) rfl rfl F fun _ _ _ _ _ _ us hl => match us, hl with | [_], _ => rfl)⟩
  | 3, hj =>
    have e : Gn.f__law_odd = fd := Option.some.inj hj
    subst e
    obtain ⟨fdt, F⟩ := c.def_ 3 (d := d__law_odd) rfl
    exact ⟨_, fdt, fd_ok st__law_odd F hg (binds0 (ps := ["_law_jug_here"]) rfl rfl F fun _ _ _ _ _ _ us hl => match us, hl with | [_], _ => rfl)⟩
  | 4, hj =>
    have e : Gn.f__law_class = fd := Option.some.inj hj
    subst e
    obtain ⟨fdt, F⟩ := c.def_ 4 (d := d__law_class) rfl
    exact ⟨_, fdt, fd_ok st__law_class F hg (binds0 (ps := ["_law_e"]) rfl rfl F fun _ _ _ _ _ _ us hl => match us, hl with | [_], _ => rfl)⟩
  | 5, hj =>
    have e : Gn.f__law_keeps = fd := Option.some.inj hj
    subst e
    obtain ⟨fdt, F⟩ := c.def_ 5 (d := d__law_keeps) rfl
    exact ⟨_, fdt, fd_ok st__law_keeps F hg (binds0 (ps := ["_law_e", "_law_at"]) rfl rfl F fun _ _ _ _ _ _ us hl => match us, hl with | [_, _], _ => rfl)⟩
  | 6, hj =>
    have e : Gn.f__law_by_place = fd := Option.some.inj hj
    subst e
    obtain ⟨fdt, F⟩ := c.def_ 6 (d := d__law_by_place) rfl
    exact ⟨_, fdt, fd_ok st__law_by_place F hg (binds0 (ps := ["_law_odd_here"]) rfl rfl F fun _ _ _ _ _ _ us hl => match us, hl with | [_], _ => rfl)⟩
  | 7, hj =>
    have e : Gn.f__law_by_name = fd := Option.some.inj hj
    subst e
    obtain ⟨fdt, F⟩ := c.def_ 7 (d := d__law_by_name) rfl
    exact ⟨_, fdt, fd_ok st__law_by_name F hg (binds0 (ps := ["_law_odd_here"]) rfl rfl F fun _ _ _ _ _ _ us hl => match us, hl with | [_], _ => rfl)⟩
  | 8, hj =>
    have e : Gn.f__law_right = fd := Option.some.inj hj
    subst e
    obtain ⟨fdt, F⟩ := c.def_ 8 (d := d__law_right) rfl
    exact ⟨_, fdt, fd_ok st__law_right F hg (binds0 (ps := ["_law_jug_here"]) rfl rfl F fun _ _ _ _ _ _ us hl => match us, hl with | [_], _ => rfl)⟩
  | 9, hj =>
    have e : Gn.f_law = fd := Option.some.inj hj
    subst e
    obtain ⟨fdt, F⟩ := c.def_ 9 (d := d_law) rfl
    exact ⟨_, fdt, fd_ok st_law F hg (binds0 (ps := ["_law_script"]) rfl rfl F fun _ _ _ _ _ _ us hl => match us, hl with | [_], _ => rfl)⟩
  | n + 10, hj => cases hj
theorem xs_ok (c : SaysX ck fn K) : ∀ (j : Nat) (xd : XD) (f : Str), Gn.G.xs[j]? = some xd → xd.ns = [f] → ∃ fd x qual params body scope dvs kws, FunD K x qual params body scope dvs kws (He.ma K (He.ga K xd.name) "__init__") fd ∧ initB f body scope = true ∧
      Binds K fd (psI f) [] ∧ ∀ (s : Shared) (a u : Value), K.In s.heap → BindsTo s fd ⟨[a], [(f, u)]⟩ ((psI f).zip [a, u]) := fun j xd f hj hf => by
  match j, hj with
  | 0, hj =>
    have e := Option.some.inj hj
    subst e
    cases hf
  | 1, hj =>
    have e := Option.some.inj hj
    subst e
    have e2 : ("given" : Str) = f := (List.cons.inj hf).1
    subst e2
    obtain ⟨fdt, F⟩ := c.def_ 10 (d := i_InvalidText) rfl
    exact ⟨fdt, _, _, _, _, _, _, _, F, by kernel_rfl, FunD.bindsN F (fun _ _ _ _ _ _ us hl => match us, hl with | [_, _], _ => rfl), fun s a u _ => bindsK1 F (fun _ _ _ _ _ _ _ _ => rfl) s a u⟩
  | 2, hj =>
    have e := Option.some.inj hj
    subst e
    have e2 : ("given" : Str) = f := (List.cons.inj hf).1
    subst e2
    obtain ⟨fdt, F⟩ := c.def_ 11 (d := i_InvalidNumber) rfl
    exact ⟨fdt, _, _, _, _, _, _, _, F, by kernel_rfl, FunD.bindsN F (fun _ _ _ _ _ _ us hl => match us, hl with | [_, _], _ => rfl), fun s a u _ => bindsK1 F (fun _ _ _ _ _ _ _ _ => rfl) s a u⟩
  | 3, hj =>
    have e := Option.some.inj hj
    subst e
    have e2 : ("given" : Str) = f := (List.cons.inj hf).1
    subst e2
    obtain ⟨fdt, F⟩ := c.def_ 12 (d := i_InvalidName) rfl
    exact ⟨fdt, _, _, _, _, _, _, _, F, by kernel_rfl, FunD.bindsN F (fun _ _ _ _ _ _ us hl => match us, hl with | [_, _], _ => rfl), fun s a u _ => bindsK1 F (fun _ _ _ _ _ _ _ _ => rfl) s a u⟩
  | 4, hj =>
    have e := Option.some.inj hj
    subst e
    have e2 : ("given" : Str) = f := (List.cons.inj hf).1
    subst e2
    obtain ⟨fdt, F⟩ := c.def_ 13 (d := i_InvalidTables) rfl
    exact ⟨fdt, _, _, _, _, _, _, _, F, by kernel_rfl, FunD.bindsN F (fun _ _ _ _ _ _ us hl => match us, hl with | [_, _], _ => rfl), fun s a u _ => bindsK1 F (fun _ _ _ _ _ _ _ _ => rfl) s a u⟩
  | 5, hj =>
    have e := Option.some.inj hj
    subst e
    have e2 : ("given" : Str) = f := (List.cons.inj hf).1
    subst e2
    obtain ⟨fdt, F⟩ := c.def_ 14 (d := i_InvalidRound) rfl
    exact ⟨fdt, _, _, _, _, _, _, _, F, by kernel_rfl, FunD.bindsN F (fun _ _ _ _ _ _ us hl => match us, hl with | [_, _], _ => rfl), fun s a u _ => bindsK1 F (fun _ _ _ _ _ _ _ _ => rfl) s a u⟩
  | 6, hj =>
    have e := Option.some.inj hj
    subst e
    have e2 : ("given" : Str) = f := (List.cons.inj hf).1
    subst e2
    obtain ⟨fdt, F⟩ := c.def_ 15 (d := i_InvalidSchedule) rfl
    exact ⟨fdt, _, _, _, _, _, _, _, F, by kernel_rfl, FunD.bindsN F (fun _ _ _ _ _ _ us hl => match us, hl with | [_, _], _ => rfl), fun s a u _ => bindsK1 F (fun _ _ _ _ _ _ _ _ => rfl) s a u⟩
  | 7, hj =>
    have e := Option.some.inj hj
    subst e
    have e2 : ("given" : Str) = f := (List.cons.inj hf).1
    subst e2
    obtain ⟨fdt, F⟩ := c.def_ 16 (d := i_InvalidWish) rfl
    exact ⟨fdt, _, _, _, _, _, _, _, F, by kernel_rfl, FunD.bindsN F (fun _ _ _ _ _ _ us hl => match us, hl with | [_, _], _ => rfl), fun s a u _ => bindsK1 F (fun _ _ _ _ _ _ _ _ => rfl) s a u⟩
  | 8, hj =>
    have e := Option.some.inj hj
    subst e
    have e2 : ("given" : Str) = f := (List.cons.inj hf).1
    subst e2
    obtain ⟨fdt, F⟩ := c.def_ 17 (d := i_InvalidIndex) rfl
    exact ⟨fdt, _, _, _, _, _, _, _, F, by kernel_rfl, FunD.bindsN F (fun _ _ _ _ _ _ us hl => match us, hl with | [_, _], _ => rfl), fun s a u _ => bindsK1 F (fun _ _ _ _ _ _ _ _ => rfl) s a u⟩
  | 9, hj =>
    have e := Option.some.inj hj
    subst e
    have e2 : ("given" : Str) = f := (List.cons.inj hf).1
    subst e2
    obtain ⟨fdt, F⟩ := c.def_ 18 (d := i_NotAFair) rfl
    exact ⟨fdt, _, _, _, _, _, _, _, F, by kernel_rfl, FunD.bindsN F (fun _ _ _ _ _ _ us hl => match us, hl with | [_, _], _ => rfl), fun s a u _ => bindsK1 F (fun _ _ _ _ _ _ _ _ => rfl) s a u⟩
  | 10, hj =>
    have e := Option.some.inj hj
    subst e
    have e2 : ("index" : Str) = f := (List.cons.inj hf).1
    subst e2
    obtain ⟨fdt, F⟩ := c.def_ 19 (d := i_InvalidHosts) rfl
    exact ⟨fdt, _, _, _, _, _, _, _, F, by kernel_rfl, FunD.bindsN F (fun _ _ _ _ _ _ us hl => match us, hl with | [_, _], _ => rfl), fun s a u _ => bindsK1 F (fun _ _ _ _ _ _ _ _ => rfl) s a u⟩
  | 11, hj =>
    have e := Option.some.inj hj
    subst e
    have e2 : ("index" : Str) = f := (List.cons.inj hf).1
    subst e2
    obtain ⟨fdt, F⟩ := c.def_ 20 (d := i_InvalidGuests) rfl
    exact ⟨fdt, _, _, _, _, _, _, _, F, by kernel_rfl, FunD.bindsN F (fun _ _ _ _ _ _ us hl => match us, hl with | [_, _], _ => rfl), fun s a u _ => bindsK1 F (fun _ _ _ _ _ _ _ _ => rfl) s a u⟩
  | 12, hj =>
    have e := Option.some.inj hj
    subst e
    have e2 : ("index" : Str) = f := (List.cons.inj hf).1
    subst e2
    obtain ⟨fdt, F⟩ := c.def_ 21 (d := i_InvalidMeetings) rfl
    exact ⟨fdt, _, _, _, _, _, _, _, F, by kernel_rfl, FunD.bindsN F (fun _ _ _ _ _ _ us hl => match us, hl with | [_, _], _ => rfl), fun s a u _ => bindsK1 F (fun _ _ _ _ _ _ _ _ => rfl) s a u⟩
  | 13, hj =>
    have e := Option.some.inj hj
    subst e
    have e2 : ("index" : Str) = f := (List.cons.inj hf).1
    subst e2
    obtain ⟨fdt, F⟩ := c.def_ 22 (d := i_InvalidUrgent) rfl
    exact ⟨fdt, _, _, _, _, _, _, _, F, by kernel_rfl, FunD.bindsN F (fun _ _ _ _ _ _ us hl => match us, hl with | [_, _], _ => rfl), fun s a u _ => bindsK1 F (fun _ _ _ _ _ _ _ _ => rfl) s a u⟩
  | 14, hj =>
    have e := Option.some.inj hj
    subst e
    have e2 : ("index" : Str) = f := (List.cons.inj hf).1
    subst e2
    obtain ⟨fdt, F⟩ := c.def_ 23 (d := i_InvalidGrowth) rfl
    exact ⟨fdt, _, _, _, _, _, _, _, F, by kernel_rfl, FunD.bindsN F (fun _ _ _ _ _ _ us hl => match us, hl with | [_, _], _ => rfl), fun s a u _ => bindsK1 F (fun _ _ _ _ _ _ _ _ => rfl) s a u⟩
  | 15, hj =>
    have e := Option.some.inj hj
    subst e
    have e2 : ("index" : Str) = f := (List.cons.inj hf).1
    subst e2
    obtain ⟨fdt, F⟩ := c.def_ 24 (d := i_InvalidChanges) rfl
    exact ⟨fdt, _, _, _, _, _, _, _, F, by kernel_rfl, FunD.bindsN F (fun _ _ _ _ _ _ us hl => match us, hl with | [_, _], _ => rfl), fun s a u _ => bindsK1 F (fun _ _ _ _ _ _ _ _ => rfl) s a u⟩
  | 16, hj =>
    have e := Option.some.inj hj
    subst e
    have e2 : ("index" : Str) = f := (List.cons.inj hf).1
    subst e2
    obtain ⟨fdt, F⟩ := c.def_ 25 (d := i_InvalidAsked) rfl
    exact ⟨fdt, _, _, _, _, _, _, _, F, by kernel_rfl, FunD.bindsN F (fun _ _ _ _ _ _ us hl => match us, hl with | [_, _], _ => rfl), fun s a u _ => bindsK1 F (fun _ _ _ _ _ _ _ _ => rfl) s a u⟩
  | 17, hj =>
    have e := Option.some.inj hj
    subst e
    cases hf
  | 18, hj =>
    have e := Option.some.inj hj
    subst e
    have e2 : ("given" : Str) = f := (List.cons.inj hf).1
    subst e2
    obtain ⟨fdt, F⟩ := c.def_ 26 (d := i_UnknownName) rfl
    exact ⟨fdt, _, _, _, _, _, _, _, F, by kernel_rfl, FunD.bindsN F (fun _ _ _ _ _ _ us hl => match us, hl with | [_, _], _ => rfl), fun s a u _ => bindsK1 F (fun _ _ _ _ _ _ _ _ => rfl) s a u⟩
  | 19, hj =>
    have e := Option.some.inj hj
    subst e
    cases hf
  | 20, hj =>
    have e := Option.some.inj hj
    subst e
    have e2 : ("given" : Str) = f := (List.cons.inj hf).1
    subst e2
    obtain ⟨fdt, F⟩ := c.def_ 27 (d := i_TooFewRounds) rfl
    exact ⟨fdt, _, _, _, _, _, _, _, F, by kernel_rfl, FunD.bindsN F (fun _ _ _ _ _ _ us hl => match us, hl with | [_, _], _ => rfl), fun s a u _ => bindsK1 F (fun _ _ _ _ _ _ _ _ => rfl) s a u⟩
  | 21, hj =>
    have e := Option.some.inj hj
    subst e
    have e2 : ("given" : Str) = f := (List.cons.inj hf).1
    subst e2
    obtain ⟨fdt, F⟩ := c.def_ 28 (d := i_TooMany) rfl
    exact ⟨fdt, _, _, _, _, _, _, _, F, by kernel_rfl, FunD.bindsN F (fun _ _ _ _ _ _ us hl => match us, hl with | [_, _], _ => rfl), fun s a u _ => bindsK1 F (fun _ _ _ _ _ _ _ _ => rfl) s a u⟩
  | 22, hj =>
    have e := Option.some.inj hj
    subst e
    cases hf
  | 23, hj =>
    have e := Option.some.inj hj
    subst e
    have e2 : ("index" : Str) = f := (List.cons.inj hf).1
    subst e2
    obtain ⟨fdt, F⟩ := c.def_ 29 (d := i_Broken) rfl
    exact ⟨fdt, _, _, _, _, _, _, _, F, by kernel_rfl, FunD.bindsN F (fun _ _ _ _ _ _ us hl => match us, hl with | [_, _], _ => rfl), fun s a u _ => bindsK1 F (fun _ _ _ _ _ _ _ _ => rfl) s a u⟩
  | n + 24, hj => cases hj
theorem prog (c : SaysX ck fn K) (X : K.In h) (N : h.Ns mainGlobals mg) : ProgOk Gn.G (parOf Gn.G K) mg :=
  prog_ok c.ck_ X N (fs_ok c) (xs_ok c)
end
end Gh


set_option Elab.async false
set_option linter.all false
set_option maxRecDepth 100000
set_option maxHeartbeats 4000000
namespace Kp
open PySem PySem.Spec PyProof.Rows L2 Zx Zd
abbrev ev (n j : Nat) (xs : List D) (m : Mem) : Res D := evalF Gn.G 0 n j xs m
theorem ev_pour (n : Nat) (xs : List D) (m : Mem) : ev (n + 1) 1 xs m = outF ((sem 0 (evalF Gn.G 0 n) Gn.G Gn.b__law_pour).S (startE Gn.n__law_pour xs) m) := rfl
/-- the jug's cell -/
structure Jug (m : Mem) (c k : Nat) : Prop where
  ex : ∃ a b j : Int, m[c]? = some (.lst [.int a, .int b, .int j]) ∧ 0 ≤ a ∧ 0 ≤ b ∧ b < 2 ^ 64 ∧ 0 ≤ j ∧ j ≤ k
theorem pyl {i j : Int} (h : 0 < j) (hj : j < 2 ^ 60) : Builtin.divisionGoesByPylong i j = false := by
  have : j.natAbs.log2 < 60 := (Nat.log2_lt (by omega)).mpr (by omega)
  show (decide ((if j == 0 then 0 else j.natAbs.log2 / 30 + 1) > 300) && _) = false
  rw [if_neg (by simpa using (show j ≠ 0 by omega)), decide_eq_false (by omega), Bool.false_and]
theorem pour_a {m : Mem} {c : Nat} {a b j many : Int} (n : Nat) (h : m[c]? = some (.lst [.int a, .int b, .int j])) (ha : 0 < a) (h1 : 0 < many) (h2 : many < 2 ^ 60) :
    ev (n + 1) 1 [.cell c, .int many] m = .ok (.int (a % many)) (m.set c (.lst [.int (a / many), .int b, .int j])) := by
  rw [ev_pour]
  simp [Gn.b__law_pour, Gn.b__law_pour_0, sem, Gn.n__law_pour, startE, sE, f2, f1, fN, fCons, fNil, seqS, ifS, ixNS, ixS, setS, retS, Res.bind, Res.fl, Res.of, primC, prim2, prim1, pIdx, pCmp, pDivmod, seqOf, atI, ixN, h, truthOf, truth, two, setIx, outF, ha, h1, pyl h1 h2]
theorem set_at {m : Mem} {c : Nat} {x y : Cell} (h : m[c]? = some x) : (m.set c y)[c]? = some y := List.getElem?_set_self (List.getElem?_eq_some_iff.mp h).1
theorem mulw {i j : Int} (h1 : -(2 ^ 70) < i) (h2 : i < 2 ^ 70) (h3 : -(2 ^ 70) < j) (h4 : j < 2 ^ 70) : CMulW i j := by
  have a1 : i.natAbs < 2 ^ 70 := by omega
  have a2 : j.natAbs < 2 ^ 70 := by omega
  have b1 : i.natAbs.log2 ≤ 70 := by
    by_cases h : i.natAbs = 0
    · rw [h]; decide
    · exact Nat.le_of_lt ((Nat.log2_lt h).mpr a1)
  have b2 : j.natAbs.log2 ≤ 70 := by
    by_cases h : j.natAbs = 0
    · rw [h]; decide
    · exact Nat.le_of_lt ((Nat.log2_lt h).mpr a2)
  unfold CMulW
  omega
theorem pour_b {m : Mem} {c : Nat} {b j many : Int} (n : Nat) (h : m[c]? = some (.lst [.int 0, .int b, .int j])) (h1 : 0 < many) (hb : 0 ≤ b) (hb2 : b < 2 ^ 64) (hj : 0 ≤ j) (hj2 : j ≤ 2 ^ 20) :
    ∃ d b' : Int, ev (n + 1) 1 [.cell c, .int many] m = .ok (.int d) (m.set c (.lst [.int 0, .int b', .int (j + 1)])) ∧ 0 ≤ d ∧ d < many ∧ 0 ≤ b' ∧ b' < 2 ^ 64 := by
  have e1 := set_at (y := .lst [.int 0, .int b, .int (j + 1)]) h
  have c1 : CMulW b 3202034522624059733 := mulw (by omega) (by omega) (by decide) (by decide)
  have c2 : CMulW 104395301 (j + 1) := mulw (by decide) (by decide) (by omega) (by omega)
  have c3 : CMulW (104395301 * (j + 1)) (j + 1) := mulw (by omega) (by omega) (by omega) (by omega)
  have c4 : CDivW ((b * 3202034522624059733 + 104395301 * (j + 1) * (j + 1) + 1) % 9223372036854775783) 16777216 := ⟨by decide, by decide⟩
  refine ⟨((b * 3202034522624059733 + 104395301 * (j + 1) * (j + 1) + 1) % 9223372036854775783) / 16777216 % many, (b * 3202034522624059733 + 104395301 * (j + 1) * (j + 1) + 1) % 9223372036854775783, ?_, Int.emod_nonneg _ (by omega), Int.emod_lt_of_pos _ h1, Int.emod_nonneg _ (by decide), ?_⟩
  · rw [ev_pour]
    have e2 := set_at (y := .lst [.int 0, .int ((b * 3202034522624059733 + 104395301 * (j + 1) * (j + 1) + 1) % 9223372036854775783), .int (j + 1)]) e1
    rw [List.set_set] at e2
    simp [Gn.b__law_pour, Gn.b__law_pour_0, sem, Gn.n__law_pour, startE, sE, f2, f1, fN, fCons, fNil, seqS, ifS, ixNS, ixS, setS, retS, Res.bind, Res.fl, Res.of, primC, prim2, prim1, pIdx, pCmp, pDivmod, pAdd, pMul, pMod, pFdiv, pInt, seqOf, atI, ixN, h, truthOf, truth, two, setIx, outF, h1, e1, e2, c1, c2, c3, c4, List.set_set]
  · have := Int.emod_lt_of_pos (b * 3202034522624059733 + 104395301 * (j + 1) * (j + 1) + 1) (show (0 : Int) < 9223372036854775783 by decide)
    omega
theorem pour_ok {m : Mem} {c k : Nat} {many : Int} (n : Nat) (J : Jug m c k) (hk : k ≤ 1000) (h1 : 0 < many) (h2 : many < 2 ^ 60) :
    ∃ (d : Int) (m' : Mem), ev (n + 1) 1 [.cell c, .int many] m = .ok (.int d) m' ∧ 0 ≤ d ∧ d < many ∧ Jug m' c (k + 1) := by
  obtain ⟨a, b, j, h, ha, hb, hb2, hj, hjk⟩ := J.ex
  by_cases h0 : 0 < a
  · exact ⟨_, _, pour_a n h h0 h1 h2, Int.emod_nonneg _ (by omega), Int.emod_lt_of_pos _ h1, ⟨_, _, _, set_at h, Int.ediv_nonneg ha (by omega), hb, hb2, hj, by omega⟩⟩
  · have : a = 0 := by omega
    subst this
    obtain ⟨d, b', e, q1, q2, q3, q4⟩ := pour_b n h h1 hb hb2 hj (by omega)
    exact ⟨d, _, e, q1, q2, ⟨_, _, _, set_at h, Int.le_refl _, q3, q4, by omega, by omega⟩⟩
end Kp


set_option Elab.async false
set_option linter.all false
set_option maxRecDepth 100000
set_option maxHeartbeats 4000000
namespace Kp
open PySem PySem.Spec PyProof.Rows L2 Zx Zd
/-! ### functions without any memory -/
def exl (d : D) : List D := [.exc 1 [d], .exc 2 [d], .exc 3 [d], .exc 4 [d], .exc 5 [d], .exc 6 [d], .exc 7 [d], .exc 8 [d], .exc 9 [d], .exc 10 [d], .exc 11 [d], .exc 12 [d], .exc 13 [d], .exc 14 [d], .exc 15 [d], .exc 16 [d], .exc 18 [d], .exc 20 [d], .exc 21 [d], .exc 22 [], .exc 23 [d]]
theorem place_ok (n : Nat) (d : D) (m : Mem) : ev (n + 1) 6 [d] m = .ok (.lst (exl d)) m := by kernel_rfl
theorem name_ok (n : Nat) (d : D) (m : Mem) : ev (n + 1) 7 [d] m = .ok (.lst (exl d)) m := by kernel_rfl
def ints21 : List D := [.int 0, .int 1, .int 2, .int 3, .int 4, .int 5, .int 6, .int 7, .int 8, .int 9, .int 10, .int 11, .int 12, .int 13, .int 14, .int 15, .int 16, .int 17, .int 18, .int 19, .int 20]
/-! ### what is shown -/
structure Shn (y : PyData) : Prop where
  sh : y.showable = true
  ls : y.leavesShort 2000 = true
  wt : y.weight ≤ 300
  dp : y.depth ≤ 10
def Odd (x : D) : Prop := ∃ y, x.rd = some y ∧ Shn y
def keepsL (x : D) : List D := [x, x, x, x, x, x, x, x, x, x, x, x, x, x, x, x, x, x, x, .non, x]
def keepsY (y : PyData) : List PyData := [y, y, y, y, y, y, y, y, y, y, y, y, y, y, y, y, y, y, y, .none, y]
theorem keeps_rd {x : D} {y : PyData} (h : x.rd = some y) : (D.lst (keepsL x)).rd = some (.list (keepsY y)) := by
  simp [D.rd, rdAll, keepsL, keepsY, h]
theorem keeps_shown {y : PyData} (h : Shn y) : (PyData.list (keepsY y)).showable = true ∧ (PyData.list (keepsY y)).depth ≤ 60 ∧ (PyData.list (keepsY y)).shown.length ≤ sizeLine := by
  have hw := h.wt
  have hd := h.dp
  refine ⟨?_, ?_, ?_⟩
  · simp [PyData.showable, PyData.showableAll, keepsY, h.sh]
  · simp [PyData.depth, PyData.depthAll, keepsY]
    omega
  · have q := PyData.shown_le 2000 (by decide) (.list (keepsY y)) (by simp [PyData.leavesShort, PyData.leavesShortAll, keepsY, h.ls])
    have w : (PyData.list (keepsY y)).weight ≤ 6100 := by
      simp [PyData.weight, PyData.weightAll, keepsY]
      omega
    rw [sizeLine_eq]
    omega
theorem repr_keeps {x : D} (h : Odd x) (m : Mem) : ∃ S, pRepr [.lst (keepsL x)] m = some (.str S) := by
  obtain ⟨y, h1, h2⟩ := h
  obtain ⟨q1, q2, q3⟩ := keeps_shown h2
  refine ⟨(PyData.list (keepsY y)).shown, ?_⟩
  have e := keeps_rd h1
  unfold pRepr
  dsimp only
  rw [e]
  simp [q1, q2, q3]
theorem ne_same (S : Str) (m : Mem) : pNe [.str S, .str S] m = some (.bl false) := by
  simp [pNe]
theorem comp_class (n : Nat) (a b c d e f : Option D) (x : D) (m : Mem) : (sem 0 (evalF Gn.G 0 (n + 2)) Gn.G Gn.b__law_right_2).F [a, b, c, d, some (.lst (exl x)), e, f] m = .ok ints21 m := by kernel_rfl
theorem comp_keeps (n : Nat) (a b c d e f : Option D) (x : D) (m : Mem) : (sem 0 (evalF Gn.G 0 (n + 2)) Gn.G Gn.b__law_right_0).F [a, b, c, d, some (.lst (exl x)), e, f] m = .ok (keepsL x) m := by kernel_rfl
theorem lr21 (m : Mem) : pLRange [.int 21] m = some (.lst ints21) := by kernel_rfl
theorem ne_ints (m : Mem) : pNe [.lst ints21, .lst ints21] m = some (.bl false) := by kernel_rfl
theorem comp_E2 (F : Nat → List D → Mem → Res D) : (sem 0 F Gn.G Gn.b__law_right_2).E = frz (sem 0 F Gn.G Gn.b__law_right_2).F := rfl
theorem comp_E0 (F : Nat → List D → Mem → Res D) : (sem 0 F Gn.G Gn.b__law_right_0).E = frz (sem 0 F Gn.G Gn.b__law_right_0).F := rfl
theorem inner {x : D} (n : Nat) (a b e f : Option D) (m : Mem) (h : Odd x) : (sem 0 (evalF Gn.G 0 (n + 2)) Gn.G Gn.b__law_right_4).S [a, b, some x, some (.lst (keepsL x)), some (.lst (exl x)), e, f] m = .nx [a, b, some x, some (.lst (keepsL x)), some (.lst (exl x)), e, f] m := by
  obtain ⟨S, hS⟩ := repr_keeps h m
  unfold Gn.b__law_right_4
  simp only [sem, comp_E2, comp_E0, seqS, ifS, sE, truthOf, f2, f1, frz, comp_class, comp_keeps, Res.bind, prim1, primC, lr21, Res.of, ne_ints, truth]
  have e3 : ([a, b, some x, some (.lst (keepsL x)), some (.lst (exl x)), e, f] : Zd.Env)[3]? = some (some (.lst (keepsL x))) := rfl
  simp only [hS, e3, Res.of, Res.bind, ne_same, truth]
end Kp


set_option Elab.async false
set_option linter.all false
set_option maxRecDepth 100000
set_option maxHeartbeats 4000000
namespace Kp
open PySem PySem.Spec PyProof.Rows L2 Zx Zd
/-! ### odd values -/
def oddM : List D := [.non, .bl true, .bl false, .str "", .str "a", .str "A", .int 0, .int (-1), .int 5, .int (10 ^ 30 + 1), .tup [], .lst [], .dic [] [], .tup [.int 1], .tup [.str "a"], .tup [.str "a", .int 1, .int 1], .lst [.str "a", .int 1], .lst [.int 1]]
def oddB (x : D) : Bool := match x.rd with
  | some y => y.showable && y.leavesShort 2000 && decide (y.weight ≤ 300) && decide (y.depth ≤ 10)
  | none => false
theorem oddB_ok {x : D} (h : oddB x = true) : Odd x := by
  unfold oddB at h
  split at h
  · rename_i y e
    simp only [Bool.and_eq_true, decide_eq_true_eq] at h
    exact ⟨y, e, h.1.1.1, h.1.1.2, h.1.2, h.2⟩
  · cases h
theorem odd_all : (oddM.all fun x => oddB x && (oddB (.tup [x, x]) && oddB (.dic ["given"] [x]))) = true := by kernel_rfl
theorem odd_mem {x : D} (h : x ∈ oddM) : Odd x ∧ Odd (.tup [x, x]) ∧ Odd (.dic ["given"] [x]) := by
  have q := List.all_eq_true.mp odd_all x h
  simp only [Bool.and_eq_true] at q
  exact ⟨oddB_ok q.1, oddB_ok q.2.1, oddB_ok q.2.2⟩
theorem log2_lt {n k : Nat} (hk : 0 < k) (h : n < 2 ^ k) : n.log2 < k := by
  by_cases h0 : n = 0
  · rw [h0]; simpa using hk
  · exact (Nat.log2_lt h0).mpr h
theorem odd_int {v : Int} (h0 : 0 ≤ v) (h1 : v < 10 ^ 15) : Odd (.int (v * 10 ^ 25)) := by
  have hb : (v * 10 ^ 25).natAbs < 2 ^ 200 := by
    have : v * 10 ^ 25 < 10 ^ 40 := by omega
    have : (0 : Int) ≤ v * 10 ^ 25 := by omega
    have : (10 : Int) ^ 40 < 2 ^ 200 := by decide
    omega
  have hl := log2_lt (by decide) hb
  refine ⟨.int (v * 10 ^ 25), rfl, ?_, ?_, ?_, ?_⟩
  · simp only [PyData.showable, decide_eq_true_eq]; omega
  · simp only [PyData.leavesShort, decide_eq_true_eq]
    have := PyProof.Rows.int_text_len_1921 (i := v * 10 ^ 25) (by omega)
    exact Nat.le_trans this (by decide)
  · simp only [PyData.weight]
    split <;> omega
  · simp [PyData.depth]
theorem atI_in {l : List D} {i : Int} (h0 : 0 ≤ i) (h1 : i < l.length) : ∃ x, atI l i = some x ∧ x ∈ l := by
  refine ⟨l[i.toNat]'(by omega), ?_, List.getElem_mem _⟩
  unfold atI ixN
  rw [if_pos h0, if_pos h1, Option.bind_some, List.getElem?_eq_getElem]
theorem dfl1 (xs : List D) : Gn.G.dfl 1 xs = xs := by
  show xs ++ List.drop _ [] = xs
  rw [List.drop_nil, List.append_nil]
theorem odd_start (F : Nat → List D → Mem → Res D) (j : Option D) (m : Mem) : (sem 0 F Gn.G Gn.b__law_odd).S [j, none] m = (sem 0 F Gn.G (.cons (.sRet (.p2 .idx (.var 1) (.call 1 (.cons (.var 0) (.cons (.kint 18) .nil))))) .nil)).S [j, some (.lst oddM)] m := by kernel_rfl
theorem odd_ok {m : Mem} {c k : Nat} (n : Nat) (J : Jug m c k) (hk : k ≤ 1000) : ∃ x m', ev (n + 2) 3 [.cell c] m = .ok x m' ∧ x ∈ oddM ∧ Jug m' c (k + 1) := by
  obtain ⟨d, m', e, h0, h1, J'⟩ := pour_ok (many := 18) n J hk (by decide) (by decide)
  obtain ⟨x, ex, hx⟩ := atI_in (l := oddM) h0 (by exact h1)
  refine ⟨x, m', ?_, hx, J'⟩
  show outF ((sem 0 (evalF Gn.G 0 (n + 1)) Gn.G Gn.b__law_odd).S [some (.cell c), none] m) = _
  rw [odd_start]
  have e : evalF Gn.G 0 (n + 1) 1 [.cell c, .int 18] m = .ok (.int d) m' := e
  simp [sem, sE, f2, fCons, fNil, seqS, retS, Res.bind, Res.fl, Res.of, prim2, pIdx, seqOf, dfl1, e, ex, outF]
/-! ### one turn -/
theorem mulw2 {i j : Int} (h1 : 0 ≤ i) (h2 : i < 2 ^ 200) (h3 : 0 ≤ j) (h4 : j < 2 ^ 200) : CMulW i j := by
  have b1 := log2_lt (n := i.natAbs) (k := 200) (by decide) (by omega)
  have b2 := log2_lt (n := j.natAbs) (k := 200) (by decide) (by omega)
  unfold CMulW
  omega
theorem cpow (i j : Int) (h : 0 ≤ j) (h2 : j ≤ 1000000) (h3 : i.natAbs < 2 ^ 64) : CPow i j := ⟨h, h2, h3⟩
theorem cp15 : CPow 10 15 := cpow _ _ (by decide) (by decide) (by decide)
theorem cp25 : CPow 10 25 := cpow _ _ (by decide) (by decide) (by decide)
theorem r5 {m : Mem} {c k : Nat} {x : D} (n : Nat) (a d3 d4 d5 d6 : Option D) (J : Jug m c k) (hk : k ≤ 950) (hx : x ∈ oddM) : ∃ x' m', (sem 0 (evalF Gn.G 0 (n + 1)) Gn.G Gn.b__law_right_5).S [some (.cell c), a, some x, d3, d4, d5, d6] m = .nx [some (.cell c), a, some x', d3, d4, d5, d6] m' ∧ Odd x' ∧ Jug m' c (k + 2) := by
  obtain ⟨v, m1, e1, h0, h1, J1⟩ := pour_ok (many := 10 ^ 15) n J (by omega) (by decide) (by decide)
  obtain ⟨d, m2, e2, h2, h3, J2⟩ := pour_ok (many := 3) n J1 (by omega) (by decide) (by decide)
  obtain ⟨o1, o2, o3⟩ := odd_mem hx
  obtain ⟨x', ex, hm⟩ := atI_in (l := [.tup [x, x], .dic ["given"] [x], .int (v * 10 ^ 25)]) h2 (by exact h3)
  refine ⟨x', m2, ?_, ?_, J2⟩
  · have e1 : evalF Gn.G 0 (n + 1) 1 [.cell c, .int (10 ^ 15)] m = .ok (.int v) m1 := e1
    have e2 : evalF Gn.G 0 (n + 1) 1 [.cell c, .int 3] m1 = .ok (.int d) m2 := e2
    have c1 : CMulW v (10 ^ 25) := mulw2 h0 (Int.lt_trans h1 (by decide)) (by decide) (by decide)
    have p1 : pPow [.int 10, .int 15] m = some (.int (10 ^ 15)) := by simp [pPow, cp15]
    have p2 : pPow [.int 10, .int 25] m1 = some (.int (10 ^ 25)) := by simp [pPow, cp25]
    have p3 : pMul [.int v, .int (10 ^ 25)] m1 = some (.int (v * 10 ^ 25)) := by simp only [pMul]; rw [if_pos c1]
    have p4 : pIdx [.lst [.tup [x, x], .dic ["given"] [x], .int (v * 10 ^ 25)], .int d] m2 = some x' := by simp only [pIdx, seqOf]; exact ex
    have s3 : (3 : Nat) ≤ sizeLine := by rw [sizeLine_eq]; omega
    have s2 : (2 : Nat) ≤ sizeLine := by rw [sizeLine_eq]; omega
    unfold Gn.b__law_right_5
    simp only [sem, sE, sF, fLst, frz, fMap, fN, f2, fCons, fNil, seqS, setS, Res.bind, Res.fl, Res.of, prim2, dfl1, List.getElem?_cons_zero, List.getElem?_cons_succ, pTup, List.length_cons, List.length_nil, Nat.zero_add, Nat.reduceAdd, s2, if_true, p1, e1, p2, p3, s3, e2, p4, List.set_cons_succ, List.set_cons_zero]
  · rcases List.mem_cons.mp hm with rfl | hm
    · exact o2
    rcases List.mem_cons.mp hm with rfl | hm
    · exact o3
    rcases List.mem_cons.mp hm with rfl | hm
    · exact odd_int h0 h1
    · cases hm
end Kp


set_option Elab.async false
set_option linter.all false
set_option maxRecDepth 100000
set_option maxHeartbeats 4000000
namespace Kp
open PySem PySem.Spec PyProof.Rows L2 Zx Zd
theorem dfl3 (xs : List D) : Gn.G.dfl 3 xs = xs := by
  show xs ++ List.drop _ [] = xs
  rw [List.drop_nil, List.append_nil]
theorem dfl6 (xs : List D) : Gn.G.dfl 6 xs = xs := by
  show xs ++ List.drop _ [] = xs
  rw [List.drop_nil, List.append_nil]
theorem dfl7 (xs : List D) : Gn.G.dfl 7 xs = xs := by
  show xs ++ List.drop _ [] = xs
  rw [List.drop_nil, List.append_nil]
theorem dfl0 (xs : List D) : Gn.G.dfl 0 xs = xs := by
  show xs ++ List.drop _ [] = xs
  rw [List.drop_nil, List.append_nil]
theorem dfl8 (xs : List D) : Gn.G.dfl 8 xs = xs := by
  show xs ++ List.drop _ [] = xs
  rw [List.drop_nil, List.append_nil]
theorem eq_int (i j : Int) (m : Mem) : pEq [.int i, .int j] m = some (.bl (i == j)) := by kernel_rfl
theorem due_ok (x : D) (m : Mem) : pMul [.lst [x], .int 19] m = some (.lst (List.replicate 19 x)) := by
  unfold pMul
  dsimp only
  rw [if_pos ⟨by decide, by decide, by rw [sizeLine_eq]; show 1 * 19 ≤ 16777216; decide⟩]
  rfl
theorem due2_ok (x : D) (m : Mem) : pAdd [.lst (List.replicate 19 x), .lst [.non, x]] m = some (.lst (keepsL x)) := by
  unfold pAdd
  dsimp only
  rw [if_pos (by rw [List.length_replicate, sizeLine_eq]; show 19 + 2 ≤ 16777216; decide)]
  rfl
theorem sz (n : Nat) (h : n ≤ 100) : n ≤ sizeLine := by rw [sizeLine_eq]; omega
theorem r_tail {x : D} (n : Nat) (a b d e f g : Option D) (m : Mem) (h : Odd x) : ∃ d' e', (sem 0 (evalF Gn.G 0 (n + 2)) Gn.G (.cons (.sSet (.tName 3) (.p2 .add (.p2 .mul (.lst (.cons (.var 2) .nil)) (.kint 19)) (.lst (.cons .knon (.cons (.var 2) .nil))))) (.cons (.sFor (.tName 4) (.iLst (.lst (.cons (.call 6 (.cons (.var 2) .nil)) (.cons (.call 7 (.cons (.var 2) .nil)) .nil)))) Gn.b__law_right_4) .nil))).S [a, b, some x, d, e, f, g] m = .nx [a, b, some x, d', e', f, g] m := by
  have e6 : evalF Gn.G 0 (n + 2) 6 [x] m = .ok (.lst (exl x)) m := place_ok (n + 1) x m
  have e7 : evalF Gn.G 0 (n + 2) 7 [x] m = .ok (.lst (exl x)) m := name_ok (n + 1) x m
  refine ⟨some (.lst (keepsL x)), some (.lst (exl x)), ?_⟩
  have s1 : (1 : Nat) ≤ sizeLine := sz _ (by decide)
  have s2 : (2 : Nat) ≤ sizeLine := sz _ (by decide)
  simp only [sem, sE, sF, fLst, frz, f2, fCons, fNil, seqS, setS, forS, Res.bind, Res.fl, Res.of, prim2, dfl6, dfl7, List.getElem?_cons_zero, List.getElem?_cons_succ, List.length_cons, List.length_nil, Nat.zero_add, Nat.reduceAdd, s1, s2, if_true, due_ok, due2_ok, List.set_cons_succ, List.set_cons_zero, e6, e7, itLst, loopF]
  have i1 := inner n a b f g m h
  simp only [i1, List.set_cons_succ, List.set_cons_zero]
theorem r6 {m : Mem} {c k : Nat} (n : Nat) (a b d e f g : Option D) (J : Jug m c k) (hk : k ≤ 900) : ∃ b' d' e' f' g' m', (sem 0 (evalF Gn.G 0 (n + 2)) Gn.G Gn.b__law_right_6).S [some (.cell c), a, b, d, e, f, g] m = .nx [some (.cell c), a, b', d', e', f', g'] m' ∧ Jug m' c (k + 4) := by
  obtain ⟨x, m1, e1, hx, J1⟩ := odd_ok n J (by omega)
  obtain ⟨v, m2, e2, h0, h1, J2⟩ := pour_ok (many := 3) (n + 1) J1 (by omega) (by decide) (by decide)
  have e1 : evalF Gn.G 0 (n + 2) 3 [.cell c] m = .ok x m1 := e1
  have e2 : evalF Gn.G 0 (n + 2) 1 [.cell c, .int 3] m1 = .ok (.int v) m2 := e2
  have weak : ∀ {m' : Mem} {j j' : Nat}, Jug m' c j → j ≤ j' → Jug m' c j' := fun J h => by
    obtain ⟨a, b, j, h1, h2, h3, h4, h5, h6⟩ := J.ex
    exact ⟨a, b, j, h1, h2, h3, h4, h5, by omega⟩
  by_cases hv : v = 0
  · obtain ⟨x', m3, e3, o3, J3⟩ := r5 (n + 1) a d e f g J2 (by omega) hx
    obtain ⟨d', e', e4⟩ := r_tail n (some (.cell c)) a d e f g m3 o3
    refine ⟨some x', d', e', f, g, m3, ?_, weak J3 (by omega)⟩
    unfold Gn.b__law_right_6
    have hv2 : (v == 0) = true := by simpa using hv
    generalize hT : (C.cons (.sSet (.tName 3) (.p2 .add (.p2 .mul (.lst (.cons (.var 2) .nil)) (.kint 19)) (.lst (.cons .knon (.cons (.var 2) .nil))))) (.cons (.sFor (.tName 4) (.iLst (.lst (.cons (.call 6 (.cons (.var 2) .nil)) (.cons (.call 7 (.cons (.var 2) .nil)) .nil)))) Gn.b__law_right_4) .nil)) = T at e4 ⊢
    simp only [sem, sE, f2, fCons, fNil, seqS, setS, ifS, truthOf, Res.bind, Res.fl, Res.of, primC, dfl1, dfl3, List.getElem?_cons_zero, List.getElem?_cons_succ, List.set_cons_succ, List.set_cons_zero, e1, e2, eq_int, hv2, truth, e3, e4]
  · obtain ⟨d', e', e4⟩ := r_tail n (some (.cell c)) a d e f g m2 (odd_mem hx).1
    refine ⟨some x, d', e', f, g, m2, ?_, weak J2 (by omega)⟩
    unfold Gn.b__law_right_6
    have hv2 : (v == 0) = false := by simpa using hv
    generalize hT : (C.cons (.sSet (.tName 3) (.p2 .add (.p2 .mul (.lst (.cons (.var 2) .nil)) (.kint 19)) (.lst (.cons .knon (.cons (.var 2) .nil))))) (.cons (.sFor (.tName 4) (.iLst (.lst (.cons (.call 6 (.cons (.var 2) .nil)) (.cons (.call 7 (.cons (.var 2) .nil)) .nil)))) Gn.b__law_right_4) .nil)) = T at e4 ⊢
    simp only [sem, sE, f2, fCons, fNil, seqS, setS, ifS, truthOf, Res.bind, Res.fl, Res.of, primC, dfl1, dfl3, List.getElem?_cons_zero, List.getElem?_cons_succ, List.set_cons_succ, List.set_cons_zero, e1, e2, eq_int, hv2, truth, e4]
theorem r_loop (n : Nat) (c : Nat) : ∀ (ds : List D) (m : Mem) (k : Nat) (a b d e f g : Option D), Jug m c k → k + 4 * ds.length ≤ 900 →
    ∃ env' m', loopF (fun d env => some (env.set 1 (some d))) (sem 0 (evalF Gn.G 0 (n + 2)) Gn.G Gn.b__law_right_6).S ds [some (.cell c), a, b, d, e, f, g] m = .nx env' m'
  | [], m, k, a, b, d, e, f, g, J, h => ⟨_, _, rfl⟩
  | q :: ds, m, k, a, b, d, e, f, g, J, h => by
    rw [List.length_cons] at h
    obtain ⟨b', d', e', f', g', m', e1, J1⟩ := r6 n (some q) b d e f g J (by omega)
    obtain ⟨env', m2, e2⟩ := r_loop n c ds m' (k + 4) (some q) b' d' e' f' g' J1 (by omega)
    refine ⟨env', m2, ?_⟩
    simp only [loopF, List.set_cons_succ, List.set_cons_zero, e1]
    exact e2
theorem right_ok {m : Mem} {c : Nat} (n : Nat) (J : Jug m c 0) : ∃ m', ev (n + 3) 8 [.cell c] m = .ok (.bl true) m' := by
  obtain ⟨env', m', e⟩ := r_loop n c [.int 0, .int 1, .int 2, .int 3] m 0 none none none none none none J (by decide)
  refine ⟨m', ?_⟩
  show outF ((sem 0 (evalF Gn.G 0 (n + 2)) Gn.G Gn.b__law_right).S [some (.cell c), none, none, none, none, none, none] m) = _
  have i4 : itRange (.int 4) = some [.int 0, .int 1, .int 2, .int 3] := by kernel_rfl
  unfold Gn.b__law_right
  simp only [sem, sE, seqS, forS, retS, Res.bind, Res.fl, Res.of, i4, e, outF]
/-! ### the jug -/
theorem jstep (F : Nat → List D → Mem → Res D) (a0 a1 a2 : Option D) (v i : Int) (m : Mem) (h1 : -(2 ^ 70) < v) (h2 : v < 2 ^ 70) :
    (sem 0 F Gn.G Gn.b__law_jug_0).S [a0, a1, a2, some (.int v), some (.int i)] m = .nx [a0, a1, a2, some (.int ((v * 2862933555777941757 + i % 9223372036854775337 + 5) % 9223372036854775783)), some (.int i)] m := by
  have c1 : CMulW v 2862933555777941757 := mulw h1 h2 (by decide) (by decide)
  simp [Gn.b__law_jug_0, sem, sE, f2, f1, seqS, setS, Res.bind, Res.fl, Res.of, prim2, prim1, pAdd, pMul, pMod, pInt, c1]
theorem jloop (F : Nat → List D → Mem → Res D) (a0 a1 a2 : Option D) (m : Mem) : ∀ (ns : List Int) (v : Int) (e : Option D), ns ≠ [] → -(2 ^ 70) < v → v < 2 ^ 70 →
    ∃ v' e', loopF (fun d env => some (env.set 4 (some d))) (sem 0 F Gn.G Gn.b__law_jug_0).S (ns.map D.int) [a0, a1, a2, some (.int v), e] m = .nx [a0, a1, a2, some (.int v'), e'] m ∧ 0 ≤ v' ∧ v' < 2 ^ 64
  | [], v, e, h, _, _ => absurd rfl h
  | i :: ns, v, e, _, h1, h2 => by
    have b0 := Int.emod_nonneg (v * 2862933555777941757 + i % 9223372036854775337 + 5) (show (9223372036854775783 : Int) ≠ 0 by decide)
    have b1 := Int.emod_lt_of_pos (v * 2862933555777941757 + i % 9223372036854775337 + 5) (show (0 : Int) < 9223372036854775783 by decide)
    have s := jstep F a0 a1 a2 v i m h1 h2
    by_cases hn : ns = []
    · subst hn
      refine ⟨_, some (.int i), ?_, b0, by omega⟩
      simp only [List.map_cons, List.map_nil, loopF, List.set_cons_succ, List.set_cons_zero, s]
    · obtain ⟨v', e', q, q1, q2⟩ := jloop F a0 a1 a2 m ns ((v * 2862933555777941757 + i % 9223372036854775337 + 5) % 9223372036854775783) (some (.int i)) hn (by omega) (by omega)
      refine ⟨v', e', ?_, q1, q2⟩
      simp only [List.map_cons, loopF, List.set_cons_succ, List.set_cons_zero, s]
      exact q
theorem cp18 : CPow 10 18 := cpow _ _ (by decide) (by decide) (by decide)
theorem own_ok (F : Nat → List D → Mem → Res D) (ns : List Int) (i : Int) (m : Mem) (h0 : 0 ≤ i) (e2 e3 e4 : Option D) : ∃ own : Int, (sem 0 F Gn.G (.sSet (.tName 2) (.ife (.cmp .lt (.var 1) (.p1 .len (.var 0))) (.p2 .idx (.var 0) (.var 1)) (.p2 .add (.kint 40) (.var 1))))).S [some (.scr (ns.map D.int)), some (.int i), e2, e3, e4] m = .nx [some (.scr (ns.map D.int)), some (.int i), some (.int own), e3, e4] m := by
  by_cases hlt : i < ns.length
  · obtain ⟨x, e1, hx⟩ := atI_in (l := ns.map D.int) h0 (by rw [List.length_map]; exact hlt)
    obtain ⟨own, _, rfl⟩ := List.mem_map.mp hx
    refine ⟨own, ?_⟩
    simp [sem, sE, f2, f1, setS, ifeE, truthOf, Res.bind, Res.fl, Res.of, primC, prim1, prim2, pLen, pCmp, seqOf, truth, pIdx, e1, hlt]
  · refine ⟨40 + i, ?_⟩
    simp [sem, sE, f2, f1, setS, ifeE, truthOf, Res.bind, Res.fl, Res.of, primC, prim1, prim2, pLen, pCmp, seqOf, truth, pAdd, hlt]
def cutI (ns : List Int) : List Int := (ns.drop (HT.sIx ns.length 0 none)).take (HT.sIx ns.length ns.length (some 3) - HT.sIx ns.length 0 none)
theorem cut_map (ns : List Int) : Zd.cutD (ns.map D.int) none (some 3) = (cutI ns).map D.int := by
  unfold Zd.cutD cutI
  rw [List.length_map, List.map_take, List.map_drop]
theorem cut_len (ns : List Int) : (cutI ns).length ≤ ns.length := by
  unfold cutI
  rw [List.length_take, List.length_drop]
  omega
theorem ret_ok (F : Nat → List D → Mem → Res D) (a0 a1 a4 : Option D) (own v : Int) (m : Mem) : ∃ a : Int, 0 ≤ a ∧ (sem 0 F Gn.G (.sRet (.mk (.lst (.cons (.ife (.cmp .ge (.p1 .abs (.var 2)) (.p2 .pow (.kint 10) (.kint 18))) (.p1 .abs (.var 2)) (.kint 0)) (.cons (.var 3) (.cons (.kint 0) .nil))))))).S [a0, a1, some (.int own), some (.int v), a4] m = .ret (.cell m.length) (m ++ [.lst [.int a, .int v, .int 0]]) := by
  have s3 : (3 : Nat) ≤ sizeLine := sz _ (by decide)
  have p1 : pPow [.int 10, .int 18] m = some (.int (10 ^ 18)) := by simp [pPow, cp18]
  by_cases hc : (10 : Int) ^ 18 ≤ if own < 0 then -own else own
  · refine ⟨if own < 0 then -own else own, by split <;> omega, ?_⟩
    simp only [sem, sE, sF, mkE, fLst, frz, f2, f1, fCons, fNil, retS, ifeE, truthOf, Res.bind, Res.fl, Res.of, primC, prim1, prim2, p1, pAbs, pCmp, List.getElem?_cons_zero, List.getElem?_cons_succ, truth, decide_eq_true hc, List.length_cons, List.length_nil, Nat.zero_add, Nat.reduceAdd, s3, if_true]
  · refine ⟨0, by decide, ?_⟩
    simp only [sem, sE, sF, mkE, fLst, frz, f2, f1, fCons, fNil, retS, ifeE, truthOf, Res.bind, Res.fl, Res.of, primC, prim1, prim2, p1, pAbs, pCmp, List.getElem?_cons_zero, List.getElem?_cons_succ, truth, decide_eq_false hc, List.length_cons, List.length_nil, Nat.zero_add, Nat.reduceAdd, s3, if_true]
theorem jug_ok (n : Nat) (ns : List Int) (i : Int) (m : Mem) (h0 : 0 ≤ i) (h1 : i ≤ 100) (hl : ns.length ≤ 63) : ∃ m', ev (n + 1) 0 [.scr (ns.map D.int), .int i] m = .ok (.cell m.length) m' ∧ Jug m' m.length 0 := by
  obtain ⟨own, e1⟩ := own_ok (evalF Gn.G 0 n) ns i m h0 none none none
  obtain ⟨v, e', e2, v0, v1⟩ := jloop (evalF Gn.G 0 n) (some (.scr (ns.map D.int))) (some (.int i)) (some (.int own)) m (cutI ns ++ [own]) (1299709 * (i + 2)) none (by simp) (by omega) (by omega)
  obtain ⟨a, a0, e3⟩ := ret_ok (evalF Gn.G 0 n) (some (.scr (ns.map D.int))) (some (.int i)) e' own v m
  refine ⟨m ++ [.lst [.int a, .int v, .int 0]], ?_, ⟨a, v, 0, ?_, a0, v0, v1, Int.le_refl _, Int.le_refl _⟩⟩
  · show outF ((sem 0 (evalF Gn.G 0 n) Gn.G Gn.b__law_jug).S [some (.scr (ns.map D.int)), some (.int i), none, none, none] m) = _
    unfold Gn.b__law_jug
    have c1 : CMulW 1299709 (i + 2) := mulw (by decide) (by decide) (by omega) (by omega)
    have s1 : (1 : Nat) ≤ sizeLine := sz _ (by decide)
    have hcl := cut_len ns
    have p2 : pAdd [.lst ((cutI ns).map D.int), .lst [.int own]] m = some (.lst ((cutI ns ++ [own]).map D.int)) := by
      unfold pAdd
      dsimp only
      rw [if_pos (by rw [List.length_map, sizeLine_eq, List.length_cons, List.length_nil]; omega)]
      rw [List.map_append]
      rfl
    have p3 : slD m (.scr (ns.map D.int)) none (some 3) = some (.lst ((cutI ns).map D.int)) := by
      show some (D.lst (Zd.cutD (ns.map D.int) none (some 3))) = _
      rw [cut_map]
    have p4 : pMul [.int 1299709, .int (i + 2)] m = some (.int (1299709 * (i + 2))) := by simp only [pMul]; rw [if_pos c1]
    generalize hA : (C.sSet (.tName 2) (.ife (.cmp .lt (.var 1) (.p1 .len (.var 0))) (.p2 .idx (.var 0) (.var 1)) (.p2 .add (.kint 40) (.var 1)))) = A at e1 ⊢
    generalize hR : (C.sRet (.mk (.lst (.cons (.ife (.cmp .ge (.p1 .abs (.var 2)) (.p2 .pow (.kint 10) (.kint 18))) (.p1 .abs (.var 2)) (.kint 0)) (.cons (.var 3) (.cons (.kint 0) .nil)))))) = R at e3 ⊢
    simp only [sem, sE, sF, fLst, frz, f2, fCons, fNil, seqS, setS, forS, partOf, C.isNil, Res.bind, Res.fl, Res.of, prim2, pAdd, e1, List.getElem?_cons_zero, List.getElem?_cons_succ, List.set_cons_succ, List.set_cons_zero, p4, p3, List.length_cons, List.length_nil, Nat.zero_add, Nat.reduceAdd, s1, if_true]
    have p2' : (if ((cutI ns).map D.int).length + 1 ≤ sizeLine then some (D.lst ((cutI ns).map D.int ++ [.int own])) else none) = some (.lst ((cutI ns ++ [own]).map D.int)) := p2
    simp only [p2', itLst, e2, e3, outF]
  · rw [List.getElem?_append_right (Nat.le_refl _), Nat.sub_self]
    rfl
/-! ### the law -/
theorem repr_odd {x : D} (h : Odd x) (m : Mem) : ∃ S, pRepr [x] m = some (.str S) := by
  obtain ⟨y, h1, h2⟩ := h
  have hw := h2.wt
  have hd := h2.dp
  have q := PyData.shown_le 2000 (by decide) y h2.ls
  have q3 : y.shown.length ≤ sizeLine := by rw [sizeLine_eq]; omega
  refine ⟨y.shown, ?_⟩
  unfold pRepr
  dsimp only
  rw [h1]
  simp [h2.sh, q3, show y.depth ≤ 60 by omega]
theorem law_loop (n : Nat) (ns : List Int) (hl : ns.length ≤ 63) : ∀ (is : List Int) (m : Mem) (e : Option D), (∀ i ∈ is, 0 ≤ i ∧ i ≤ 100) →
    ∃ e' m', loopF (fun d env => some (env.set 1 (some d))) (sem 0 (evalF Gn.G 0 (n + 3)) Gn.G Gn.b_law_1).S (is.map D.int) [some (.scr (ns.map D.int)), e] m = .nx [some (.scr (ns.map D.int)), e'] m'
  | [], m, e, _ => ⟨e, m, rfl⟩
  | i :: is, m, e, h => by
    obtain ⟨h0, h1⟩ := h i List.mem_cons_self
    obtain ⟨m1, e1, J⟩ := jug_ok (n + 2) ns i m h0 h1 hl
    obtain ⟨m2, e2⟩ := right_ok n J
    obtain ⟨e', m', e3⟩ := law_loop n ns hl is m2 (some (.int i)) fun j hj => h j (List.mem_cons_of_mem _ hj)
    have e1 : evalF Gn.G 0 (n + 3) 0 [.scr (ns.map D.int), .int i] m = .ok (.cell m.length) m1 := e1
    have e2 : evalF Gn.G 0 (n + 3) 8 [.cell m.length] m1 = .ok (.bl true) m2 := e2
    refine ⟨e', m', ?_⟩
    have s : (sem 0 (evalF Gn.G 0 (n + 3)) Gn.G Gn.b_law_1).S [some (.scr (ns.map D.int)), some (.int i)] m = .nx [some (.scr (ns.map D.int)), some (.int i)] m2 := by
      unfold Gn.b_law_1
      simp only [sem, sE, fCons, fNil, seqS, ifS, notT, truthOf, Res.bind, Res.of, dfl0, dfl8, List.getElem?_cons_zero, List.getElem?_cons_succ, e1, e2, truth, Bool.not_true]
    simp only [List.map_cons, loopF, List.set_cons_succ, List.set_cons_zero, s]
    exact e3
theorem law_ok (n : Nat) (ns : List Int) (hl : ns.length ≤ 63) : ∃ m', ev (n + 4) 9 [.scr (ns.map D.int)] [] = .ok (.bl true) m' := by
  have hr : ∃ is : List Int, (∀ i ∈ is, 0 ≤ i ∧ i ≤ 100) ∧ itRange (.int (if (if (4 : Int) < (ns.length : Int) then 4 else (ns.length : Int)) > 2 then (if (4 : Int) < (ns.length : Int) then 4 else (ns.length : Int)) else 2)) = some (is.map D.int) := by
    generalize hk : (if (if (4 : Int) < (ns.length : Int) then 4 else (ns.length : Int)) > 2 then (if (4 : Int) < (ns.length : Int) then 4 else (ns.length : Int)) else 2) = k
    have k0 : 2 ≤ k := by rw [← hk]; split <;> (try split) <;> omega
    have k1 : k ≤ 63 := by rw [← hk]; split <;> (try split) <;> omega
    refine ⟨(List.range k.toNat).map fun (j : Nat) => (0 : Int) + (j : Int), fun i hi => ?_, ?_⟩
    · obtain ⟨j, hj, rfl⟩ := List.mem_map.mp hi
      have := List.mem_range.mp hj
      omega
    · unfold itRange
      dsimp only
      rw [if_pos ⟨by omega, by omega⟩]
      unfold intIt
      rw [List.map_map]
      rfl
  obtain ⟨is, his, er⟩ := hr
  obtain ⟨e', m', e1⟩ := law_loop n ns hl is [] none his
  refine ⟨m', ?_⟩
  show outF ((sem 0 (evalF Gn.G 0 (n + 3)) Gn.G Gn.b_law).S [some (.scr (ns.map D.int)), none] []) = _
  unfold Gn.b_law
  obtain ⟨S, hS⟩ := repr_odd (x := .lst [.int 4, .int 4, .int 12, .int 1000000000000000000000000000000, .int 5]) (oddB_ok (by kernel_rfl)) []
  have p1 : pPow [.int 10, .int 30] [] = some (.int 1000000000000000000000000000000) := by kernel_rfl
  have s5 : (5 : Nat) ≤ sizeLine := sz _ (by decide)
  have p2 : pLen [.scr (ns.map D.int)] [] = some (.int (ns.length : Int)) := by simp [pLen, seqOf]
  simp only [sem, sE, sF, fLst, frz, f2, f1, fCons, fNil, seqS, ifS, forS, retS, truthOf, Res.bind, Res.fl, Res.of, primC, prim1, prim2, p1, p2, List.getElem?_cons_zero, List.getElem?_cons_succ, List.length_cons, List.length_nil, Nat.zero_add, Nat.reduceAdd, s5, if_true, hS, ne_same, truth, pMax2, pMin2, er, e1, outF]
end Kp


set_option Elab.async false
set_option linter.all false
set_option maxRecDepth 100000
set_option maxHeartbeats 0
open PySem PySem.W PySem.Calls PyProof.Rows in
theorem PySem.Challenge.cw_meetrounds_k01_limits_and_errors_holds : PySem.Challenge.rw_meetrounds_k01_limits_and_errors.Holds := by
  w_on; o_law
  refine HandSHeadRun.head_any (r := OpenLaw.row PySem.Challenge.rw_meetrounds_k01_limits_and_errors) (q := view (OpenLaw.row PySem.Challenge.rw_meetrounds_k01_limits_and_errors).prog [40]) (H := Gh.hk) (ob := Gh.ob) (M := 20000) (loose := Gh.loose) (d := HandSHeadRun.topDef (OpenLaw.row PySem.Challenge.rw_meetrounds_k01_limits_and_errors).prog 40) (kwd := []) Gh.ob_eq
    (by kernel_rfl) (fun s => by kernel_rfl) Gh.run (by kernel_rfl) (by kernel_rfl) (by kernel_rfl) (by rfl) (by first | assumption | decide +kernel) (by decide +kernel) ⟨rfl, rfl, rfl, rfl, rfl, by decide +kernel⟩ ?hw ?hc
  case hw => w_witness2
  case hc =>
    refine Zd.walk_ofW (l := PySem.Challenge.rw_meetrounds_k01_limits_and_errors) (n := 63) (k := 10) (x := "_law_script") rfl (by decide) (by kernel_rfl) ⟨rfl, by decide, by decide⟩ ?F
    intro w mg fa h Y N hmg0
    obtain ⟨K, KX, c⟩ := Y
    have hmg : mg ("law" : PySem.Str) = some (.ref fa) := by
      have e : (HandSHeadRun.topDef (OpenLaw.row PySem.Challenge.rw_meetrounds_k01_limits_and_errors).prog 40).name = ("law" : PySem.Str) := by kernel_rfl
      rw [← e]
      exact hmg0
    obtain ⟨fdt, F⟩ := c.def_ 9 (d := Gh.d_law) rfl
    have ok := Gh.prog c KX N
    have hg := Zd.glob_ok c.ck_ KX N (j := 9) (fd := Gn.f_law) rfl rfl
    have e2 : fa = He.ga K "law" := by
      have z := hmg.symm.trans hg
      cases z
      rfl
    subst e2
    have hfd := Zd.fd_ok (G := Gn.G) (mg := mg) Gh.st_law F (fun _ => hg) (Zd.binds0 (ps := ["_law_script"]) rfl rfl F fun _ _ _ _ _ _ us hl => match us, hl with | [_], _ => rfl)
    refine ⟨K, fdt, Zd.spOf (Zd.parOf Gn.G K) 1 (Zd.evalF Gn.G 0 4 9), KX, fun s u => L2.FunD.bindsA (ps := ["_law_script"]) F (fun _ _ _ _ _ _ us hl => match us, hl with | [_], _ => rfl) s [u] rfl, fun H a ns hl _ hS => Zd.law_sp (fun ns hl => Kp.law_ok 0 ns hl) H a ns hl hS, fun base _ _ => ?_⟩
    exact Zd.fns_ok ok 4 9 Gn.f_law _ fdt rfl hfd

