import PyProof.Rows.All
import Wide.All
import OpenK.AllK
import Wide.FinOn
import HandS.ForMost
import HandS.ForExc
import HandS.ExcInit
import HandS.ExcField
import HandS.ExcValue
import HandS.IsInst
import KE.KExcIs
import HandS.Deep
import HandS.DictComp
import HandS.Defaults
import HandS.Lambda
import HandS.WordsExc
import HandS.Zip
import HandS.Walk
import HandS.Text
import HandS.Style
import HandS.TupLen
import HandS.WordsDict
import HandS.TupAny
import HandS.Conv
import KE.GoesEnum
import HandS.Codes
import HandS.TryMany
import KE.KStateDown
import HandS.Base
import HandS.Call
import HandS.Ends
import HandS.More
import HandS.Words
import HandS.Head0
import HandS.Head1
import HandS.Head2
import HandS.HeadEnd
import HandS.HeadHook1
import HandS.HeadHook2
import HandS.HeadHook4
import HandS.EndTab
import HandS.HeadWalk
import PySem.Challenge.RW_siftlevels_k99_whole_texts_of_settings_a
set_option Elab.async false
set_option linter.all false
set_option maxRecDepth 100000
/-! exceptions as values: made by position and by keyword, their field, isinstance -/
namespace PySem
namespace YX
open PySem.W PySem.Calls PyProof.Rows PySem.HandSPX
section
variable {M : Model} {A : Around} {E : Value → Shared → Prop} {h : Heap} {g : Array GenState} {d : Drawn} {t : Nat} {os : OsState}
variable {nm q : Str} {C N : Addr} {bs bm bmB : List Value} {hdct : Bool} {sn : List Str} {sub : List Value} {ab : Bool} {col : Option Bool} {dd : Option Addr} {k0 k1 k2 k3 k5 : Option Value} {B newId initId : String}
theorem newCheck (F : ExcBaseFacts B newId initId bmB) (hT : ∀ X : String, bm.contains (.type X) = bmB.contains (.type X)) {kw : List (Str × Value)} {Q : Unit → Shared → Prop}
    (hC : h.get? C = some (excClassObj nm q C N bs bm hdct sn sub ab col dd k0 k1 k2 k3 k5 newId)) (hq : Q () ⟨h, g, d, t, os⟩) : wpAny M A (checkBuiltinCall newId ⟨[.ref C], kw⟩) Q E ⟨h, g, d, t, os⟩ := by
  have c1 : (Value.ref C :: bm).contains (.type B) = true := by rw [List.contains_cons, hT, F.hasB, Bool.or_true]
  have c2 := F.noStar
  simp only [checkBuiltinCall, F.newKind, F.newSplit, F.newRow]
  repeat (first
    | refine wpAny_loadPart_at hC ?_
    | (refine wpAny_isSubtype_exc hC ?_; rw [c1])
    | refine wpAny_staticBase_exc hC ?_
    | refine wpAny_madeBy_exc hC ?_
    | simp only [bne_self_eq_false, Bool.false_eq_true, if_false]
    | wp_step)
  exact hq
end
section
variable {prog : Program} {w : World} {A : Around} {E : Value → Shared → Prop} {R : Result → Shared → Prop} {h : Heap} {g : Array GenState} {d : Drawn} {t : Nat} {os : OsState}
variable {nm q : Str} {C N : Addr} {bs bm bmB : List Value} {hdct : Bool} {sn : List Str} {sub : List Value} {ab : Bool} {col : Option Bool} {dd : Option Addr} {k0 k1 k2 k3 k5 : Option Value} {B newId initId : String}
theorem newRun (F : ExcBaseFacts B newId initId bmB) (hT : ∀ X : String, bm.contains (.type X) = bmB.contains (.type X)) {kw : List (Str × Value)}
    (hC : h.get? C = some (excClassObj nm q C N bs bm hdct sn sub ab col dd k0 k1 k2 k3 k5 newId))
    (hq : R (.ok (.ret (.ref (h.objs.size + 1)))) ⟨(h.push (W.kdv_tup [])).push (excO C h.objs.size), g, d, t, os⟩) :
    codeAny (model prog w) A (.builtin newId ⟨[.ref C], kw⟩) R ⟨h, g, d, t, os⟩ := by
  have e0 := F.ends
  have c1 : (Value.ref C :: bm).contains (.type B) = true := by rw [List.contains_cons, hT, F.hasB, Bool.or_true]
  have c2 : (Value.ref C :: bm).contains (.type "AttributeError") = false := by rw [List.contains_cons, hT, F.noAttr]; rfl
  have c3 : (Value.ref C :: bm).contains (.type "NameError") = false := by rw [List.contains_cons, hT, F.noName]; rfl
  refine codeAny_builtinAt F.entry ?_
  unfold Builtin.«BaseException.__new__»
  refine wpAt_bind ?_
  show wpAt _ _ _ (stack >>= _) _ _ _
  refine wpAt_bind (wpAt_stack fun p below => wpAt_of_wpAny ?_)
  wp_walk
  refine wpAt_of_wpAny ?_
  rw [F.owner]
  repeat (first
    | with_reducible refine wpAny_madeHere_exc F.canon hC ?_
    | with_reducible refine wpAny_loadPart_at hC ?_
    | (with_reducible refine wpAny_isSubtype_exc hC ?_; first | rw [c1] | rw [c2] | rw [c3])
    | wp_step)
  show R _ _
  rw [Heap.size_push]
  exact hq
theorem typeRun (F : ExcBaseFacts B newId initId bmB) (hT : ∀ X : String, bm.contains (.type X) = bmB.contains (.type X)) {kw : List (Str × Value)} {fI : Addr} {Q : Fin → Shared → Prop}
    (hC : h.get? C = some (excClassObj nm q C N bs bm hdct sn sub ab col dd k0 k1 k2 k3 k5 newId))
    (hi : W.Looks (model prog w) h (typeLookup (.ref C) "__init__") (some (.ref fI))) (hb : ∀ self, W.Looks (model prog w) h (bindSpecial (.ref fI) self) (.ref fI, [self]))
    (hq : codeAny (model prog w) A (.call (.ref fI) ⟨[.ref (h.objs.size + 1)], kw⟩)
      (fun r s' => match r with | .ok (.ret v) => v = .none ∧ Q (.done (.ret (.ref (h.objs.size + 1)))) s' | .ok _ => False | .error e => E e s')
      ⟨(h.push (W.kdv_tup [])).push (excO C h.objs.size), g, d, t, os⟩) :
    wpAny (model prog w) A (Builtin.«type.__call__» ⟨[.ref C], kw⟩) Q E ⟨h, g, d, t, os⟩ := by
  repeat (first
    | with_reducible refine wpAny_loadPart_at hC ?_
    | with_reducible refine wpAny_madeBy_exc hC ?_
    | wp_step)
  refine codeAny_call_builtin_code (Code.quiet_builtin _ F.quiet) (newCheck F hT hC ?_)
  refine newRun F hT hC ?_
  show wpAny _ _ _ _ _ _
  have kp : ∀ b o, h.get? b = some o → ((h.push (W.kdv_tup [])).push (excO C h.objs.size)).get? b = some o := fun b o e => Heap.get?_push_of_some _ (Heap.get?_push_of_some _ e)
  have atC := kp _ _ hC
  have atE : ((h.push (W.kdv_tup [])).push (excO C h.objs.size)).get? (h.objs.size + 1) = some (excO C h.objs.size) := by heap_get
  have inC : (Value.ref C :: bm).contains (.ref C) = true := by simp
  have i1 := hi.keeps kp
  have b1 := (hb (.ref (h.objs.size + 1))).keeps kp
  unfold isInstance
  repeat (first
    | with_reducible refine wpAny_loadPart_at atE ?_
    | (with_reducible refine wpAny_isSubtype_exc atC ?_; rw [inC])
    | wp_step)
  show wpAny _ _ (typeLookup (.ref C) _) _ _ _
  refine i1.at ?_
  refine wpAny_holding (wpAny_bind (b1.at ?_))
  refine wpAny_bind (wpAny_call (codeAny_mono hq fun r s' z => ?_))
  rcases r with e | (v | _ | _ | _) <;> first | exact z | exact z.elim | skip
  obtain ⟨rfl, z⟩ := z
  first
    | exact wpAny_pure (wpAny_pure z)
    | (wp_walk; exact z)
theorem callKw (F : ExcBaseFacts B newId initId bmB) (hT : ∀ X : String, bm.contains (.type X) = bmB.contains (.type X)) {kw : List (Str × Value)} {fI : Addr}
    (hC : h.get? C = some (excClassObj nm q C N bs bm hdct sn sub ab col dd k0 k1 k2 k3 k5 newId))
    (hi : W.Looks (model prog w) h (typeLookup (.ref C) "__init__") (some (.ref fI))) (hb : ∀ self, W.Looks (model prog w) h (bindSpecial (.ref fI) self) (.ref fI, [self]))
    (hq : codeAny (model prog w) (A.under (.builtin "type.__call__" ⟨[.ref C], kw⟩)) (.call (.ref fI) ⟨[.ref (h.objs.size + 1)], kw⟩) (W.InitBack (h.objs.size + 1) R)
      ⟨(h.push (W.kdv_tup [])).push (excO C h.objs.size), g, d, t, os⟩) :
    codeAny (model prog w) A (.call (.ref C) ⟨[], kw⟩) R ⟨h, g, d, t, os⟩ := by
  have f1 := tc_lookup
  have f2 := tc_bind (.ref C)
  have hTy : (⟨h, g, d, t, os⟩ : Shared).TypeIs (.ref C) "type" := ⟨_, hC, rfl⟩
  refine codeAny_of_tree ?_
  show wpAny _ _ (callAny (.ref C) _) _ _ _
  repeat (any_goals (first
    | assumption
    | with_reducible refine wpAny_loadPart_at hC ?_
    | wp_step))
  refine ⟨rfl, ?_⟩
  refine codeAny_call_builtin_at (Code.quiet_builtin _ (by decide +kernel)) entry_typeCall (wpAny_check_type_call_sub hC (typeRun F hT hC hi hb ?_))
  refine codeAny_mono hq fun r s' z => ?_
  rcases r with e | (v | _ | _ | _) <;> exact z
end
end YX
end PySem
namespace L2
open PySem PySem.Spec PyProof.Rows
/-- an exception object at a: its class, its dict -/
def ExV (cls : Value) (d : Option Addr) (a : Addr) : HO := .ext fun h => ∃ (oe : Obj) (vs : Array Value), h.get? a = some oe ∧ Zc cls d oe ∧ oe.data = .fields vs
theorem exV_ok {P : Program} {w : World} {H : Hp} {h : Heap} {a : Addr} {cls : Value} {d : Option Addr} {oe : Obj} {vs : Array Value} (e : h.get? a = some oe) (z : Zc cls d oe) (f : oe.data = .fields vs) : ObjOk P w H h a (ExV cls d a) :=
  ⟨⟨oe, vs, e, z, f⟩, ⟨oe, e⟩, fun _ _ ⟨o, v, q, r⟩ k => ⟨o, v, k o q, r⟩⟩
theorem exV_at {P : Program} {w : World} {H : Hp} {h : Heap} {a : Addr} {cls : Value} {d : Option Addr} (hok : HOk P w H h) (e : H a = some (ExV cls d a)) : ∃ (oe : Obj) (vs : Array Value), h.get? a = some oe ∧ Zc cls d oe ∧ oe.data = .fields vs := by
  have x : ObjOk P w H h a (.ext fun h => ∃ (oe : Obj) (vs : Array Value), h.get? a = some oe ∧ Zc cls d oe ∧ oe.data = .fields vs) := hok a _ e
  exact x.1
section
variable {X : Cx} {pins : List (Addr × Obj)} {σ : St} {H : Hp} {s : Shared}
theorem Inv.sameHeap {s' : Shared} (I : Inv X pins σ H s) (hh : s'.heap = s.heap) (os : s'.os = s.os) (ag : AllBare s'.gens) : Inv X pins σ H s' := by
  obtain ⟨a1, a2, a3, a4, a5, a6, a7, a8, a9, a10, a11⟩ := I
  exact ⟨a1, os.trans a2, ag, by rw [hh]; exact a4, by rw [hh]; exact a5, by rw [hh]; exact a6, a7, a8, by rw [hh]; exact a9, by rw [hh]; exact a10, a11⟩
/-- an exception that is made, as a value -/
def tExV (t : St → Hp → XK → Prop) : TE := fun σ H Q => t σ H fun cls d H1 => ∀ a, H1 a = none → Q (.ref a) (upd H1 a (ExV cls d a))
theorem pe_exV {e : Expr} {t : St → Hp → XK → Prop} (he : PMk X e t) : PE X e (tExV t) := by
  refine ⟨fun pins s σ H Q I h => wpAny_mono (he pins s σ H _ I h) (fun u s1 hu => ?_) fun _ _ x => x⟩
  obtain ⟨a, oe, vs, sI, H', cls, d, rfl, J, k, ne, ha, hz, hd, h1, na, os, ag, r, q⟩ := hu
  have J2 := J.laidN (t' := sI.toks) (h' := s1.heap) k ne na (exV_ok (cls := cls) (d := d) ha hz hd)
  exact ⟨.ref a, _, J2.sameHeap rfl os ag, rfl, q a na⟩
/-- how one keyword binds, behind the instance -/
def KwE (K : PySem.W.Frag) (fd : FuncData) (ps ks : List Str) : Prop := ∀ (s : Shared) (u : Value) (ws : List Value), K.In s.heap → ws.length = ks.length → BindsTo s fd ⟨[u], ks.zip ws⟩ (ps.zip (u :: ws))
theorem pmk_oexK {CX : CXT} {x : Str} {C fI : Addr} {k : Nat} {fd : FuncData} {ps ks : List Str} {sp : Sp} {kws : List Keyword} {ta : TA} {p pos : Pos} (T : OexC X.K C) (iC : PySem.W.findIn X.K (.ref C) "__init__" = some (some (.ref fI))) (tI : PySem.W.typeIn X.K (.ref fI) = some (.type "function"))
    (F1 : FnOk X.prog X.w X.K X.mg X.base CX k fI fd ps sp) (hr : Room (k + 1) X.A) (hb : KwE X.K fd ps ks) (hx : Passes CX X (fun _ _ _ => False)) (hg : Gl X x) (hm : X.mg x = some (.ref C)) (ha : PK X kws ta) (hdb : (x == ("__debug__" : Str)) = false)
    (hall : (backToKw pos (keywordEach kws X.env)).all (·.1.isSome) = true) (hks : (backToKw pos (keywordEach kws X.env)).filterMap (·.1) = ks)
    (hpl : ((backTo pos (starEach [] X.env)).any (·.1) || (backToKw pos (keywordEach kws X.env)).any (·.1.isNone)) = false) :
    PMk X (.Call (.Name x p) [] kws pos) (fun σ H Q => ta σ H fun vs H1 => vs.length = ks.length ∧ tMkO C sp [] (fun _ H2 R => R vs H2) σ H1 Q) := by
  intro pins s σ H Q I h
  obtain ⟨nm, q, N, bs, bm, sn, sub, ab, col, dd, k0, k1, k2, k3, k5, hC, hbm⟩ := T.cls
  refine wpAny_Call_Name_kw (ld_glob I hg hm ?_ hdb)
  refine PySem.W.callWith_KW0 (h₀ := X.base) I.ok.mod.kin T.kC hall ?_ hpl
  refine thn (ha.run pos pins s σ H _ I h) fun us s1 ⟨vs, H1, I1, r1, l1, hz, q1⟩ => ⟨I1.kIn, ?_⟩
  rw [hks]
  show wpAny _ _ (call (.ref C) [] (ks.zip us)) _ _ _
  obtain ⟨hp, g, dr, tk, os⟩ := s1
  let a := hp.objs.size + 1
  have ga : hp.objs.size ≤ a := Nat.le_succ _
  have na : H1 a = none := I1.hok.fresh ga
  let h2 := (hp.push (PySem.W.kdv_tup [])).push (PySem.HandSPX.excO C hp.objs.size)
  have kk : ∀ b o, hp.get? b = some o → h2.get? b = some o := fun b o e => Heap.get?_push_of_some _ (Heap.get?_push_of_some _ e)
  have at2 : h2.get? a = some (PySem.HandSPX.excO C hp.objs.size) := by
    show ((hp.push (PySem.W.kdv_tup [])).push (PySem.HandSPX.excO C hp.objs.size)).get? (hp.objs.size + 1) = _
    heap_get
  have I2 : Inv X pins σ (upd H1 a (exo a C none)) ⟨h2, g, dr, tk, os⟩ := I1.laid (t' := tk) kk ga (exo_ok at2)
  have hq := q1 a na
  have r2 : Vals (V.ref a :: (vs ++ [])) (Value.ref a :: us) := .cons rfl (by rw [List.append_nil]; exact r1)
  refine wpAny_call (PySem.YX.callKw PySem.F.excBase_ValueError (fun Y => PySem.HandSPX.refsVE_contains Y bm hbm) (I1.kIn _ _ hC) (PySem.W.looks_findIn I1.kIn iC) (fun self => PySem.W.bind_fn I1.kIn self tI)
    (codeAny_mono (F1.run _ X.stack _ _ ⟨[Value.ref a], ks.zip us⟩ (Value.ref a :: us) _ _ (fun _ _ _ => False) (hr.make C [] (ks.zip us)) (I2.env0.make C [] (ks.zip us)) (hb _ (Value.ref a) us I2.kIn (by rw [← r1.length]; exact l1)) r2 hq) fun r s' hq' => ?_))
  cases r with
  | error er => exact hx pins σ _ _ er s' I2 hq'
  | ok fl =>
    cases fl with
    | ret u =>
      obtain ⟨v, H2, os2, bare2, un2, hok2, rv, ev, d, fs, ea, ed, hd1, q2⟩ := hq'
      subst ev
      obtain ⟨h3, g3, d3, t3, os3⟩ := s'
      exact ⟨rv, mk_end (raises_own T.exC T.tyC) I1 ga kk un2 hok2 os2 bare2 ea ed hd1 q2⟩
    | next => exact False.elim hq'
    | brk => exact False.elim hq'
    | cont => exact False.elim hq'
/-- e.f, e an exception as a value -/
def tXv (K : PySem.W.Frag) (f : Str) (te : TE) : TE := fun σ H Q => te σ H fun x H1 => ∃ (a C dd : Addr) (fs : List (Str × V)) (v : V), x = .ref a ∧ H1 a = some (ExV (.ref C) (some dd) a) ∧ XfC K C ∧ PySem.W.findIn K (.ref C) f = some none ∧ H1 dd = some (.xd fs) ∧ fs.lookup f = some v ∧ Q v H1
theorem pe_xv {e : Expr} {te : TE} {pos : Pos} {n : Str} (he : PE X e te) (hb : attributeBase e n X.env (eval e X.env) = eval e X.env) : PE X (.Attribute e n pos) (tXv X.K n te) := by
  refine ⟨fun pins s σ H Q I h => ?_⟩
  refine attr_of hb (thn (he.run pins s σ H _ I h) fun u s1 hh => ?_)
  obtain ⟨x, H1, I1, rx, a, C, dd, fs, v, ex, hx, T, hno, ea, l, q⟩ := hh
  subst ex
  obtain rfl : u = Value.ref a := rx
  obtain ⟨oe, vs, ha, hz, hd⟩ := exV_at I1.hok hx
  have hx2 : ObjOk X.prog X.w H1 s1.heap dd (.xd fs) := I1.hok dd _ ea
  obtain ⟨mA, hns, hr⟩ := hx2
  obtain ⟨od, ho, hl⟩ := lookIn_ns hns
  obtain ⟨u, hu, ru⟩ := RelO.some_of (v := v) (o := mA n) (by rw [← l]; exact hr n)
  have J : PySem.W.InstAt s1.heap a oe C (some od) := ⟨ha, hz.1, by unfold PySem.W.notCls; rw [hd] <;> rfl, by rw [hz.2]; exact ho⟩
  exact HandSPX.exc_get I1.kIn J T.ga T.gg T.exC (PySem.W.findObj_own T.hdC hno rfl (by rw [hl, hu])) (handed_of ru) ⟨v, H1, I1.tok _, ru, q⟩
/-! ### isinstance -/
structure XiC (K : PySem.W.Frag) (C : Addr) : Prop extends XfC K C where
  ci : (PySem.W.clsIn K C).isSome = true
  ca : PySem.W.findIn K (.ref C) "__class__" = some (some (.builtin "object.__class__"))
  cg : PySem.W.specialIn K (.builtin "object.__class__") "__get__" = some (some (.builtin "getset_descriptor.__get__"))
  ct : PySem.W.takesIn K (.builtin "object.__class__") = some true
  cm : PySem.W.mroIn K C (.type "object") = some true
inductive TyE (K : PySem.W.Frag) (H : Hp) : V → Value → Prop where
  | x {v : V} {t : Value} (h : TyX K H v t) : TyE K H v t
  | e {a C dd : Addr} {fs : List (Str × V)} (h : H a = some (ExV (.ref C) (some dd) a)) (hd : H dd = some (.xd fs)) (c : XiC K C) : TyE K H (.ref a) (.ref C)
  | e0 {a C : Addr} (h : H a = some (ExV (.ref C) none a)) (c : XiC K C) : TyE K H (.ref a) (.ref C)
theorem kit_ofE {x : V} {u t : Value} (I : Inv X pins σ H s) (rx : RelV x u) (ty : TyE X.K H x t) : ∃ P : Heap → Prop, PySem.W.KitX X.K u t P ∧ P s.heap ∧ u ≠ .builtin "__main__.__loader__#opaque" := by
  cases ty with
  | x h => exact kit_of I rx h
  | @e a C dd fs h hd c =>
    cases (show u = Value.ref a from rx)
    obtain ⟨oe, vs, ha, hz, hf⟩ := exV_at I.hok h
    have hx2 : ObjOk X.prog X.w H s.heap dd (.xd fs) := I.hok dd _ hd
    obtain ⟨mA, hns, hr⟩ := hx2
    obtain ⟨od, ho, hl⟩ := lookIn_ns hns
    have J : PySem.W.InstAt s.heap a oe C (some od) := ⟨ha, hz.1, by unfold PySem.W.notCls; rw [hf] <;> rfl, by rw [hz.2]; exact ho⟩
    exact ⟨_, PySem.W.kitx_exc c.ci c.ga c.gg c.exC c.ca c.cg c.ct c.cm, J, fun z => nomatch z⟩
  | @e0 a C h c =>
    cases (show u = Value.ref a from rx)
    obtain ⟨oe, vs, ha, hz, hf⟩ := exV_at I.hok h
    have J : PySem.W.InstAt s.heap a oe C none := ⟨ha, hz.1, by unfold PySem.W.notCls; rw [hf] <;> rfl, by rw [hz.2]; exact trivial⟩
    exact ⟨_, PySem.W.kitx_exc c.ci c.ga c.gg c.exC c.ca c.cg c.ct c.cm, J, fun z => nomatch z⟩
def rIsiE (K : PySem.W.Frag) : List V → Hp → VK → Prop := fun xs H Q => ∃ (x c : V) (t u : Value) (b : Bool), xs = [x, c] ∧ ClsV c u ∧ TyE K H x t ∧ PySem.W.kitOne K t u = some b ∧ Q (.bl b) H
def rIsiTE (K : PySem.W.Frag) : List V → Hp → VK → Prop := fun xs H Q => ∃ (x : V) (tp : Addr) (cs : List V) (t : Value) (us : List Value) (b : Bool), xs = [x, .ref tp] ∧ H tp = some (.tup cs) ∧ Paired ClsV cs us ∧ TyE K H x t ∧ PySem.W.kitAny K t us = some b ∧ Q (.bl b) H
theorem call_isiE : CallR X (.builtin "isinstance") (rIsiE X.K) := by
  intro pins s σ H xs us Q I r h
  obtain ⟨x, c, t, u, b, rfl, k, ty, e, q⟩ := h
  obtain ⟨u1, u2, rfl, r1, r2⟩ := vals2 r
  cases k.eq r2
  obtain ⟨P, Z, p, hx⟩ := kit_ofE I r1 ty
  exact PySem.W.kia_one Z I.kIn p e hx fun tk => ⟨.bl b, H, I.tok tk, rfl, q⟩
theorem call_isiTE : CallR X (.builtin "isinstance") (rIsiTE X.K) := by
  intro pins s σ H xs us Q I r h
  obtain ⟨x, tp, cs, t, ws, b, rfl, hT, k, ty, e, q⟩ := h
  obtain ⟨u1, u2, rfl, r1, r2⟩ := vals2 r
  cases (show u2 = Value.ref tp from r2)
  obtain ⟨P, Z, p, hx⟩ := kit_ofE I r1 ty
  have ot : ObjOk X.prog X.w H s.heap tp (.tup cs) := I.hok tp _ hT
  obtain ⟨_, its, rv, ⟨oc, od, dt, sl⟩, h1, h2, n, h3⟩ := ot
  cases ClsV.all k rv
  simp only at h2 h3
  subst h2 h3
  exact PySem.W.kia_tup Z I.kIn p h1 e hx fun tk => ⟨.bl b, H, I.tok tk, rfl, q⟩
end
end L2
namespace Z
open PySem PySem.Spec PyProof.Rows L2

/-! ### data, without addresses -/
inductive D where
  | non | bl (b : Bool) | int (i : Int) | str (x : Str)
  | lst (xs : List D) | tup (xs : List D)
  /-- a dict with keys that are ints and texts; with keys that are tuples of such -/
  | dk (ks : List Key) (vs : List D) | dt (ks : List (List Key)) (vs : List D)
  | obj (c : Nat) (fs : List D) | exc (c : Nat) (fs : List D)
  | fn (f : Nat) | cl (c : Nat) | ty (n : String) | reg

/-- the draws' state -/
structure PS where
  cells : List Int
  dig : Int
  cnt : Int
  mix : Int

inductive Res (α : Type) where
  | ok (a : α) (p : PS) | exc (c : Nat) (fs : List D) (p : PS) | bad
abbrev M (α : Type) := PS → Res α
def M.pure {α : Type} (a : α) : M α := fun p => .ok a p
def M.bind {α β : Type} (m : M α) (k : α → M β) : M β := fun p => match m p with
  | .ok a p' => k a p'
  | .exc c fs p' => .exc c fs p'
  | .bad => .bad
def M.of {α : Type} (o : Option α) : M α := fun p => match o with
  | some a => .ok a p
  | none => .bad
instance : Monad M where
  pure := M.pure
  bind := M.bind

inductive Sl where
  | no | fz (d : D) | ow (d : D)
abbrev Env := List Sl
abbrev Fns := Nat → List D → M D
abbrev DE := Fns → Env → M D

/-! ### what a value is, over a part S of the heap that stays -/
/-- a class: a built-in's, an own one's -/
inductive Tg where
  | t (n : String) | c (k : Nat)
  deriving DecidableEq
structure Gx where
  K : PySem.W.Frag
  cad : Nat → Addr
  fad : Nat → Addr
  cfs : Nat → List Str
  r1 : Addr
  r2 : Addr
  T : List (Addr × Str)
  isa : Tg → Tg → Option Bool
  oc : Nat → Bool
  ox : Nat → Bool
  exm : Nat → Nat → Option Bool

def kD : Key → D
  | .inl i => .int i
  | .inr x => .str x

/-- a text whose signs are signs, within the line -/
def sOk (x : Str) : Bool := PySem.PyData.strOk x && decide (x.length ≤ 16777216)
def kOk : Key → Bool
  | .inl _ => true
  | .inr x => sOk x
mutual
inductive At (G : Gx) (S : Hp) : V → D → Prop
  | non : At G S .non .non
  | bl (b : Bool) : At G S (.bl b) (.bl b)
  | int (i : Int) : At G S (.int i) (.int i)
  | str (x : Str) (h : sOk x = true) : At G S (.str x) (.str x)
  | lst {a : Addr} {vs : List V} {ds : List D} : S a = some (.lst vs) → Ats G S vs ds → At G S (.ref a) (.lst ds)
  | tup {a : Addr} {vs : List V} {ds : List D} : S a = some (.tup vs) → Ats G S vs ds → At G S (.ref a) (.tup ds)
  | dK {a : Addr} {kvs : List (Key × V)} {ds : List D} (hk : ∀ p ∈ kvs, kOk p.1 = true) : Rd S a (.dK kvs) → Ats G S (kvs.map (·.2)) ds → At G S (.ref a) (.dk (kvs.map (·.1)) ds)
  | dT {a : Addr} {kvs : List (List Key × V)} {ds : List D} (hk : ∀ p ∈ kvs, ∀ k ∈ p.1, kOk k = true) : S a = some (.dT kvs) → Ats G S (kvs.map (·.2)) ds → At G S (.ref a) (.dt (kvs.map (·.1)) ds)
  | obj {a dx : Addr} {c : Nat} {fs : List (Str × V)} {ds : List D} (hk : fs.map (·.1) = G.cfs c) : S a = some (.ins (G.cad c) dx fs) → Ats G S (fs.map (·.2)) ds → At G S (.ref a) (.obj c ds)
  | exc {a dx : Addr} {c : Nat} {f : Str} {v : V} {x : D} (hf : G.cfs c = [f]) : S a = some (ExV (.ref (G.cad c)) (some dx) a) → S dx = some (.xd [(f, v)]) → At G S v x → At G S (.ref a) (.exc c [x])
  | exc0 {a : Addr} {c : Nat} (hf : G.cfs c = []) : S a = some (ExV (.ref (G.cad c)) none a) → At G S (.ref a) (.exc c [])
  | fn (f : Nat) : At G S (.ref (G.fad f)) (.fn f)
  | cl (c : Nat) : At G S (.ref (G.cad c)) (.cl c)
  | ty (n : String) : At G S (.ty n) (.ty n)
  | reg : At G S (.ref G.r1) .reg
inductive Ats (G : Gx) (S : Hp) : List V → List D → Prop
  | nil : Ats G S [] []
  | cons {v : V} {vs : List V} {d : D} {ds : List D} : At G S v d → Ats G S vs ds → Ats G S (v :: vs) (d :: ds)
end

/-- all that is read stays -/
def Ext (S S' : Hp) : Prop := (∀ a o, S a = some o → S' a = some o)
theorem Ext.refl (S : Hp) : Ext S S := fun _ _ h => h
theorem Ext.trans {S S1 S2 : Hp} (a : Ext S S1) (b : Ext S1 S2) : Ext S S2 := fun x o h => b x o (a x o h)
theorem Ext.rd {S S' : Hp} (e : Ext S S') {a : Addr} {u : HO} (h : Rd S a u) : Rd S' a u := by
  rcases h with h | ⟨o, h⟩
  · exact .inl (e a _ h)
  · exact .inr ⟨o, e a _ h⟩
theorem Ext.new {H : Hp} {p : Addr} {o : HO} (h : H p = none) : Ext H (upd H p o) := fun a u e => by
  rw [upd_ne (ne_of_none e h)]
  exact e

/-- weaker: what is read, locked or not -/
structure Ext' (S S' : Hp) : Prop where
  lst : ∀ a xs, S a = some (.lst xs) → S' a = some (.lst xs)
  tup : ∀ a xs, S a = some (.tup xs) → S' a = some (.tup xs)
  dK : ∀ a xs, Rd S a (.dK xs) → Rd S' a (.dK xs)
  dT : ∀ a xs, S a = some (.dT xs) → S' a = some (.dT xs)
  ins : ∀ a C dx fs, S a = some (.ins C dx fs) → S' a = some (.ins C dx fs)
  exv : ∀ a cls d b, S a = some (ExV cls d b) → S' a = some (ExV cls d b)
  xd : ∀ a fs, S a = some (.xd fs) → S' a = some (.xd fs)
theorem Ext.weak {S S' : Hp} (e : Ext S S') : Ext' S S' := ⟨fun _ _ h => e _ _ h, fun _ _ h => e _ _ h, fun _ _ h => e.rd h, fun _ _ h => e _ _ h, fun _ _ _ _ h => e _ _ h, fun _ _ _ _ h => e _ _ h, fun _ _ h => e _ _ h⟩
section
variable {G : Gx} {S S' : Hp}
mutual
theorem At.mono' (e : Ext' S S') : ∀ {v : V} {d : D}, At G S v d → At G S' v d
  | _, _, .non => .non
  | _, _, .bl b => .bl b
  | _, _, .int i => .int i
  | _, _, .str x h => .str x h
  | _, _, .lst h a => .lst (e.lst _ _ h) (Ats.mono' e a)
  | _, _, .tup h a => .tup (e.tup _ _ h) (Ats.mono' e a)
  | _, _, .dK k h a => .dK k (e.dK _ _ h) (Ats.mono' e a)
  | _, _, .dT k h a => .dT k (e.dT _ _ h) (Ats.mono' e a)
  | _, _, .obj k h a => .obj k (e.ins _ _ _ _ h) (Ats.mono' e a)
  | _, _, .exc hf h1 h2 a => .exc hf (e.exv _ _ _ _ h1) (e.xd _ _ h2) (At.mono' e a)
  | _, _, .exc0 hf h1 => .exc0 hf (e.exv _ _ _ _ h1)
  | _, _, .fn f => .fn f
  | _, _, .cl c => .cl c
  | _, _, .ty n => .ty n
  | _, _, .reg => .reg
theorem Ats.mono' (e : Ext' S S') : ∀ {vs : List V} {ds : List D}, Ats G S vs ds → Ats G S' vs ds
  | _, _, .nil => .nil
  | _, _, .cons h t => .cons (At.mono' e h) (Ats.mono' e t)
end
theorem At.mono (e : Ext S S') {v : V} {d : D} (h : At G S v d) : At G S' v d := At.mono' e.weak h
theorem Ats.mono (e : Ext S S') {vs : List V} {ds : List D} (h : Ats G S vs ds) : Ats G S' vs ds := Ats.mono' e.weak h
theorem Ats.length : ∀ {vs : List V} {ds : List D}, Ats G S vs ds → vs.length = ds.length
  | _, _, .nil => rfl
  | _, _, .cons _ t => by rw [List.length_cons, List.length_cons, Ats.length t]
theorem Ats.append : ∀ {vs ws : List V} {ds es : List D}, Ats G S vs ds → Ats G S ws es → Ats G S (vs ++ ws) (ds ++ es)
  | _, _, _, _, .nil, h => h
  | _, _, _, _, .cons a t, h => .cons a (Ats.append t h)
theorem Ats.get : ∀ {vs : List V} {ds : List D} {i : Nat} {d : D}, Ats G S vs ds → ds[i]? = some d → ∃ v, vs[i]? = some v ∧ At G S v d
  | _, _, _, _, .nil, h => by simp at h
  | _, _, 0, _, .cons a t, h => by simp at h; subst h; exact ⟨_, rfl, a⟩
  | _, _, i + 1, _, .cons a t, h => by
    obtain ⟨v, h1, h2⟩ := Ats.get (i := i) t (by simpa using h)
    exact ⟨v, by simpa using h1, h2⟩
theorem Ats.get' : ∀ {vs : List V} {ds : List D} {i : Nat} {v : V}, Ats G S vs ds → vs[i]? = some v → ∃ d, ds[i]? = some d ∧ At G S v d
  | _, _, _, _, .nil, h => by simp at h
  | _, _, 0, _, .cons a t, h => by simp at h; subst h; exact ⟨_, rfl, a⟩
  | _, _, i + 1, _, .cons a t, h => by
    obtain ⟨v, h1, h2⟩ := Ats.get' (i := i) t (by simpa using h)
    exact ⟨v, by simpa using h1, h2⟩
theorem Ats.drop : ∀ {vs : List V} {ds : List D} (n : Nat), Ats G S vs ds → Ats G S (vs.drop n) (ds.drop n)
  | _, _, 0, h => h
  | _, _, _ + 1, .nil => .nil
  | _, _, n + 1, .cons _ t => Ats.drop n t
theorem Ats.take : ∀ {vs : List V} {ds : List D} (n : Nat), Ats G S vs ds → Ats G S (vs.take n) (ds.take n)
  | _, _, 0, _ => .nil
  | _, _, _ + 1, .nil => .nil
  | _, _, n + 1, .cons a t => .cons a (Ats.take n t)
theorem Ats.set {v : V} {d : D} (h : At G S v d) : ∀ {vs : List V} {ds : List D} (n : Nat), Ats G S vs ds → Ats G S (vs.set n v) (ds.set n d)
  | _, _, _, .nil => .nil
  | _, _, 0, .cons _ t => .cons h t
  | _, _, n + 1, .cons a t => .cons a (Ats.set h n t)
theorem Ats.eraseIdx : ∀ {vs : List V} {ds : List D} (n : Nat), Ats G S vs ds → Ats G S (vs.eraseIdx n) (ds.eraseIdx n)
  | _, _, _, .nil => .nil
  | _, _, 0, .cons _ t => t
  | _, _, n + 1, .cons a t => .cons a (Ats.eraseIdx n t)
theorem Ats.dropLast : ∀ {vs : List V} {ds : List D}, Ats G S vs ds → Ats G S vs.dropLast ds.dropLast
  | _, _, .nil => .nil
  | _, _, .cons _ .nil => .nil
  | _, _, .cons a (.cons b t) => .cons a (Ats.dropLast (.cons b t))
theorem Ats.reverse {vs : List V} {ds : List D} (h : Ats G S vs ds) : Ats G S vs.reverse ds.reverse := by
  induction vs generalizing ds with
  | nil => cases h; exact .nil
  | cons v vs ih =>
    cases h with
    | cons a t =>
      rw [List.reverse_cons, List.reverse_cons]
      exact (ih t).append (.cons a .nil)
theorem Ats.rep {vs : List V} {ds : List D} (h : Ats G S vs ds) : ∀ k : Nat, Ats G S (List.replicate k vs).flatten (List.replicate k ds).flatten
  | 0 => .nil
  | k + 1 => by
    rw [List.replicate_succ, List.replicate_succ, List.flatten_cons, List.flatten_cons]
    exact h.append (Ats.rep h k)
end

/-! ### steps of the heap -/
theorem tabs_mono {T : List (Addr × Str)} {H H' : Hp} (t : LamX.Tabs T H) (k : ∀ a o, (∀ xs, o ≠ .lst xs) → (∀ xs, o ≠ .dK xs) → (∀ xs, o ≠ .dT xs) → (∀ a b xs, o ≠ .ins a b xs) → H a = some o → H' a = some o) : LamX.Tabs T H' := fun q hq => by
  obtain ⟨ps, h1, h2, h3⟩ := t q hq
  refine ⟨ps, k _ _ (fun _ z => by cases z) (fun _ z => by cases z) (fun _ z => by cases z) (fun _ _ _ z => by cases z) h1, h2, fun pos cv hc => ?_⟩
  obtain ⟨c, e, h4⟩ := h3 pos cv hc
  exact ⟨c, e, k _ _ (fun _ z => by cases z) (fun _ z => by cases z) (fun _ z => by cases z) (fun _ _ _ z => by cases z) h4⟩
/-- the draws' object stands -/
structure RegOk (G : Gx) (H : Hp) (p : PS) : Prop where
  a1 : H G.r1 = some (.lst [.ref G.r2, .int p.dig, .int p.cnt, .int p.mix])
  a2 : H G.r2 = some (.lst (p.cells.map V.int))
  ne : G.r1 ≠ G.r2
  tabs : LamX.Tabs G.T H
/-- S is a part of H that stays, without the draws' object -/
structure Sub (G : Gx) (S H : Hp) : Prop where
  ext : Ext S H
  n1 : S G.r1 = none
  n2 : S G.r2 = none
  nt : ∀ a ps, S a ≠ some (.tbl ps)
abbrev NTb (o : HO) : Prop := ∀ ps, o ≠ .tbl ps
/-- something stands there, no code table -/
def Nn (H : Hp) (a : Addr) : Prop := ∃ o, H a = some o ∧ NTb o
theorem Nn.no {H : Hp} {a : Addr} (h : H a = none) : ¬ Nn H a := fun ⟨o, e, _⟩ => by rw [h] at e; cases e
theorem Nn.ne {H : Hp} {a : Addr} (h : Nn H a) : H a ≠ none := fun z => Nn.no z h
/-- from (S, H) to (S', H'): what stood stands, but the draws' object and the code tables -/
structure Fn (G : Gx) (S H S' H' : Hp) : Prop where
  ext : Ext S S'
  sub : Sub G S' H'
  keep : ∀ a o, a ≠ G.r1 → a ≠ G.r2 → NTb o → H a = some o → H' a = some o
  dom : ∀ a, Nn H a → Nn H' a
  new : ∀ a, Nn H a → S' a = S a
theorem RegOk.nn {G : Gx} {H : Hp} {p : PS} (r : RegOk G H p) : Nn H G.r1 ∧ Nn H G.r2 := ⟨⟨_, r.a1, fun _ z => by cases z⟩, ⟨_, r.a2, fun _ z => by cases z⟩⟩
theorem RegOk.dom {G : Gx} {H : Hp} {p : PS} (r : RegOk G H p) : H G.r1 ≠ none ∧ H G.r2 ≠ none := by
  rw [r.a1, r.a2]
  exact ⟨(fun z => by cases z), (fun z => by cases z)⟩
theorem Fn.refl {G : Gx} {S H : Hp} (s : Sub G S H) : Fn G S H S H := ⟨Ext.refl _, s, fun _ _ _ _ _ h => h, fun _ h => h, fun _ _ => rfl⟩
theorem Fn.trans {G : Gx} {S H S1 H1 S2 H2 : Hp} (a : Fn G S H S1 H1) (b : Fn G S1 H1 S2 H2) : Fn G S H S2 H2 :=
  ⟨a.ext.trans b.ext, b.sub, fun x o h1 h2 nt h => b.keep x o h1 h2 nt (a.keep x o h1 h2 nt h), fun x h => b.dom x (a.dom x h), fun x h => by rw [b.new x (a.dom x h), a.new x h]⟩
/-- a pure step: all stands, new objects alone -/
structure Fp (G : Gx) (S H S' H' : Hp) : Prop where
  ext : Ext S S'
  sub : Sub G S' H'
  keep : Ext H H'
  new : ∀ a, H a ≠ none → S' a = S a
theorem Ext.dom {H H' : Hp} (e : Ext H H') : ∀ a, H a ≠ none → H' a ≠ none := fun a h => by
  cases q : H a with
  | none => exact absurd q h
  | some o =>
    rw [e a o q]
    exact fun z => by cases z
theorem Fp.fn {G : Gx} {S H S' H' : Hp} (f : Fp G S H S' H') : Fn G S H S' H' := ⟨f.ext, f.sub, fun a o _ _ _ h => f.keep a o h, fun a ⟨o, h, nt⟩ => ⟨o, f.keep a o h, nt⟩, fun a h => f.new a h.ne⟩
theorem Ext.tabs {T : List (Addr × Str)} {H H' : Hp} (e : Ext H H') (t : LamX.Tabs T H) : LamX.Tabs T H' := tabs_mono t fun a o _ _ _ _ h => e a o h
theorem Ext.reg {G : Gx} {H H' : Hp} {p : PS} (e : Ext H H') (r : RegOk G H p) : RegOk G H' p := ⟨e _ _ r.a1, e _ _ r.a2, r.ne, e.tabs r.tabs⟩
theorem Fp.reg {G : Gx} {S H S' H' : Hp} {p : PS} (f : Fp G S H S' H') (r : RegOk G H p) : RegOk G H' p := f.keep.reg r
theorem Fp.refl {G : Gx} {S H : Hp} (s : Sub G S H) : Fp G S H S H := ⟨Ext.refl _, s, Ext.refl _, fun _ _ => rfl⟩
theorem Fp.trans {G : Gx} {S H S1 H1 S2 H2 : Hp} (a : Fp G S H S1 H1) (b : Fp G S1 H1 S2 H2) : Fp G S H S2 H2 :=
  ⟨a.ext.trans b.ext, b.sub, a.keep.trans b.keep, fun x h => by rw [b.new x (a.keep.dom x h), a.new x h]⟩
/-- a new object, put to what stays -/
theorem Fp.alloc {G : Gx} {S H : Hp} {p : Addr} {o : HO} {ps : PS} (s : Sub G S H) (r : RegOk G H ps) (hp : H p = none) (nt : NTb o := by intro _ z; cases z) : Fp G S H (upd S p o) (upd H p o) := by
  have sp : S p = none := by
    cases q : S p with
    | none => rfl
    | some u => rw [s.ext p u q] at hp; cases hp
  have n1 : G.r1 ≠ p := fun z => r.dom.1 (by rw [z]; exact hp)
  have n2 : G.r2 ≠ p := fun z => r.dom.2 (by rw [z]; exact hp)
  refine ⟨Ext.new sp, ⟨fun a u h => ?_, by rw [upd_ne n1]; exact s.n1, by rw [upd_ne n2]; exact s.n2, fun a ps h => ?_⟩, Ext.new hp, fun a h => ?_⟩
  · by_cases e : a = p
    · rw [e, upd_same] at h
      rw [e, upd_same]
      exact h
    · rw [upd_ne e] at h
      rw [upd_ne e]
      exact s.ext a u h
  · by_cases e : a = p
    · rw [e, upd_same] at h
      cases h
      exact nt ps rfl
    · rw [upd_ne e] at h
      exact s.nt a ps h
  · have e : a ≠ p := fun z => h (by rw [z]; exact hp)
    rw [upd_ne e]
/-- a new object of our own, not yet put to what stays -/
theorem Fp.alloc0 {G : Gx} {S H : Hp} {p : Addr} {o : HO} (s : Sub G S H) (hp : H p = none) : Fp G S H S (upd H p o) :=
  ⟨Ext.refl _, ⟨s.ext.trans (Ext.new hp), s.n1, s.n2, s.nt⟩, Ext.new hp, fun _ _ => rfl⟩

/-! ### what is read at a slot: frozen, or our own -/
/-- an own object: its top is in H, its items stay -/
inductive Own (G : Gx) (S H : Hp) : Addr → D → Prop
  | lst {a : Addr} {vs : List V} {ds : List D} : H a = some (.lst vs) → Ats G S vs ds → Own G S H a (.lst ds)
  | dK {a : Addr} {kvs : List (Key × V)} {ds : List D} (hk : ∀ p ∈ kvs, kOk p.1 = true) : H a = some (.dK kvs) → Ats G S (kvs.map (·.2)) ds → Own G S H a (.dk (kvs.map (·.1)) ds)
  | dT {a : Addr} {kvs : List (List Key × V)} {ds : List D} (hk : ∀ p ∈ kvs, ∀ k ∈ p.1, kOk k = true) : H a = some (.dT kvs) → Ats G S (kvs.map (·.2)) ds → Own G S H a (.dt (kvs.map (·.1)) ds)
  | ins {a dx : Addr} {c : Nat} {fs : List (Str × V)} {ds : List D} (hk : fs.map (·.1) = (G.cfs c).take ds.length) : H a = some (.ins (G.cad c) dx fs) → Ats G S (fs.map (·.2)) ds → Own G S H a (.obj c ds)
theorem Own.mono {G : Gx} {S H S' H' : Hp} {a : Addr} {d : D} (h : Own G S H a d) (e : Ext S S') (k : ∀ o, NTb o → H a = some o → H' a = some o) : Own G S' H' a d := by
  cases h with
  | lst h1 h2 => exact .lst (k _ (fun _ z => by cases z) h1) (h2.mono e)
  | dK hk h1 h2 => exact .dK hk (k _ (fun _ z => by cases z) h1) (h2.mono e)
  | dT hk h1 h2 => exact .dT hk (k _ (fun _ z => by cases z) h1) (h2.mono e)
  | ins hk h1 h2 => exact .ins hk (k _ (fun _ z => by cases z) h1) (h2.mono e)
/-- a value that may be looked at -/
def Aw (G : Gx) (S H : Hp) (v : V) (d : D) : Prop := At G S v d ∨ ∃ p, v = .ref p ∧ p ≠ G.r1 ∧ p ≠ G.r2 ∧ Own G S H p d
theorem Aw.mono {G : Gx} {S H S' H' : Hp} {v : V} {d : D} (h : Aw G S H v d) (f : Fn G S H S' H') : Aw G S' H' v d := by
  rcases h with h | ⟨p, e, n1, n2, h⟩
  · exact .inl (h.mono f.ext)
  · exact .inr ⟨p, e, n1, n2, h.mono f.ext fun o nt q => f.keep p o n1 n2 nt q⟩
/-- the slots -/
structure Rep (G : Gx) (H0 S H : Hp) (σ : L2.St) (ρ : Env) : Prop where
  len : ρ.length = σ.length
  fz : ∀ (i : Nat) (d : D), ρ[i]? = some (Sl.fz d) → ∃ v, σ[i]? = some (some v) ∧ At G S v d
  ow : ∀ (i : Nat) (d : D), ρ[i]? = some (Sl.ow d) → ∃ p, σ[i]? = some (some (V.ref p)) ∧ ¬ Nn H0 p ∧ S p = none ∧ p ≠ G.r1 ∧ p ≠ G.r2 ∧ Own G S H p d
  apart : ∀ (i j : Nat) (d e : D) (p : Addr), ρ[i]? = some (Sl.ow d) → ρ[j]? = some (Sl.ow e) → σ[i]? = some (some (V.ref p)) → σ[j]? = some (some (V.ref p)) → i = j
  /-- an own instance is the one that is being made -/
  ob : ∀ (i c : Nat) (ds : List D) (p : Addr), ρ[i]? = some (Sl.ow (.obj c ds)) → σ[i]? = some (some (V.ref p)) → H0 G.r1 = some (.own p)
theorem Own.there {G : Gx} {S H : Hp} {a : Addr} {d : D} (h : Own G S H a d) : Nn H a := by
  cases h with
  | lst h1 _ => exact ⟨_, h1, fun _ z => by cases z⟩
  | dK _ h1 _ => exact ⟨_, h1, fun _ z => by cases z⟩
  | dT _ h1 _ => exact ⟨_, h1, fun _ z => by cases z⟩
  | ins _ h1 _ => exact ⟨_, h1, fun _ z => by cases z⟩
theorem Rep.mono {G : Gx} {H0 S H S' H' : Hp} {σ : L2.St} {ρ : Env} (r : Rep G H0 S H σ ρ) (f : Fn G S H S' H') : Rep G H0 S' H' σ ρ := by
  refine ⟨r.len, fun i d h => ?_, fun i d h => ?_, r.apart, r.ob⟩
  · obtain ⟨v, h1, h2⟩ := r.fz i d h
    exact ⟨v, h1, h2.mono f.ext⟩
  · obtain ⟨p, h1, h2, h3, h4, h5, h6⟩ := r.ow i d h
    refine ⟨p, h1, h2, ?_, h4, h5, h6.mono f.ext fun o nt q => f.keep p o h4 h5 nt q⟩
    rw [f.new p h6.there]
    exact h3
end Z
namespace Z
open PySem PySem.Spec PyProof.Rows L2

/-- an exception's class and its one field, as data -/
def ExAt (G : Gx) (S H : Hp) (cls : Value) (od : Option Addr) (c : Nat) (fs : List D) : Prop :=
  cls = .ref (G.cad c) ∧ ((fs = [] ∧ od = none ∧ G.cfs c = []) ∨ ∃ d f x v, fs = [x] ∧ G.cfs c = [f] ∧ od = some d ∧ H d = some (.xd [(f, v)]) ∧ At G S v x)

abbrev Rl (β α : Type) := Hp → Hp → β → α → Prop
def Pst (G : Gx) (E : XK) {β α : Type} (rel : Rl β α) (S H : Hp) (Q : β → Hp → Prop) : Res α → Prop
  | .ok d p' => ∀ v S' H', Fn G S H S' H' → RegOk G H' p' → rel S' H' v d → Q v H'
  | .exc c fs p' => ∀ cls od S' H', Fn G S H S' H' → RegOk G H' p' → ExAt G S' H' cls od c fs → E cls od H'
  | .bad => False
def relA (G : Gx) : Rl V D := fun S _ v d => At G S v d
def relW (G : Gx) : Rl V D := fun S H v d => Aw G S H v d
/-- what never is changed: all but lists and dicts -/
def ato : D → Bool
  | .lst _ => false
  | .dk _ _ => false
  | .dt _ _ => false
  | _ => true
/-- a fresh value: new since the heap Hs, or what never is changed -/
def relF (G : Gx) (Hs : Hp) : Rl V D := fun S H v d => (ato d = true ∧ At G S v d) ∨ (ato d = false ∧ ∃ p, v = .ref p ∧ ¬ Nn Hs p ∧ S p = none ∧ p ≠ G.r1 ∧ p ≠ G.r2 ∧ Own G S H p d)
def relS (G : Gx) : Rl (List V) (List D) := fun S _ vs ds => Ats G S vs ds
def relB : Rl Bool Bool := fun _ _ b d => b = d

section
variable {G : Gx} {E : XK} {α β γ δ : Type} {S H S' H' : Hp}
theorem Pst.mono {rel : Rl β α} {Q : β → Hp → Prop} {r : Res α} {p : PS} (h : Pst G E rel S H Q r) (f : Fn G S H S' H') (g : RegOk G H' p) : Pst G E rel S' H' Q r := by
  cases r with
  | ok d p' => exact fun v S2 H2 f2 g2 q => h v S2 H2 (f.trans f2) g2 q
  | exc c fs p' => exact fun cls od S2 H2 f2 g2 q => h cls od S2 H2 (f.trans f2) g2 q
  | bad => exact h
theorem Pst.imp {rel : Rl β α} {Q Q' : β → Hp → Prop} {r : Res α} (h : Pst G E rel S H Q r) (k : ∀ v H, Q v H → Q' v H) : Pst G E rel S H Q' r := by
  cases r with
  | ok d p' => exact fun v S2 H2 f2 g2 q => k _ _ (h v S2 H2 f2 g2 q)
  | exc c fs p' => exact h
  | bad => exact h
/-- one step, then the rest -/
theorem Pst.bind {rel1 : Rl β α} {rel2 : Rl δ γ} {Q1 : β → Hp → Prop} {Q2 : δ → Hp → Prop} {m : M α} {k : α → M γ} {p : PS} (h : Pst G E rel2 S H Q2 (M.bind m k p))
    (q : ∀ d p' v S' H', Fn G S H S' H' → RegOk G H' p' → rel1 S' H' v d → Pst G E rel2 S' H' Q2 (k d p') → Q1 v H') : Pst G E rel1 S H Q1 (m p) := by
  unfold M.bind at h
  cases e : m p with
  | ok d p' =>
    rw [e] at h
    exact fun v S' H' f g r => q d p' v S' H' f g r (h.mono f g)
  | exc c fs p' => rw [e] at h; exact h
  | bad => rw [e] at h; exact h
theorem Pst.of {rel : Rl β α} {Q : β → Hp → Prop} {o : Option α} {p : PS} (h : Pst G E rel S H Q (M.of o p)) (s : Sub G S H) (g : RegOk G H p) : ∃ d, o = some d ∧ ∀ v S' H', Fp G S H S' H' → rel S' H' v d → Q v H' := by
  cases o with
  | none => exact h.elim
  | some d => exact ⟨d, rfl, fun v S' H' f r => h v S' H' f.fn (f.reg g) r⟩
theorem Pst.pure {rel : Rl β α} {Q : β → Hp → Prop} {d : α} {p : PS} (h : Pst G E rel S H Q (M.pure d p)) (s : Sub G S H) (g : RegOk G H p) {v : β} (r : rel S H v d) : Q v H := h v S H (Fn.refl s) g r
end

/-! ### judgements -/
section
variable (G : Gx) (X : Cx) (φ : Fns) (E : XK)
def SE (den : DE) (e : Expr) : Prop := ∃ t : TE, PE X e t ∧ ∀ H0 S H σ ρ p Q, Rep G H0 S H σ ρ → Sub G S H → RegOk G H p → Pst G E (relA G) S H Q (den φ ρ p) → t σ H Q
def SW (den : DE) (e : Expr) : Prop := ∃ t : TE, PE X e t ∧ ∀ H0 S H σ ρ p Q, Rep G H0 S H σ ρ → Sub G S H → RegOk G H p → Pst G E (relW G) S H Q (den φ ρ p) → t σ H Q
abbrev DA := Fns → Env → M (List D)
abbrev DT := Fns → Env → M Bool
def SA (den : DA) (es : List Expr) : Prop := ∃ t : TA, PA X es t ∧ ∀ H0 S H σ ρ p Q, Rep G H0 S H σ ρ → Sub G S H → RegOk G H p → Pst G E (relS G) S H Q (den φ ρ p) → t σ H Q
def ST (den : DT) (e : Expr) : Prop := ∃ t : TT, PT X e t ∧ ∀ H0 S H σ ρ p Q, Rep G H0 S H σ ρ → Sub G S H → RegOk G H p → Pst G E relB S H Q (den φ ρ p) → t σ H Q
end
section
variable {G : Gx} {X : Cx} {φ : Fns} {E : XK}
theorem SE.w {den : DE} {e : Expr} (h : SE G X φ E den e) : SW G X φ E den e := by
  obtain ⟨t, pe, h⟩ := h
  refine ⟨t, pe, fun H0 S H σ ρ p Q r s g q => h H0 S H σ ρ p Q r s g ?_⟩
  cases er : den φ ρ p with
  | ok d p' => rw [er] at q; exact fun v S' H' f g' a => q v S' H' f g' (.inl a)
  | exc c fs p' => rw [er] at q; exact q
  | bad => rw [er] at q; exact q
end

/-! ### names and constants -/
def dC (d : D) : DE := fun _ _ => M.pure d
def dV (i : Nat) : DE := fun _ ρ => match ρ[i]? with
  | some (.fz d) => M.pure d
  | _ => fun _ => .bad
/-- a name that is only looked at -/
def dB (i : Nat) : DE := fun _ ρ => match ρ[i]? with
  | some (.fz d) => M.pure d
  | some (.ow d) => M.pure d
  | _ => fun _ => .bad
section
variable {G : Gx} {X : Cx} {φ : Fns} {E : XK}
theorem se_var {i : Nat} {x : Str} {pos : Pos} (hN : X.N[i]? = some x) (hv : Vis X.env.scope x) (hd : (x == ("__debug__" : Str)) = false) (hcd : (x == ("__classdict__" : Str)) = false) : SE G X φ E (dV i) (.Name x pos) := by
  refine ⟨tVar i, pe_var hN hv hd hcd, fun H0 S H σ ρ p Q r s g q => ?_⟩
  unfold dV at q
  cases e : ρ[i]? with
  | none => rw [e] at q; exact q.elim
  | some sl =>
    rw [e] at q
    cases sl with
    | no => exact q.elim
    | ow d => exact q.elim
    | fz d =>
      obtain ⟨v, h1, h2⟩ := r.fz i d e
      exact ⟨v, h1, q.pure s g h2⟩
theorem sw_var {i : Nat} {x : Str} {pos : Pos} (hN : X.N[i]? = some x) (hv : Vis X.env.scope x) (hd : (x == ("__debug__" : Str)) = false) (hcd : (x == ("__classdict__" : Str)) = false) : SW G X φ E (dB i) (.Name x pos) := by
  refine ⟨tVar i, pe_var hN hv hd hcd, fun H0 S H σ ρ p Q r s g q => ?_⟩
  unfold dB at q
  cases e : ρ[i]? with
  | none => rw [e] at q; exact q.elim
  | some sl =>
    rw [e] at q
    cases sl with
    | no => exact q.elim
    | ow d =>
      obtain ⟨pp, h1, h2, h3, h4, h5, h6⟩ := r.ow i d e
      exact ⟨.ref pp, h1, q.pure s g (.inr ⟨pp, rfl, h4, h5, h6⟩)⟩
    | fz d =>
      obtain ⟨v, h1, h2⟩ := r.fz i d e
      exact ⟨v, h1, q.pure s g (.inl h2)⟩
theorem se_tC {v : V} {d : D} {e : Expr} (pe : PE X e (tC v)) (ha : ∀ S, At G S v d) : SE G X φ E (dC d) e :=
  ⟨tC v, pe, fun H0 S H σ ρ p Q r s g q => q.pure s g (ha S)⟩
theorem se_int {i j pos} : SE G X φ E (dC (.int i)) (.Constant (.int i) j pos) := se_tC pe_int fun _ => .int i
theorem se_bl {b j pos} : SE G X φ E (dC (.bl b)) (.Constant (.bool b) j pos) := se_tC pe_bl fun _ => .bl b
theorem se_non {j pos} : SE G X φ E (dC .non) (.Constant .none j pos) := se_tC pe_non fun _ => .non
theorem se_str {x j pos} (h : sOk x = true) : SE G X φ E (dC (.str x)) (.Constant (.str x) j pos) := se_tC pe_str fun _ => .str x h
theorem se_fn {x : Str} {f : Nat} {pos : Pos} (hg : Gl X x) (hm : X.mg x = some (.ref (G.fad f))) (hd : (x == ("__debug__" : Str)) = false) : SE G X φ E (dC (.fn f)) (.Name x pos) :=
  se_tC (pe_glob (v := .ref (G.fad f)) hg hm rfl hd) fun _ => .fn f
theorem se_cl {x : Str} {c : Nat} {pos : Pos} (hg : Gl X x) (hm : X.mg x = some (.ref (G.cad c))) (hd : (x == ("__debug__" : Str)) = false) : SE G X φ E (dC (.cl c)) (.Name x pos) :=
  se_tC (pe_glob (v := .ref (G.cad c)) hg hm rfl hd) fun _ => .cl c
theorem se_gstr {x z : Str} {t : Tok} {pos : Pos} (hg : Gl X x) (hm : X.mg x = some (.str z t)) (hz : sOk z = true) (hd : (x == ("__debug__" : Str)) = false) : SE G X φ E (dC (.str z)) (.Name x pos) :=
  se_tC (pe_glob (v := .str z) hg hm ⟨t, rfl⟩ hd) fun _ => .str z hz
theorem se_gint {x : Str} {i : Int} {t : Tok} {pos : Pos} (hg : Gl X x) (hm : X.mg x = some (.int i t)) (hd : (x == ("__debug__" : Str)) = false) : SE G X φ E (dC (.int i)) (.Name x pos) :=
  se_tC (pe_glob (v := .int i) hg hm ⟨t, rfl⟩ hd) fun _ => .int i
end

/-! ### operators by values -/
/-- what an operator's reading asks follows from the data -/
def Op2 (G : Gx) (r : R2) (f : D → D → Option D) : Prop := ∀ S H p x y dx dy d (Q : VK), Sub G S H → RegOk G H p → Aw G S H x dx → Aw G S H y dy → f dx dy = some d →
  (∀ v S' H', Fp G S H S' H' → At G S' v d → Q v H') → r x y H Q
def Op1 (G : Gx) (r : V → Hp → VK → Prop) (f : D → Option D) : Prop := ∀ S H p x dx d (Q : VK), Sub G S H → RegOk G H p → Aw G S H x dx → f dx = some d →
  (∀ v S' H', Fp G S H S' H' → At G S' v d → Q v H') → r x H Q
/-- .. whose value is fresh -/
def Op2F (G : Gx) (r : R2) (f : D → D → Option D) : Prop := ∀ S H p x y dx dy d (Q : VK), Sub G S H → RegOk G H p → Aw G S H x dx → Aw G S H y dy → f dx dy = some d →
  (∀ v S' H', Fp G S H S' H' → relF G H S' H' v d → Q v H') → r x y H Q
theorem Op2F.or {G : Gx} {r r' : R2} {f g : D → D → Option D} (h : Op2F G r f) (h' : Op2F G r' g) : Op2F G (fun x y H Q => r x y H Q ∨ r' x y H Q) (fun a b => (f a b).or (g a b)) := by
  intro S H p x y dx dy d Q s g0 ax ay e q
  cases ef : f dx dy with
  | some z =>
    simp only [ef, Option.some_or] at e
    exact .inl (h S H p x y dx dy d Q s g0 ax ay (by rw [ef, e]) q)
  | none =>
    simp only [ef, Option.none_or] at e
    exact .inr (h' S H p x y dx dy d Q s g0 ax ay e q)
theorem Op2.or {G : Gx} {r r' : R2} {f g : D → D → Option D} (h : Op2 G r f) (h' : Op2 G r' g) : Op2 G (fun x y H Q => r x y H Q ∨ r' x y H Q) (fun a b => (f a b).or (g a b)) := by
  intro S H p x y dx dy d Q s g0 ax ay e q
  cases ef : f dx dy with
  | some z =>
    simp only [ef, Option.some_or] at e
    exact .inl (h S H p x y dx dy d Q s g0 ax ay (by rw [ef, e]) q)
  | none =>
    simp only [ef, Option.none_or] at e
    exact .inr (h' S H p x y dx dy d Q s g0 ax ay e q)
theorem Op2.ext {G : Gx} {r : R2} {f g : D → D → Option D} (h : Op2 G r f) (e : ∀ a b, g a b = f a b) : Op2 G r g := fun S H p x y dx dy d Q s g0 ax ay ed q => h S H p x y dx dy d Q s g0 ax ay (by rw [← e]; exact ed) q
theorem Aw.int {G : Gx} {S H : Hp} {v : V} {i : Int} (h : Aw G S H v (.int i)) : v = .int i := by
  rcases h with h | ⟨_, _, _, _, h⟩
  · cases h; rfl
  · cases h
theorem Aw.bl {G : Gx} {S H : Hp} {v : V} {i : Bool} (h : Aw G S H v (.bl i)) : v = .bl i := by
  rcases h with h | ⟨_, _, _, _, h⟩
  · cases h; rfl
  · cases h
theorem Aw.str {G : Gx} {S H : Hp} {v : V} {x : Str} (h : Aw G S H v (.str x)) : v = .str x ∧ sOk x = true := by
  rcases h with h | ⟨_, _, _, _, h⟩
  · cases h with
    | str _ h => exact ⟨rfl, h⟩
  · cases h
theorem Aw.non {G : Gx} {S H : Hp} {v : V} (h : Aw G S H v .non) : v = .non := by
  rcases h with h | ⟨_, _, _, _, h⟩
  · cases h; rfl
  · cases h
theorem Aw.lst {G : Gx} {S H : Hp} {v : V} {ds : List D} (s : Sub G S H) (h : Aw G S H v (.lst ds)) : ∃ a vs, v = .ref a ∧ H a = some (.lst vs) ∧ Ats G S vs ds := by
  rcases h with h | ⟨p, e, _, _, h⟩
  · cases h with
    | lst h1 h2 => exact ⟨_, _, rfl, s.ext _ _ h1, h2⟩
  · cases h with
    | lst h1 h2 => exact ⟨_, _, e, h1, h2⟩
theorem Aw.tup {G : Gx} {S H : Hp} {v : V} {ds : List D} (h : Aw G S H v (.tup ds)) : ∃ a vs, v = .ref a ∧ S a = some (.tup vs) ∧ Ats G S vs ds := by
  rcases h with h | ⟨p, e, _, _, h⟩
  · cases h with
    | tup h1 h2 => exact ⟨_, _, rfl, h1, h2⟩
  · cases h
theorem sOk_len {x : Str} (h : sOk x = true) : x.length ≤ sizeLine := by
  unfold sOk at h
  rw [Bool.and_eq_true, decide_eq_true_eq] at h
  rw [sizeLine_eq]
  exact h.2
theorem sOk_ok {x : Str} (h : sOk x = true) : PyData.strOk x = true := by
  unfold sOk at h
  rw [Bool.and_eq_true] at h
  exact h.1
/-- a new list, a new tuple -/
theorem none_ne {G : Gx} {H : Hp} {ps : PS} {p : Addr} (g : RegOk G H ps) (hp : H p = none) : p ≠ G.r1 ∧ p ≠ G.r2 :=
  ⟨(fun z => g.dom.1 (by rw [← z]; exact hp)), (fun z => g.dom.2 (by rw [← z]; exact hp))⟩
theorem Sub.none {G : Gx} {S H : Hp} {p : Addr} (s : Sub G S H) (hp : H p = Option.none) : S p = Option.none := by
  cases q : S p with
  | none => rfl
  | some u => rw [s.ext p u q] at hp; cases hp
theorem new_lstF {G : Gx} {S H : Hp} {ps : PS} {p : Addr} {vs : List V} {ds : List D} {Q : VK} (s : Sub G S H) (g : RegOk G H ps) (hp : H p = none) (a : Ats G S vs ds)
    (q : ∀ v S' H', Fp G S H S' H' → relF G H S' H' v (.lst ds) → Q v H') : Q (.ref p) (upd H p (.lst vs)) := by
  have n := none_ne g hp
  exact q _ _ _ (Fp.alloc0 s hp) (.inr ⟨rfl, p, rfl, Nn.no hp, s.none hp, n.1, n.2, .lst upd_same a⟩)
theorem new_tupF {G : Gx} {S H : Hp} {ps : PS} {p : Addr} {vs : List V} {ds : List D} {Q : VK} (s : Sub G S H) (g : RegOk G H ps) (hp : H p = none) (a : Ats G S vs ds)
    (q : ∀ v S' H', Fp G S H S' H' → relF G H S' H' v (.tup ds) → Q v H') : Q (.ref p) (upd H p (.tup vs)) := by
  have f := Fp.alloc (o := .tup vs) s g hp
  exact q _ _ _ f (.inl ⟨rfl, .tup upd_same (a.mono f.ext)⟩)
theorem same {G : Gx} {S H : Hp} {v : V} {d : D} {Q : VK} (s : Sub G S H) (a : At G S v d) (q : ∀ v S' H', Fp G S H S' H' → At G S' v d → Q v H') : Q v H := q v S H (Fp.refl s) a
theorem sameF {G : Gx} {S H : Hp} {v : V} {d : D} {Q : VK} (s : Sub G S H) (a : At G S v d) (q : ∀ v S' H', Fp G S H S' H' → relF G H S' H' v d → Q v H') (h : ato d = true := by rfl) : Q v H := q v S H (Fp.refl s) (.inl ⟨h, a⟩)

/-! ### + - * // % ** -/
def iOp (c : Int → Int → Bool) (f : Int → Int → Int) : D → D → Option D
  | .int i, .int j => if c i j then some (.int (f i j)) else none
  | _, _ => none
theorem op2_rI {G : Gx} {C : Int → Int → Prop} {c : Int → Int → Bool} {f : Int → Int → Int} (h : ∀ i j, c i j = true → C i j) : Op2F G (rI C fun i j => .int (f i j)) (iOp c f) := by
  intro S H p x y dx dy d Q s g ax ay e q
  unfold iOp at e
  split at e
  · rename_i i j
    split at e
    · rename_i hc
      cases e
      exact ⟨i, j, ax.int, ay.int, h i j hc, sameF s (.int _) q⟩
    · cases e
  · cases e
theorem op2_rI0 {G : Gx} {f : Int → Int → Int} : Op2F G (rI0 fun i j => .int (f i j)) (iOp (fun _ _ => true) f) := by
  intro S H p x y dx dy d Q s g ax ay e q
  unfold iOp at e
  split at e
  · rename_i i j
    rw [if_pos rfl] at e
    cases e
    exact ⟨i, j, ax.int, ay.int, sameF s (.int _) q⟩
  · cases e
def addS : D → D → Option D
  | .str x, .str y => if x.length + y.length ≤ 16777216 then some (.str (x ++ y)) else none
  | _, _ => none
theorem strOk_app {x y : Str} (hx : PyData.strOk x = true) (hy : PyData.strOk y = true) : PyData.strOk (x ++ y) = true := by
  unfold PyData.strOk at *
  show (x.cps ++ y.cps).all _ = true
  rw [Array.all_append, hx, hy]; rfl
theorem op2_addS {G : Gx} : Op2F G (fun x y H Q => ∃ i j, x = .str i ∧ y = .str j ∧ i.length + j.length ≤ sizeLine ∧ Q (.str (i ++ j)) H) addS := by
  intro S H p x y dx dy d Q s g ax ay e q
  unfold addS at e
  split at e
  · rename_i i j
    split at e
    · rename_i hc
      cases e
      obtain ⟨e1, h1⟩ := ax.str
      obtain ⟨e2, h2⟩ := ay.str
      refine ⟨i, j, e1, e2, by rw [sizeLine_eq]; exact hc, sameF s (.str _ ?_) q⟩
      unfold sOk
      rw [strOk_app (sOk_ok h1) (sOk_ok h2), Bool.true_and, decide_eq_true_eq]
      have : (i ++ j).length = i.length + j.length := by show (i.cps ++ j.cps).size = _; rw [Array.size_append]; rfl
      omega
    · cases e
  · cases e
def addL : D → D → Option D
  | .lst x, .lst y => if x.length + y.length ≤ 16777216 then some (.lst (x ++ y)) else none
  | _, _ => none
theorem op2_addL {G : Gx} : Op2F G rCat addL := by
  intro S H p x y dx dy d Q s g ax ay e q
  unfold addL at e
  split at e
  · rename_i i j
    split at e
    · rename_i hc
      cases e
      obtain ⟨a, vs, e1, h1, b1⟩ := ax.lst s
      obtain ⟨b, ws, e2, h2, b2⟩ := ay.lst s
      exact ⟨a, b, vs, ws, e1, e2, h1, h2, by rw [sizeLine_eq, b1.length, b2.length]; exact hc, fun p hp => new_lstF s g hp (b1.append b2) q⟩
    · cases e
  · cases e
def addT : D → D → Option D
  | .tup x, .tup y => if x ≠ [] ∧ x.length + y.length ≤ 16777216 then some (.tup (x ++ y)) else none
  | _, _ => none
theorem Ats.nil_iff {G : Gx} {S : Hp} {vs : List V} {ds : List D} (h : Ats G S vs ds) : vs = [] ↔ ds = [] := by
  cases h <;> simp
theorem op2_addT {G : Gx} : Op2F G (rCatT G.K) addT := by
  intro S H p x y dx dy d Q s g ax ay e q
  unfold addT at e
  split at e
  · rename_i i j
    split at e
    · rename_i hc
      cases e
      obtain ⟨a, vs, e1, h1, b1⟩ := ax.tup
      obtain ⟨b, ws, e2, h2, b2⟩ := ay.tup
      refine ⟨a, b, vs, ws, e1, e2, SqT.of (s.ext _ _ h1), SqT.of (s.ext _ _ h2), fun z => hc.1 (b1.nil_iff.mp z), by rw [sizeLine_eq, b1.length, b2.length]; exact hc.2, fun z => ?_, fun _ p hp => new_tupF s g hp (b1.append b2) q⟩
      have z' := b2.nil_iff.mp z
      subst z'
      rw [List.append_nil] at q
      exact sameF s (e1 ▸ .tup h1 b1) q
    · cases e
  · cases e
def cMul (i j : Int) : Bool := (decide (-(2 ^ 64) < i) && decide (i < 2 ^ 64)) || (decide (-(2 ^ 64) < j) && decide (j < 2 ^ 64))
theorem cMul_ok (i j : Int) (h : cMul i j = true) : CMul i j := by
  unfold cMul at h
  simp only [Bool.or_eq_true, Bool.and_eq_true, decide_eq_true_eq] at h
  exact h
def cPow (i j : Int) : Bool := decide (0 ≤ j) && decide (j ≤ 1000000) && decide (i.natAbs < 2 ^ 64)
theorem cPow_ok (i j : Int) (h : cPow i j = true) : CPow i j := by
  unfold cPow at h
  simp only [Bool.and_eq_true, decide_eq_true_eq] at h
  exact ⟨h.1.1, h.1.2, h.2⟩
def repL : D → D → Option D
  | .lst x, .int k => if -(2 ^ 63) ≤ k ∧ k < 2 ^ 63 ∧ x.length * k.toNat ≤ 16777216 then some (.lst (List.replicate k.toNat x).flatten) else none
  | _, _ => none
theorem op2_rep {G : Gx} : Op2F G rRep repL := by
  intro S H p x y dx dy d Q s g ax ay e q
  unfold repL at e
  split at e
  · rename_i i j
    split at e
    · rename_i hc
      cases e
      obtain ⟨a, vs, e1, h1, b1⟩ := ax.lst s
      exact ⟨a, j, vs, e1, ay.int, h1, hc.1, hc.2.1, by rw [sizeLine_eq, b1.length]; exact hc.2.2, fun p hp => new_lstF s g hp (b1.rep _) q⟩
    · cases e
  · cases e
def addF : D → D → Option D := fun a b => (iOp (fun _ _ => true) (· + ·) a b).or ((addS a b).or ((addL a b).or (addT a b)))
def mulF : D → D → Option D := fun a b => (iOp cMul (· * ·) a b).or (repL a b)
def subF : D → D → Option D := iOp (fun _ _ => true) (· - ·)
def fdivF : D → D → Option D := iOp (fun _ j => decide (0 < j) && decide (j < 1073741824)) (· / ·)
def modF : D → D → Option D := iOp (fun _ j => decide (0 < j)) (· % ·)
def powF : D → D → Option D := iOp cPow (fun i j => i ^ j.toNat)
def binF : Operator → D → D → Option D
  | .Add => addF | .Sub => subF | .Mult => mulF | .FloorDiv => fdivF | .Mod => modF | .Pow => powF | _ => fun _ _ => none
section
variable {G : Gx} {X : Cx} {φ : Fns} {E : XK}
theorem op_bin (hK : X.K = G.K) (op : Operator) : ∃ r, OpR X (binaryOp op) r ∧ Op2F G r (binF op) := by
  cases op with
  | Add => exact ⟨_, op_add.or (op_add_str.or (op_cat.or op_catT)), by rw [hK]; exact op2_rI0.or (op2_addS.or (op2_addL.or op2_addT))⟩
  | Sub => exact ⟨_, op_sub, op2_rI0⟩
  | Mult => exact ⟨_, op_mul.or op_rep, (op2_rI cMul_ok).or op2_rep⟩
  | FloorDiv => exact ⟨_, op_fdiv, op2_rI fun i j h => by simp only [Bool.and_eq_true, decide_eq_true_eq] at h; exact h⟩
  | Mod => exact ⟨_, op_mod, op2_rI fun i j h => by simpa using h⟩
  | Pow => exact ⟨_, op_pow, op2_rI cPow_ok⟩
  | _ => exact ⟨fun _ _ _ _ => False, fun _ _ _ _ _ _ _ _ _ _ _ _ h => h.elim, fun _ _ _ _ _ _ _ _ _ _ _ _ _ e _ => by cases e⟩

/-! ### two operands -/
def d2 (f : D → D → Option D) (a b : DE) : DE := fun φ ρ => M.bind (a φ ρ) fun x => M.bind (b φ ρ) fun y => M.of (f x y)
theorem relF.fn {G : Gx} {Hs Ha S H : Hp} {v : V} {d : D} (h : relF G Ha S H v d) (k : ∀ a, Nn Hs a → Nn Ha a) : relF G Hs S H v d := by
  rcases h with h | ⟨h, p, e, h0, r⟩
  · exact .inl h
  · exact .inr ⟨h, p, e, fun n => h0 (k p n), r⟩
theorem pst2 {a b : DE} {f : D → D → Option D} {r : R2} (o : Op2 G r f) {ea eb : Expr} {ta tb : TE}
    (ha : ∀ H0 S H σ ρ p Q, Rep G H0 S H σ ρ → Sub G S H → RegOk G H p → Pst G E (relW G) S H Q (a φ ρ p) → ta σ H Q)
    (hb : ∀ H0 S H σ ρ p Q, Rep G H0 S H σ ρ → Sub G S H → RegOk G H p → Pst G E (relW G) S H Q (b φ ρ p) → tb σ H Q)
    {H0 S H : Hp} {σ : L2.St} {ρ : Env} {p : PS} {Q : VK} (rr : Rep G H0 S H σ ρ) (s : Sub G S H) (g : RegOk G H p) (q : Pst G E (relA G) S H Q (d2 f a b φ ρ p)) : tOp r ta tb σ H Q := by
  unfold d2 at q
  refine ha H0 S H σ ρ p _ rr s g (q.bind fun dx p1 x S1 H1 f1 g1 a1 q1 => ?_)
  refine hb H0 S1 H1 σ ρ p1 _ (rr.mono f1) f1.sub g1 (q1.bind fun dy p2 y S2 H2 f2 g2 a2 q2 => ?_)
  obtain ⟨d, e, k⟩ := q2.of f2.sub g2
  exact o S2 H2 p2 x y dx dy d Q f2.sub g2 (Aw.mono a1 f2) a2 e k
theorem pst2F {a b : DE} {f : D → D → Option D} {r : R2} (o : Op2F G r f) {ea eb : Expr} {ta tb : TE}
    (ha : ∀ H0 S H σ ρ p Q, Rep G H0 S H σ ρ → Sub G S H → RegOk G H p → Pst G E (relW G) S H Q (a φ ρ p) → ta σ H Q)
    (hb : ∀ H0 S H σ ρ p Q, Rep G H0 S H σ ρ → Sub G S H → RegOk G H p → Pst G E (relW G) S H Q (b φ ρ p) → tb σ H Q)
    {H0 S H : Hp} {σ : L2.St} {ρ : Env} {p : PS} {Q : VK} (rr : Rep G H0 S H σ ρ) (s : Sub G S H) (g : RegOk G H p) (q : Pst G E (relF G H) S H Q (d2 f a b φ ρ p)) : tOp r ta tb σ H Q := by
  unfold d2 at q
  refine ha H0 S H σ ρ p _ rr s g (q.bind fun dx p1 x S1 H1 f1 g1 a1 q1 => ?_)
  refine hb H0 S1 H1 σ ρ p1 _ (rr.mono f1) f1.sub g1 (q1.bind fun dy p2 y S2 H2 f2 g2 a2 q2 => ?_)
  obtain ⟨d, e, k⟩ := q2.of f2.sub g2
  exact o S2 H2 p2 x y dx dy d Q f2.sub g2 (Aw.mono a1 f2) a2 e fun v S' H' fp rf => k v S' H' fp (rf.fn fun a h => f2.dom a (f1.dom a h))
def SF (G : Gx) (X : Cx) (φ : Fns) (E : XK) (den : DE) (e : Expr) : Prop := ∃ t : TE, PE X e t ∧ ∀ H0 S H σ ρ p Q, Rep G H0 S H σ ρ → Sub G S H → RegOk G H p → Pst G E (relF G H) S H Q (den φ ρ p) → t σ H Q
/-- S grows by what stands in H -/
theorem Sub.put {S H : Hp} {p : Addr} {o : HO} (s : Sub G S H) (h : H p = some o) (n1 : p ≠ G.r1) (n2 : p ≠ G.r2) (nt : NTb o) : Sub G (upd S p o) H := by
  refine ⟨fun a u e => ?_, by rw [upd_ne (Ne.symm n1)]; exact s.n1, by rw [upd_ne (Ne.symm n2)]; exact s.n2, fun a ps e => ?_⟩
  · by_cases z : a = p
    · rw [z, upd_same] at e
      rw [z, h]
      exact e
    · rw [upd_ne z] at e
      exact s.ext a u e
  · by_cases z : a = p
    · rw [z, upd_same] at e
      cases e
      exact nt ps rfl
    · rw [upd_ne z] at e
      exact s.nt a ps e
theorem Own.at {S H : Hp} {p : Addr} {d : D} (sp : S p = none) (h : Own G S H p d) (hd : ato d = false) : ∃ o, H p = some o ∧ NTb o ∧ At G (upd S p o) (.ref p) d := by
  have ex : ∀ o, Ext S (upd S p o) := fun o => Ext.new sp
  cases h with
  | lst h1 h2 => exact ⟨_, h1, (fun _ z => by cases z), .lst upd_same (h2.mono (ex _))⟩
  | dK hk h1 h2 => exact ⟨_, h1, (fun _ z => by cases z), .dK hk (.inl upd_same) (h2.mono (ex _))⟩
  | dT hk h1 h2 => exact ⟨_, h1, (fun _ z => by cases z), .dT hk upd_same (h2.mono (ex _))⟩
  | ins hk h1 h2 => cases hd
/-- a fresh value is put to what stays -/
theorem relF.at {Hs S H S' H' : Hp} {v : V} {d : D} (f : Fn G S H S' H') (h : relF G H S' H' v d) : ∃ S2, Fn G S H S2 H' ∧ At G S2 v d := by
  rcases h with ⟨_, h⟩ | ⟨ha, p, rfl, h0, sp, n1, n2, o⟩
  · exact ⟨S', f, h⟩
  · obtain ⟨ob, e1, nt, a⟩ := o.at sp ha
    refine ⟨_, ⟨f.ext.trans (Ext.new sp), f.sub.put e1 n1 n2 nt, f.keep, f.dom, fun a ha => ?_⟩, a⟩
    have : a ≠ p := fun z => h0 (by rw [← z]; exact ha)
    rw [upd_ne this]
    exact f.new a ha
theorem SF.se {den : DE} {e : Expr} (h : SF G X φ E den e) : SE G X φ E den e := by
  obtain ⟨t, pe, h⟩ := h
  refine ⟨t, pe, fun H0 S H σ ρ p Q r s g q => h H0 S H σ ρ p Q r s g ?_⟩
  cases er : den φ ρ p with
  | ok d p' =>
    rw [er] at q
    intro v S' H' f g' rf
    obtain ⟨S2, f2, a⟩ := rf.at (Hs := H) f
    exact q v S2 H' f2 g' a
  | exc c fs p' => rw [er] at q; exact q
  | bad => rw [er] at q; exact q
theorem sf_bin (hK : X.K = G.K) {op : Operator} {a b : DE} {ea eb : Expr} {pos : Pos} (ha : SW G X φ E a ea) (hb : SW G X φ E b eb) : SF G X φ E (d2 (binF op) a b) (.BinOp ea op eb pos) := by
  obtain ⟨ta, pa, ha⟩ := ha
  obtain ⟨tb, pb, hb⟩ := hb
  obtain ⟨r, o1, o2⟩ := op_bin hK op
  exact ⟨_, pe_op o1 pa pb, fun H0 S H σ ρ p Q rr s g q => pst2F (ea := ea) (eb := eb) o2 ha hb rr s g q⟩
def negF : D → Option D
  | .int i => some (.int (-i))
  | _ => none
theorem se_neg {a : DE} {ea : Expr} {pos : Pos} (ha : SE G X φ E a ea) : SE G X φ E (fun φ ρ => M.bind (a φ ρ) fun x => M.of (negF x)) (.UnaryOp .USub ea pos) := by
  obtain ⟨ta, pa, ha⟩ := ha
  refine ⟨_, pe_un un_neg pa, fun H0 S H σ ρ p Q rr s g q => ?_⟩
  refine ha H0 S H σ ρ p _ rr s g (q.bind fun dx p1 x S1 H1 f1 g1 a1 q1 => ?_)
  obtain ⟨d, e, k⟩ := q1.of f1.sub g1
  unfold negF at e
  split at e
  · cases e
    rename_i i
    have a1 : At G S1 x (.int i) := a1
    cases a1
    exact ⟨i, rfl, same f1.sub (.int _) k⟩
  · cases e
end
end Z
namespace Z
open PySem PySem.Spec PyProof.Rows L2

/-! ### data that == takes -/
mutual
def toP : D → PyData
  | .bl b => .bool b
  | .int i => .int i
  | .str x => .str x
  | .lst xs => .list (toPs xs)
  | .tup xs => .tuple (toPs xs)
  | _ => .none
def toPs : List D → List PyData
  | [] => []
  | d :: ds => toP d :: toPs ds
end
mutual
def pl : D → Bool
  | .non => true
  | .bl _ => true
  | .int _ => true
  | .str _ => true
  | .lst xs => pls xs
  | .tup xs => pls xs
  | _ => false
def pls : List D → Bool
  | [] => true
  | d :: ds => pl d && pls ds
end
mutual
def dep : D → Nat
  | .lst xs => deps xs + 1
  | .tup xs => deps xs + 1
  | _ => 0
def deps : List D → Nat
  | [] => 0
  | d :: ds => max (dep d) (deps ds)
end
mutual
def dq : D → D → Bool
  | .non, .non => true
  | .bl a, .bl b => a == b
  | .bl a, .int j => (if a then 1 else 0) == j
  | .int i, .bl b => i == (if b then 1 else 0)
  | .int i, .int j => i == j
  | .str x, .str y => x == y
  | .lst xs, .lst ys => dqs xs ys
  | .tup xs, .tup ys => dqs xs ys
  | _, _ => false
def dqs : List D → List D → Bool
  | [], [] => true
  | x :: xs, y :: ys => dq x y && dqs xs ys
  | _, _ => false
end
mutual
theorem dep_toP : ∀ d : D, pl d = true → (toP d).depth = dep d
  | .non, _ => by simp [toP, PyData.depth, dep]
  | .bl _, _ => by simp [toP, PyData.depth, dep]
  | .int _, _ => by simp [toP, PyData.depth, dep]
  | .str _, _ => by simp [toP, PyData.depth, dep]
  | .lst xs, h => by
    have := deps_toP xs (by simpa [pl] using h)
    simp [toP, PyData.depth, dep, this]
  | .tup xs, h => by
    have := deps_toP xs (by simpa [pl] using h)
    simp [toP, PyData.depth, dep, this]
  | .dk _ _, h => by simp [pl] at h
  | .dt _ _, h => by simp [pl] at h
  | .obj _ _, h => by simp [pl] at h
  | .exc _ _, h => by simp [pl] at h
  | .fn _, h => by simp [pl] at h
  | .cl _, h => by simp [pl] at h
  | .ty _, h => by simp [pl] at h
  | .reg, h => by simp [pl] at h
theorem deps_toP : ∀ ds : List D, pls ds = true → PyData.depthAll (toPs ds) = deps ds
  | [], _ => by simp [toPs, PyData.depthAll, deps]
  | d :: ds, h => by
    rw [pls, Bool.and_eq_true] at h
    simp [toPs, PyData.depthAll, deps, dep_toP d h.1, deps_toP ds h.2]
end
mutual
theorem dq_toP : ∀ d e : D, pl d = true → pl e = true → PyData.eqv (toP d) (toP e) = dq d e := by
  intro d e hd he
  cases d with
  | lst xs =>
    cases e with
    | lst ys => simp only [toP, PyData.eqv, dq]; exact dqs_toP xs ys (by simpa [pl] using hd) (by simpa [pl] using he)
    | _ => first | (simp [pl] at he; done) | simp [toP, PyData.eqv, dq]
  | tup xs =>
    cases e with
    | tup ys => simp only [toP, PyData.eqv, dq]; exact dqs_toP xs ys (by simpa [pl] using hd) (by simpa [pl] using he)
    | _ => first | (simp [pl] at he; done) | simp [toP, PyData.eqv, dq]
  | non => cases e <;> first | (simp [pl] at he; done) | simp [toP, PyData.eqv, dq]
  | bl _ => cases e <;> first | (simp [pl] at he; done) | simp [toP, PyData.eqv, dq]
  | int _ => cases e <;> first | (simp [pl] at he; done) | simp [toP, PyData.eqv, dq]
  | str _ => cases e <;> first | (simp [pl] at he; done) | simp [toP, PyData.eqv, dq]
  | _ => simp [pl] at hd
theorem dqs_toP : ∀ ds es : List D, pls ds = true → pls es = true → PyData.eqvAll (toPs ds) (toPs es) = dqs ds es
  | [], [], _, _ => by simp [toPs, PyData.eqvAll, dqs]
  | [], _ :: _, _, _ => by simp [toPs, PyData.eqvAll, dqs]
  | _ :: _, [], _, _ => by simp [toPs, PyData.eqvAll, dqs]
  | d :: ds, e :: es, hd, he => by
    rw [pls, Bool.and_eq_true] at hd he
    simp [toPs, PyData.eqvAll, dqs, dq_toP d e hd.1 he.1, dqs_toP ds es hd.2 he.2]
end
section
variable {G : Gx} {S H : Hp}
mutual
theorem At.dp (s : Ext S H) : ∀ {v : V} {d : D}, At G S v d → pl d = true → Dp G.K H v (toP d) ∧ (toP d).canLay0 = true
  | _, _, .non, _ => ⟨.non, rfl⟩
  | _, _, .bl b, _ => ⟨.bl b, rfl⟩
  | _, _, .int i, _ => ⟨.int i, rfl⟩
  | _, _, .str x h, _ => ⟨.str x, by show PyData.strOk x = true; exact sOk_ok h⟩
  | _, _, .lst h a, hp => by
    obtain ⟨k1, k2⟩ := Ats.dp s a (by simpa [pl] using hp)
    simp only [toP]
    exact ⟨.lst (SqL.of (s _ _ h)) k1, by simpa [PyData.canLay0] using k2⟩
  | _, _, .tup h a, hp => by
    obtain ⟨k1, k2⟩ := Ats.dp s a (by simpa [pl] using hp)
    simp only [toP]
    exact ⟨.tup (SqT.of (s _ _ h)) k1, by simpa [PyData.canLay0] using k2⟩
  | _, _, .dK _ _ _, h => by simp [pl] at h
  | _, _, .dT _ _ _, h => by simp [pl] at h
  | _, _, .obj _ _ _, h => by simp [pl] at h
  | _, _, .fn _, h => by simp [pl] at h
  | _, _, .cl _, h => by simp [pl] at h
  | _, _, .ty _, h => by simp [pl] at h
  | _, _, .reg, h => by simp [pl] at h
theorem Ats.dp (s : Ext S H) : ∀ {vs : List V} {ds : List D}, Ats G S vs ds → pls ds = true → DpAll G.K H vs (toPs ds) ∧ PyData.canLayAll0 (toPs ds) = true
  | _, _, .nil, _ => ⟨.nil, rfl⟩
  | _, _, .cons h t, hp => by
    rw [pls, Bool.and_eq_true] at hp
    obtain ⟨k1, k2⟩ := At.dp s h hp.1
    obtain ⟨k3, k4⟩ := Ats.dp s t hp.2
    exact ⟨.cons k1 k3, by simp [toPs, PyData.canLayAll0, k2, k4]⟩
end
theorem Aw.dp (s : Sub G S H) {v : V} {d : D} (h : Aw G S H v d) (hp : pl d = true) : Dp G.K H v (toP d) ∧ (toP d).canLay0 = true := by
  rcases h with h | ⟨p, e, _, _, h⟩
  · exact h.dp s.ext hp
  · subst e
    cases h with
    | lst h1 h2 =>
      obtain ⟨k1, k2⟩ := h2.dp s.ext (by simpa [pl] using hp)
      simp only [toP]
      exact ⟨.lst (SqL.of h1) k1, by simpa [PyData.canLay0] using k2⟩
    | dK _ _ _ => simp [pl] at hp
    | dT _ _ _ => simp [pl] at hp
    | ins _ _ _ => simp [pl] at hp
end
section
variable {X : Cx}
def rEqM (K : PySem.W.Frag) (neg : Bool) : R2 := fun x y H Q => ∃ d e, Dp K H x d ∧ Dp K H y e ∧ d.canLay0 = true ∧ e.canLay0 = true ∧ min d.depth e.depth ≤ 64 ∧ Q (.bl (if neg then !PyData.eqv d e else PyData.eqv d e)) H
theorem op_eqM (hu : X.A.units + 64 < cLine) : OpR X (compareOp .Eq) (rEqM X.K false) := by
  intro pins s σ H x y v u Q I rx ry h
  obtain ⟨d, e, hd, he, sd, se, hm, q⟩ := h
  obtain ⟨as, r1⟩ := Dp.reads I d x v hd rx
  obtain ⟨bs, r2⟩ := Dp.reads I e y u he ry
  exact SeqAt.compareEq_reads r1 r2 sd se (by omega) ⟨.bl _, H, I, rfl, q⟩
theorem op_neM (hu : X.A.units + 64 < cLine) : OpR X (compareOp .NotEq) (rEqM X.K true) := by
  intro pins s σ H x y v u Q I rx ry h
  obtain ⟨d, e, hd, he, sd, se, hm, q⟩ := h
  obtain ⟨as, r1⟩ := Dp.reads I d x v hd rx
  obtain ⟨bs, r2⟩ := Dp.reads I e y u he ry
  exact SeqAt.compareNe_reads r1 r2 sd se (by omega) ⟨.bl _, H, I, rfl, q⟩
def rInM (K : PySem.W.Frag) (neg : Bool) : R2 := fun x y H Q => ∃ d ds, Dp K H x d ∧ (Dp K H y (.list ds) ∨ Dp K H y (.tuple ds)) ∧ d.canLay0 = true ∧ PyData.canLayAll0 ds = true ∧ min (PyData.depthAll ds) d.depth ≤ 63 ∧
  Q (.bl (if neg then !(ds.any fun z => PyData.eqv z d) else ds.any fun z => PyData.eqv z d)) H
theorem op_inM (hu : X.A.units + 64 < cLine) : OpR X (compareOp .In) (rInM X.K false) := by
  intro pins s σ H x y v u Q I rx ry h
  obtain ⟨d, ds, hd, he, sd, se, hm, q⟩ := h
  obtain ⟨as, r1⟩ := Dp.reads I d x v hd rx
  rcases he with he | he
  · obtain ⟨bs, r2⟩ := Dp.reads I (.list ds) y u he ry
    exact SeqAt.in_list_reads r2 r1 se sd (by omega) ⟨.bl _, H, I, rfl, q⟩
  · obtain ⟨bs, r2⟩ := Dp.reads I (.tuple ds) y u he ry
    exact SeqAt.in_tuple_reads r2 r1 se sd (by omega) ⟨.bl _, H, I, rfl, q⟩
theorem op_notInM (hu : X.A.units + 64 < cLine) : OpR X (compareOp .NotIn) (rInM X.K true) := by
  intro pins s σ H x y v u Q I rx ry h
  obtain ⟨d, ds, hd, he, sd, se, hm, q⟩ := h
  obtain ⟨as, r1⟩ := Dp.reads I d x v hd rx
  rcases he with he | he
  · obtain ⟨bs, r2⟩ := Dp.reads I (.list ds) y u he ry
    exact SeqAt.notIn_list_reads r2 r1 se sd (by omega) ⟨.bl _, H, I, rfl, q⟩
  · obtain ⟨bs, r2⟩ := Dp.reads I (.tuple ds) y u he ry
    exact SeqAt.notIn_tuple_reads r2 r1 se sd (by omega) ⟨.bl _, H, I, rfl, q⟩
def rDin (neg : Bool) : R2 := fun y x H Q => ∃ a o, x = .ref a ∧ DGet H a y o ∧ Q (.bl (if neg then !o.isSome else o.isSome)) H
theorem op_din (hu : X.A.units + 1 < cLine) : OpR X (compareOp .In) (rDin false) := by
  intro pins s σ H x y v u Q I rx ry h
  obtain ⟨a, o, e, g, q⟩ := h
  subst e
  obtain rfl : u = Value.ref a := ry
  exact d_in hu I g rx fun s' I' => ⟨.bl o.isSome, H, I', rfl, q⟩
theorem op_dnotin (hu : X.A.units + 1 < cLine) : OpR X (compareOp .NotIn) (rDin true) := by
  intro pins s σ H x y v u Q I rx ry h
  obtain ⟨a, o, e, g, q⟩ := h
  subst e
  obtain rfl : u = Value.ref a := ry
  exact d_notIn hu I g rx fun s' I' => ⟨.bl (!o.isSome), H, I', rfl, q⟩
end

/-! ### the comparisons as data -/
def bneg (n b : Bool) : Bool := if n then !b else b
def eqF (n : Bool) (a b : D) : Option D := if pl a && (pl b && decide (min (dep a) (dep b) ≤ 64)) then some (.bl (bneg n (dq a b))) else none
theorem op2_eqM {G : Gx} {n : Bool} : Op2 G (rEqM G.K n) (eqF n) := by
  intro S H p x y dx dy d Q s g ax ay e q
  unfold eqF at e
  split at e
  · rename_i hc
    cases e
    simp only [Bool.and_eq_true, decide_eq_true_eq] at hc
    obtain ⟨h1, h2, h3⟩ := hc
    obtain ⟨k1, k2⟩ := ax.dp s h1
    obtain ⟨k3, k4⟩ := ay.dp s h2
    refine ⟨_, _, k1, k3, k2, k4, by rw [dep_toP _ h1, dep_toP _ h2]; exact h3, ?_⟩
    rw [dq_toP _ _ h1 h2]
    exact same s (.bl _) q
  · cases e
/-- == of what is no data at all, known by its make: never equal to None, truths, ints, texts -/
def itemsOf : D → Option (List D)
  | .lst xs => some xs
  | .tup xs => some xs
  | _ => none
def dIn (x : D) (xs : List D) : Bool := xs.any fun z => dq z x
def inF (n : Bool) (a b : D) : Option D := match itemsOf b with
  | some xs => if pl a && (pls xs && decide (min (deps xs) (dep a) ≤ 63)) then some (.bl (bneg n (dIn a xs))) else none
  | none => none
theorem any_toP {x : D} (hx : pl x = true) : ∀ xs : List D, pls xs = true → ((toPs xs).any fun z => PyData.eqv z (toP x)) = dIn x xs
  | [], _ => rfl
  | y :: ys, h => by
    rw [pls, Bool.and_eq_true] at h
    simp only [toPs, List.any_cons, dIn, dq_toP y x h.1 hx]
    rw [any_toP hx ys h.2]; rfl
theorem op2_inM {G : Gx} {n : Bool} : Op2 G (rInM G.K n) (inF n) := by
  intro S H p x y dx dy d Q s g ax ay e q
  unfold inF at e
  split at e
  · rename_i xs hi
    split at e
    · rename_i hc
      cases e
      simp only [Bool.and_eq_true, decide_eq_true_eq] at hc
      obtain ⟨h1, h2, h3⟩ := hc
      obtain ⟨k1, k2⟩ := ax.dp s h1
      have fin : PyData.canLayAll0 (toPs xs) = true → (Dp G.K H y (.list (toPs xs)) ∨ Dp G.K H y (.tuple (toPs xs))) → rInM G.K n x y H Q := fun hl hd =>
        ⟨_, toPs xs, k1, hd, k2, hl, by rw [deps_toP _ h2, dep_toP _ h1]; exact h3, by rw [any_toP h1 xs h2]; exact same s (.bl _) q⟩
      cases dy with
      | lst ys =>
        cases hi
        obtain ⟨k3, k4⟩ := ay.dp s (by simpa [pl] using h2)
        simp only [toP, PyData.canLay0] at k3 k4
        exact fin k4 (.inl k3)
      | tup ys =>
        cases hi
        obtain ⟨k3, k4⟩ := ay.dp s (by simpa [pl] using h2)
        simp only [toP, PyData.canLay0] at k3 k4
        exact fin k4 (.inr k3)
      | _ => cases hi
    · cases e
  · cases e
/-! dicts -/
def keyD : D → Option Key
  | .int i => some (.inl i)
  | .str x => some (.inr x)
  | _ => none
def keysD : List D → Option (List Key)
  | [] => some []
  | d :: ds => match keyD d, keysD ds with
    | some k, some ks => some (k :: ks)
    | _, _ => none
def assoc {κ α : Type} [DecidableEq κ] : List κ → List α → κ → Option α
  | k :: ks, v :: vs, x => if k = x then some v else assoc ks vs x
  | _, _, _ => none
/-- the entry of a dict -/
def dget : D → D → Option (Option D)
  | .dk ks vs, d => match keyD d with
    | some k => some (assoc ks vs k)
    | none => none
  | .dt ks vs, .tup xs => match keysD xs with
    | some k => some (assoc ks vs k)
    | none => none
  | _, _ => none
section
variable {G : Gx} {S H : Hp} {κ : Type} [DecidableEq κ]
theorem assoc_val : ∀ {kvs : List (κ × V)} {ds : List D} {k : κ}, Ats G S (kvs.map (·.2)) ds → (∀ d, assoc (kvs.map (·.1)) ds k = some d → ∃ v, valV kvs k = some v ∧ At G S v d) ∧ (assoc (kvs.map (·.1)) ds k = none → valV kvs k = none)
  | [], _, k, h => by
    cases h
    exact ⟨fun d e => by simp [assoc] at e, fun _ => rfl⟩
  | p :: r, _, k, h => by
    cases h with
    | cons a t =>
      obtain ⟨h1, h2⟩ := assoc_val (k := k) t
      refine ⟨fun d e => ?_, fun e => ?_⟩
      · simp only [List.map_cons, assoc] at e
        split at e
        · rename_i hk
          cases e
          exact ⟨p.2, valV_pos hk, a⟩
        · rename_i hk
          rw [valV_neg hk]
          exact h1 d e
      · simp only [List.map_cons, assoc] at e
        split at e
        · cases e
        · rename_i hk
          rw [valV_neg hk]
          exact h2 e
theorem Aw.keyD {v : V} {d : D} {k : Key} (h : Aw G S H v d) (e : Z.keyD d = some k) : v = kV k ∧ kOk k = true := by
  cases d with
  | int i => cases e; exact ⟨h.int, rfl⟩
  | str x => cases e; exact ⟨h.str.1, h.str.2⟩
  | _ => cases e
theorem Ats.keysD : ∀ {vs : List V} {ds : List D} {ks : List Key}, Ats G S vs ds → Z.keysD ds = some ks → vs = ks.map kV ∧ ∀ k ∈ ks, kOk k = true
  | _, _, _, .nil, e => by cases e; exact ⟨rfl, fun _ h => by cases h⟩
  | _, d :: ds, _, .cons a t, e => by
    simp only [Z.keysD] at e
    cases e1 : Z.keyD d with
    | none => rw [e1] at e; cases e
    | some k =>
      cases e2 : Z.keysD ds with
      | none => rw [e1, e2] at e; cases e
      | some ks =>
        rw [e1, e2] at e
        cases e
        obtain ⟨h1, h2⟩ := Aw.keyD (H := S) (.inl a) e1
        obtain ⟨h3, h4⟩ := Ats.keysD t e2
        refine ⟨by rw [h1, h3]; rfl, fun k' hk => ?_⟩
        rcases List.mem_cons.mp hk with z | z
        · rw [z]; exact h2
        · exact h4 _ z
/-- a dict that is looked at: its pairs in the heap -/
theorem Aw.dk {v : V} {ks : List Key} {ds : List D} (s : Sub G S H) (h : Aw G S H v (.dk ks ds)) : ∃ a kvs, v = .ref a ∧ Rd H a (.dK kvs) ∧ ks = kvs.map (·.1) ∧ Ats G S (kvs.map (·.2)) ds ∧ ∀ p ∈ kvs, kOk p.1 = true := by
  rcases h with h | ⟨p, e, _, _, h⟩
  · cases h with
    | dK hk h1 h2 => exact ⟨_, _, rfl, s.ext.rd h1, rfl, h2, hk⟩
  · cases h with
    | dK hk h1 h2 => exact ⟨_, _, e, .inl h1, rfl, h2, hk⟩
theorem Aw.dt {v : V} {ks : List (List Key)} {ds : List D} (s : Sub G S H) (h : Aw G S H v (.dt ks ds)) : ∃ a kvs, v = .ref a ∧ Rd H a (.dT kvs) ∧ ks = kvs.map (·.1) ∧ Ats G S (kvs.map (·.2)) ds ∧ ∀ p ∈ kvs, ∀ k ∈ p.1, kOk k = true := by
  rcases h with h | ⟨p, e, _, _, h⟩
  · cases h with
    | dT hk h1 h2 => exact ⟨_, _, rfl, .inl (s.ext _ _ h1), rfl, h2, hk⟩
  · cases h with
    | dT hk h1 h2 => exact ⟨_, _, e, .inl h1, rfl, h2, hk⟩
theorem dget_at {x y : V} {dx dy : D} {o : Option D} (s : Sub G S H) (ad : Aw G S H x dx) (ak : Aw G S H y dy) (e : dget dx dy = some o) :
    ∃ a r, x = .ref a ∧ DGet H a y r ∧ ((o = none ∧ r = none) ∨ ∃ d v, o = some d ∧ r = some v ∧ At G S v d) := by
  cases dx with
  | dk ks vs =>
    simp only [dget] at e
    cases hk : Z.keyD dy with
    | none => rw [hk] at e; cases e
    | some k =>
      rw [hk] at e
      cases e
      obtain ⟨a, kvs, rfl, h1, rfl, h2, _⟩ := ad.dk s
      obtain ⟨rfl, _⟩ := Aw.keyD ak hk
      obtain ⟨k1, k2⟩ := assoc_val (k := k) h2
      refine ⟨a, valV kvs k, rfl, .inl ⟨kvs, k, h1, rfl, rfl⟩, ?_⟩
      cases ea : assoc (kvs.map (·.1)) vs k with
      | none => exact .inl ⟨rfl, k2 ea⟩
      | some d =>
        obtain ⟨v, hv, av⟩ := k1 d ea
        exact .inr ⟨d, v, rfl, hv, av⟩
  | dt ks vs =>
    cases dy with
    | tup xs =>
      simp only [dget] at e
      cases hk : Z.keysD xs with
      | none => rw [hk] at e; cases e
      | some k =>
        rw [hk] at e
        cases e
        obtain ⟨a, kvs, rfl, h1, rfl, h2, _⟩ := ad.dt s
        obtain ⟨b, ws, rfl, hb, aw⟩ := ak.tup
        obtain ⟨e1, _⟩ := aw.keysD hk
        obtain ⟨k1, k2⟩ := assoc_val (k := k) h2
        refine ⟨a, valV kvs k, rfl, .inr ⟨kvs, k, b, h1, rfl, by rw [← e1]; exact s.ext _ _ hb, rfl⟩, ?_⟩
        cases ea : assoc (kvs.map (·.1)) vs k with
        | none => exact .inl ⟨rfl, k2 ea⟩
        | some d =>
          obtain ⟨v, hv, av⟩ := k1 d ea
          exact .inr ⟨d, v, rfl, hv, av⟩
    | _ => simp [dget] at e
  | _ => simp [dget] at e
end
def dinF (n : Bool) (a b : D) : Option D := match dget b a with
  | some o => some (.bl (bneg n o.isSome))
  | none => none
theorem op2_din {G : Gx} {n : Bool} : Op2 G (rDin n) (dinF n) := by
  intro S H p x y dx dy d Q s g ax ay e q
  unfold dinF at e
  split at e
  · rename_i o ho
    cases e
    obtain ⟨a, r, e1, h1, h2⟩ := dget_at s ay ax ho
    refine ⟨a, r, e1, h1, ?_⟩
    have : r.isSome = o.isSome := by
      rcases h2 with ⟨rfl, rfl⟩ | ⟨d, v, rfl, rfl, _⟩ <;> rfl
    rw [this]
    exact same s (.bl _) q
  · cases e
/-- a sign in a text -/
def signF (n : Bool) : D → D → Option D
  | .str x, .str z => match x.cps.toList with
    | [c] => some (.bl (bneg n (decide (c ∈ z.cps.toList))))
    | _ => none
  | _, _ => none
theorem op2_sign {G : Gx} {n : Bool} : Op2 G (fun x y H Q => ∃ (c : Nat) (z : Str), x = .str ⟨#[c]⟩ ∧ y = .str z ∧ Q (.bl (if n = true then !decide (c ∈ z.cps.toList) else decide (c ∈ z.cps.toList))) H) (signF n) := by
  intro S H p x y dx dy d Q s g ax ay e q
  unfold signF at e
  split at e
  · rename_i x' z
    split at e
    · rename_i c hc
      cases e
      refine ⟨c, z, ?_, ay.str.1, same s (.bl _) q⟩
      rw [ax.str.1]
      obtain ⟨cps⟩ := x'
      have : cps = #[c] := by
        have h : cps.toList = [c] := hc
        rw [← Array.toList_inj]; simpa using h
      rw [this]
    · cases e
  · cases e
def isNon : D → Bool
  | .non => true
  | _ => false
def isF (n : Bool) : D → D → Option D
  | a, .non => some (.bl (bneg n (isNon a)))
  | .bl a, .bl b => some (.bl (bneg n (decide (a = b))))
  | _, _ => none
theorem Aw.isNon {G : Gx} {S H : Hp} {v : V} {d : D} (h : Aw G S H v d) : decide (v = V.non) = Z.isNon d := by
  rcases h with h | ⟨p, e, _, _, h⟩
  · cases h <;> rfl
  · subst e
    cases h <;> rfl
theorem op_is : ∀ {X : Cx} {G : Gx} (n : Bool), ∃ r, OpR X (compareOp (if n then .IsNot else .Is)) r ∧ Op2 G r (isF n) := by
  intro X G n
  cases n with
  | false =>
    refine ⟨_, op_isN.or op_isBl, fun S H p x y dx dy d Q s g ax ay e q => ?_⟩
    unfold isF at e
    split at e
    · cases e
      exact .inl ⟨ay.non, by rw [ax.isNon]; exact same s (.bl _) q⟩
    · cases e
      exact .inr ⟨_, _, ax.bl, ay.bl, same s (.bl _) q⟩
    · cases e
  | true =>
    refine ⟨_, op_notN.or op_notBl, fun S H p x y dx dy d Q s g ax ay e q => ?_⟩
    unfold isF at e
    split at e
    · cases e
      exact .inl ⟨ay.non, by rw [ax.isNon]; exact same s (.bl _) q⟩
    · cases e
      exact .inr ⟨_, _, ax.bl, ay.bl, same s (.bl _) q⟩
    · cases e
def ltI (f : Int → Int → Bool) : D → D → Option D
  | .int i, .int j => some (.bl (f i j))
  | _, _ => none
theorem op2_ltI {G : Gx} {f : Int → Int → Bool} : Op2 G (rI0 fun i j => .bl (f i j)) (ltI f) := by
  intro S H p x y dx dy d Q s g ax ay e q
  unfold ltI at e
  split at e
  · cases e
    exact ⟨_, _, ax.int, ay.int, same s (.bl _) q⟩
  · cases e
def cmpF : CmpOp → D → D → Option D
  | .Eq => eqF false
  | .NotEq => eqF true
  | .Lt => ltI fun i j => decide (i < j)
  | .LtE => ltI fun i j => decide (i ≤ j)
  | .Gt => ltI fun i j => decide (j < i)
  | .GtE => ltI fun i j => decide (j ≤ i)
  | .Is => isF false
  | .IsNot => isF true
  | .In => fun a b => (inF false a b).or ((dinF false a b).or (signF false a b))
  | .NotIn => fun a b => (inF true a b).or ((dinF true a b).or (signF true a b))
theorem op_cmp {X : Cx} {G : Gx} (hK : X.K = G.K) (hu : X.A.units + 64 < cLine) (op : CmpOp) : ∃ r, OpR X (compareOp op) r ∧ Op2 G r (cmpF op) := by
  cases op with
  | Eq => exact ⟨_, op_eqM hu, by rw [hK]; exact op2_eqM⟩
  | NotEq => exact ⟨_, op_neM hu, by rw [hK]; exact op2_eqM⟩
  | Lt => exact ⟨_, op_lt, op2_ltI⟩
  | LtE => exact ⟨_, op_le, op2_ltI⟩
  | Gt => exact ⟨_, op_gt, op2_ltI⟩
  | GtE => exact ⟨_, op_ge, op2_ltI⟩
  | Is => exact op_is false
  | IsNot => exact op_is true
  | In => exact ⟨_, (op_inM hu).or ((op_din (by omega)).or op_in_sign), by rw [hK]; exact op2_inM.or (op2_din.or (op2_sign (n := false)))⟩
  | NotIn => exact ⟨_, (op_notInM hu).or ((op_dnotin (by omega)).or op_notIn_sign), by rw [hK]; exact op2_inM.or (op2_din.or (op2_sign (n := true)))⟩
section
variable {G : Gx} {X : Cx} {φ : Fns} {E : XK}
theorem se_cmp (hK : X.K = G.K) (hu : X.A.units + 64 < cLine) {op : CmpOp} {a b : DE} {ea eb : Expr} {pos : Pos} (ha : SW G X φ E a ea) (hb : SW G X φ E b eb) (hm : behindInMarks op eb = false) : SE G X φ E (d2 (cmpF op) a b) (.Compare ea [op] [eb] pos) := by
  obtain ⟨ta, pa, ha⟩ := ha
  obtain ⟨tb, pb, hb⟩ := hb
  obtain ⟨r, o1, o2⟩ := op_cmp hK hu op
  exact ⟨_, pe_cmpR o1 pa pb hm, fun H0 S H σ ρ p Q rr s g q => pst2 (ea := ea) (eb := eb) o2 ha hb rr s g q⟩
/-- a test's answer -/
def asB : D → Option Bool
  | .bl b => some b
  | _ => none
def dT (a : DE) : DT := fun φ ρ => M.bind (a φ ρ) fun x => M.of (asB x)
theorem st_cmp (hK : X.K = G.K) (hu : X.A.units + 64 < cLine) {op : CmpOp} {a b : DE} {ea eb : Expr} {pos : Pos} (ha : SW G X φ E a ea) (hb : SW G X φ E b eb) (hm : behindInMarks op eb = false) : ST G X φ E (dT (d2 (cmpF op) a b)) (.Compare ea [op] [eb] pos) := by
  obtain ⟨ta, pa, ha⟩ := ha
  obtain ⟨tb, pb, hb⟩ := hb
  obtain ⟨r, o1, o2⟩ := op_cmp hK hu op
  refine ⟨_, pt_cmpR o1 pa pb hm, fun H0 S H σ ρ p Q rr s g q => ?_⟩
  refine pst2 (ea := ea) (eb := eb) o2 ha hb rr s g (q.bind fun dx p1 x S1 H1 f1 g1 a1 q1 => ?_)
  obtain ⟨b, e, k⟩ := q1.of f1.sub g1
  have a1 : At G S1 x dx := a1
  cases dx with
  | bl c =>
    cases e
    cases a1
    exact ⟨b, rfl, k b S1 H1 (Fp.refl f1.sub) rfl⟩
  | _ => cases e
end
end Z
namespace Z
open PySem PySem.Spec PyProof.Rows L2

/-! ### and, or, not, if -/
def mB (m : M D) (k : Bool → M D) : M D := M.bind m fun x => M.bind (M.of (asB x)) k
section
variable {G : Gx} {X : Cx} {φ : Fns} {E : XK}
theorem asB_at {S H : Hp} {v : V} {d : D} {b : Bool} (h : Aw G S H v d) (e : asB d = some b) : v = .bl b ∧ d = .bl b := by
  cases d with
  | bl c => cases e; exact ⟨h.bl, rfl⟩
  | _ => cases e
def dAnd (a b : DE) : DE := fun φ ρ => mB (a φ ρ) fun c => if c then b φ ρ else M.pure (.bl false)
def dOr (a b : DE) : DE := fun φ ρ => mB (a φ ρ) fun c => if c then M.pure (.bl true) else b φ ρ
def dNot (a : DE) : DE := fun φ ρ => mB (a φ ρ) fun c => M.pure (.bl (!c))
def dIf (c a b : DE) : DE := fun φ ρ => mB (c φ ρ) fun x => if x then a φ ρ else b φ ρ
theorem pst_mB {S H : Hp} {Q1 : V → Hp → Prop} {β : Type} {rel : Rl V D} {Q2 : V → Hp → Prop} {m : M D} {k : Bool → M D} {p : PS} (s : Sub G S H) (g : RegOk G H p) (h : Pst G E rel S H Q2 (mB m k p))
    (q : ∀ b p' S' H', Fn G S H S' H' → RegOk G H' p' → Pst G E rel S' H' Q2 (k b p') → Q1 (.bl b) H') : Pst G E (relA G) S H Q1 (m p) := by
  refine h.bind fun d p1 v S1 H1 f1 g1 a1 q1 => ?_
  cases e : asB d with
  | none => rw [e] at q1; exact q1.elim
  | some b =>
    rw [e] at q1
    obtain ⟨rfl, rfl⟩ := asB_at (H := H1) (.inl a1) e
    exact q b p1 S1 H1 f1 g1 q1
theorem se_one {op : BoolOp} {a : DE} {ea : Expr} {pos : Pos} (ha : SE G X φ E a ea) : SE G X φ E a (.BoolOp op [ea] pos) := by
  obtain ⟨t, pe, h⟩ := ha
  exact ⟨t, pe_one pe, h⟩
theorem se_and {a b : DE} {ea eb : Expr} {rest : List Expr} {pos : Pos} (ha : SE G X φ E a ea) (hb : SE G X φ E b (.BoolOp .And (eb :: rest) pos)) : SE G X φ E (dAnd a b) (.BoolOp .And (ea :: eb :: rest) pos) := by
  obtain ⟨ta, pa, ha⟩ := ha
  obtain ⟨tb, pb, hb⟩ := hb
  refine ⟨_, pe_and pa pb, fun H0 S H σ ρ p Q r s g q => ha H0 S H σ ρ p _ r s g (pst_mB (β := Unit) s g q fun b p1 S1 H1 f1 g1 q1 => ⟨b, rfl, ?_⟩)⟩
  cases b with
  | true => exact hb H0 S1 H1 σ ρ p1 Q (r.mono f1) f1.sub g1 q1
  | false => exact q1.pure f1.sub g1 (.bl false)
theorem se_or {a b : DE} {ea eb : Expr} {rest : List Expr} {pos : Pos} (ha : SE G X φ E a ea) (hb : SE G X φ E b (.BoolOp .Or (eb :: rest) pos)) : SE G X φ E (dOr a b) (.BoolOp .Or (ea :: eb :: rest) pos) := by
  obtain ⟨ta, pa, ha⟩ := ha
  obtain ⟨tb, pb, hb⟩ := hb
  refine ⟨_, pe_or pa pb, fun H0 S H σ ρ p Q r s g q => ha H0 S H σ ρ p _ r s g (pst_mB (β := Unit) s g q fun b p1 S1 H1 f1 g1 q1 => ⟨b, rfl, ?_⟩)⟩
  cases b with
  | true => exact q1.pure f1.sub g1 (.bl true)
  | false => exact hb H0 S1 H1 σ ρ p1 Q (r.mono f1) f1.sub g1 q1
theorem se_not {a : DE} {ea : Expr} {pos : Pos} (ha : SE G X φ E a ea) : SE G X φ E (dNot a) (.UnaryOp .Not ea pos) := by
  obtain ⟨ta, pa, ha⟩ := ha
  exact ⟨_, pe_not pa, fun H0 S H σ ρ p Q r s g q => ha H0 S H σ ρ p _ r s g (pst_mB (β := Unit) s g q fun b p1 S1 H1 f1 g1 q1 => ⟨b, rfl, q1.pure f1.sub g1 (.bl _)⟩)⟩
/-- tests -/
def dTB (a : DE) : DT := fun φ ρ => M.bind (a φ ρ) fun x => M.of (asB x)
theorem st_of {a : DE} {e : Expr} (h : SE G X φ E a e) (he : ∀ whole, isTrue e X.env whole = (do let v ← whole; standAt e.pos; holding [v] (truthy v))) : ST G X φ E (dTB a) e := by
  obtain ⟨t, pe, h⟩ := h
  refine ⟨_, pt_val pe he, fun H0 S H σ ρ p Q r s g q => h H0 S H σ ρ p _ r s g (q.bind fun d p1 v S1 H1 f1 g1 a1 q1 => ?_)⟩
  cases e : asB d with
  | none => rw [e] at q1; exact q1.elim
  | some b =>
    rw [e] at q1
    obtain ⟨rfl, rfl⟩ := asB_at (H := H1) (.inl a1) e
    exact ⟨b, rfl, q1 b S1 H1 (Fn.refl f1.sub) g1 rfl⟩
def tbAnd (a b : DT) : DT := fun φ ρ => M.bind (a φ ρ) fun c => if c then b φ ρ else M.pure false
def tbOr (a b : DT) : DT := fun φ ρ => M.bind (a φ ρ) fun c => if c then M.pure true else b φ ρ
def SWt (G : Gx) (X : Cx) (φ : Fns) (E : XK) (den : DT) (e : Expr) : Prop := ∃ t : TT, PW X e t ∧ ∀ H0 S H σ ρ p Q, Rep G H0 S H σ ρ → Sub G S H → RegOk G H p → Pst G E relB S H Q (den φ ρ p) → t σ H Q
theorem SWt.st {den : DT} {e : Expr} (h : SWt G X φ E den e) : ST G X φ E den e := let ⟨t, p, h⟩ := h; ⟨t, p.pt, h⟩
theorem sw_and1 {a : DT} {ea : Expr} {pos : Pos} (h : ST G X φ E a ea) : SWt G X φ E a (.BoolOp .And [ea] pos) := let ⟨t, p, h⟩ := h; ⟨t, pw_and1 p, h⟩
theorem sw_or1 {a : DT} {ea : Expr} {pos : Pos} (h : ST G X φ E a ea) : SWt G X φ E a (.BoolOp .Or [ea] pos) := let ⟨t, p, h⟩ := h; ⟨t, pw_or1 p, h⟩
theorem sw_and {a b : DT} {ea eb : Expr} {rest : List Expr} {pos : Pos} (ha : ST G X φ E a ea) (hb : SWt G X φ E b (.BoolOp .And (eb :: rest) pos)) : SWt G X φ E (tbAnd a b) (.BoolOp .And (ea :: eb :: rest) pos) := by
  obtain ⟨ta, pa, ha⟩ := ha
  obtain ⟨tb, pb, hb⟩ := hb
  refine ⟨_, pw_and pa pb, fun H0 S H σ ρ p Q r s g q => ha H0 S H σ ρ p _ r s g (q.bind fun c p1 b S1 H1 f1 g1 e q1 => ?_)⟩
  have e : b = c := e
  subst e
  cases b with
  | true => exact hb H0 S1 H1 σ ρ p1 Q (r.mono f1) f1.sub g1 q1
  | false => exact q1 false S1 H1 (Fn.refl f1.sub) g1 rfl
theorem sw_or {a b : DT} {ea eb : Expr} {rest : List Expr} {pos : Pos} (ha : ST G X φ E a ea) (hb : SWt G X φ E b (.BoolOp .Or (eb :: rest) pos)) : SWt G X φ E (tbOr a b) (.BoolOp .Or (ea :: eb :: rest) pos) := by
  obtain ⟨ta, pa, ha⟩ := ha
  obtain ⟨tb, pb, hb⟩ := hb
  refine ⟨_, pw_or pa pb, fun H0 S H σ ρ p Q r s g q => ha H0 S H σ ρ p _ r s g (q.bind fun c p1 b S1 H1 f1 g1 e q1 => ?_)⟩
  have e : b = c := e
  subst e
  cases b with
  | true => exact q1 true S1 H1 (Fn.refl f1.sub) g1 rfl
  | false => exact hb H0 S1 H1 σ ρ p1 Q (r.mono f1) f1.sub g1 q1
def tbNot (a : DT) : DT := fun φ ρ => M.bind (a φ ρ) fun c => M.pure (!c)
theorem st_not {a : DT} {ea : Expr} {pos : Pos} (ha : ST G X φ E a ea) : ST G X φ E (tbNot a) (.UnaryOp .Not ea pos) := by
  obtain ⟨ta, pa, ha⟩ := ha
  refine ⟨_, pt_not pa, fun H0 S H σ ρ p Q r s g q => ha H0 S H σ ρ p _ r s g (q.bind fun c p1 b S1 H1 f1 g1 e q1 => ?_)⟩
  have e : b = c := e
  subst e
  exact q1 _ S1 H1 (Fn.refl f1.sub) g1 rfl
def dIfT (c : DT) (a b : DE) : DE := fun φ ρ => M.bind (c φ ρ) fun x => if x then a φ ρ else b φ ρ
theorem se_if {c : DT} {a b : DE} {ec ea eb : Expr} {pos : Pos} (hc : ST G X φ E c ec) (ha : SE G X φ E a ea) (hb : SE G X φ E b eb) : SE G X φ E (dIfT c a b) (.IfExp ec ea eb pos) := by
  obtain ⟨tc, pc, hc⟩ := hc
  obtain ⟨ta, pa, ha⟩ := ha
  obtain ⟨tb, pb, hb⟩ := hb
  refine ⟨_, pe_ifExp pc pa pb, fun H0 S H σ ρ p Q r s g q => hc H0 S H σ ρ p _ r s g (q.bind fun c p1 b S1 H1 f1 g1 e q1 => ?_)⟩
  have e : b = c := e
  subst e
  cases b with
  | true => exact ha H0 S1 H1 σ ρ p1 Q (r.mono f1) f1.sub g1 q1
  | false => exact hb H0 S1 H1 σ ρ p1 Q (r.mono f1) f1.sub g1 q1
theorem sf_if {c : DT} {a b : DE} {ec ea eb : Expr} {pos : Pos} (hc : ST G X φ E c ec) (ha : SF G X φ E a ea) (hb : SF G X φ E b eb) : SF G X φ E (dIfT c a b) (.IfExp ec ea eb pos) := by
  obtain ⟨tc, pc, hc⟩ := hc
  obtain ⟨ta, pa, ha⟩ := ha
  obtain ⟨tb, pb, hb⟩ := hb
  refine ⟨_, pe_ifExp pc pa pb, fun H0 S H σ ρ p Q r s g q => hc H0 S H σ ρ p _ r s g (q.bind fun c p1 b S1 H1 f1 g1 e q1 => ?_)⟩
  have e : b = c := e
  subst e
  have wk : ∀ {m : Res D}, Pst G E (relF G H) S1 H1 Q m → Pst G E (relF G H1) S1 H1 Q m := fun {m} h => by
    cases m with
    | ok d p' => exact fun v S2 H2 f2 g2 q2 => h v S2 H2 f2 g2 (q2.fn f1.dom)
    | exc c fs p' => exact h
    | bad => exact h
  cases b with
  | true => exact ha H0 S1 H1 σ ρ p1 Q (r.mono f1) f1.sub g1 (wk q1)
  | false => exact hb H0 S1 H1 σ ρ p1 Q (r.mono f1) f1.sub g1 (wk q1)
end
end Z
namespace Z
open PySem PySem.Spec PyProof.Rows L2

/-! ### argument lists -/
abbrev Aws (G : Gx) (S H : Hp) : List V → List D → Prop := Paired (Aw G S H)
def relWs (G : Gx) : Rl (List V) (List D) := fun S H vs ds => Aws G S H vs ds
theorem Aws.mono {G : Gx} {S H S' H' : Hp} {vs : List V} {ds : List D} (h : Aws G S H vs ds) (f : Fn G S H S' H') : Aws G S' H' vs ds := Paired.mapP h fun _ _ a => a.mono f
def daNil : DA := fun _ _ => M.pure []
def daCons (a : DE) (r : DA) : DA := fun φ ρ => M.bind (a φ ρ) fun x => M.bind (r φ ρ) fun xs => M.pure (x :: xs)
section
variable {G : Gx} {X : Cx} {φ : Fns} {E : XK}
def SAW (G : Gx) (X : Cx) (φ : Fns) (E : XK) (den : DA) (es : List Expr) : Prop := ∃ t : TA, PA X es t ∧ ∀ H0 S H σ ρ p Q, Rep G H0 S H σ ρ → Sub G S H → RegOk G H p → Pst G E (relWs G) S H Q (den φ ρ p) → t σ H Q
theorem Ats.ws {S H : Hp} : ∀ {vs : List V} {ds : List D}, Ats G S vs ds → Aws G S H vs ds
  | _, _, .nil => .nil
  | _, _, .cons h t => .cons (.inl h) (Ats.ws t)
theorem SA.w {den : DA} {es : List Expr} (h : SA G X φ E den es) : SAW G X φ E den es := by
  obtain ⟨t, pa, h⟩ := h
  refine ⟨t, pa, fun H0 S H σ ρ p Q r s g q => h H0 S H σ ρ p Q r s g ?_⟩
  cases er : den φ ρ p with
  | ok d p' => rw [er] at q; exact fun v S' H' f g' a => q v S' H' f g' (Ats.ws a)
  | exc c fs p' => rw [er] at q; exact q
  | bad => rw [er] at q; exact q
theorem sa_nil : SA G X φ E daNil [] := ⟨tNil, pa_nil, fun H0 S H σ ρ p Q r s g q => q.pure s g .nil⟩
theorem saw_nil : SAW G X φ E daNil [] := sa_nil.w
theorem sa_cons {a : DE} {b : DA} {e : Expr} {es : List Expr} (ha : SE G X φ E a e) (hb : SA G X φ E b es) (hs : starEach (e :: es) X.env = (false, eval e X.env) :: starEach es X.env) : SA G X φ E (daCons a b) (e :: es) := by
  obtain ⟨ta, pa, ha⟩ := ha
  obtain ⟨tb, pb, hb⟩ := hb
  refine ⟨_, pa_cons pa pb hs, fun H0 S H σ ρ p Q r s g q => ha H0 S H σ ρ p _ r s g (q.bind fun x p1 v S1 H1 f1 g1 a1 q1 => ?_)⟩
  refine hb H0 S1 H1 σ ρ p1 _ (r.mono f1) f1.sub g1 (q1.bind fun xs p2 vs S2 H2 f2 g2 a2 q2 => ?_)
  have a1 : At G S1 v x := a1
  have a2 : Ats G S2 vs xs := a2
  exact q2.pure f2.sub g2 (.cons (a1.mono f2.ext) a2)
theorem saw_cons {a : DE} {b : DA} {e : Expr} {es : List Expr} (ha : SW G X φ E a e) (hb : SAW G X φ E b es) (hs : starEach (e :: es) X.env = (false, eval e X.env) :: starEach es X.env) : SAW G X φ E (daCons a b) (e :: es) := by
  obtain ⟨ta, pa, ha⟩ := ha
  obtain ⟨tb, pb, hb⟩ := hb
  refine ⟨_, pa_cons pa pb hs, fun H0 S H σ ρ p Q r s g q => ha H0 S H σ ρ p _ r s g (q.bind fun x p1 v S1 H1 f1 g1 a1 q1 => ?_)⟩
  refine hb H0 S1 H1 σ ρ p1 _ (r.mono f1) f1.sub g1 (q1.bind fun xs p2 vs S2 H2 f2 g2 a2 q2 => ?_)
  have a1 : Aw G S1 H1 v x := a1
  have a2 : Aws G S2 H2 vs xs := a2
  exact q2.pure f2.sub g2 (.cons (a1.mono f2) a2)

/-! ### displays -/
def dLst (a : DA) : DE := fun φ ρ => M.bind (a φ ρ) fun xs => M.of (if xs.length ≤ 16777216 then some (.lst xs) else none)
def dTup (a : DA) : DE := fun φ ρ => M.bind (a φ ρ) fun xs => M.of (if xs.length ≤ 16777216 then some (.tup xs) else none)
theorem Pst.of' {α β : Type} {rel : Rl β α} {S H : Hp} {Q : β → Hp → Prop} {c : Prop} [Decidable c] {d : α} {p : PS} (h : Pst G E rel S H Q (M.of (if c then some d else none) p)) (s : Sub G S H) (g : RegOk G H p) : c ∧ ∀ v S' H', Fp G S H S' H' → rel S' H' v d → Q v H' := by
  obtain ⟨d', e, k⟩ := h.of s g
  split at e
  · rename_i hc
    cases e
    exact ⟨hc, k⟩
  · cases e
theorem sf_lst {a : DA} {es : List Expr} {pos : Pos} (ha : SA G X φ E a es) : SF G X φ E (dLst a) (.List es pos) := by
  obtain ⟨ta, pa, ha⟩ := ha
  refine ⟨_, pe_lst pa, fun H0 S H σ ρ p Q r s g q => ha H0 S H σ ρ p _ r s g (q.bind fun xs p1 vs S1 H1 f1 g1 a1 q1 => ?_)⟩
  have a1 : Ats G S1 vs xs := a1
  obtain ⟨hl, k⟩ := q1.of' f1.sub g1
  refine ⟨by rw [sizeLine_eq, a1.length]; exact hl, fun pp hp => new_lstF f1.sub g1 hp a1 fun v S' H' f rf => k v S' H' f (rf.fn f1.dom)⟩
theorem sf_tup {a : DA} {es : List Expr} {k0 : Nat} {pos : Pos} (ha : SA G X φ E a es) : SF G X φ E (dTup a) (.Tuple es k0 pos) := by
  obtain ⟨ta, pa, ha⟩ := ha
  refine ⟨_, pe_tup pa, fun H0 S H σ ρ p Q r s g q => ha H0 S H σ ρ p _ r s g (q.bind fun xs p1 vs S1 H1 f1 g1 a1 q1 => ?_)⟩
  have a1 : Ats G S1 vs xs := a1
  obtain ⟨hl, k⟩ := q1.of' f1.sub g1
  refine ⟨by rw [sizeLine_eq, a1.length]; exact hl, fun pp hp => new_tupF f1.sub g1 hp a1 fun v S' H' f rf => k v S' H' f (rf.fn f1.dom)⟩
def dDk : DE := fun _ _ => M.pure (.dk [] [])
def dDt : DE := fun _ _ => M.pure (.dt [] [])
theorem sf_dk {pos : Pos} : SF G X φ E dDk (.Dict [] [] pos) := by
  refine ⟨_, pe_dnewK, fun H0 S H σ ρ p Q r s g q pp hp => ?_⟩
  have n := none_ne g hp
  have f := Fp.alloc0 (o := .dK []) s hp
  refine (q (.ref pp) S _ f.fn (f.reg g) (.inr ⟨rfl, pp, rfl, Nn.no hp, s.none hp, n.1, n.2, ?_⟩))
  exact .dK (kvs := []) (fun _ h => by cases h) upd_same .nil
theorem sf_dt {pos : Pos} : SF G X φ E dDt (.Dict [] [] pos) := by
  refine ⟨_, pe_dnewT, fun H0 S H σ ρ p Q r s g q pp hp => ?_⟩
  have n := none_ne g hp
  have f := Fp.alloc0 (o := .dT []) s hp
  refine (q (.ref pp) S _ f.fn (f.reg g) (.inr ⟨rfl, pp, rfl, Nn.no hp, s.none hp, n.1, n.2, ?_⟩))
  exact .dT (kvs := []) (fun _ h => by cases h) upd_same .nil

/-! ### built-in calls -/
def OpC (G : Gx) (r : List V → Hp → VK → Prop) (f : List D → Option D) : Prop := ∀ S H p vs ds d (Q : VK), Sub G S H → RegOk G H p → Aws G S H vs ds → f ds = some d →
  (∀ v S' H', Fp G S H S' H' → relF G H S' H' v d → Q v H') → r vs H Q
theorem OpC.or {r r' : List V → Hp → VK → Prop} {f g : List D → Option D} (h : OpC G r f) (h' : OpC G r' g) : OpC G (fun x H Q => r x H Q ∨ r' x H Q) (fun a => (f a).or (g a)) := by
  intro S H p x dx d Q s g0 ax e q
  cases ef : f dx with
  | some z =>
    simp only [ef, Option.some_or] at e
    exact .inl (h S H p x dx d Q s g0 ax (by rw [ef, e]) q)
  | none =>
    simp only [ef, Option.none_or] at e
    exact .inr (h' S H p x dx d Q s g0 ax e q)
theorem CallR.or {fn : Value} {r r' : List V → Hp → VK → Prop} (h : CallR X fn r) (h' : CallR X fn r') : CallR X fn (fun x H Q => r x H Q ∨ r' x H Q) := by
  intro pins s σ H xs us Q I rl hh
  rcases hh with hh | hh
  · exact h pins s σ H xs us Q I rl hh
  · exact h' pins s σ H xs us Q I rl hh
theorem OpC.ext {r : List V → Hp → VK → Prop} {f g : List D → Option D} (h : OpC G r f) (e : ∀ a d, g a = some d → f a = some d) : OpC G r g := fun S H p vs ds d Q s g0 a ed q => h S H p vs ds d Q s g0 a (e _ _ ed) q
theorem aws1 {S H : Hp} {vs : List V} {d : D} (h : Aws G S H vs [d]) : ∃ v, vs = [v] ∧ Aw G S H v d := by
  cases h with
  | cons a t => cases t; exact ⟨_, rfl, a⟩
theorem aws2 {S H : Hp} {vs : List V} {d e : D} (h : Aws G S H vs [d, e]) : ∃ v w, vs = [v, w] ∧ Aw G S H v d ∧ Aw G S H w e := by
  cases h with
  | cons a t =>
    cases t with
    | cons b t => cases t; exact ⟨_, _, rfl, a, b⟩
/-- len -/
def lenF : List D → Option D
  | [.str x] => some (.int x.length)
  | [.lst xs] => some (.int xs.length)
  | [.tup xs] => some (.int xs.length)
  | [.dk ks _] => some (.int ks.length)
  | [.dt ks _] => some (.int ks.length)
  | _ => none
theorem opc_len : OpC G (fun xs H Q => (∃ p ys, xs = [.ref p] ∧ (SqL G.K H p ys ∨ SqT G.K H p ys) ∧ Q (.int ys.length) H) ∨ (∃ z, xs = [.str z] ∧ z.length ≤ sizeLine ∧ Q (.int z.length) H) ∨ (∃ a kvs, xs = [V.ref a] ∧ Rd H a (.dK kvs) ∧ Q (.int (kvs.length : Nat)) H) ∨ rLenT xs H Q) lenF := by
  intro S H p vs ds d Q s g aa e q
  unfold lenF at e
  split at e
  · cases e
    obtain ⟨v, rfl, a⟩ := aws1 aa
    obtain ⟨rfl, h⟩ := a.str
    exact .inr (.inl ⟨_, rfl, sOk_len h, sameF s (.int _) q⟩)
  · cases e
    obtain ⟨v, rfl, a⟩ := aws1 aa
    obtain ⟨b, ws, rfl, h1, h2⟩ := a.lst s
    exact .inl ⟨b, ws, rfl, .inl (.inl (.inl h1)), by rw [h2.length]; exact sameF s (.int _) q⟩
  · cases e
    obtain ⟨v, rfl, a⟩ := aws1 aa
    obtain ⟨b, ws, rfl, h1, h2⟩ := a.tup
    exact .inl ⟨b, ws, rfl, .inr (SqT.of (s.ext _ _ h1)), by rw [h2.length]; exact sameF s (.int _) q⟩
  · cases e
    obtain ⟨v, rfl, a⟩ := aws1 aa
    obtain ⟨b, kvs, rfl, h1, rfl, h2, _⟩ := a.dk s
    exact .inr (.inr (.inl ⟨b, kvs, rfl, h1, by rw [List.length_map] at q; exact sameF s (.int _) q⟩))
  · cases e
    obtain ⟨v, rfl, a⟩ := aws1 aa
    rename_i ks ds
    have key : ∃ b kvs, v = V.ref b ∧ H b = some (.dT kvs) ∧ ks = kvs.map (·.1) := by
      rcases a with h | ⟨p, e, _, _, h⟩
      · cases h with
        | dT hk h1 h2 => exact ⟨_, _, rfl, s.ext _ _ h1, rfl⟩
      · cases h with
        | dT hk h1 h2 => exact ⟨_, _, e, h1, rfl⟩
    obtain ⟨b, kvs, rfl, h1, rfl⟩ := key
    exact .inr (.inr (.inr ⟨b, kvs, rfl, h1, by rw [List.length_map] at q; exact sameF s (.int _) q⟩))
  · cases e
theorem cr_lenRd {X : Cx} : CallR X (.builtin "len") (fun xs H Q => ∃ a kvs, xs = [V.ref a] ∧ Rd H a (.dK kvs) ∧ Q (.int (kvs.length : Nat)) H) := by
  intro pins s σ H xs us Q I r h
  obtain ⟨a, kvs, rfl, ha, q⟩ := h
  obtain ⟨u, rfl, ru⟩ := vals1 r
  cases ru
  exact d_len I ha fun t s' I' => ⟨.int kvs.length, H, I', ⟨t, rfl⟩, q⟩
theorem cr_len (hK : X.K = G.K) : CallR X (.builtin "len") (fun xs H Q => (∃ p ys, xs = [.ref p] ∧ (SqL G.K H p ys ∨ SqT G.K H p ys) ∧ Q (.int ys.length) H) ∨ (∃ z, xs = [.str z] ∧ z.length ≤ sizeLine ∧ Q (.int z.length) H) ∨ (∃ a kvs, xs = [V.ref a] ∧ Rd H a (.dK kvs) ∧ Q (.int (kvs.length : Nat)) H) ∨ rLenT xs H Q) := by
  rw [← hK]
  exact call_len_seq.or (call_len_str.or (cr_lenRd.or call_len_dT))
/-- the items of a list or tuple -/
theorem Aw.seq {S H : Hp} {v : V} {d : D} {xs : List D} (s : Sub G S H) (h : Aw G S H v d) (e : itemsOf d = some xs) : ∃ a vs, v = .ref a ∧ (SqL G.K H a vs ∨ SqT G.K H a vs) ∧ Ats G S vs xs := by
  cases d with
  | lst ys =>
    cases e
    obtain ⟨a, vs, rfl, h1, h2⟩ := h.lst s
    exact ⟨a, vs, rfl, .inl (.inl (.inl h1)), h2⟩
  | tup ys =>
    cases e
    obtain ⟨a, vs, rfl, h1, h2⟩ := h.tup
    exact ⟨a, vs, rfl, .inr (SqT.of (s.ext _ _ h1)), h2⟩
  | _ => cases e
/-- list(x) -/
def listF : List D → Option D
  | [.dk ks _] => some (.lst (ks.map kD))
  | [d] => (itemsOf d).map .lst
  | _ => none
theorem kD_at {S : Hp} : ∀ {ks : List Key}, (∀ k ∈ ks, kOk k = true) → Ats G S (ks.map kV) (ks.map kD)
  | [], _ => .nil
  | .inl i :: r, h => .cons (.int i) (kD_at fun k hk => h k (List.mem_cons_of_mem _ hk))
  | .inr x :: r, h => .cons (.str x (h (.inr x) List.mem_cons_self)) (kD_at fun k hk => h k (List.mem_cons_of_mem _ hk))
theorem opc_list : OpC G (fun xs H Q => (∃ p ys, xs = [.ref p] ∧ (SqL G.K H p ys ∨ SqT G.K H p ys) ∧ ∀ l, H l = none → Q (.ref l) (upd H l (.lst ys))) ∨
    (∃ (a : Addr) (kvs : List (Key × V)), xs = [.ref a] ∧ Rd H a (.dK kvs) ∧ ∀ p, H p = none → Q (.ref p) (upd H p (.lst (kvs.map fun kv => kV kv.1))))) listF := by
  intro S H p vs ds d Q s g aa e q
  unfold listF at e
  split at e
  · cases e
    obtain ⟨v, rfl, a⟩ := aws1 aa
    obtain ⟨b, kvs, rfl, h1, rfl, h2, h3⟩ := a.dk s
    refine .inr ⟨b, kvs, rfl, h1, fun l hl => ?_⟩
    have : (kvs.map fun kv => kV kv.1) = (kvs.map (·.1)).map kV := by rw [List.map_map]; rfl
    rw [this]
    exact new_lstF s g hl (kD_at fun k hk => by
      obtain ⟨z, hz, rfl⟩ := List.mem_map.mp hk
      exact h3 z hz) q
  · rename_i x _
    obtain ⟨v, rfl, a⟩ := aws1 aa
    cases ex : itemsOf x with
    | none => rw [ex] at e; cases e
    | some xs =>
      rw [ex] at e
      cases e
      obtain ⟨b, ws, rfl, h1, h2⟩ := a.seq s ex
      exact .inl ⟨b, ws, rfl, h1, fun l hl => new_lstF s g hl h2 q⟩
  · cases e
/-- tuple(x) -/
def tupF : List D → Option D
  | [d] => (itemsOf d).map .tup
  | _ => none
theorem opc_tup : OpC G (fun xs H Q => ∃ p ys, xs = [.ref p] ∧ ((SqL G.K H p ys ∧ ∀ l, H l = none → Q (.ref l) (upd H l (.tup ys))) ∨ (SqT G.K H p ys ∧ Q (.ref p) H))) tupF := by
  intro S H p vs ds d Q s g aa e q
  unfold tupF at e
  split at e
  · rename_i x
    obtain ⟨v, rfl, a⟩ := aws1 aa
    cases x with
    | lst ys =>
      cases e
      obtain ⟨b, ws, rfl, h1, h2⟩ := a.lst s
      exact ⟨b, ws, rfl, .inl ⟨.inl (.inl h1), fun l hl => new_tupF s g hl h2 q⟩⟩
    | tup ys =>
      cases e
      obtain ⟨b, ws, rfl, h1, h2⟩ := a.tup
      exact ⟨b, ws, rfl, .inr ⟨SqT.of (s.ext _ _ h1), sameF s (.tup h1 h2) q⟩⟩
    | _ => cases e
  · cases e
/-- all, any of a list of truths -/
def blsD : List D → Option (List Bool)
  | [] => some []
  | .bl b :: r => (blsD r).map (b :: ·)
  | _ => none
def allF : List D → Option D
  | [.lst xs] => (blsD xs).map fun bs => .bl (bs.all id)
  | _ => none
def anyF : List D → Option D
  | [.lst xs] => (blsD xs).map fun bs => .bl (bs.any id)
  | _ => none
theorem bls_at {S : Hp} : ∀ {vs : List V} {ds : List D} {bs : List Bool}, Ats G S vs ds → blsD ds = some bs → vs = bs.map V.bl
  | _, _, _, .nil, e => by cases e; rfl
  | _, d :: ds, bs, .cons a t, e => by
    cases d with
    | bl b =>
      simp only [blsD] at e
      cases er : blsD ds with
      | none => rw [er] at e; cases e
      | some r =>
        rw [er] at e
        cases e
        cases a
        rw [bls_at t er]; rfl
    | _ => cases e
theorem opc_all : OpC G (rAll G.K) allF := by
  intro S H p vs ds d Q s g aa e q
  unfold allF at e
  split at e
  · rename_i xs
    obtain ⟨v, rfl, a⟩ := aws1 aa
    cases er : blsD xs with
    | none => rw [er] at e; cases e
    | some bs =>
      rw [er] at e
      cases e
      obtain ⟨b, ws, rfl, h1, h2⟩ := a.lst s
      exact ⟨b, bs, rfl, .inl (.inl (by rw [← bls_at h2 er]; exact h1)), sameF s (.bl _) q⟩
  · cases e
theorem opc_any : OpC G (rAny G.K) anyF := by
  intro S H p vs ds d Q s g aa e q
  unfold anyF at e
  split at e
  · rename_i xs
    obtain ⟨v, rfl, a⟩ := aws1 aa
    cases er : blsD xs with
    | none => rw [er] at e; cases e
    | some bs =>
      rw [er] at e
      cases e
      obtain ⟨b, ws, rfl, h1, h2⟩ := a.lst s
      exact ⟨b, bs, rfl, .inl (.inl (by rw [← bls_at h2 er]; exact h1)), sameF s (.bl _) q⟩
  · cases e
/-- sum, max, min, sorted of a list of ints -/
def intsD : List D → Option (List Int)
  | [] => some []
  | .int b :: r => (intsD r).map (b :: ·)
  | _ => none
theorem ints_at {S : Hp} : ∀ {vs : List V} {ds : List D} {bs : List Int}, Ats G S vs ds → intsD ds = some bs → vs = bs.map V.int
  | _, _, _, .nil, e => by cases e; rfl
  | _, d :: ds, bs, .cons a t, e => by
    cases d with
    | int b =>
      simp only [intsD] at e
      cases er : intsD ds with
      | none => rw [er] at e; cases e
      | some r =>
        rw [er] at e
        cases e
        cases a
        rw [ints_at t er]; rfl
    | _ => cases e
def sumF : List D → Option D
  | [.lst xs] => (intsD xs).map fun bs => .int bs.sum
  | _ => none
theorem opc_sum : OpC G (rSum G.K) sumF := by
  intro S H p vs ds d Q s g aa e q
  unfold sumF at e
  split at e
  · rename_i xs
    obtain ⟨v, rfl, a⟩ := aws1 aa
    cases er : intsD xs with
    | none => rw [er] at e; cases e
    | some bs =>
      rw [er] at e
      cases e
      obtain ⟨b, ws, rfl, h1, h2⟩ := a.lst s
      exact ⟨b, bs, rfl, .inl (.inl (by rw [← ints_at h2 er]; exact h1)), sameF s (.int _) q⟩
  · cases e
def i1 (f : Int → D) : List D → Option D
  | [.int i] => some (f i)
  | _ => none
def i2 (f : Int → Int → D) : List D → Option D
  | [.int i, .int j] => some (f i j)
  | _ => none
theorem opc_abs : OpC G (fun xs H Q => ∃ i, xs = [.int i] ∧ Q (.int (if i < 0 then -i else i)) H) (i1 fun i => .int (if i < 0 then -i else i)) := by
  intro S H p vs ds d Q s g aa e q
  unfold i1 at e
  split at e
  · cases e
    obtain ⟨v, rfl, a⟩ := aws1 aa
    exact ⟨_, by rw [a.int], sameF s (.int _) q⟩
  · cases e
theorem opc_max2 : OpC G (fun xs H Q => ∃ i j, xs = [.int i, .int j] ∧ Q (.int (if j > i then j else i)) H) (i2 fun i j => .int (if j > i then j else i)) := by
  intro S H p vs ds d Q s g aa e q
  unfold i2 at e
  split at e
  · cases e
    obtain ⟨v, w, rfl, a, b⟩ := aws2 aa
    exact ⟨_, _, by rw [a.int, b.int], sameF s (.int _) q⟩
  · cases e
theorem opc_min2 : OpC G (fun xs H Q => ∃ i j, xs = [.int i, .int j] ∧ Q (.int (if j < i then j else i)) H) (i2 fun i j => .int (if j < i then j else i)) := by
  intro S H p vs ds d Q s g aa e q
  unfold i2 at e
  split at e
  · cases e
    obtain ⟨v, w, rfl, a, b⟩ := aws2 aa
    exact ⟨_, _, by rw [a.int, b.int], sameF s (.int _) q⟩
  · cases e
def intF : List D → Option D
  | [.int i] => some (.int i)
  | [.bl k] => some (.int (if k then 1 else 0))
  | _ => none
theorem opc_int : OpC G (fun xs H Q => (∃ i, xs = [.int i] ∧ Q (.int i) H) ∨ ∃ k, xs = [.bl k] ∧ Q (.int (if k then 1 else 0)) H) intF := by
  intro S H p vs ds d Q s g aa e q
  unfold intF at e
  split at e
  · cases e
    obtain ⟨v, rfl, a⟩ := aws1 aa
    exact .inl ⟨_, by rw [a.int], sameF s (.int _) q⟩
  · cases e
    obtain ⟨v, rfl, a⟩ := aws1 aa
    exact .inr ⟨_, by rw [a.bl], sameF s (.int _) q⟩
  · cases e
/-- sorted, of whole numbers, fewer than 64 -/
def sortF : List D → Option D
  | [.lst xs] => match intsD xs with
    | some bs => if bs.length < 64 then some (.lst ((bs.mergeSort (fun a b => decide (a ≤ b))).map .int)) else none
    | none => none
  | _ => none
theorem ints_mk {S : Hp} : ∀ bs : List Int, Ats G S (bs.map V.int) (bs.map D.int)
  | [] => .nil
  | b :: bs => .cons (.int b) (ints_mk bs)
theorem opc_sorted : OpC G (rSorted G.K) sortF := by
  intro S H p vs ds d Q s g aa e q
  unfold sortF at e
  split at e
  · rename_i xs
    obtain ⟨v, rfl, a⟩ := aws1 aa
    cases er : intsD xs with
    | none => rw [er] at e; cases e
    | some bs =>
      rw [er] at e
      simp only at e
      split at e
      · rename_i hl
        cases e
        obtain ⟨b, ws, rfl, h1, h2⟩ := a.lst s
        refine ⟨b, bs, rfl, .inl (.inl (by rw [← ints_at h2 er]; exact h1)), hl, fun ns' pp hp hs hn => ?_⟩
        have e2 : ns' = bs.mergeSort (fun a b => decide (a ≤ b)) := by
          have p1 := List.mergeSort_perm bs (fun a b => decide (a ≤ b))
          have p2 : (bs.mergeSort (fun a b => decide (a ≤ b))).Pairwise (· ≤ ·) := by
            have := List.pairwise_mergeSort (le := fun (a b : Int) => decide (a ≤ b)) (fun a b c h1 h2 => by simp at *; omega) (fun a b => by simp; omega) bs
            exact this.imp fun h => by simpa using h
          exact List.Perm.eq_of_pairwise (le := (· ≤ ·)) (fun a b _ _ h1 h2 => by omega) hs p2 (hp.trans p1.symm)
        rw [e2]
        exact new_lstF s g hn (ints_mk _) q
      · cases e
  · cases e
end
end Z
namespace Z
open PySem PySem.Spec PyProof.Rows L2

/-! ### slots -/
theorem set_some {α : Type} {l : List α} {i j : Nat} {x y : α} (h : (l.set i x)[j]? = some y) : (j = i ∧ y = x) ∨ (j ≠ i ∧ l[j]? = some y) := by
  by_cases e : i = j
  · subst e
    rw [List.getElem?_set_self'] at h
    cases q : l[i]? with
    | none => rw [q] at h; cases h
    | some z => rw [q] at h; cases h; exact .inl ⟨rfl, rfl⟩
  · rw [List.getElem?_set_ne e] at h
    exact .inr ⟨Ne.symm e, h⟩
section
variable {G : Gx} {H0 S H : Hp} {σ : L2.St} {ρ : Env}
theorem Rep.lt (r : Rep G H0 S H σ ρ) {i : Nat} {s : Sl} (h : ρ[i]? = some s) : i < σ.length := by
  rw [← r.len]
  exact (List.getElem?_eq_some_iff.mp h).1
theorem Rep.set_fz (r : Rep G H0 S H σ ρ) {v : V} {d : D} (a : At G S v d) (i : Nat) : Rep G H0 S H (σ.set i (some v)) (ρ.set i (.fz d)) := by
  refine ⟨by rw [List.length_set, List.length_set]; exact r.len, fun j e h => ?_, fun j e h => ?_, fun j k d1 d2 p h1 h2 h3 h4 => ?_, fun j c ds p h1 h2 => ?_⟩
  · rcases set_some h with ⟨rfl, e1⟩ | ⟨n, h⟩
    · cases e1
      have hl : j < σ.length := by
        rw [← r.len]
        have := (List.getElem?_eq_some_iff.mp h).1
        rwa [List.length_set] at this
      exact ⟨v, by rw [List.getElem?_set_self hl], a⟩
    · obtain ⟨w, h1, h2⟩ := r.fz j e h
      exact ⟨w, by rw [List.getElem?_set_ne (Ne.symm n)]; exact h1, h2⟩
  · rcases set_some h with ⟨rfl, e1⟩ | ⟨n, h⟩
    · cases e1
    · obtain ⟨p, h1, h2⟩ := r.ow j e h
      exact ⟨p, by rw [List.getElem?_set_ne (Ne.symm n)]; exact h1, h2⟩
  · rcases set_some h1 with ⟨rfl, e1⟩ | ⟨n1, h1⟩
    · cases e1
    · rcases set_some h2 with ⟨rfl, e1⟩ | ⟨n2, h2⟩
      · cases e1
      · rw [List.getElem?_set_ne (Ne.symm n1)] at h3
        rw [List.getElem?_set_ne (Ne.symm n2)] at h4
        exact r.apart j k d1 d2 p h1 h2 h3 h4
  · rcases set_some h1 with ⟨rfl, e1⟩ | ⟨n1, h1⟩
    · cases e1
    · rw [List.getElem?_set_ne (Ne.symm n1)] at h2
      exact r.ob j c ds p h1 h2
theorem Rep.set_no (r : Rep G H0 S H σ ρ) (i : Nat) (v : Option V) : Rep G H0 S H (σ.set i v) (ρ.set i .no) := by
  refine ⟨by rw [List.length_set, List.length_set]; exact r.len, fun j e h => ?_, fun j e h => ?_, fun j k d1 d2 p h1 h2 h3 h4 => ?_, fun j c ds p h1 h2 => ?_⟩
  · rcases set_some h with ⟨rfl, e1⟩ | ⟨n, h⟩
    · cases e1
    · obtain ⟨w, h1, h2⟩ := r.fz j e h
      exact ⟨w, by rw [List.getElem?_set_ne (Ne.symm n)]; exact h1, h2⟩
  · rcases set_some h with ⟨rfl, e1⟩ | ⟨n, h⟩
    · cases e1
    · obtain ⟨p, h1, h2⟩ := r.ow j e h
      exact ⟨p, by rw [List.getElem?_set_ne (Ne.symm n)]; exact h1, h2⟩
  · rcases set_some h1 with ⟨rfl, e1⟩ | ⟨n1, h1⟩
    · cases e1
    · rcases set_some h2 with ⟨rfl, e1⟩ | ⟨n2, h2⟩
      · cases e1
      · rw [List.getElem?_set_ne (Ne.symm n1)] at h3
        rw [List.getElem?_set_ne (Ne.symm n2)] at h4
        exact r.apart j k d1 d2 p h1 h2 h3 h4
  · rcases set_some h1 with ⟨rfl, e1⟩ | ⟨n1, h1⟩
    · cases e1
    · rw [List.getElem?_set_ne (Ne.symm n1)] at h2
      exact r.ob j c ds p h1 h2
theorem Rep.set_ow (r : Rep G H0 S H σ ρ) {p : Addr} {d : D} (h0 : ¬ Nn H0 p) (sp : S p = none) (n1 : p ≠ G.r1) (n2 : p ≠ G.r2) (o : Own G S H p d) (i : Nat)
    (hob : ∀ c ds, d = .obj c ds → H0 G.r1 = some (.own p)) (ap : ∀ j e, j ≠ i → ρ[j]? = some (Sl.ow e) → σ[j]? ≠ some (some (V.ref p))) : Rep G H0 S H (σ.set i (some (.ref p))) (ρ.set i (.ow d)) := by
  have hs : ∀ {j : Nat} {y : Sl}, j = i → (ρ.set i (.ow d))[j]? = some y → (σ.set i (some (V.ref p)))[j]? = some (some (V.ref p)) := fun {j y} e h => by
    subst e
    have hl : j < σ.length := by
      rw [← r.len]
      have := (List.getElem?_eq_some_iff.mp h).1
      rwa [List.length_set] at this
    rw [List.getElem?_set_self hl]
  refine ⟨by rw [List.length_set, List.length_set]; exact r.len, fun j e h => ?_, fun j e h => ?_, fun j k d1 d2 q h1 h2 h3 h4 => ?_, fun j c ds q h1 h2 => ?_⟩
  · rcases set_some h with ⟨rfl, e1⟩ | ⟨n, h⟩
    · cases e1
    · obtain ⟨w, h1, h2⟩ := r.fz j e h
      exact ⟨w, by rw [List.getElem?_set_ne (Ne.symm n)]; exact h1, h2⟩
  · rcases set_some h with ⟨hj, e1⟩ | ⟨n, h'⟩
    · cases e1
      exact ⟨p, hs hj h, h0, sp, n1, n2, o⟩
    · obtain ⟨p, h1, h2⟩ := r.ow j e h'
      exact ⟨p, by rw [List.getElem?_set_ne (Ne.symm n)]; exact h1, h2⟩
  · rcases set_some h1 with ⟨e1, _⟩ | ⟨a1, b1⟩
    · have q1 := hs e1 h1
      rw [q1] at h3
      cases h3
      rcases set_some h2 with ⟨e2, _⟩ | ⟨a2, b2⟩
      · rw [e1, e2]
      · rw [List.getElem?_set_ne (Ne.symm a2)] at h4
        exact absurd h4 (ap k d2 a2 b2)
    · rcases set_some h2 with ⟨e2, _⟩ | ⟨a2, b2⟩
      · have q1 := hs e2 h2
        rw [q1] at h4
        cases h4
        rw [List.getElem?_set_ne (Ne.symm a1)] at h3
        exact absurd h3 (ap j d1 a1 b1)
      · rw [List.getElem?_set_ne (Ne.symm a1)] at h3
        rw [List.getElem?_set_ne (Ne.symm a2)] at h4
        exact r.apart j k d1 d2 q b1 b2 h3 h4
  · rcases set_some h1 with ⟨hj, e1⟩ | ⟨n1, h1'⟩
    · cases e1
      have := hs hj h1
      rw [this] at h2
      cases h2
      exact hob c ds rfl
    · rw [List.getElem?_set_ne (Ne.symm n1)] at h2
      exact r.ob j c ds q h1' h2
def wipeE (ρ : Env) : List Nat → Env
  | [] => ρ
  | v :: vs => (wipeE ρ vs).set v .no
theorem Rep.wipe (r : Rep G H0 S H σ ρ) : ∀ vs : List Nat, Rep G H0 S H (L2.wipe σ vs) (wipeE ρ vs)
  | [] => r
  | v :: vs => (Rep.wipe r vs).set_no v none
theorem wipe_set {σ : L2.St} {i : Nat} {x : Option V} : ∀ {vs : List Nat}, i ∈ vs → L2.wipe (σ.set i x) vs = L2.wipe σ vs
  | [], h => by cases h
  | v :: vs, h => by
    by_cases hm : i ∈ vs
    · show (L2.wipe (σ.set i x) vs).set v none = (L2.wipe σ vs).set v none
      rw [wipe_set hm]
    · have e : i = v := by
        rcases List.mem_cons.mp h with h | h
        · exact h
        · exact absurd h hm
      subst e
      have c : ∀ {ws : List Nat}, i ∉ ws → L2.wipe (σ.set i x) ws = (L2.wipe σ ws).set i x := fun {ws} => by
        induction ws with
        | nil => intro _; rfl
        | cons w ws ih =>
          intro hn
          have n1 : w ≠ i := fun z => hn (by rw [z]; exact List.mem_cons_self)
          show (L2.wipe (σ.set i x) ws).set w none = ((L2.wipe σ ws).set w none).set i x
          rw [ih fun z => hn (List.mem_cons_of_mem _ z), List.set_comm _ _ n1]
      show (L2.wipe (σ.set i x) vs).set i none = (L2.wipe σ vs).set i none
      rw [c hm, List.set_set]
theorem wipe_wipe (σ : L2.St) (vs : List Nat) : L2.wipe (L2.wipe σ vs) vs = L2.wipe σ vs := by
  have c : ∀ (ws : List Nat), (∀ w ∈ ws, w ∈ vs) → L2.wipe (L2.wipe σ ws) vs = L2.wipe σ vs := by
    intro ws
    induction ws with
    | nil => intro _; rfl
    | cons w ws ih =>
      intro h
      show L2.wipe ((L2.wipe σ ws).set w none) vs = _
      rw [wipe_set (h w List.mem_cons_self)]
      exact ih fun z hz => h z (List.mem_cons_of_mem _ hz)
  exact c vs fun _ h => h
end

/-! ### targets -/
mutual
inductive Pat where
  | nm (i : Nat) (p : Pos)
  | tup (ps : Pats) (k : Nat) (p : Pos)
inductive Pats where
  | nil
  | cons (a : Pat) (r : Pats)
end
def Pats.len : Pats → Nat
  | .nil => 0
  | .cons _ r => r.len + 1
mutual
def Pat.ex (N : List Str) : Pat → Expr
  | .nm i p => .Name (N.getD i Str.empty) p
  | .tup ps k p => .Tuple (ps.ex N) k p
def Pats.ex (N : List Str) : Pats → List Expr
  | .nil => []
  | .cons a r => a.ex N :: r.ex N
end
mutual
def Pat.bind : Pat → D → Env → Option Env
  | .nm i _, d, ρ => some (ρ.set i (.fz d))
  | .tup ps _ _, d, ρ => match d with
    | .tup ds => ps.bind ds ρ
    | _ => none
def Pats.bind : Pats → List D → Env → Option Env
  | .nil, [], ρ => some ρ
  | .cons a r, d :: ds, ρ => match a.bind d ρ with
    | some ρ' => r.bind ds ρ'
    | none => none
  | _, _, _ => none
end
mutual
def Pat.rd (K : PySem.W.Frag) : Pat → TG
  | .nm i _ => gName i
  | .tup ps _ _ => gTup K ps.len (ps.rd K)
def Pats.rd (K : PySem.W.Frag) : Pats → TGs
  | .nil => gNil
  | .cons a r => gCons (a.rd K) (r.rd K)
end
mutual
def Pat.ins (vs : List Nat) : Pat → Bool
  | .nm i _ => vs.contains i
  | .tup ps _ _ => ps.ins vs
def Pats.ins (vs : List Nat) : Pats → Bool
  | .nil => true
  | .cons a r => a.ins vs && r.ins vs
end
section
variable {G : Gx} {H0 S H : Hp}
theorem Pats.bind_len : ∀ {ps : Pats} {ds : List D} {ρ ρ' : Env}, ps.bind ds ρ = some ρ' → ps.len = ds.length
  | .nil, [], _, _, _ => rfl
  | .nil, _ :: _, _, _, h => by simp [Pats.bind] at h
  | .cons _ _, [], _, _, h => by simp [Pats.bind] at h
  | .cons a r, d :: ds, ρ, _, h => by
    simp only [Pats.bind] at h
    cases e : a.bind d ρ with
    | none => rw [e] at h; cases h
    | some ρ1 =>
      rw [e] at h
      show r.len + 1 = ds.length + 1
      rw [Pats.bind_len h]
mutual
theorem Pat.rd_ok (s : Ext S H) : ∀ {p : Pat} {v : V} {d : D} {σ : L2.St} {ρ ρ' : Env} {Q : L2.St → Hp → Prop}, At G S v d → Rep G H0 S H σ ρ → p.bind d ρ = some ρ' →
    (∀ σ', Rep G H0 S H σ' ρ' → (∀ vs, p.ins vs = true → L2.wipe σ' vs = L2.wipe σ vs) → Q σ' H) → p.rd G.K v σ H Q
  | .nm i _, v, d, σ, ρ, ρ', Q, a, r, e, q => by
    cases e
    exact q _ (r.set_fz a i) fun vs h => wipe_set (by simpa [Pat.ins] using h)
  | .tup ps _ _, v, d, σ, ρ, ρ', Q, a, r, e, q => by
    cases d with
    | tup ds =>
      simp only [Pat.bind] at e
      cases a with
      | tup h1 h2 => exact ⟨_, _, rfl, SqT.of (s _ _ h1), by rw [h2.length, Pats.bind_len e], Pats.rd_ok s h2 r e q⟩
    | _ => simp [Pat.bind] at e
theorem Pats.rd_ok (s : Ext S H) : ∀ {ps : Pats} {vs : List V} {ds : List D} {σ : L2.St} {ρ ρ' : Env} {Q : L2.St → Hp → Prop}, Ats G S vs ds → Rep G H0 S H σ ρ → ps.bind ds ρ = some ρ' →
    (∀ σ', Rep G H0 S H σ' ρ' → (∀ vs, ps.ins vs = true → L2.wipe σ' vs = L2.wipe σ vs) → Q σ' H) → ps.rd G.K vs σ H Q
  | .nil, _, [], σ, ρ, ρ', Q, .nil, r, e, q => by
    simp only [Pats.bind] at e
    cases e
    exact ⟨rfl, q _ r fun _ _ => rfl⟩
  | .nil, _, _ :: _, _, _, _, _, _, _, e, _ => by simp [Pats.bind] at e
  | .cons _ _, _, [], _, _, _, _, _, _, e, _ => by simp [Pats.bind] at e
  | .cons a t, _, d :: ds, σ, ρ, ρ', Q, .cons h1 h2, r, e, q => by
    simp only [Pats.bind] at e
    cases ea : a.bind d ρ with
    | none => rw [ea] at e; cases e
    | some ρ1 =>
      rw [ea] at e
      refine ⟨_, _, rfl, Pat.rd_ok s h1 r ea fun σ1 r1 w1 => Pats.rd_ok s h2 r1 e fun σ2 r2 w2 => q σ2 r2 fun vs hv => ?_⟩
      simp only [Pats.ins, Bool.and_eq_true] at hv
      rw [w2 vs hv.2, w1 vs hv.1]
end
mutual
def Pat.ok (sc : Scope) (N : List Str) (fnc : Str → Bool) : Pat → Bool
  | .nm i _ => match N[i]? with
    | some x => match sc.names.lookup x with
      | some .local => true
      | some .cell => fnc x
      | _ => false
    | none => false
  | .tup ps _ _ => ps.ok sc N fnc
def Pats.ok (sc : Scope) (N : List Str) (fnc : Str → Bool) : Pats → Bool
  | .nil => true
  | .cons a r => a.ok sc N fnc && r.ok sc N fnc
end
end
section
variable {X : Cx}
theorem Pats.ex_len (N : List Str) (env : PySem.Env) : ∀ ps : Pats, (assignEach (ps.ex N) env).length = ps.len
  | .nil => rfl
  | .cons (.nm _ _) r => by
    show (assignEach (r.ex N) env).length + 1 = r.len + 1
    rw [Pats.ex_len N env r]
  | .cons (.tup _ _ _) r => by
    show (assignEach (r.ex N) env).length + 1 = r.len + 1
    rw [Pats.ex_len N env r]
theorem Pats.ex_star (N : List Str) (env : PySem.Env) : ∀ ps : Pats, (assignEach (ps.ex N) env).findIdx? (·.1) = none
  | .nil => rfl
  | .cons (.nm _ _) r => by
    show ((false, _) :: assignEach (r.ex N) env).findIdx? (·.1) = none
    rw [List.findIdx?_cons, Pats.ex_star N env r]; rfl
  | .cons (.tup _ _ _) r => by
    show ((false, _) :: assignEach (r.ex N) env).findIdx? (·.1) = none
    rw [List.findIdx?_cons, Pats.ex_star N env r]; rfl
mutual
theorem Pat.pg {sc : Scope} {N : List Str} {fnc : Str → Bool} (hsc : X.env.scope = sc) (hN : X.N = N) (nd : N.Nodup) (hc : X.calm = true) (hf : X.fn = fnc) :
    ∀ p : Pat, p.ok sc N fnc = true → PG X (p.ex N) (p.rd X.K)
  | .nm i ps, h => by
    simp only [Pat.ok] at h
    cases ex : N[i]? with
    | none => rw [ex] at h; cases h
    | some x =>
      rw [ex] at h
      simp only at h
      have e1 : N.getD i Str.empty = x := by rw [List.getD_eq_getElem?_getD, ex]; rfl
      show PG X (.Name (N.getD i Str.empty) ps) (gName i)
      rw [e1]
      cases el : sc.names.lookup x with
      | none => rw [el] at h; cases h
      | some k =>
        rw [el] at h
        cases k with
        | «local» => exact pg_name (by rw [hN]; exact nd) (by rw [hN]; exact ex) (.inl (by rw [hsc]; exact el)) (.inr (by rw [hsc]; exact el))
        | cell => exact pg_name (by rw [hN]; exact nd) (by rw [hN]; exact ex) (.inr (by rw [hsc]; exact el)) (.inl (by rw [hf]; exact h))
        | _ => cases h
  | .tup ps k p, h => by
    have := Pats.pg hsc hN nd hc hf ps h
    exact pg_tup hc this (Pats.ex_len N X.env ps) (Pats.ex_star N X.env ps)
theorem Pats.pg {sc : Scope} {N : List Str} {fnc : Str → Bool} (hsc : X.env.scope = sc) (hN : X.N = N) (nd : N.Nodup) (hc : X.calm = true) (hf : X.fn = fnc) :
    ∀ p : Pats, p.ok sc N fnc = true → PGs X (p.ex N) (p.rd X.K)
  | .nil, _ => pgs_nil
  | .cons a r, h => by
    simp only [Pats.ok, Bool.and_eq_true] at h
    refine pgs_cons (Pat.pg hsc hN nd hc hf a h.1) (Pats.pg hsc hN nd hc hf r h.2) ?_
    cases a <;> rfl
end
end
end Z
namespace Z
open PySem PySem.Spec PyProof.Rows L2

/-! ### walks -/
def WalkD (G : Gx) (kp : Hp → Prop) (J : It) (S : Hp) (items : List D) : Prop :=
  ∃ (Gd : Hp → Prop) (Y : Nat → Hp → V → Hp → Prop), Walk J items.length Gd Y ∧ (∀ H, kp H → Gd H) ∧
    ∀ i H x H' S2 p d, Sub G S2 H → Ext S S2 → RegOk G H p → Gd H → Y i H x H' → items[i]? = some d → ∃ S3, Fp G S2 H S3 H' ∧ At G S3 x d
def relI (G : Gx) : Rl It (List D) := fun S H J items => WalkD G (fun H2 => Ext S H2) J S items
def relIW (G : Gx) : Rl It (List D) := fun S H J items => WalkD G (fun H2 => ∃ S2, Fn G S H S2 H2) J S items
abbrev DI := Fns → Env → M (List D)
section
variable (G : Gx) (X : Cx) (φ : Fns) (E : XK)
def SI (den : DI) (tg e : Expr) : Prop := ∃ t : TI, PI X tg e t ∧ ∀ H0 S H σ ρ p Q, Rep G H0 S H σ ρ → Sub G S H → RegOk G H p → Pst G E (relI G) S H Q (den φ ρ p) → t σ H Q
def SIW (den : DI) (tg e : Expr) : Prop := ∃ t : TI, PI X tg e t ∧ ∀ H0 S H σ ρ p Q, Rep G H0 S H σ ρ → Sub G S H → RegOk G H p → Pst G E (relIW G) S H Q (den φ ρ p) → t σ H Q
end
section
variable {G : Gx} {X : Cx} {φ : Fns} {E : XK}
theorem WalkD.imp {kp kp' : Hp → Prop} {J : It} {S : Hp} {ds : List D} (h : WalkD G kp J S ds) (k : ∀ H, kp' H → kp H) : WalkD G kp' J S ds := by
  obtain ⟨Gd, Y, w, h1, h2⟩ := h
  exact ⟨Gd, Y, w, fun H q => h1 H (k H q), h2⟩
theorem SI.w {den : DI} {tg e : Expr} (h : SI G X φ E den tg e) : SIW G X φ E den tg e := by
  obtain ⟨t, pe, h⟩ := h
  refine ⟨t, pe, fun H0 S H σ ρ p Q r s g q => h H0 S H σ ρ p Q r s g ?_⟩
  cases er : den φ ρ p with
  | ok d p' =>
    rw [er] at q
    exact fun v S' H' f g' a => q v S' H' f g' (WalkD.imp a fun H2 ⟨S2, fn⟩ => (fn.ext.trans fn.sub.ext))
  | exc c fs p' => rw [er] at q; exact q
  | bad => rw [er] at q; exact q
theorem PI.or {tg e : Expr} {w w' : TI} (h : PI X tg e w) (h' : PI X tg e w') : PI X tg e (fun σ H R => w σ H R ∨ w' σ H R) :=
  ⟨fun pins s σ H R I q => q.elim (h.run pins s σ H R I) (h'.run pins s σ H R I)⟩
theorem walkD_list {kp : Hp → Prop} {S : Hp} {a : Addr} {vs : List V} {ds : List D} (h : Ats G S vs ds) (k : ∀ H, kp H → SqL G.K H a vs) : WalkD G kp (Itl G.K a) S ds := by
  refine ⟨_, _, by rw [← h.length]; exact walk_list, k, fun i H x H' S2 p d s e g hg y hd => ?_⟩
  obtain ⟨rfl, hx⟩ := y
  obtain ⟨v, h1, h2⟩ := h.get hd
  rw [hx] at h1
  cases h1
  exact ⟨S2, Fp.refl s, h2.mono e⟩
theorem walkD_tup {kp : Hp → Prop} {S : Hp} {a : Addr} {vs : List V} {ds : List D} (h : Ats G S vs ds) (k : ∀ H, kp H → SqT G.K H a vs) : WalkD G kp (Itt G.K a) S ds := by
  refine ⟨_, _, by rw [← h.length]; exact walk_tup, k, fun i H x H' S2 p d s e g hg y hd => ?_⟩
  obtain ⟨rfl, hx⟩ := y
  obtain ⟨v, h1, h2⟩ := h.get hd
  rw [hx] at h1
  cases h1
  exact ⟨S2, Fp.refl s, h2.mono e⟩
def signsD (x : Str) : List D := x.cps.toList.map fun c => .str ⟨#[c]⟩
theorem strOk_sign {x : Str} (h : PyData.strOk x = true) {i : Nat} {c : Nat} (hc : x.cps[i]? = some c) : PyData.strOk ⟨#[c]⟩ = true := by
  unfold PyData.strOk at *
  have : c ∈ x.cps := Array.mem_of_getElem? hc
  have := (Array.all_eq_true'.mp h) c this
  simpa using this
theorem sOk_sign {x : Str} (h : sOk x = true) {i : Nat} {c : Nat} (hc : x.cps[i]? = some c) : sOk ⟨#[c]⟩ = true := by
  unfold sOk
  rw [strOk_sign (sOk_ok h) hc]
  rfl
theorem walkD_str {kp : Hp → Prop} {S : Hp} {x : Str} (hx : sOk x = true) : WalkD G kp (Its x) S (signsD x) := by
  have hl : (signsD x).length = x.cps.size := by unfold signsD; rw [List.length_map]; rfl
  refine ⟨_, _, by rw [hl]; exact walk_str, fun _ _ => trivial, fun i H v H' S2 p d s e g hg y hd => ?_⟩
  obtain ⟨rfl, c, hc, rfl⟩ := y
  unfold signsD at hd
  rw [List.getElem?_map] at hd
  have : x.cps.toList[i]? = some c := by rw [Array.getElem?_toList]; exact hc
  rw [this] at hd
  cases hd
  exact ⟨S2, Fp.refl s, .str _ (sOk_sign hx hc)⟩
def rngD (lo : Int) (n : Nat) : List D := (List.range n).map fun (i : Nat) => .int (lo + (i : Int))
theorem walkD_rng {kp : Hp → Prop} {S : Hp} {lo : Int} {n : Nat} : WalkD G kp (Itr lo n) S (rngD lo n) := by
  have hl : (rngD lo n).length = n := by unfold rngD; rw [List.length_map, List.length_range]
  refine ⟨_, _, by rw [hl]; exact walk_range, fun _ _ => trivial, fun i H v H' S2 p d s e g hg y hd => ?_⟩
  obtain ⟨rfl, rfl⟩ := y
  unfold rngD at hd
  rw [List.getElem?_map] at hd
  cases er : (List.range n)[i]? with
  | none => rw [er] at hd; cases hd
  | some j =>
    rw [er] at hd
    cases hd
    have hi : i < n := by
      have := (List.getElem?_eq_some_iff.mp er).1
      rwa [List.length_range] at this
    have : j = i := by
      have := (List.getElem?_eq_some_iff.mp er).2
      rw [List.getElem_range] at this
      exact this.symm
    subst this
    exact ⟨S2, Fp.refl s, .int _⟩
/-- the items that a for goes through -/
def iterF : D → Option (List D)
  | .lst xs => some xs
  | .tup xs => some xs
  | .str x => some (signsD x)
  | _ => none
def diE (a : DE) : DI := fun φ ρ => M.bind (a φ ρ) fun d => M.of (iterF d)
theorem si_e (hK : X.K = G.K) {a : DE} {tg e : Expr} (ha : SE G X φ E a e) : SI G X φ E (diE a) tg e := by
  obtain ⟨t, pe, ha⟩ := ha
  have pl := pi_list (tg := tg) pe
  have pt := pi_tup (tg := tg) pe
  rw [hK] at pl pt
  refine ⟨_, PI.or pl (PI.or pt (pi_str pe)), fun H0 S H σ ρ p Q r s g q => ?_⟩
  unfold diE at q
  have lft : ∀ {d : D} {p1 : PS}, a φ ρ p = .ok d p1 → Pst G E (relI G) S H Q (M.of (iterF d) p1) → (iList G.K t σ H Q ∨ iTup G.K t σ H Q ∨ iStr t σ H Q) := fun {d p1} ea q => by
    cases d with
    | lst ds =>
      refine Or.inl (ha H0 S H σ ρ p _ r s g (by
        rw [ea]
        intro v S' H' f g' av
        obtain ⟨b, vs, rfl, h1, h2⟩ : ∃ b vs, v = .ref b ∧ S' b = some (.lst vs) ∧ Ats G S' vs ds := by cases av with | lst h1 h2 => exact ⟨_, _, rfl, h1, h2⟩
        refine ⟨b, rfl, ⟨vs, .inl (.inl (f.sub.ext _ _ h1))⟩, q _ S' H' f g' (walkD_list (by exact h2) fun H2 e2 => ?_)⟩
        exact .inl (.inl (e2 _ _ h1))))
    | tup ds =>
      refine Or.inr (Or.inl (ha H0 S H σ ρ p _ r s g (by
        rw [ea]
        intro v S' H' f g' av
        obtain ⟨b, vs, rfl, h1, h2⟩ : ∃ b vs, v = .ref b ∧ S' b = some (.tup vs) ∧ Ats G S' vs ds := by cases av with | tup h1 h2 => exact ⟨_, _, rfl, h1, h2⟩
        refine ⟨b, rfl, ⟨vs, SqT.of (f.sub.ext _ _ h1)⟩, q _ S' H' f g' (walkD_tup (by exact h2) fun H2 e2 => ?_)⟩
        exact SqT.of (e2 _ _ h1))))
    | str x =>
      refine Or.inr (Or.inr (ha H0 S H σ ρ p _ r s g (by
        rw [ea]
        intro v S' H' f g' av
        obtain ⟨rfl, hx⟩ : v = .str x ∧ sOk x = true := by cases av with | str _ hx => exact ⟨rfl, hx⟩
        exact ⟨x, rfl, q _ S' H' f g' (walkD_str hx)⟩)))
    | _ => exact q.elim
  cases ea : a φ ρ p with
  | ok d p1 =>
    refine lft ea ?_
    unfold M.bind at q
    rw [ea] at q
    exact q
  | exc c fs p' =>
    refine Or.inl (ha H0 S H σ ρ p _ r s g ?_)
    unfold M.bind at q
    rw [ea] at q ⊢
    exact q
  | bad =>
    unfold M.bind at q
    rw [ea] at q
    exact q.elim
/-- .. of an own list, looked at -/
theorem siw_e (hK : X.K = G.K) {a : DE} {tg e : Expr} (ha : SW G X φ E a e) : SIW G X φ E (diE a) tg e := by
  obtain ⟨t, pe, ha⟩ := ha
  have pl := pi_list (tg := tg) pe
  have pt := pi_tup (tg := tg) pe
  rw [hK] at pl pt
  refine ⟨_, PI.or pl (PI.or pt (pi_str pe)), fun H0 S H σ ρ p Q r s g q => ?_⟩
  unfold diE at q
  have lft : ∀ {d : D} {p1 : PS}, a φ ρ p = .ok d p1 → Pst G E (relIW G) S H Q (M.of (iterF d) p1) → (iList G.K t σ H Q ∨ iTup G.K t σ H Q ∨ iStr t σ H Q) := fun {d p1} ea q => by
    cases d with
    | lst ds =>
      refine Or.inl (ha H0 S H σ ρ p _ r s g (by
        rw [ea]
        intro v S' H' f g' av
        rcases av with av | ⟨b, rfl, n1, n2, o⟩
        · obtain ⟨b, vs, rfl, h1, h2⟩ : ∃ b vs, v = .ref b ∧ S' b = some (.lst vs) ∧ Ats G S' vs ds := by cases av with | lst h1 h2 => exact ⟨_, _, rfl, h1, h2⟩
          refine ⟨b, rfl, ⟨vs, .inl (.inl (f.sub.ext _ _ h1))⟩, q _ S' H' f g' (walkD_list (by exact h2) fun H2 ⟨S2, fn⟩ => ?_)⟩
          exact .inl (.inl (fn.sub.ext _ _ (fn.ext _ _ h1)))
        · obtain ⟨vs, h1, h2⟩ : ∃ vs, H' b = some (.lst vs) ∧ Ats G S' vs ds := by cases o with | lst h1 h2 => exact ⟨_, h1, h2⟩
          refine ⟨b, rfl, ⟨vs, .inl (.inl h1)⟩, q _ S' H' f g' (walkD_list (by exact h2) fun H2 ⟨S2, fn⟩ => ?_)⟩
          exact .inl (.inl (fn.keep _ _ n1 n2 (fun _ z => by cases z) h1))))
    | tup ds =>
      refine Or.inr (Or.inl (ha H0 S H σ ρ p _ r s g (by
        rw [ea]
        intro v S' H' f g' av
        obtain ⟨b, vs, rfl, h1, h2⟩ := Aw.tup av
        refine ⟨b, rfl, ⟨vs, SqT.of (f.sub.ext _ _ h1)⟩, q _ S' H' f g' (walkD_tup (by exact h2) fun H2 ⟨S2, fn⟩ => ?_)⟩
        exact SqT.of (fn.sub.ext _ _ (fn.ext _ _ h1)))))
    | str x =>
      refine Or.inr (Or.inr (ha H0 S H σ ρ p _ r s g (by
        rw [ea]
        intro v S' H' f g' av
        obtain ⟨rfl, hx⟩ := Aw.str av
        exact ⟨x, rfl, q _ S' H' f g' (walkD_str hx)⟩)))
    | _ => exact q.elim
  cases ea : a φ ρ p with
  | ok d p1 =>
    refine lft ea ?_
    unfold M.bind at q
    rw [ea] at q
    exact q
  | exc c fs p' =>
    refine Or.inl (ha H0 S H σ ρ p _ r s g ?_)
    unfold M.bind at q
    rw [ea] at q ⊢
    exact q
  | bad =>
    unfold M.bind at q
    rw [ea] at q
    exact q.elim
end
end Z
namespace L2
open PySem PySem.Spec PyProof.Rows
/-! ### enumerate(tuple) -/
set_option maxHeartbeats 1000000 in
theorem meets_enumerate_new1 {v : Value} {o : Obj} {Hh : Heap → Prop} (B : Begins v o Hh) :
    Meets (Builtin.«enumerate.__new__» ⟨[.type "enumerate", v], []⟩) (fun _ R s => Hh s.heap ∧
      R (.ok (.ret (.ref (s.heap.push o).objs.size))) { s with heap := (s.heap.push o).push { cls := .type "enumerate", data := .fields #[.none, .bool false, .ref s.heap.objs.size, rawInt 0, .none, .none] } }) :=
  .of_wp fun prog w A R s h => by
    obtain ⟨hp, g, d, tk, os⟩ := s; obtain ⟨h1, h⟩ := h
    have hsub := sub_enumerate
    have q1 : ∀ {A' : Around} {E : Value → Shared → Prop} {Q : Value → Shared → Prop}, Q (.ref hp.objs.size) ⟨hp.push o, g, d, tk, os⟩ → wpAny (model prog w) A' (pyIter v) Q E ⟨hp, g, d, tk, os⟩ :=
      fun q => B.iter prog w _ _ ⟨hp, g, d, tk, os⟩ _ h1 q
    wp_walk using q1
    refine wpAny_stack_any fun st => wpAny_pure ?_
    split
    · rename_i c _ _ _ _ _
      cases (c == Value.type "enumerate")
      · wp_walk using q1
        exact ⟨_, rfl, h⟩
      · wp_walk using q1
        exact ⟨_, rfl, h⟩
    · wp_walk using q1
      exact ⟨_, rfl, h⟩
section
variable {prog : Program} {w : World} {A : Around} {E : Value → Shared → Prop} {s : Shared}
theorem enum_begins1 {v : Value} {o : Obj} {Hh : Heap → Prop} {Q : Value → Shared → Prop} (B : Begins v o Hh) (h1 : Hh s.heap)
    (h : ∀ h', IsEnum h' (s.heap.objs.size + 1) s.heap.objs.size 0 .none → h'.get? s.heap.objs.size = some o → h'.objs.size = s.heap.objs.size + 2 →
      (∀ b o, s.heap.get? b = some o → h'.get? b = some o) → Q (.ref (s.heap.objs.size + 1)) { s with heap := h' }) :
    wpAny (model prog w) A (call (.type "enumerate") [v]) Q E s := by
  refine callType_new F.called_enumerate (by decide) (F.typeCall_enumerate_1 _) (F.newCall_enumerate_1 _) (fun obj => F.args_object_init_2 obj _) F.entry_enumerate_new
    (meets_enumerate_new1 B) ⟨h1, ?_⟩
  have hz : (s.heap.push o).objs.size = s.heap.objs.size + 1 := Heap.size_push ..
  show _ ∧ _
  rw [hz]
  have he : IsEnum ((s.heap.push o).push { cls := .type "enumerate", data := .fields #[.none, .bool false, .ref s.heap.objs.size, rawInt 0, .none, .none] }) (s.heap.objs.size + 1) s.heap.objs.size 0 .none := by
    have := Heap.get?_push_size (s.heap.push o) (o := { cls := .type "enumerate", data := .fields #[.none, .bool false, .ref s.heap.objs.size, rawInt 0, .none, .none] }) rfl
    rw [hz] at this; exact this
  refine ⟨⟨_, he, rfl⟩, h _ he (Heap.get?_push_of_some _ (Heap.get?_push_size _ B.free)) (by rw [Heap.size_push, hz]) fun b o x => Heap.get?_push_of_some _ (Heap.get?_push_of_some _ x)⟩
end
section
variable {prog : Program} {w : World} {A : Around} {E : Value → Shared → Prop} {s : Shared}
theorem wpAny_pyNext_enum_endT {e it t : Addr} {i : Nat} {items : Array Value} {k : Int} {old : Value} {Q : Option Value → Shared → Prop} (hh : A.handled = none) (he : IsEnum s.heap e it k old) (hst : s.heap.IsTupleIter it t i) (ht : s.heap.IsTuple t items) (hi : items[i]? = none)
    (hQ : ∀ h', Heap.ExtBut it s.heap h' → Q none { s with heap := h' }) : wpAny (model prog w) A (pyNext (.ref e)) Q E s := by
  have hT : s.TypeIs (.ref e) "enumerate" := ⟨_, he, rfl⟩
  unfold pyNext
  refine wpAny_bind (wpAny_attempt (wpAny_callSpecial?_slot (name := Str.ofString "__next__") hT F.slot_enumerate_next
    (wpAny_call_entry F.slot_enumerate_next hT F.entry_enumerate_next ?_ (F.args_enumerate_next_1 _))))
  show wpAny _ _ (field (.ref e) 2 >>= _) _ _ _
  refine wpAny_bind (wpAny_field he rfl (x := .ref it) rfl ?_)
  refine wpAny_bind (wpAny_nextOf_tuple_end hh hst ht hi fun h' x he' hx' => ?_)
  obtain ⟨o, ho, hc⟩ := hx'
  refine wpAny_bind (wpAny_isInstance (T := "StopIteration") (b := true) ⟨o, ho, hc⟩ isSubtype_stop ?_)
  exact wpAny_pure (hQ _ he')
end
/-- the tuple at a, each item in a new pair -/
def IteT (K : PySem.W.Frag) (a : Addr) : It :=
  ⟨fun i H => ∃ (xs : List V) (x : V), SqT K H a xs ∧ xs[i]? = some x, fun i H v H' => ∃ T x, v = .ref T ∧ H T = none ∧ H' = upd H T (.tup [.int (i : Nat), x]) ∧ ∀ xs, SqT K H a xs → xs[i]? = some x, fun i H => ∃ xs : List V, SqT K H a xs ∧ xs.length ≤ i⟩
theorem turn_enumT {P : Program} {w : World} {K : PySem.W.Frag} {elts : List Expr} {kk : Nat} {tpos : Pos} (a e it : Addr) :
    Turn P w K (.Tuple elts kk tpos) (IteT K a) [e, it] e (fun i h => (∃ old, IsEnum h e it ((i : Nat) : Int) old) ∧ h.IsTupleIter it a i ∧ e ≠ it) where
  mem := by simp
  obj := fun i h st b hb => by
    obtain ⟨⟨old, he⟩, ⟨o, ho, hc, hd⟩, _⟩ := st
    have e' : b = e ∨ b = it := by simpa using hb
    rcases e' with z | z
    · rw [z]; exact ⟨_, he, fun v q => nomatch q⟩
    · rw [z]; exact ⟨o, ho, fun v q => by rw [hd] at q; cases q⟩
  keep := fun i h h' st k => let ⟨⟨old, he⟩, hi, hne⟩ := st; ⟨⟨old, k e (by simp) _ he⟩, hi.at fun o q => k it (by simp) o q, hne⟩
  item := by
    intro X hP hw hK hc i pins s σ H E I hf st hg
    subst hP hw hK
    obtain ⟨⟨old, he⟩, hit, hne⟩ := st
    obtain ⟨xs, x, hq, hx⟩ := hg
    obtain ⟨its, rv, p, hz⟩ := I.tuple hq
    obtain ⟨u, hu, ru⟩ := rv.get hx
    have hel : e < s.heap.objs.size := Heap.lt_size he
    have hil : it < s.heap.objs.size := by obtain ⟨_, q, _⟩ := hit; exact Heap.lt_size q
    have p' : s.heap.IsTuple a its.toArray := p
    have hai : a ≠ it := fun z => by
      obtain ⟨o1, e1, c1, _⟩ := hit
      obtain ⟨o2, e2, c2, _⟩ := p'
      rw [z, e1] at e2
      cases e2
      rw [c1] at c2
      exact absurd c2 (by decide)
    have hae : e ≠ a := fun z => by
      obtain ⟨o2, e2, c2, _⟩ := p'
      rw [← z, he] at e2
      cases e2
      exact absurd (show (Value.type "enumerate" = Value.type "tuple") from c2) (by decide)
    have D := Draws.tuple (prog := X.prog) (w := X.w) (A := X.A.in1) (I.ok.hd hc) it a hai its.toArray
    refine wpAny_pyNext_enum_itemD D he ⟨hit, p'⟩ (by simpa using (List.getElem?_eq_some_iff.mp hu).1) hne (by simp [hne, hae]) fun x' h' tk hx' ho st' hT hsz hk => ?_
    have hxu : x' = u := by
      have h1 : its[i]? = some x' := by simpa using hx'
      rw [hu] at h1
      exact (Option.some.inj h1).symm
    subst hxu
    refine ⟨_, rfl, wpAny_letOwnedTupleGo_enum (s := { s with heap := h', toks := tk + 1 }) ho fun h'' he' sb => ?_⟩
    have hT2 : h''.get? s.heap.objs.size = some { cls := .type "tuple", data := .seq #[.int i tk, x'] } := (sb.2 _ (Nat.ne_of_gt hel)).trans hT
    have new : ObjOk X.prog X.w (upd H s.heap.objs.size (.tup [.int (i : Nat), x])) h'' s.heap.objs.size (.tup [.int (i : Nat), x]) :=
      ⟨by show 2 ≤ sizeLine; decide, [.int i tk, x'], .cons ⟨_, rfl⟩ (.cons ru .nil), ⟨_, hT2, rfl, _, rfl⟩⟩
    have I1 : Inv X pins σ (upd H s.heap.objs.size (.tup [.int (i : Nat), x])) { s with heap := h'', toks := tk + 1 } :=
      I.turnedNew (ch := [e, it]) (fun b ob hb q => (sb.2 b (fun z => hb (by simp [z]))).trans (hk b ob (fun z => hb (by simp [z])) (fun z => hb (by simp [z])) q)) hf (Nat.le_refl _) new
    refine ⟨.ref s.heap.objs.size, _, I1, rfl, ⟨_, x, rfl, I.hok.fresh (Nat.le_refl _), rfl, fun ys hy => by rw [I.tuple_inj hy hq]; exact hx⟩, ⟨⟨x', ?_⟩, st'.1.at fun o q => (sb.2 it (Ne.symm hne)).trans q, hne⟩, fun b hb => ?_⟩
    · have e1 : ((i + 1 : Nat) : Int) = (i : Int) + 1 := by omega
      rw [e1]; exact he'
    · have hb' : b < s.heap.objs.size := by
        have e' : b = e ∨ b = it := by simpa using hb
        rcases e' with z | z
        · rw [z]; exact hel
        · rw [z]; exact hil
      rw [upd_ne (Nat.ne_of_lt hb')]
      exact (hf b hb).1
  done := by
    intro X hP hw hK hc i pins s σ H E I hf st hg
    subst hP hw hK
    obtain ⟨⟨old, he⟩, hit, hne⟩ := st
    obtain ⟨xs, hq, hx⟩ := hg
    obtain ⟨its, rv, p, hz⟩ := I.tuple hq
    obtain ⟨f0, f1, f2, f3, f4, f5⟩ := hf it (by simp)
    have hl := rv.length
    have p' : s.heap.IsTuple a its.toArray := p
    exact wpAny_pyNext_enum_endT (I.ok.hd hc) he hit p' (Array.getElem?_eq_none (by simp; omega)) fun h' eb => ⟨rfl, I.turned (t' := s.toks) (fun b o hb q => eb b o hb q) f0 f1 f3 f4 f5⟩
  self := fun A i s Q E st h => let ⟨⟨_, he⟩, _⟩ := st; wpAny_pyIter_enum he h
def iEnumA (K : PySem.W.Frag) (ta : TA) : TI := fun σ H R => ta σ H fun vs H1 => ∃ a xs, vs = [.ref a] ∧ ((SqL K H1 a xs ∧ R (Ite K a) H1) ∨ (SqT K H1 a xs ∧ R (IteT K a) H1))
theorem pi_enumA {X : Cx} {e : Expr} {ta : TA} {p pos tpos : Pos} {elts : List Expr} {kk : Nat} (hg : Gl X "enumerate") (hm : X.mg "enumerate" = none) (ha : PA X [e] ta) (hs : starEach [e] X.env = [(false, eval e X.env)] := by rfl) :
    PI X (.Tuple elts kk tpos) (.Call (.Name "enumerate" p) [e] [] pos) (iEnumA X.K ta) := by
  refine ⟨fun pins s σ H R I h => ?_⟩
  refine Call_ (ld_blt I hg hm boot_enumerate (PyProof.Rows.callWith_type1 (thn (ha.run pos pins s σ H _ I h) fun us s1 ⟨vs, H1, I1, r1, q1⟩ => ?_) hs rfl))
  obtain ⟨a, xs, ex, q⟩ := q1
  subst ex
  cases r1 with
  | cons r rr =>
    cases rr
    cases r
    have fin : ∀ h' : Heap, (∀ b ob, s1.heap.get? b = some ob → h'.get? b = some ob) → ∀ b ∈ [s1.heap.objs.size + 1, s1.heap.objs.size], s1.heap.objs.size ≤ b := fun h' hk b hb => by
      have e' : b = s1.heap.objs.size + 1 ∨ b = s1.heap.objs.size := by simpa using hb
      rcases e' with z | z
      · rw [z]; exact Nat.le_add_right _ _
      · rw [z]; exact Nat.le_refl _
    rcases q with ⟨hq, q⟩ | ⟨hq, q⟩
    · obtain ⟨its, rv, p', hz⟩ := I1.list hq
      refine call_enumerate_list p'.isList fun h' he hit hsz hk => wpAny_pyIter_enum he ?_
      have I2 : Inv X pins σ H1 { s1 with heap := h' } := I1.kept (t' := s1.toks) hk
      refine ⟨s1.heap.objs.size + 1, [s1.heap.objs.size + 1, s1.heap.objs.size], _, _, H1, rfl, I2, turn_enum a (s1.heap.objs.size + 1) s1.heap.objs.size, ⟨⟨.none, he⟩, hit, Nat.succ_ne_self _⟩, fun b hb => ?_, q⟩
      have hle := fin h' hk b hb
      exact I1.fpOk hle (I1.hok.fresh hle)
    · obtain ⟨its, rv, p', hz⟩ := I1.tuple hq
      refine enum_begins1 (begins_tuple a its.toArray) (show s1.heap.IsTuple a its.toArray from p') fun h' he hit hsz hk => wpAny_pyIter_enum he ?_
      have I2 : Inv X pins σ H1 { s1 with heap := h' } := I1.kept (t' := s1.toks) hk
      refine ⟨s1.heap.objs.size + 1, [s1.heap.objs.size + 1, s1.heap.objs.size], _, _, H1, rfl, I2, turn_enumT a (s1.heap.objs.size + 1) s1.heap.objs.size, ⟨⟨.none, he⟩, ⟨_, hit, rfl, rfl⟩, Nat.succ_ne_self _⟩, fun b hb => ?_, q⟩
      have hle := fin h' hk b hb
      exact I1.fpOk hle (I1.hok.fresh hle)
theorem walk_enumT {K : PySem.W.Frag} {a : Addr} {xs : List V} : Walk (IteT K a) xs.length (fun H => SqT K H a xs) (YPair (fun i => some (.int (i : Nat))) (fun i => xs[i]?)) := by
  refine ⟨fun i _ hi q => ⟨xs, xs[i], q, by simp [hi]⟩, fun _ q => ⟨xs, q, Nat.le_refl _⟩, fun i H v H' _ q y => ?_⟩
  obtain ⟨T, x, h1, h2, h3, h4⟩ := y
  exact ⟨T, .int (i : Nat), x, h1, h2, h3, rfl, h4 xs q⟩
end L2
namespace Z
open PySem PySem.Spec PyProof.Rows L2
section
variable {G : Gx} {X : Cx} {φ : Fns} {E : XK}
/-! ### range, enumerate, zip -/
def diA (f : List D → Option (List D)) (a : DA) : DI := fun φ ρ => M.bind (a φ ρ) fun ds => M.of (f ds)
def rngF1 : List D → Option (List D)
  | [.int j] => if -(2 ^ 62) ≤ j ∧ j < 2 ^ 62 then some (rngD 0 j.toNat) else none
  | _ => none
def rngF2 : List D → Option (List D)
  | [.int i, .int j] => if -(2 ^ 62) ≤ i ∧ i < 2 ^ 62 ∧ -(2 ^ 62) ≤ j ∧ j < 2 ^ 62 then some (rngD i (j - i).toNat) else none
  | _ => none
theorem si_rng1 {a : DA} {tg e : Expr} {p pos : Pos} (hg : Gl X "range") (hm : X.mg "range" = none) (ha : SAW G X φ E a [e]) (hs : starEach [e] X.env = [(false, eval e X.env)]) : SI G X φ E (diA rngF1 a) tg (.Call (.Name "range" p) [e] [] pos) := by
  obtain ⟨t, pa, ha⟩ := ha
  refine ⟨_, pi_range1 hg hm pa hs, fun H0 S H σ ρ p Q r s g q => ?_⟩
  refine ha H0 S H σ ρ p _ r s g (q.bind fun ds p1 vs S1 H1 f1 g1 a1 q1 => ?_)
  replace a1 : Aws G S1 H1 vs ds := a1
  obtain ⟨xs, e, k⟩ := q1.of f1.sub g1
  unfold rngF1 at e
  split at e
  · rename_i j
    split at e
    · rename_i hb
      cases e
      obtain ⟨v, rfl, av⟩ := aws1 a1
      exact ⟨j, by rw [av.int], hb.1, hb.2, k _ S1 H1 (Fp.refl f1.sub) walkD_rng⟩
    · cases e
  · cases e
theorem si_rng2 {a : DA} {tg e e2 : Expr} {p pos : Pos} (hg : Gl X "range") (hm : X.mg "range" = none) (ha : SAW G X φ E a [e, e2]) (hs : starEach [e, e2] X.env = [(false, eval e X.env), (false, eval e2 X.env)]) (hs2 : starEach [e2] X.env = [(false, eval e2 X.env)]) :
    SI G X φ E (diA rngF2 a) tg (.Call (.Name "range" p) [e, e2] [] pos) := by
  obtain ⟨t, pa, ha⟩ := ha
  refine ⟨_, pi_range2 hg hm pa hs hs2, fun H0 S H σ ρ p Q r s g q => ?_⟩
  refine ha H0 S H σ ρ p _ r s g (q.bind fun ds p1 vs S1 H1 f1 g1 a1 q1 => ?_)
  replace a1 : Aws G S1 H1 vs ds := a1
  obtain ⟨xs, e, k⟩ := q1.of f1.sub g1
  unfold rngF2 at e
  split at e
  · rename_i i j
    split at e
    · rename_i hb
      cases e
      obtain ⟨v, w, rfl, av, aw⟩ := aws2 a1
      exact ⟨i, j, by rw [av.int, aw.int], hb, k _ S1 H1 (Fp.refl f1.sub) walkD_rng⟩
    · cases e
  · cases e
/-- pairs in new tuples -/
theorem walkD_pair {kp : Hp → Prop} {J : It} {S : Hp} {n : Nat} {Gd : Hp → Prop} {fx fy : Nat → Option V} {items : List D} (w : Walk J n Gd (YPair fx fy)) (hl : items.length = n) (k : ∀ H, kp H → Gd H)
    (h : ∀ i x y d, fx i = some x → fy i = some y → items[i]? = some d → ∃ dx dy, d = .tup [dx, dy] ∧ At G S x dx ∧ At G S y dy) : WalkD G kp J S items := by
  refine ⟨Gd, _, by rw [hl]; exact w, k, fun i H v H' S2 p d s e g hg yy hd => ?_⟩
  obtain ⟨T, x, y, rfl, hT, rfl, h1, h2⟩ := yy
  obtain ⟨dx, dy, rfl, a1, a2⟩ := h i x y d h1 h2 hd
  have f := Fp.alloc (o := .tup [x, y]) s g hT
  exact ⟨_, f, .tup upd_same (.cons ((a1.mono e).mono f.ext) (.cons ((a2.mono e).mono f.ext) .nil))⟩
def enumD : Nat → List D → List D
  | _, [] => []
  | i, d :: ds => .tup [.int (i : Int), d] :: enumD (i + 1) ds
theorem enumD_len : ∀ (i : Nat) (ds : List D), (enumD i ds).length = ds.length
  | _, [] => rfl
  | i, d :: ds => by rw [enumD, List.length_cons, List.length_cons, enumD_len (i + 1) ds]
theorem enumD_get : ∀ {ds : List D} {i j : Nat} {d : D}, (enumD i ds)[j]? = some d → ∃ x, ds[j]? = some x ∧ d = .tup [.int ((i + j : Nat) : Int), x]
  | [], _, _, _, h => by simp [enumD] at h
  | x :: ds, i, 0, d, h => by
    simp only [enumD, List.getElem?_cons_zero, Option.some.injEq] at h
    exact ⟨x, rfl, h.symm⟩
  | x :: ds, i, j + 1, d, h => by
    simp only [enumD, List.getElem?_cons_succ] at h
    obtain ⟨y, h1, h2⟩ := enumD_get h
    exact ⟨y, by simpa using h1, by rw [h2]; congr 4; omega⟩
def zipD : List D → List D → List D
  | x :: xs, y :: ys => .tup [x, y] :: zipD xs ys
  | _, _ => []
theorem zipD_len : ∀ xs ys : List D, (zipD xs ys).length = min xs.length ys.length
  | [], _ => by simp [zipD]
  | _ :: _, [] => by simp [zipD]
  | x :: xs, y :: ys => by rw [zipD, List.length_cons, zipD_len xs ys, List.length_cons, List.length_cons]; omega
theorem zipD_get : ∀ {xs ys : List D} {j : Nat} {d : D}, (zipD xs ys)[j]? = some d → ∃ x y, xs[j]? = some x ∧ ys[j]? = some y ∧ d = .tup [x, y]
  | [], _, _, _, h => by simp [zipD] at h
  | _ :: _, [], _, _, h => by simp [zipD] at h
  | x :: xs, y :: ys, 0, d, h => by
    simp only [zipD, List.getElem?_cons_zero, Option.some.injEq] at h
    exact ⟨x, y, rfl, rfl, h.symm⟩
  | x :: xs, y :: ys, j + 1, d, h => by
    simp only [zipD, List.getElem?_cons_succ] at h
    obtain ⟨a, b, h1, h2, h3⟩ := zipD_get h
    exact ⟨a, b, by simpa using h1, by simpa using h2, h3⟩
def enumF : List D → Option (List D)
  | [.lst xs] => some (enumD 0 xs)
  | [.tup xs] => some (enumD 0 xs)
  | _ => none
theorem walkD_enum {kp : Hp → Prop} {S : Hp} {a : Addr} {vs : List V} {ds : List D} (h : Ats G S vs ds) (k : ∀ H, kp H → SqL G.K H a vs) : WalkD G kp (Ite G.K a) S (enumD 0 ds) := by
  refine walkD_pair walk_enum (by rw [enumD_len, h.length]) k fun i x y d h1 h2 hd => ?_
  obtain ⟨z, e1, rfl⟩ := enumD_get hd
  cases h1
  obtain ⟨v, e2, a2⟩ := h.get e1
  rw [e2] at h2
  cases h2
  exact ⟨_, _, rfl, by rw [Nat.zero_add]; exact .int _, a2⟩
theorem walkD_enumT {kp : Hp → Prop} {S : Hp} {a : Addr} {vs : List V} {ds : List D} (h : Ats G S vs ds) (k : ∀ H, kp H → SqT G.K H a vs) : WalkD G kp (IteT G.K a) S (enumD 0 ds) := by
  refine walkD_pair walk_enumT (by rw [enumD_len, h.length]) k fun i x y d h1 h2 hd => ?_
  obtain ⟨z, e1, rfl⟩ := enumD_get hd
  obtain ⟨v, e2, a2⟩ := h.get e1
  rw [e2] at h2
  cases h1
  cases h2
  rw [Nat.zero_add]
  exact ⟨_, _, rfl, .int _, a2⟩
theorem siw_enum (hK : X.K = G.K) {a : DA} {e : Expr} {elts : List Expr} {kk : Nat} {p pos tpos : Pos} (hg : Gl X "enumerate") (hm : X.mg "enumerate" = none) (ha : SAW G X φ E a [e]) (hs : starEach [e] X.env = [(false, eval e X.env)]) :
    SIW G X φ E (diA enumF a) (.Tuple elts kk tpos) (.Call (.Name "enumerate" p) [e] [] pos) := by
  obtain ⟨t, pa, ha⟩ := ha
  refine ⟨_, pi_enumA hg hm pa hs, fun H0 S H σ ρ p Q r s g q => ?_⟩
  refine ha H0 S H σ ρ p _ r s g (q.bind fun ds p1 vs S1 H1 f1 g1 a1 q1 => ?_)
  replace a1 : Aws G S1 H1 vs ds := a1
  obtain ⟨xs, e, k⟩ := q1.of f1.sub g1
  rw [hK]
  unfold enumF at e
  split at e
  · cases e
    obtain ⟨v, rfl, av⟩ := aws1 a1
    rcases av with av | ⟨b, rfl, n1, n2, o⟩
    · cases av with
      | lst h1 h2 => exact ⟨_, _, rfl, .inl ⟨.inl (.inl (f1.sub.ext _ _ h1)), k _ S1 H1 (Fp.refl f1.sub) (walkD_enum h2 fun H2 ⟨S2, fn⟩ => .inl (.inl (fn.sub.ext _ _ (fn.ext _ _ h1))))⟩⟩
    · cases o with
      | lst h1 h2 => exact ⟨_, _, rfl, .inl ⟨.inl (.inl h1), k _ S1 H1 (Fp.refl f1.sub) (walkD_enum h2 fun H2 ⟨S2, fn⟩ => .inl (.inl (fn.keep _ _ n1 n2 (fun _ z => by cases z) h1)))⟩⟩
  · cases e
    obtain ⟨v, rfl, av⟩ := aws1 a1
    obtain ⟨b, vs, rfl, h1, h2⟩ := av.tup
    exact ⟨_, _, rfl, .inr ⟨SqT.of (f1.sub.ext _ _ h1), k _ S1 H1 (Fp.refl f1.sub) (walkD_enumT h2 fun H2 ⟨S2, fn⟩ => SqT.of (fn.sub.ext _ _ (fn.ext _ _ h1)))⟩⟩
  · cases e
theorem si_enum (hK : X.K = G.K) {a : DA} {e : Expr} {elts : List Expr} {kk : Nat} {p pos tpos : Pos} (hg : Gl X "enumerate") (hm : X.mg "enumerate" = none) (ha : SA G X φ E a [e]) (hs : starEach [e] X.env = [(false, eval e X.env)]) :
    SI G X φ E (diA enumF a) (.Tuple elts kk tpos) (.Call (.Name "enumerate" p) [e] [] pos) := by
  obtain ⟨t, pa, ha⟩ := ha
  refine ⟨_, pi_enumA hg hm pa hs, fun H0 S H σ ρ p Q r s g q => ?_⟩
  refine ha H0 S H σ ρ p _ r s g (q.bind fun ds p1 vs S1 H1 f1 g1 a1 q1 => ?_)
  replace a1 : Ats G S1 vs ds := a1
  obtain ⟨xs, e, k⟩ := q1.of f1.sub g1
  rw [hK]
  unfold enumF at e
  split at e
  · cases e
    cases a1 with
    | cons av t =>
      cases t
      cases av with
      | lst h1 h2 => exact ⟨_, _, rfl, .inl ⟨.inl (.inl (f1.sub.ext _ _ h1)), k _ S1 H1 (Fp.refl f1.sub) (walkD_enum h2 fun H2 e2 => .inl (.inl (e2 _ _ h1)))⟩⟩
  · cases e
    cases a1 with
    | cons av t =>
      cases t
      cases av with
      | tup h1 h2 => exact ⟨_, _, rfl, .inr ⟨SqT.of (f1.sub.ext _ _ h1), k _ S1 H1 (Fp.refl f1.sub) (walkD_enumT h2 fun H2 e2 => SqT.of (e2 _ _ h1))⟩⟩
  · cases e
def zipF : List D → Option (List D)
  | [.lst xs, .lst ys] => some (zipD xs ys)
  | [.tup xs, .tup ys] => if xs.length = ys.length then some (zipD xs ys) else none
  | _ => none
theorem walkD_zip {kp : Hp → Prop} {S : Hp} {a b : Addr} {vs ws : List V} {ds es : List D} (h : Ats G S vs ds) (h' : Ats G S ws es) (k : ∀ H, kp H → SqL G.K H a vs ∧ SqL G.K H b ws) : WalkD G kp (Itz G.K a b) S (zipD ds es) := by
  refine walkD_pair (walk_zip (xs := vs) (ys := ws) rfl) (by rw [zipD_len, h.length, h'.length]) k fun i x y d h1 h2 hd => ?_
  obtain ⟨dx, dy, e1, e2, rfl⟩ := zipD_get hd
  obtain ⟨v, e3, a3⟩ := h.get e1
  obtain ⟨w, e4, a4⟩ := h'.get e2
  rw [e3] at h1
  rw [e4] at h2
  cases h1
  cases h2
  exact ⟨_, _, rfl, a3, a4⟩
theorem walk_zipT {K : PySem.W.Frag} {a b : Addr} {xs ys : List V} (hl : xs.length = ys.length) : Walk (RZ.ItzT K a b) xs.length (fun H => SqT K H a xs ∧ SqT K H b ys) (YPair (fun i => xs[i]?) (fun i => ys[i]?)) where
  goes := fun i H hi ⟨h1, h2⟩ => ⟨xs, ys, xs[i], ys[i]'(by omega), h1, h2, List.getElem?_eq_getElem hi, List.getElem?_eq_getElem (by omega)⟩
  stops := fun H ⟨h1, h2⟩ => ⟨xs, ys, h1, h2, .inl (Nat.le_refl _)⟩
  yields := fun i H v H' hi ⟨h1, h2⟩ ⟨T, x, y, e1, e2, e3, e4, e5⟩ => ⟨T, x, y, e1, e2, e3, e4 _ h1, e5 _ h2⟩
theorem walkD_zipT {kp : Hp → Prop} {S : Hp} {a b : Addr} {vs ws : List V} {ds es : List D} (h : Ats G S vs ds) (h' : Ats G S ws es) (hl : ds.length = es.length) (k : ∀ H, kp H → SqT G.K H a vs ∧ SqT G.K H b ws) : WalkD G kp (RZ.ItzT G.K a b) S (zipD ds es) := by
  have hl' : vs.length = ws.length := by rw [h.length, h'.length, hl]
  refine walkD_pair (walk_zipT (K := G.K) (a := a) (b := b) hl') (by rw [zipD_len, h.length]; omega) k fun i x y d h1 h2 hd => ?_
  obtain ⟨dx, dy, e1, e2, rfl⟩ := zipD_get hd
  obtain ⟨v, e3, a3⟩ := h.get e1
  obtain ⟨w, e4, a4⟩ := h'.get e2
  rw [e3] at h1
  rw [e4] at h2
  cases h1
  cases h2
  exact ⟨_, _, rfl, a3, a4⟩
theorem Aw.lstF {S H : Hp} {v : V} {ds : List D} (s : Sub G S H) (h : Aw G S H v (.lst ds)) : ∃ a vs, v = .ref a ∧ Ats G S vs ds ∧ H a = some (.lst vs) ∧ ∀ S2 H2, Fn G S H S2 H2 → H2 a = some (.lst vs) := by
  rcases h with h | ⟨p, e, n1, n2, h⟩
  · cases h with
    | lst h1 h2 => exact ⟨_, _, rfl, h2, s.ext _ _ h1, fun S2 H2 fn => fn.sub.ext _ _ (fn.ext _ _ h1)⟩
  · cases h with
    | lst h1 h2 => exact ⟨_, _, e, h2, h1, fun S2 H2 fn => fn.keep _ _ n1 n2 (fun _ z => by cases z) h1⟩
theorem siw_zip (hK : X.K = G.K) {a : DA} {e e2 : Expr} {elts : List Expr} {kk : Nat} {p pos tpos : Pos} (hg : Gl X "zip") (hm : X.mg "zip" = none) (ha : SAW G X φ E a [e, e2]) (hs : starEach [e, e2] X.env = (false, eval e X.env) :: starEach [e2] X.env) (hpl : (backTo pos (starEach [e2] X.env)).any (·.1) = false) :
    SIW G X φ E (diA zipF a) (.Tuple elts kk tpos) (.Call (.Name "zip" p) [e, e2] [] pos) := by
  obtain ⟨t, pa, ha⟩ := ha
  refine ⟨_, RZ.pi_zipA hg hm pa hs hpl, fun H0 S H σ ρ p Q r s g q => ?_⟩
  refine ha H0 S H σ ρ p _ r s g (q.bind fun ds p1 vs S1 H1 f1 g1 a1 q1 => ?_)
  replace a1 : Aws G S1 H1 vs ds := a1
  obtain ⟨xs, e, k⟩ := q1.of f1.sub g1
  rw [hK]
  unfold zipF at e
  split at e
  · cases e
    obtain ⟨v, w, rfl, av, aw⟩ := aws2 a1
    obtain ⟨b, ws, rfl, h1, h2, h3⟩ := av.lstF f1.sub
    obtain ⟨b', ws', rfl, h1', h2', h3'⟩ := aw.lstF f1.sub
    exact ⟨b, b', ws, ws', rfl, .inl ⟨.inl (.inl h2), .inl (.inl h2'), k _ S1 H1 (Fp.refl f1.sub) (walkD_zip h1 h1' fun H2 ⟨S2, fn⟩ => ⟨.inl (.inl (h3 S2 H2 fn)), .inl (.inl (h3' S2 H2 fn))⟩)⟩⟩
  · split at e
    · rename_i hl
      cases e
      obtain ⟨v, w, rfl, av, aw⟩ := aws2 a1
      obtain ⟨b, ws, rfl, h1, h2⟩ := av.tup
      obtain ⟨b', ws', rfl, h1', h2'⟩ := aw.tup
      exact ⟨b, b', ws, ws', rfl, .inr ⟨SqT.of (f1.sub.ext _ _ h1), SqT.of (f1.sub.ext _ _ h1'), k _ S1 H1 (Fp.refl f1.sub) (walkD_zipT h2 h2' hl fun H2 ⟨S2, fn⟩ => ⟨SqT.of (fn.sub.ext _ _ (fn.ext _ _ h1)), SqT.of (fn.sub.ext _ _ (fn.ext _ _ h1'))⟩)⟩⟩
    · cases e
  · cases e
theorem si_zip (hK : X.K = G.K) {a : DA} {e e2 : Expr} {elts : List Expr} {kk : Nat} {p pos tpos : Pos} (hg : Gl X "zip") (hm : X.mg "zip" = none) (ha : SA G X φ E a [e, e2]) (hs : starEach [e, e2] X.env = (false, eval e X.env) :: starEach [e2] X.env) (hpl : (backTo pos (starEach [e2] X.env)).any (·.1) = false) :
    SI G X φ E (diA zipF a) (.Tuple elts kk tpos) (.Call (.Name "zip" p) [e, e2] [] pos) := by
  obtain ⟨t, pa, ha⟩ := ha
  refine ⟨_, RZ.pi_zipA hg hm pa hs hpl, fun H0 S H σ ρ p Q r s g q => ?_⟩
  refine ha H0 S H σ ρ p _ r s g (q.bind fun ds p1 vs S1 H1 f1 g1 a1 q1 => ?_)
  replace a1 : Ats G S1 vs ds := a1
  obtain ⟨xs, e, k⟩ := q1.of f1.sub g1
  rw [hK]
  unfold zipF at e
  split at e
  · cases e
    cases a1 with
    | cons av t =>
      cases t with
      | cons aw t =>
        cases t
        cases av with
        | lst h1 h2 =>
          cases aw with
          | lst h1' h2' =>
            exact ⟨_, _, _, _, rfl, .inl ⟨.inl (.inl (f1.sub.ext _ _ h1)), .inl (.inl (f1.sub.ext _ _ h1')), k _ S1 H1 (Fp.refl f1.sub) (walkD_zip h2 h2' fun H2 e2 => ⟨.inl (.inl (e2 _ _ h1)), .inl (.inl (e2 _ _ h1'))⟩)⟩⟩
  · split at e
    · rename_i hl
      cases e
      cases a1 with
      | cons av t =>
        cases t with
        | cons aw t =>
          cases t
          cases av with
          | tup h1 h2 =>
            cases aw with
            | tup h1' h2' =>
              exact ⟨_, _, _, _, rfl, .inr ⟨SqT.of (f1.sub.ext _ _ h1), SqT.of (f1.sub.ext _ _ h1'), k _ S1 H1 (Fp.refl f1.sub) (walkD_zipT h2 h2' hl fun H2 e2 => ⟨SqT.of (e2 _ _ h1), SqT.of (e2 _ _ h1')⟩)⟩⟩
    · cases e
  · cases e
end
end Z
namespace Z
open PySem PySem.Spec PyProof.Rows L2

/-! ### anchored steps -/
def M.noexc {α : Type} (m : M α) : M α := fun p => match m p with
  | .ok a p' => .ok a p'
  | _ => .bad
theorem M.bind_assoc {α β γ : Type} (m : M α) (f : α → M β) (g : β → M γ) : M.bind (M.bind m f) g = M.bind m fun x => M.bind (f x) g := by
  funext p
  unfold M.bind
  cases m p <;> rfl
theorem M.pure_bind {α β : Type} (a : α) (f : α → M β) : M.bind (M.pure a) f = f a := rfl
section
variable {G : Gx} {E E' : XK} {α β γ δ : Type} {Sa Ha S H S' H' : Hp}
theorem Pst.bindA {rel1 : Rl β α} {rel2 : Rl δ γ} {Q1 : β → Hp → Prop} {Q2 : δ → Hp → Prop} {m : M α} {k : α → M γ} {p : PS} (f0 : Fn G Sa Ha S H) (h : Pst G E rel2 Sa Ha Q2 (M.bind m k p))
    (q : ∀ d p' v S' H', Fn G S H S' H' → RegOk G H' p' → rel1 S' H' v d → Pst G E rel2 Sa Ha Q2 (k d p') → Q1 v H') : Pst G E rel1 S H Q1 (m p) := by
  unfold M.bind at h
  cases e : m p with
  | ok d p' =>
    rw [e] at h
    exact fun v S' H' f g r => q d p' v S' H' f g r h
  | exc c fs p' =>
    rw [e] at h
    exact fun cls od S' H' f g r => h cls od S' H' (f0.trans f) g r
  | bad => rw [e] at h; exact h
theorem Pst.bindN {rel1 : Rl β α} {rel2 : Rl δ γ} {Q1 : β → Hp → Prop} {Q2 : δ → Hp → Prop} {m : M α} {k : α → M γ} {p : PS} (h : Pst G E rel2 Sa Ha Q2 (M.bind (M.noexc m) k p))
    (q : ∀ d p' v S' H', Fn G S H S' H' → RegOk G H' p' → rel1 S' H' v d → Pst G E rel2 Sa Ha Q2 (k d p') → Q1 v H') : Pst G E' rel1 S H Q1 (m p) := by
  unfold M.bind M.noexc at h
  cases e : m p with
  | ok d p' =>
    rw [e] at h
    exact fun v S' H' f g r => q d p' v S' H' f g r h
  | exc c fs p' => rw [e] at h; exact h.elim
  | bad => rw [e] at h; exact h
/-- what may be written of our own -/
def Wr : HO → Prop
  | .lst _ => True
  | .dK _ => True
  | .dT _ => True
  | .ins _ _ _ => True
  | _ => False
theorem RegOk.write {H : Hp} {p : Addr} {o o' : HO} {ps : PS} (g : RegOk G H ps) (hp : H p = some o) (w : Wr o) (n1 : p ≠ G.r1) (n2 : p ≠ G.r2) : RegOk G (upd H p o') ps := by
  refine ⟨by rw [upd_ne (Ne.symm n1)]; exact g.a1, by rw [upd_ne (Ne.symm n2)]; exact g.a2, g.ne, tabs_mono g.tabs fun a u h1 h2 h3 h4 e => ?_⟩
  have : a ≠ p := fun z => by
    rw [z, hp] at e
    cases e
    cases o with
    | lst xs => exact h1 xs rfl
    | dK xs => exact h2 xs rfl
    | dT xs => exact h3 xs rfl
    | ins a b xs => exact h4 a b xs rfl
    | _ => exact w
  rw [upd_ne this]
  exact e
theorem Fn.write {p : Addr} {o : HO} (f : Fn G S H S' H') (hp : ¬ Nn H p) (sp : S' p = none) : Fn G S H S' (upd H' p o) := by
  refine ⟨f.ext, ⟨fun a u e => ?_, f.sub.n1, f.sub.n2, f.sub.nt⟩, fun a u n1 n2 nt e => ?_, fun a h => ?_, f.new⟩
  · have : a ≠ p := fun z => by rw [z, sp] at e; cases e
    rw [upd_ne this]
    exact f.sub.ext a u e
  · have : a ≠ p := fun z => hp ⟨u, by rw [← z]; exact e, nt⟩
    rw [upd_ne this]
    exact f.keep a u n1 n2 nt e
  · have : a ≠ p := fun z => hp (by rw [← z]; exact h)
    obtain ⟨u, e, nt⟩ := f.dom a h
    exact ⟨u, by rw [upd_ne this]; exact e, nt⟩
end

/-! ### list comprehensions -/
def lcA (bd : D → M (Option D)) : List D → List D → M (List D)
  | acc, [] => M.pure acc
  | acc, d :: ds => M.bind (bd d) fun o => lcA bd (acc ++ o.toList) ds
def bdy (pt : Pat) (ρw : Env) (tst : Env → M Bool) (elt : Env → M D) (d : D) : M (Option D) := match pt.bind d ρw with
  | none => fun _ => .bad
  | some ρ' => M.bind (M.noexc (tst ρ')) fun b => if b then M.bind (M.noexc (elt ρ')) fun y => M.pure (some y) else M.pure none
def dYes : DT := fun _ _ => M.pure true
def dLc (it : DI) (pt : Pat) (own : List Nat) (tst : DT) (elt : DE) : DE := fun φ ρ => M.bind (it φ ρ) fun items =>
  if items.length ≤ 16777216 then M.bind (lcA (bdy pt (wipeE ρ own) (tst φ) (elt φ)) [] items) fun xs => M.pure (.lst xs) else fun _ => .bad
section
variable {G : Gx} {X : Cx} {φ : Fns} {E : XK}
abbrev XB (X : Cx) (s : Shared) (H : Hp) (scope : Scope) (C : Addr) (cl : List (Str × Addr)) (fp : List Addr) : Cx := X.blk s H scope (compEnvC scope cl C X.env) fp
def tE (G : Gx) (φ : Fns) (E : XK) (den : DE) : TE := fun σ H Q => ∃ H0 S ρ p, Rep G H0 S H σ ρ ∧ Sub G S H ∧ RegOk G H p ∧ Pst G E (relA G) S H Q (den φ ρ p)
def tT (G : Gx) (φ : Fns) (E : XK) (den : DT) : TT := fun σ H Q => ∃ H0 S ρ p, Rep G H0 S H σ ρ ∧ Sub G S H ∧ RegOk G H p ∧ Pst G E relB S H Q (den φ ρ p)
theorem SE.can {den : DE} {e : Expr} (h : SE G X φ E den e) : PE X e (tE G φ E den) := by
  obtain ⟨t, pe, h⟩ := h
  exact ⟨fun pins s σ H Q I ⟨H0, S, ρ, p, r, sb, g, q⟩ => pe.run pins s σ H Q I (h H0 S H σ ρ p Q r sb g q)⟩
theorem ST.can {den : DT} {e : Expr} (h : ST G X φ E den e) : PT X e (tT G φ E den) := by
  obtain ⟨t, pe, h⟩ := h
  exact ⟨fun pins s σ H Q I ⟨H0, S, ρ, p, r, sb, g, q⟩ => pe.run pins s σ H Q I (h H0 S H σ ρ p Q r sb g q)⟩
/-- the tests of a comprehension: none, or one -/
def STs (G : Gx) (X : Cx) (φ : Fns) (E : XK) (den : DT) (ifs : List Expr) : Prop := PTs X ifs (tT G φ E den)
theorem sts_nil : STs G X φ E dYes [] := ⟨fun pins s σ H Q I ⟨H0, S, ρ, p, r, sb, g, q⟩ => pts_nil.run pins s σ H Q I (q true S H (Fn.refl sb) g rfl)⟩
theorem sts_one {den : DT} {c : Expr} (h : ST G X φ E den c) : STs G X φ E den [c] := pts_one h.can
abbrev EF : XK := fun _ _ _ => False
theorem lc_rd {it : DI} {pt : Pat} {own : List Nat} {tst : DT} {elt : DE} {wi : TI}
    (hi : ∀ H0 S H σ ρ p Q, Rep G H0 S H σ ρ → Sub G S H → RegOk G H p → Pst G E (relIW G) S H Q (it φ ρ p) → wi σ H Q) (hin : pt.ins own = true)
    (H0 S H : Hp) (σ : L2.St) (ρ : Env) (p : PS) (Q : VK) (r : Rep G H0 S H σ ρ) (s : Sub G S H) (g : RegOk G H p) (q : Pst G E (relF G H) S H Q (dLc it pt own tst elt φ ρ p)) :
    tLc wi (pt.rd G.K) (tT G φ EF tst) (tE G φ EF elt) own σ H Q := by
  unfold dLc at q
  refine hi H0 S H σ ρ p _ r s g (q.bindA (Fn.refl s) fun items p1 J S1 H1 f1 g1 wk q1 Dl hD => ?_)
  obtain ⟨Gd, Y, w, k1, k2⟩ := wk
  by_cases hl : items.length ≤ 16777216
  · rw [if_pos hl] at q1
    have nD := none_ne g1 hD
    have hD0 : ¬ Nn H Dl := fun n => Nn.no hD (f1.dom Dl n)
    refine lc_it w (fun i Hc => ∃ S2 p2 accV accD, Fn G S1 H1 S2 Hc ∧ RegOk G Hc p2 ∧ Hc Dl = some (.lst accV) ∧ S2 Dl = none ∧ accV.length ≤ i ∧ Ats G S2 accV accD ∧
      Pst G E (relF G H) S H Q (M.bind (lcA (bdy pt (wipeE ρ own) (tst φ) (elt φ)) accD (items.drop i)) (fun xs => M.pure (.lst xs)) p2)) ?_ ?_ ?_ ?_
    · exact ⟨S1, p1, [], [], (Fp.alloc0 f1.sub hD).fn, (Fp.alloc0 (o := .lst []) f1.sub hD).reg g1, upd_same, f1.sub.none hD, Nat.le_refl _, .nil, q1⟩
    · intro i Hc hi ⟨S2, p2, accV, accD, fn, _⟩
      exact k1 Hc ⟨S2, fn⟩
    · intro i x Hc Hc' hi ⟨S2, p2, accV, accD, fn, g2, hDl, sD, hlen, ha, q2⟩ y
      have hgd := k1 Hc ⟨S2, fn⟩
      obtain ⟨d, hd⟩ : ∃ d, items[i]? = some d := ⟨items[i], List.getElem?_eq_getElem hi⟩
      obtain ⟨S3, fp, ax⟩ := k2 i Hc x Hc' S2 p2 d fn.sub fn.ext g2 hgd y hd
      have edrop : items.drop i = d :: items.drop (i + 1) := by
        rw [List.drop_eq_getElem_cons hi]
        congr 1
        have := List.getElem?_eq_getElem hi
        rw [this] at hd
        exact Option.some.inj hd
      rw [edrop, lcA, M.bind_assoc] at q2
      unfold bdy at q2
      cases eb : pt.bind d (wipeE ρ own) with
      | none => rw [eb] at q2; exact q2.elim
      | some ρ' =>
        rw [eb] at q2
        simp only at q2
        rw [M.bind_assoc] at q2
        have f13 : Fn G S1 H1 S3 Hc' := fn.trans fp.fn
        have hDl' : Hc' Dl = some (.lst accV) := fp.keep _ _ hDl
        have sD' : S3 Dl = none := by rw [fp.new Dl (by rw [hDl]; exact fun z => by cases z)]; exact sD
        refine Pat.rd_ok fp.sub.ext ax ((r.mono (f1.trans f13)).wipe own) eb fun σ2 r2 w2 => ⟨by rw [w2 _ hin, wipe_wipe], ?_⟩
        refine ⟨H0, S3, ρ', p2, r2, fp.sub, fp.reg g2, q2.bindN fun b p3 b' S4 H4 f4 g4 eb' q3 => ?_⟩
        have eb' : b' = b := eb'
        subst eb'
        have fin : ∀ {S5 H5 : Hp} {p5 : PS} {y : V} {yd : D}, Fn G S3 Hc' S5 H5 → RegOk G H5 p5 → At G S5 y yd → Pst G E (relF G H) S H Q (M.bind (lcA (bdy pt (wipeE ρ own) (tst φ) (elt φ)) (accD ++ [yd]) (items.drop (i + 1))) (fun xs => M.pure (.lst xs)) p5) →
            ∃ acc, H5 Dl = some (.lst acc) ∧ acc.length < sizeLine ∧ ∃ S2 p2 accV accD, Fn G S1 H1 S2 (upd H5 Dl (.lst (acc ++ [y]))) ∧ RegOk G (upd H5 Dl (.lst (acc ++ [y]))) p2 ∧ (upd H5 Dl (.lst (acc ++ [y]))) Dl = some (.lst accV) ∧ S2 Dl = none ∧ accV.length ≤ i + 1 ∧ Ats G S2 accV accD ∧
              Pst G E (relF G H) S H Q (M.bind (lcA (bdy pt (wipeE ρ own) (tst φ) (elt φ)) accD (items.drop (i + 1))) (fun xs => M.pure (.lst xs)) p2) := fun {S5 H5 p5 y yd} f5 g5 ay q5 => by
          have h5 : H5 Dl = some (.lst accV) := f5.keep _ _ nD.1 nD.2 (fun _ z => by cases z) hDl'
          have s5 : S5 Dl = none := by rw [f5.new Dl ⟨_, hDl', fun _ z => by cases z⟩]; exact sD'
          refine ⟨accV, h5, by rw [sizeLine_eq]; omega, S5, p5, accV ++ [y], accD ++ [yd], (f13.trans f5).write (Nn.no hD) s5, g5.write h5 trivial nD.1 nD.2, upd_same, s5, by rw [List.length_append]; simp; omega, ?_, q5⟩
          exact ((ha.mono fp.ext).mono f5.ext).append (.cons ay .nil)
        cases b' with
        | true =>
          simp only [if_true] at q3 ⊢
          rw [M.bind_assoc] at q3
          refine ⟨H0, S4, ρ', p3, r2.mono f4, f4.sub, g4, q3.bindN fun yd p5 y S5 H5 f5 g5 ay q5 => ?_⟩
          exact fin (f4.trans f5) g5 ay q5
        | false =>
          rw [if_neg (by simp)] at q3 ⊢
          have h5 : H4 Dl = some (.lst accV) := f4.keep _ _ nD.1 nD.2 (fun _ z => by cases z) hDl'
          have s5 : S4 Dl = none := by rw [f4.new Dl ⟨_, hDl', fun _ z => by cases z⟩]; exact sD'
          rw [M.pure_bind] at q3
          simp only [Option.toList_none, List.append_nil] at q3
          exact ⟨S4, p3, accV, accD, f13.trans f4, g4, h5, s5, by omega, (ha.mono fp.ext).mono f4.ext, q3⟩
    · intro Hc ⟨S2, p2, accV, accD, fn, g2, hDl, sD, hlen, ha, q2⟩
      rw [List.drop_length, lcA, M.pure_bind] at q2
      exact q2 _ S2 Hc (f1.trans fn) g2 (.inr ⟨rfl, Dl, rfl, hD0, sD, nD.1, nD.2, .lst hDl ha⟩)
  · rw [if_neg hl] at q1
    exact q1.elim
theorem sf_lc (hK : X.K = G.K) (hc : X.calm = true) (hN : X.N.Nodup) {it : DI} {pt : Pat} {own : List (Str × Nat)} {tst : DT} {elt : DE} {ee iter : Expr} {ifs : List Expr} {scope : Scope} {pos : Pos}
    (hi : SIW G X φ E it (pt.ex X.N) iter) (ok : BlkOk X.N X.env.scope scope own) (hin : pt.ins (own.map (·.2)) = true)
    (hg : ∀ s H C cl fp, PG (XB X s H scope C cl fp) (pt.ex X.N) (pt.rd G.K))
    (ht : ∀ s H C cl fp, STs G (XB X s H scope C cl fp) φ EF tst ifs)
    (he : ∀ s H C cl fp, SE G (XB X s H scope C cl fp) φ EF elt ee) (hs : ∀ x, foldedSetIterable iter X.env x = pure x) :
    SF G X φ E (dLc it pt (own.map (·.2)) tst elt) (.ListComp ee [⟨pt.ex X.N, iter, ifs, 0⟩] scope pos) := by
  obtain ⟨wi, pi, hi⟩ := hi
  exact ⟨_, pe_lc hc hN pi ok hg ht (fun s H C cl fp => (he s H C cl fp).can) hs, fun H0 S H σ ρ p Q r s g q => lc_rd hi hin H0 S H σ ρ p Q r s g q⟩
/-- x = [..], stored as the comprehension ends -/
theorem sn_lc (hc : X.calm = true) (hN : X.N.Nodup) {i : Nat} {y : Str} {py spos : Pos} {it : DI} {pt : Pat} {own : List (Str × Nat)} {tst : DT} {elt : DE} {ee iter : Expr} {ifs : List Expr} {scope : Scope} {pos : Pos}
    (hy : X.N[i]? = some y) (hyl : X.env.scope.names.lookup y = some .local) (hsw : swapsWith (.ListComp ee [⟨pt.ex X.N, iter, ifs, 0⟩] scope pos) (some (.Name y py)) spos.line X.env = pure true)
    (hi : SIW G X φ E it (pt.ex X.N) iter) (ok : BlkOk X.N X.env.scope scope own) (hin : pt.ins (own.map (·.2)) = true)
    (hg : ∀ s H C cl fp, PG (XB X s H scope C cl fp) (pt.ex X.N) (pt.rd G.K))
    (ht : ∀ s H C cl fp, STs G (XB X s H scope C cl fp) φ EF tst ifs)
    (he : ∀ s H C cl fp, SE G (XB X s H scope C cl fp) φ EF elt ee) (hs : ∀ x, foldedSetIterable iter X.env x = pure x) :
    ∃ t : TE, L2.PS X (.Assign [.Name y py] (.ListComp ee [⟨pt.ex X.N, iter, ifs, 0⟩] scope pos) spos) (tAsg t (gName i)) ∧ ∀ H0 S H σ ρ p Q, Rep G H0 S H σ ρ → Sub G S H → RegOk G H p → Pst G E (relF G H) S H Q (dLc it pt (own.map (·.2)) tst elt φ ρ p) → t σ H Q := by
  obtain ⟨wi, pi, hi⟩ := hi
  exact ⟨_, ps_setLc hc hN hy hyl hsw pi ok hg ht (fun s H C cl fp => (he s H C cl fp).can) hs, fun H0 S H σ ρ p Q r s g q => lc_rd hi hin H0 S H σ ρ p Q r s g q⟩
end
end Z
namespace Z
open PySem PySem.Spec PyProof.Rows L2

/-! ### own functions -/
/-- what a function gives: a fresh value, where fr says so -/
def relR (G : Gx) (fr : Bool) (Hs : Hp) : Rl V D := if fr then relF G Hs else relA G
/-- a function's promise: what it tells is φ's -/
def spG (G : Gx) (fr : Bool) (φ : Fns) (f ar : Nat) : Sp := fun vs H Q E => vs.length = ar ∧ ∃ S p ds, Sub G S H ∧ RegOk G H p ∧ Ats G S vs ds ∧ Pst G E (relR G fr H) S H Q (φ f ds p)
/-- an instance's making: the new object x, without attributes, ahead of the arguments -/
def spI (G : Gx) (φ : Fns) (c f ar : Nat) : Sp := fun vs H Q E => vs.length = ar + 1 ∧ ∃ (S : Hp) (p : PS) (ds : List D) (H1 : Hp) (x dx : Addr) (ws : List V), H1 x = none ∧ H1 dx = none ∧ dx ≠ x ∧ H = upd (upd H1 dx (.own x)) x (.ins (G.cad c) dx []) ∧ vs = .ref x :: ws ∧
  Sub G S H1 ∧ RegOk G H1 p ∧ Ats G S ws ds ∧ Pst G E (fun S' H' v d => v = .non ∧ At G S' (.ref x) d) S H1 Q (φ f ds p)
section
variable (P : Program) (w : World) (K : PySem.W.Frag) (mg : Str → Option Value) (base : Heap) (G : Gx) (φ : Fns)
structure FnF (k : Nat) (f ar : Nat) (fr : Bool) : Prop where
  ex : ∃ fd ps, ps.length = ar ∧ FnOk P w K mg base (L2.CX P w) k (G.fad f) fd ps (spG G fr φ f ar) ∧ PySem.W.keepIn K (.ref (G.fad f)) = true ∧ Binds K fd ps []
structure InF (k : Nat) (c f ar : Nat) : Prop where
  ex : ∃ fd ps, ps.length = ar + 1 ∧ FnOk P w K mg base (L2.CX P w) k (G.fad f) fd ps (spI G φ c f ar) ∧ Mk K (G.cad c) (G.fad f) ∧ Binds K fd ps []
end
section
variable {G : Gx} {X : Cx} {φ : Fns} {E : XK}
/-- frozen, or fresh -/
def SR (G : Gx) (X : Cx) (φ : Fns) (E : XK) (fr : Bool) (den : DE) (e : Expr) : Prop := ∃ t : TE, PE X e t ∧ ∀ H0 S H σ ρ p Q, Rep G H0 S H σ ρ → Sub G S H → RegOk G H p → Pst G E (relR G fr H) S H Q (den φ ρ p) → t σ H Q
theorem SR.se {fr : Bool} {den : DE} {e : Expr} (h : SR G X φ E fr den e) : SE G X φ E den e := by
  cases fr with
  | false => exact h
  | true => exact SF.se h
theorem SR.sf {den : DE} {e : Expr} (h : SR G X φ E true den e) : SF G X φ E den e := h
theorem relR.fn {fr : Bool} {Hs Ha S H : Hp} {v : V} {d : D} (h : relR G fr Ha S H v d) (k : ∀ a, Nn Hs a → Nn Ha a) : relR G fr Hs S H v d := by
  cases fr with
  | false => exact h
  | true => exact relF.fn h k
def dCall (f : Nat) (a : DA) : DE := fun φ ρ => M.bind (a φ ρ) fun ds => φ f ds
theorem Pst.reA {fr : Bool} {Ha Hb S H : Hp} {Q : V → Hp → Prop} {r : Res D} (h : Pst G E (relR G fr Ha) S H Q r) (k : ∀ a, Nn Ha a → Nn Hb a) : Pst G E (relR G fr Hb) S H Q r := by
  cases r with
  | ok d p' => exact fun v S2 H2 f2 g2 q2 => h v S2 H2 f2 g2 (q2.fn k)
  | exc c fs p' => exact h
  | bad => exact h
theorem Pst.unb {α γ δ : Type} {rel : Rl δ γ} {S H : Hp} {Q : δ → Hp → Prop} {m : M α} {k : α → M γ} {p p1 : PS} {a : α} (h : Pst G E rel S H Q (M.bind m k p)) (e : m p = .ok a p1) : Pst G E rel S H Q (k a p1) := by
  unfold M.bind at h
  rw [e] at h
  exact h
theorem callCore {fr : Bool} {f ar : Nat} {a : DA} {ta : TA} (ha : ∀ H0 S H σ ρ p Q, Rep G H0 S H σ ρ → Sub G S H → RegOk G H p → Pst G E (relS G) S H Q (a φ ρ p) → ta σ H Q)
    (hlen : ∀ ρ p ds p', a φ ρ p = .ok ds p' → ds.length = ar) : ∀ H0 S H σ ρ p Q, Rep G H0 S H σ ρ → Sub G S H → RegOk G H p → Pst G E (relR G fr H) S H Q (dCall f a φ ρ p) → tCall (spG G fr φ f ar) [] E ta σ H Q := fun H0 S H σ ρ p Q r s g q => by
  unfold dCall at q
  refine ha H0 S H σ ρ p _ r s g ?_
  cases ea : a φ ρ p with
  | ok ds p1 =>
    intro vs S1 H1 f1 g1 a1
    unfold M.bind at q
    rw [ea] at q
    replace a1 : Ats G S1 vs ds := a1
    exact ⟨by rw [List.append_nil, a1.length]; exact hlen _ _ _ _ ea, S1, p1, ds, f1.sub, g1, by rw [List.append_nil]; exact a1, Pst.reA (Pst.mono q f1 g1) f1.dom⟩
  | exc c fs p1 =>
    unfold M.bind at q
    rw [ea] at q
    exact q
  | bad =>
    unfold M.bind at q
    rw [ea] at q
    exact q
theorem sr_call {k f ar : Nat} {fr : Bool} {x : Str} {a : DA} {e : Expr} {es : List Expr} {p pos : Pos} (F : FnF X.prog X.w X.K X.mg X.base G φ k f ar fr) (hr : Room k X.A) (hg : Gl X x) (hm : X.mg x = some (.ref (G.fad f))) (hx : Passes (L2.CX X.prog X.w) X E)
    (ha : SA G X φ E a (e :: es)) (hlen : ∀ ρ p ds p', a φ ρ p = .ok ds p' → ds.length = ar) (hdb : (x == ("__debug__" : Str)) = false) (he : starEach (e :: es) X.env = (false, eval e X.env) :: starEach es X.env) (hpl : (backTo pos (starEach es X.env)).any (·.1) = false) :
    SR G X φ E fr (dCall f a) (.Call (.Name x p) (e :: es) [] pos) := by
  obtain ⟨fd, ps, hps, F, kp, hb⟩ := F.ex
  obtain ⟨ta, pa, ha⟩ := ha
  exact ⟨_, pe_call F hr hg hm kp hb .nil hx pa hdb he hpl, callCore ha hlen⟩
theorem sr_call0 {k f : Nat} {fr : Bool} {x : Str} {p pos : Pos} (F : FnF X.prog X.w X.K X.mg X.base G φ k f 0 fr) (hr : Room k X.A) (hg : Gl X x) (hm : X.mg x = some (.ref (G.fad f))) (hx : Passes (L2.CX X.prog X.w) X E)
    (hdb : (x == ("__debug__" : Str)) = false) : SR G X φ E fr (dCall f daNil) (.Call (.Name x p) [] [] pos) := by
  obtain ⟨fd, ps, hps, F, kp, hb⟩ := F.ex
  exact ⟨_, pe_call0 F hr hg hm kp hb .nil hx hdb, fun H0 S H σ ρ p Q r s g q => ⟨rfl, S, p, [], s, g, .nil, q⟩⟩

/-! lists of our own, lent -/
def atm : D → Bool
  | .non => true
  | .bl _ => true
  | .int _ => true
  | .str _ => true
  | _ => false
def noObj : D → Bool
  | .obj _ _ => false
  | _ => true
def dLend (f : Nat) (a : DA) : DE := fun φ ρ => M.bind (a φ ρ) fun ds => if ds.all noObj then M.bind (M.noexc (φ f ds)) fun d => if atm d then M.pure d else fun _ => .bad else fun _ => .bad
theorem Sub.grow {S H : Hp} {vs : List V} {ds : List D} (s : Sub G S H) (h : Aws G S H vs ds) (hd : ∀ d ∈ ds, ∀ c fs, d = .obj c fs → fs.length = (G.cfs c).length) : ∃ S', Ext S S' ∧ Sub G S' H ∧ Ats G S' vs ds := by
  induction h with
  | nil => exact ⟨S, Ext.refl _, s, .nil⟩
  | @cons v d vs ds a t ih =>
    obtain ⟨S1, e1, s1, a1⟩ := ih fun d hm => hd d (List.mem_cons_of_mem _ hm)
    rcases a with a | ⟨p, rfl, n1, n2, o⟩
    · exact ⟨S1, e1, s1, .cons (a.mono e1) a1⟩
    · have fin : ∀ ob, H p = some ob → NTb ob → (∀ S2, Ext S1 S2 → S2 p = some ob → At G S2 (.ref p) d) → ∃ S', Ext S S' ∧ Sub G S' H ∧ Ats G S' (.ref p :: vs) (d :: ds) := fun ob ho nt k => by
        have ex : Ext S1 (upd S1 p ob) := fun a u e => by
          by_cases z : a = p
          · rw [z, upd_same]
            rw [z] at e
            have := s1.ext p u e
            rw [ho] at this
            rw [this]
          · rw [upd_ne z]; exact e
        exact ⟨upd S1 p ob, e1.trans ex, s1.put ho n1 n2 nt, .cons (k _ ex upd_same) (a1.mono ex)⟩
      cases o with
      | lst h1 h2 => exact fin _ h1 (fun _ z => by cases z) fun S2 e2 h => .lst h (h2.mono (e1.trans e2))
      | dK hk h1 h2 => exact fin _ h1 (fun _ z => by cases z) fun S2 e2 h => .dK hk (.inl h) (h2.mono (e1.trans e2))
      | dT hk h1 h2 => exact fin _ h1 (fun _ z => by cases z) fun S2 e2 h => .dT hk h (h2.mono (e1.trans e2))
      | ins hk h1 h2 => exact fin _ h1 (fun _ z => by cases z) fun S2 e2 h => .obj (by rw [hk, hd _ List.mem_cons_self _ _ rfl, List.take_length]) h (h2.mono (e1.trans e2))
theorem At.atm {S S' : Hp} {v : V} {d : D} (h : At G S v d) (ha : Z.atm d = true) : At G S' v d := by
  cases h with
  | non => exact .non
  | bl b => exact .bl b
  | int i => exact .int i
  | str x h => exact .str x h
  | _ => cases ha
theorem se_lend {k f ar : Nat} {fr : Bool} {x : Str} {a : DA} {e : Expr} {es : List Expr} {p pos : Pos} (F : FnF X.prog X.w X.K X.mg X.base G φ k f ar fr) (hr : Room k X.A) (hg : Gl X x) (hm : X.mg x = some (.ref (G.fad f))) (hx : Passes (L2.CX X.prog X.w) X E)
    (ha : SAW G X φ E a (e :: es)) (hlen : ∀ ρ p ds p', a φ ρ p = .ok ds p' → ds.length = ar) (hdb : (x == ("__debug__" : Str)) = false) (he : starEach (e :: es) X.env = (false, eval e X.env) :: starEach es X.env) (hpl : (backTo pos (starEach es X.env)).any (·.1) = false) :
    SE G X φ E (dLend f a) (.Call (.Name x p) (e :: es) [] pos) := by
  obtain ⟨fd, ps, hps, F, kp, hb⟩ := F.ex
  obtain ⟨ta, pa, ha⟩ := ha
  refine ⟨_, pe_call F hr hg hm kp hb .nil hx pa hdb he hpl, fun H0 S H σ ρ p Q r s g q => ?_⟩
  unfold dLend at q
  refine ha H0 S H σ ρ p _ r s g ?_
  cases ea : a φ ρ p with
  | ok ds p1 =>
    intro vs S1 H1 f1 g1 a1
    have q := Pst.unb q ea
    replace a1 : Aws G S1 H1 vs ds := a1
    by_cases hno : ds.all noObj = true
    · rw [if_pos hno] at q
      obtain ⟨S2, e2, s2, a2⟩ := f1.sub.grow a1 fun d hd c fs ed => by
        have := List.all_eq_true.mp hno d hd
        rw [ed] at this
        cases this
      refine ⟨by rw [List.append_nil, a2.length]; exact hlen _ _ _ _ ea, S2, p1, ds, s2, g1, by rw [List.append_nil]; exact a2, ?_⟩
      refine Pst.bindN q fun d p2 v S3 H3 f3 g3 a3 q3 => ?_
      cases hat : atm d with
      | false => rw [hat] at q3; exact q3.elim
      | true =>
        rw [hat] at q3
        have a4 : At G S3 v d := by
          cases fr with
          | false => exact a3
          | true =>
            rcases a3 with ⟨_, a3⟩ | ⟨z, _⟩
            · exact a3
            · exact absurd z (by cases d <;> simp [ato, atm] at hat ⊢)
        refine q3 v S1 H3 ⟨f1.ext, ⟨fun a u h => f3.sub.ext _ _ (f3.ext _ _ (e2 _ _ h)), f1.sub.n1, f1.sub.n2, f1.sub.nt⟩, fun a o n1 n2 nt h => f3.keep a o n1 n2 nt (f1.keep a o n1 n2 nt h), fun a h => f3.dom a (f1.dom a h), f1.new⟩ g3 (a4.atm hat)
    · rw [if_neg hno] at q
      exact q.elim
  | exc c fs p1 =>
    unfold M.bind at q
    rw [ea] at q
    exact q
  | bad =>
    unfold M.bind at q
    rw [ea] at q
    exact q
end
end Z
namespace Z
open PySem PySem.Spec PyProof.Rows L2
section
variable {G : Gx} {X : Cx} {φ : Fns} {E : XK}
/-! ### attributes -/
theorem lookup_at : ∀ {fs : List (Str × V)} {i : Nat} {n : Str} {v : V}, (fs.map (·.1)).idxOf? n = some i → fs[i]? = some (n, v) → fs.lookup n = some v
  | [], _, _, _, h, _ => by simp at h
  | (m, w) :: fs, i, n, v, h, e => by
    rw [List.map_cons, List.idxOf?_cons] at h
    by_cases c : m = n
    · subst c
      rw [if_pos (by simp)] at h
      cases h
      simp only [List.getElem?_cons_zero, Option.some.injEq, Prod.mk.injEq] at e
      rw [List.lookup_cons, show (m == m) = true from by simp, e.2]
    · rw [if_neg (by simpa using c)] at h
      cases hj : (fs.map (·.1)).idxOf? n with
      | none => rw [hj] at h; cases h
      | some j =>
        rw [hj] at h
        cases h
        rw [List.lookup_cons, show (n == m) = false from by simpa using fun (z : n = m) => c z.symm]
        exact lookup_at hj (by simpa using e)
theorem lookup_none' : ∀ {fs : List (Str × V)} {n : Str}, n ∉ fs.map (·.1) → fs.lookup n = none
  | [], _, _ => rfl
  | (m, w) :: fs, n, h => by
    rw [List.map_cons, List.mem_cons, not_or] at h
    rw [List.lookup_cons, show (n == m) = false from by simpa using h.1]
    exact lookup_none' h.2
theorem idx_take {α : Type} [BEq α] [LawfulBEq α] : ∀ {l : List α} {n : α} {i k : Nat}, l.idxOf? n = some i → i < k → (l.take k).idxOf? n = some i
  | [], _, _, _, h, _ => by simp at h
  | m :: l, n, i, 0, _, h => by omega
  | m :: l, n, i, k + 1, h, hk => by
    rw [List.take_succ_cons, List.idxOf?_cons] at *
    by_cases c : (m == n) = true
    · rw [if_pos c] at h ⊢
      exact h
    · rw [if_neg c] at h ⊢
      cases hj : l.idxOf? n with
      | none => rw [hj] at h; cases h
      | some j =>
        rw [hj] at h
        cases h
        rw [idx_take hj (by have : j + 1 < k + 1 := hk; omega)]; rfl
theorem name_at {fs : List (Str × V)} {i : Nat} {f n : Str} {v : V} (h : (fs.map (·.1)).idxOf? f = some i) (e : fs[i]? = some (n, v)) : n = f := by
  obtain ⟨h4, h5, _⟩ := List.idxOf?_eq_some_iff.mp h
  have e3 : (fs.map (·.1))[i]? = some n := by rw [List.getElem?_map, e]; rfl
  rw [List.getElem?_eq_getElem h4] at e3
  have e4 := Option.some.inj e3
  rw [← e4]
  simpa using h5
def dFld (c i : Nat) (a : DE) : DE := fun φ ρ => M.bind (a φ ρ) fun x => match x with
  | .obj c' fs => if c' = c then M.of fs[i]? else fun _ => .bad
  | _ => fun _ => .bad
theorem Ats.fields {S : Hp} {fs : List (Str × V)} {ds : List D} {i : Nat} {d : D} (h : Ats G S (fs.map (·.2)) ds) (e : ds[i]? = some d) : ∃ n v, fs[i]? = some (n, v) ∧ At G S v d := by
  obtain ⟨v, h1, h2⟩ := h.get e
  rw [List.getElem?_map] at h1
  cases q : fs[i]? with
  | none => rw [q] at h1; cases h1
  | some z => rw [q] at h1; cases h1; exact ⟨z.1, z.2, rfl, h2⟩
theorem se_fld (hK : X.K = G.K) {c i : Nat} {f : Str} {a : DE} {e : Expr} {pos : Pos} (cl : Cls G.K (G.cad c)) (na : NoAttr G.K (G.cad c) f) (hi : (G.cfs c).idxOf? f = some i) (ha : SW G X φ E a e) (hb : attributeBase e f X.env (eval e X.env) = eval e X.env) :
    SE G X φ E (dFld c i a) (.Attribute e f pos) := by
  obtain ⟨t, pe, ha⟩ := ha
  have pf := pe_fld (f := f) (pos := pos) pe hb
  rw [hK] at pf
  refine ⟨_, pf, fun H0 S H σ ρ p Q r s g q => ?_⟩
  refine ha H0 S H σ ρ p _ r s g (q.bind fun d p1 x S1 H1 f1 g1 a1 q1 => ?_)
  cases d with
  | obj c' ds =>
    simp only at q1
    by_cases hc : c' = c
    · subst hc
      rw [if_pos rfl] at q1
      obtain ⟨d, e1, k⟩ := q1.of f1.sub g1
      rcases a1 with a1 | ⟨pp, rfl, n1, n2, o⟩
      · cases a1 with
        | obj hk h1 h2 =>
          obtain ⟨n, v, e2, av⟩ := Ats.fields h2 e1
          have : n = f := name_at (by rw [hk]; exact hi) e2
          subst this
          exact ⟨_, _, _, _, v, rfl, f1.sub.ext _ _ h1, cl, na, lookup_at (by rw [hk]; exact hi) e2, k v S1 H1 (Fp.refl f1.sub) av⟩
      · cases o with
        | ins hk h1 h2 =>
          obtain ⟨n, v, e2, av⟩ := Ats.fields h2 e1
          have hlt : i < ds.length := (List.getElem?_eq_some_iff.mp e1).1
          have hi2 := idx_take hi hlt
          have : n = f := name_at (by rw [hk]; exact hi2) e2
          subst this
          exact ⟨_, _, _, _, v, rfl, h1, cl, na, lookup_at (by rw [hk]; exact hi2) e2, k v S1 H1 (Fp.refl f1.sub) av⟩
    · rw [if_neg hc] at q1
      exact q1.elim
  | _ => exact q1.elim
/-! ### methods of instances that stay -/
def dMeth (c f : Nat) (o : DE) (a : DA) : DE := fun φ ρ => M.bind (o φ ρ) fun x => match x with
  | .obj c' fs => if c' = c then M.bind (a φ ρ) fun ds => φ f (.obj c' fs :: ds) else fun _ => .bad
  | _ => fun _ => .bad
theorem ht_of {o : Expr} {m : Str} {apos pos : Pos} {args : List Expr} {env : PySem.Env} (hb : attributeBase o m env (eval o env) = eval o env) (hf : methodCallForm args.length (backTo pos (starEach args env)) [] = true) (hl : (apos.endLine == pos.line) = true) :
    eval (.Call (.Attribute o m apos) args [] pos) env = (do
      let ov ← eval o env
      standAt apos.atName
      let (f, first) ← holding [ov] (getMethod ov m (do return (← importBound o env).getD true))
      callWith pos f first (backTo pos (starEach args env)) (backToKw pos (keywordEach [] env))) := by
  show (do
    let ov ← attributeBase o m env (eval o env)
    standAt apos.atName
    methodCall o m apos pos env ov (args.length + 0) (backTo pos (starEach args env)) (backToKw pos (keywordEach [] env))) = _
  rw [hb]
  have e1 : methodCallForm (args.length + 0) (backTo pos (starEach args env)) (backToKw pos (keywordEach [] env)) = true := hf
  have e2 : methodCallPos true o env apos pos = pure pos := by
    unfold methodCallPos
    rw [hl]; rfl
  unfold methodCall
  rw [e1, e2]
  unfold calleeOf
  simp
theorem sr_meth {k c f ar : Nat} {fr : Bool} {m : Str} {o : DE} {a : DA} {eo e : Expr} {es : List Expr} {apos pos : Pos} (F : FnF X.prog X.w X.K X.mg X.base G φ k f (ar + 1) fr) (hr : Room k X.A) (cl : Cls X.K (G.cad c)) (me : Meth X.K (G.cad c) m (G.fad f)) (hn : m ∉ G.cfs c) (hx : Passes (L2.CX X.prog X.w) X E)
    (ho : SE G X φ E o eo) (ha : SA G X φ E a (e :: es)) (hlen : ∀ ρ p ds p', a φ ρ p = .ok ds p' → ds.length = ar) (he : starEach (e :: es) X.env = (false, eval e X.env) :: starEach es X.env) (hpl : (backTo pos (starEach es X.env)).any (·.1) = false)
    (hb : attributeBase eo m X.env (eval eo X.env) = eval eo X.env) (hf : methodCallForm (e :: es).length (backTo pos (starEach (e :: es) X.env)) [] = true) (hl : (apos.endLine == pos.line) = true) :
    SR G X φ E fr (dMeth c f o a) (.Call (.Attribute eo m apos) (e :: es) [] pos) := by
  obtain ⟨fd, ps, hps, F, kp, hbi⟩ := F.ex
  obtain ⟨to, po, ho⟩ := ho
  obtain ⟨ta, pa, ha⟩ := ha
  refine ⟨_, pe_meth po cl me F hr hbi .nil hx pa he hpl (ht_of hb hf hl), fun H0 S H σ ρ p Q r s g q => ?_⟩
  refine ho H0 S H σ ρ p _ r s g (q.bind fun d p1 x S1 H1 f1 g1 a1 q1 => ?_)
  replace a1 : At G S1 x d := a1
  cases d with
  | obj c' ds =>
    simp only at q1
    by_cases hc : c' = c
    · subst hc
      rw [if_pos rfl] at q1
      obtain ⟨ax, dx, fs, rfl, hk, h1⟩ : ∃ ax dx fs, x = .ref ax ∧ fs.map (·.1) = G.cfs c' ∧ S1 ax = some (.ins (G.cad c') dx fs) := by cases a1 with | obj hk h1 h2 => exact ⟨_, _, _, rfl, hk, h1⟩
      refine ⟨ax, dx, fs, rfl, f1.sub.ext _ _ h1, lookup_none' (by rw [hk]; exact hn), ?_⟩
      refine ha H0 S1 H1 σ ρ p1 _ (r.mono f1) f1.sub g1 ?_
      cases ea : a φ ρ p1 with
      | ok es' p2 =>
        intro vs S2 H2 f2 g2 a2
        replace a2 : Ats G S2 vs es' := a2
        have q2 := Pst.unb q1 ea
        refine ⟨by rw [List.append_nil, List.length_cons, a2.length, hlen _ _ _ _ ea], S2, p2, .obj c' ds :: es', f2.sub, g2, by rw [List.append_nil]; exact .cons (a1.mono f2.ext) a2, Pst.reA (Pst.mono q2 f2 g2) fun a h => f2.dom a (f1.dom a h)⟩
      | exc c fs p2 =>
        unfold M.bind at q1
        rw [ea] at q1
        exact q1
      | bad =>
        unfold M.bind at q1
        rw [ea] at q1
        exact q1
    · rw [if_neg hc] at q1
      exact q1.elim
  | _ => exact q1.elim
theorem sr_meth0 {k c f : Nat} {fr : Bool} {m : Str} {o : DE} {eo : Expr} {apos pos : Pos} (F : FnF X.prog X.w X.K X.mg X.base G φ k f 1 fr) (hr : Room k X.A) (cl : Cls X.K (G.cad c)) (me : Meth X.K (G.cad c) m (G.fad f)) (hn : m ∉ G.cfs c) (hx : Passes (L2.CX X.prog X.w) X E)
    (ho : SE G X φ E o eo) (hb : attributeBase eo m X.env (eval eo X.env) = eval eo X.env) (hl : (apos.endLine == pos.line) = true) :
    SR G X φ E fr (dMeth c f o daNil) (.Call (.Attribute eo m apos) [] [] pos) := by
  obtain ⟨fd, ps, hps, F, kp, hbi⟩ := F.ex
  obtain ⟨to, po, ho⟩ := ho
  refine ⟨_, pe_meth0 po cl me F hr hbi .nil hx (ht_of hb rfl hl), fun H0 S H σ ρ p Q r s g q => ?_⟩
  refine ho H0 S H σ ρ p _ r s g (q.bind fun d p1 x S1 H1 f1 g1 a1 q1 => ?_)
  replace a1 : At G S1 x d := a1
  cases d with
  | obj c' ds =>
    simp only at q1
    by_cases hc : c' = c
    · subst hc
      rw [if_pos rfl] at q1
      obtain ⟨ax, dx, fs, rfl, hk, h1⟩ : ∃ ax dx fs, x = .ref ax ∧ fs.map (·.1) = G.cfs c' ∧ S1 ax = some (.ins (G.cad c') dx fs) := by cases a1 with | obj hk h1 h2 => exact ⟨_, _, _, rfl, hk, h1⟩
      exact ⟨ax, dx, fs, rfl, f1.sub.ext _ _ h1, lookup_none' (by rw [hk]; exact hn), rfl, S1, p1, [.obj c' ds], f1.sub, g1, .cons a1 .nil, Pst.reA q1 f1.dom⟩
    · rw [if_neg hc] at q1
      exact q1.elim
  | _ => exact q1.elim
/-! ### a new instance -/
theorem se_make {k c f ar : Nat} {x : Str} {a : DA} {e : Expr} {es : List Expr} {p pos : Pos} (F : InF X.prog X.w X.K X.mg X.base G φ k c f ar) (hr : Room (k + 1) X.A) (hg : Gl X x) (hm : X.mg x = some (.ref (G.cad c))) (hx : Passes (L2.CX X.prog X.w) X E)
    (ha : SA G X φ E a (e :: es)) (hlen : ∀ ρ p ds p', a φ ρ p = .ok ds p' → ds.length = ar) (hdb : (x == ("__debug__" : Str)) = false) (he : starEach (e :: es) X.env = (false, eval e X.env) :: starEach es X.env) (hpl : (backTo pos (starEach es X.env)).any (·.1) = false) :
    SE G X φ E (dCall f a) (.Call (.Name x p) (e :: es) [] pos) := by
  obtain ⟨fd, ps, hps, F, mk, hb⟩ := F.ex
  obtain ⟨ta, pa, ha⟩ := ha
  refine ⟨_, pe_make mk F hr hg hm hb .nil hx pa hdb he hpl, fun H0 S H σ ρ p Q r s g q => ?_⟩
  unfold dCall at q
  refine ha H0 S H σ ρ p _ r s g ?_
  cases ea : a φ ρ p with
  | ok ds p1 =>
    intro vs S1 H1 f1 g1 a1 ax dx h1 h2 hd
    replace a1 : Ats G S1 vs ds := a1
    refine ⟨by rw [List.append_nil, List.length_cons, a1.length, hlen _ _ _ _ ea], S1, p1, ds, H1, ax, dx, vs, h1, h2, hd, rfl, by rw [List.append_nil], f1.sub, g1, a1, ?_⟩
    have q := Pst.mono (Pst.unb q ea) f1 g1
    cases er : φ f ds p1 with
    | ok d p2 =>
      rw [er] at q
      intro v S2 H2 f2 g2 ⟨hv, a2⟩
      exact ⟨hv, q _ S2 H2 f2 g2 a2⟩
    | exc c fs p2 =>
      rw [er] at q
      exact q
    | bad => rw [er] at q; exact q
  | exc c fs p1 =>
    unfold M.bind at q
    rw [ea] at q
    exact q
  | bad =>
    unfold M.bind at q
    rw [ea] at q
    exact q
end
end Z
namespace Z
open PySem PySem.Spec PyProof.Rows L2
section
variable {G : Gx} {X : Cx} {φ : Fns} {E : XK}
/-! ### x[i] -/
def ixF : D → D → Option D
  | .lst xs, .int i => atI xs i
  | .tup xs, .int i => atI xs i
  | .str x, .int i => (atI x.cps.toList i).map fun c => .str ⟨#[c]⟩
  | _, _ => none
def dixF (a b : D) : Option D := match dget a b with
  | some (some d) => some d
  | _ => none
theorem Ats.atI {S : Hp} {vs : List V} {ds : List D} {i : Int} {d : D} (h : Ats G S vs ds) (e : L2.atI ds i = some d) : ∃ v, L2.atI vs i = some v ∧ At G S v d := by
  unfold L2.atI at *
  rw [h.length]
  cases q : ixN ds.length i with
  | none => rw [q] at e; cases e
  | some j =>
    rw [q] at e
    exact h.get e
theorem sOk_atI {x : Str} {i : Int} {c : Nat} (h : sOk x = true) (e : L2.atI x.cps.toList i = some c) : sOk ⟨#[c]⟩ = true := by
  unfold L2.atI at e
  cases q : ixN x.cps.toList.length i with
  | none => rw [q] at e; cases e
  | some j =>
    rw [q] at e
    have e : x.cps.toList[j]? = some c := e
    exact sOk_sign h (by rw [← Array.getElem?_toList]; exact e)
theorem op2_ix : Op2 G (rIx G.K) ixF := by
  intro S H p x y dx dy d Q s g ax ay e q
  unfold ixF at e
  split at e
  · obtain ⟨a, vs, rfl, h1, h2⟩ := ax.lst s
    obtain ⟨v, e1, av⟩ := h2.atI e
    exact .inl ⟨a, vs, _, v, rfl, ay.int, .inl (.inl h1), e1, same s av q⟩
  · obtain ⟨a, vs, rfl, h1, h2⟩ := ax.tup
    obtain ⟨v, e1, av⟩ := h2.atI e
    exact .inr (.inl ⟨a, vs, _, v, rfl, ay.int, SqT.of (s.ext _ _ h1), e1, same s av q⟩)
  · rename_i x' i
    cases q' : L2.atI x'.cps.toList i with
    | none => rw [q'] at e; cases e
    | some c =>
      rw [q'] at e
      cases e
      obtain ⟨rfl, hx⟩ := ax.str
      exact .inr (.inr ⟨x', i, c, rfl, ay.int, sOk_len hx, q', same s (.str _ (sOk_atI hx q')) q⟩)
  · cases e
def rDg : R2 := fun x y H Q => ∃ a v, x = .ref a ∧ DGet H a y (some v) ∧ Q v H
theorem op2_dg : Op2 G rDg dixF := by
  intro S H p x y dx dy d Q s g ax ay e q
  unfold dixF at e
  split at e
  · rename_i d' ho
    cases e
    obtain ⟨a, r, e1, h1, h2⟩ := dget_at s ax ay ho
    rcases h2 with ⟨z, _⟩ | ⟨d, v, z, rfl, av⟩
    · cases z
    · cases z
      exact ⟨a, v, e1, h1, same s av q⟩
  · cases e
def sbF (a b : D) : Option D := (ixF a b).or (dixF a b)
theorem PE.or {e : Expr} {t u : TE} (h : PE X e t) (h' : PE X e u) : PE X e (fun σ H Q => t σ H Q ∨ u σ H Q) := ⟨fun pins s σ H Q I q => q.elim (h.run pins s σ H Q I) (h'.run pins s σ H Q I)⟩
theorem d2_congr {f g : D → D → Option D} {a b : DE} {ρ : Env} {p : PS} (h : ∀ d p1, a φ ρ p = .ok d p1 → ∀ y, f d y = g d y) : d2 f a b φ ρ p = d2 g a b φ ρ p := by
  unfold d2 M.bind
  cases e : a φ ρ p with
  | ok d p1 =>
    simp only
    rw [show (fun y => M.of (f d y)) = fun y => M.of (g d y) from funext fun y => by rw [h d p1 e y]]
  | exc c fs p1 => rfl
  | bad => rfl
theorem dix_none {d y : D} (h : ∀ ks vs, d ≠ .dk ks vs) (h' : ∀ ks vs, d ≠ .dt ks vs) : dixF d y = none := by
  unfold dixF dget
  cases d with
  | dk ks vs => exact absurd rfl (h ks vs)
  | dt ks vs => exact absurd rfl (h' ks vs)
  | _ => rfl
theorem se_sub (hK : X.K = G.K) (hu : X.A.units + 1 < cLine) {a b : DE} {ea eb : Expr} {pos : Pos} (ha : SW G X φ E a ea) (hb : SW G X φ E b eb) (hs : PlainIx eb) : SE G X φ E (d2 sbF a b) (.Subscript ea eb pos) := by
  obtain ⟨ta, pa, ha⟩ := ha
  obtain ⟨tb, pb, hb⟩ := hb
  have p1 := pe_ix (pos := pos) ix_seq pa pb hs
  rw [hK] at p1
  have p2 := pe_dget (pos := pos) hu pa pb hs
  refine ⟨_, PE.or p1 p2, fun H0 S H σ ρ p Q rr s g q => ?_⟩
  have lf : (∀ d p1, a φ ρ p = .ok d p1 → ∀ y, sbF d y = ixF d y) → tOp (rIx G.K) ta tb σ H Q ∨ tDGet ta tb σ H Q := fun h => by
    rw [d2_congr h] at q
    exact Or.inl (pst2 (ea := ea) (eb := eb) op2_ix ha hb rr s g q)
  have rg : (∀ d p1, a φ ρ p = .ok d p1 → ∀ y, sbF d y = dixF d y) → tOp (rIx G.K) ta tb σ H Q ∨ tDGet ta tb σ H Q := fun h => by
    rw [d2_congr h] at q
    exact Or.inr (pst2 (ea := ea) (eb := eb) op2_dg ha hb rr s g q)
  cases e : a φ ρ p with
  | ok d p1 =>
    cases d with
    | dk ks vs => exact rg fun d' p' e' y => by rw [e] at e'; cases e'; rfl
    | dt ks vs => exact rg fun d' p' e' y => by rw [e] at e'; cases e'; rfl
    | _ =>
      exact lf fun d' p' e' y => by
        rw [e] at e'
        cases e'
        unfold sbF
        rw [dix_none (fun _ _ z => by cases z) (fun _ _ z => by cases z), Option.or_none]
  | exc c fs p1 => exact lf fun d' p' e' y => by rw [e] at e'; cases e'
  | bad => exact lf fun d' p' e' y => by rw [e] at e'; cases e'

/-! ### x[lo:hi] -/
def cutD (xs : List D) (lo hi : Option Int) : List D := (xs.drop (HT.sIx xs.length 0 lo)).take (HT.sIx xs.length xs.length hi - HT.sIx xs.length 0 lo)
def slF : D → Option Int → Option Int → Option D
  | .lst xs, lo, hi => some (.lst (cutD xs lo hi))
  | .tup xs, lo, hi => some (.tup (cutD xs lo hi))
  | .str x, lo, hi => some (.str (cutS x lo hi))
  | _, _, _ => none
abbrev DO := Fns → Env → M (Option Int)
def doNo : DO := fun _ _ => M.pure none
def intD : D → Option Int
  | .int i => some i
  | _ => none
def doE (a : DE) : DO := fun φ ρ => M.bind (a φ ρ) fun x => M.bind (M.of (intD x)) fun i => M.pure (some i)
def SO (G : Gx) (X : Cx) (φ : Fns) (E : XK) (den : DO) (e : Option Expr) : Prop := ∃ t : TO, PO X e t ∧ ∀ H0 S H σ ρ p Q, Rep G H0 S H σ ρ → Sub G S H → RegOk G H p → Pst G E (fun _ _ (o o' : Option Int) => o = o') S H Q (den φ ρ p) → t σ H Q
theorem so_none : SO G X φ E doNo none := ⟨tNoPart, po_none, fun H0 S H σ ρ p Q r s g q => q.pure s g rfl⟩
theorem so_some {a : DE} {e : Expr} (ha : SE G X φ E a e) : SO G X φ E (doE a) (some e) := by
  obtain ⟨t, pe, ha⟩ := ha
  refine ⟨_, po_some pe, fun H0 S H σ ρ p Q r s g q => ha H0 S H σ ρ p _ r s g (q.bind fun d p1 v S1 H1 f1 g1 a1 q1 => ?_)⟩
  cases d with
  | int i =>
    replace a1 : At G S1 v (.int i) := a1
    cases a1
    exact ⟨i, rfl, q1 _ S1 H1 (Fn.refl f1.sub) g1 rfl⟩
  | _ => exact q1.elim
def dSl (a : DE) (lo hi : DO) : DE := fun φ ρ => M.bind (a φ ρ) fun x => M.bind (lo φ ρ) fun l => M.bind (hi φ ρ) fun h => M.of (slF x l h)
theorem SlR.or {r r' : V → Option Int → Option Int → Hp → VK → Prop} (h : SlR X r) (h' : SlR X r') : SlR X (fun x l u H Q => r x l u H Q ∨ r' x l u H Q) := by
  intro pins s σ H x v vl vu lo hi sl Q I rx hs pl pu hh
  rcases hh with hh | hh
  · exact h pins s σ H x v vl vu lo hi sl Q I rx hs pl pu hh
  · exact h' pins s σ H x v vl vu lo hi sl Q I rx hs pl pu hh
theorem cut_at {S : Hp} {vs : List V} {ds : List D} (h : Ats G S vs ds) (lo hi : Option Int) : Ats G S (cutV vs lo hi) (cutD ds lo hi) := by
  unfold cutV cutD
  rw [h.length]
  exact (h.drop _).take _
theorem sOk_sub {x : Str} {l : List Nat} (h : sOk x = true) (hm : ∀ c ∈ l, c ∈ x.cps.toList) (hl : l.length ≤ x.cps.toList.length) : sOk ⟨l.toArray⟩ = true := by
  unfold sOk at *
  rw [Bool.and_eq_true, decide_eq_true_eq] at *
  refine ⟨?_, ?_⟩
  · have h1 := h.1
    unfold PyData.strOk at *
    rw [Array.all_eq_true'] at *
    intro c hc
    exact h1 c (Array.mem_def.mpr (hm c (by simpa using hc)))
  · have h2 := h.2
    show l.toArray.size ≤ _
    rw [List.size_toArray]
    have : x.length = x.cps.toList.length := by simp [Str.length]
    omega
theorem sOk_cut {x : Str} (h : sOk x = true) (lo hi : Option Int) : sOk (cutS x lo hi) = true := by
  refine sOk_sub h (fun c hc => List.drop_subset _ _ (List.take_subset _ _ hc)) ?_
  rw [List.length_take, List.length_drop]
  omega
theorem sf_sl (hK : X.K = G.K) {a : DE} {lo hi : DO} {ea : Expr} {el eh : Option Expr} {p2 pos : Pos} (ha : SW G X φ E a ea) (hl : SO G X φ E lo el) (hh : SO G X φ E hi eh) : SF G X φ E (dSl a lo hi) (.Subscript ea (.Slice el eh none p2) pos) := by
  obtain ⟨ta, pa, ha⟩ := ha
  obtain ⟨tl, pl, hl⟩ := hl
  obtain ⟨th, ph, hh⟩ := hh
  have pp := pe_slice (pos := pos) (p2 := p2) ((sl_list (X := X)).or (sl_tupA.or sl_str)) pa pl ph
  rw [hK] at pp
  refine ⟨_, pp, fun H0 S H σ ρ p Q r s g q => ?_⟩
  refine ha H0 S H σ ρ p _ r s g (q.bind fun dx p1 x S1 H1 f1 g1 a1 q1 => ?_)
  refine hl H0 S1 H1 σ ρ p1 _ (r.mono f1) f1.sub g1 (q1.bind fun l p2 l' S2 H2 f2 g2 e2 q2 => ?_)
  refine hh H0 S2 H2 σ ρ p2 _ ((r.mono f1).mono f2) f2.sub g2 (q2.bind fun h p3 h' S3 H3 f3 g3 e3 q3 => ?_)
  subst e2 e3
  obtain ⟨d, e, k⟩ := q3.of f3.sub g3
  have k : ∀ v S' H', Fp G S3 H3 S' H' → relF G H3 S' H' v d → Q v H' := fun v S' H' fp rf => k v S' H' fp (rf.fn fun a h => f3.dom a (f2.dom a (f1.dom a h)))
  have ax : Aw G S3 H3 x dx := (Aw.mono a1 f2).mono f3
  cases dx with
  | lst ds =>
    cases e
    obtain ⟨b, vs, rfl, h1, h2⟩ := ax.lst f3.sub
    exact .inl ⟨b, vs, rfl, .inl (.inl h1), fun pp hp => new_lstF f3.sub g3 hp (cut_at h2 _ _) k⟩
  | tup ds =>
    cases e
    obtain ⟨b, vs, rfl, h1, h2⟩ := ax.tup
    refine .inr (.inl ⟨b, vs, rfl, SqT.of (f3.sub.ext _ _ h1), fun hw => ?_, fun _ pp hp => new_tupF f3.sub g3 hp (cut_at h2 _ _) k⟩)
    have : cutD ds l' h' = ds := by
      unfold cutD
      rw [← h2.length, hw.1, hw.2]
      rw [List.drop_zero, h2.length, Nat.sub_zero, List.take_length]
    exact sameF f3.sub (.tup h1 (by rw [this]; exact h2)) k
  | str x =>
    cases e
    obtain ⟨rfl, hx⟩ := ax.str
    exact .inr (.inr ⟨_, rfl, sOk_len hx, sameF f3.sub (.str _ (sOk_cut hx _ _)) k⟩)
  | _ => cases e

/-! ### texts -/
def spD (y x : Str) : List Str := (TL.spl (TL.tl y) 0 [] (TL.tl x)).map fun l => ⟨l.toArray⟩
def splitF (x : Str) : D → Option D
  | .str y => if y.cps.toList ≠ [] ∧ y.cps.toList.all (· < 256) = true ∧ x.length + 2 ≤ 16777216 then some (.lst ((spD y x).map .str)) else none
  | _ => none
/-- a text's method of one argument -/
def dM1 (f : Str → D → Option D) (a b : DE) : DE := fun φ ρ => M.bind (a φ ρ) fun x => match x with
  | .str s => M.bind (b φ ρ) fun y => M.of (f s y)
  | _ => fun _ => .bad
theorem spl_sub (S : List Nat) : ∀ (l : List Nat) (k : Nat) (acc : List Nat), ∀ q ∈ TL.spl S k acc l, (∀ c ∈ q, c ∈ acc ∨ c ∈ l) ∧ q.length ≤ acc.length + l.length
  | [], k, acc, q, h => by
    have : q = acc := by cases k <;> simpa [TL.spl] using h
    subst this
    exact ⟨fun c hc => .inl hc, by simp⟩
  | c :: r, 0, acc, q, h => by
    rw [TL.spl] at h
    split at h
    · rcases List.mem_cons.mp h with rfl | h
      · exact ⟨fun c hc => .inl hc, by simp⟩
      · obtain ⟨h1, h2⟩ := spl_sub S r _ _ q h
        exact ⟨fun c hc => .inr (List.mem_cons_of_mem _ ((h1 c hc).resolve_left (by simp))), by simp at h2 ⊢; omega⟩
    · obtain ⟨h1, h2⟩ := spl_sub S r _ _ q h
      refine ⟨fun d hd => ?_, by simp at h2 ⊢; omega⟩
      rcases h1 d hd with z | z
      · rcases List.mem_append.mp z with z | z
        · exact .inl z
        · exact .inr (by rw [List.mem_singleton.mp z]; exact List.mem_cons_self)
      · exact .inr (List.mem_cons_of_mem _ z)
  | c :: r, k + 1, acc, q, h => by
    rw [TL.spl] at h
    obtain ⟨h1, h2⟩ := spl_sub S r _ _ q h
    exact ⟨fun d hd => (h1 d hd).imp id (List.mem_cons_of_mem _), by simp at h2 ⊢; omega⟩
theorem strs_mk {S : Hp} : ∀ {xs : List Str}, (∀ x ∈ xs, sOk x = true) → Ats G S (xs.map V.str) (xs.map D.str)
  | [], _ => .nil
  | x :: xs, h => .cons (.str x (h x List.mem_cons_self)) (strs_mk fun y hy => h y (List.mem_cons_of_mem _ hy))
theorem pst_m1 {f : Str → D → Option D} {r : V → List V → Hp → VK → Prop} {a b : DE} {ta tb : TE}
    (ha : ∀ H0 S H σ ρ p Q, Rep G H0 S H σ ρ → Sub G S H → RegOk G H p → Pst G E (relW G) S H Q (a φ ρ p) → ta σ H Q)
    (hb : ∀ H0 S H σ ρ p Q, Rep G H0 S H σ ρ → Sub G S H → RegOk G H p → Pst G E (relW G) S H Q (b φ ρ p) → tb σ H Q)
    (o : ∀ S H p x v dy d (Q : VK), Sub G S H → RegOk G H p → sOk x = true → Aw G S H v dy → f x dy = some d → (∀ v S' H', Fp G S H S' H' → relF G H S' H' v d → Q v H') → r (.str x) [v] H Q)
    {H0 S H : Hp} {σ : L2.St} {ρ : Env} {p : PS} {Q : VK} (rr : Rep G H0 S H σ ρ) (s : Sub G S H) (g : RegOk G H p) (q : Pst G E (relF G H) S H Q (dM1 f a b φ ρ p)) : tM1 r ta tb σ H Q := by
  unfold dM1 at q
  refine ha H0 S H σ ρ p _ rr s g (q.bind fun dx p1 x S1 H1 f1 g1 a1 q1 => ?_)
  cases dx with
  | str z =>
    obtain ⟨rfl, hz⟩ := Aw.str a1
    refine ⟨⟨z, rfl⟩, ?_⟩
    refine hb H0 S1 H1 σ ρ p1 _ (rr.mono f1) f1.sub g1 (q1.bind fun dy p2 y S2 H2 f2 g2 a2 q2 => ?_)
    obtain ⟨d, e, k⟩ := q2.of f2.sub g2
    exact o S2 H2 p2 z y dy d Q f2.sub g2 hz a2 e fun v S' H' fp rf => k v S' H' fp (rf.fn fun a h => f2.dom a (f1.dom a h))
  | _ => exact q1.elim
theorem sf_split {a b : DE} {eo e : Expr} {apos pos : Pos} (ho : SW G X φ E a eo) (he : SW G X φ E b e) (hs : starEach [e] X.env = [(false, eval e X.env)]) (hb : attributeBase eo "split" X.env (eval eo X.env) = eval eo X.env) (hl : (apos.endLine == pos.line) = true) :
    SF G X φ E (dM1 splitF a b) (.Call (.Attribute eo "split" apos) [e] [] pos) := by
  obtain ⟨ta, pa, ha⟩ := ho
  obtain ⟨tb, pb, hb'⟩ := he
  refine ⟨_, pe_split pa pb hs hb hl, fun H0 S H σ ρ p Q r s g q => pst_m1 ha hb' (fun S H p x v dy d Q s g hx a e k => ?_) r s g q⟩
  unfold splitF at e
  split at e
  · rename_i y
    split at e
    · rename_i hc
      cases e
      obtain ⟨rfl, hy⟩ := a.str
      refine ⟨x, y, rfl, rfl, ?_, by rw [sizeLine_eq]; exact hc.2.2, fun pp hp => ?_⟩
      · have : y.cps.toList.length ≠ 0 := fun z => hc.1 (List.length_eq_zero_iff.mp z)
        simpa [Str.length] using this
      · have e1 : Txt.split x y = spD y x := SX.split_S (a := TL.tl x) (b := TL.tl y) hc.1 hc.2.1
        rw [e1]
        refine new_lstF s g hp (strs_mk fun z hz => ?_) k
        unfold spD at hz
        obtain ⟨l, hl, rfl⟩ := List.mem_map.mp hz
        obtain ⟨h1, h2⟩ := spl_sub _ _ _ _ l hl
        exact sOk_sub hx (fun c hc => (h1 c hc).resolve_left (by simp)) (by simpa using h2)
    · cases e
  · cases e
def strsD : List D → Option (List Str)
  | [] => some []
  | .str b :: r => (strsD r).map (b :: ·)
  | _ => none
theorem strs_at {S : Hp} : ∀ {vs : List V} {ds : List D} {bs : List Str}, Ats G S vs ds → strsD ds = some bs → vs = bs.map V.str ∧ ∀ x ∈ bs, sOk x = true
  | _, _, _, .nil, e => by cases e; exact ⟨rfl, fun _ h => by cases h⟩
  | _, d :: ds, bs, .cons a t, e => by
    cases d with
    | str b =>
      simp only [strsD] at e
      cases er : strsD ds with
      | none => rw [er] at e; cases e
      | some r =>
        rw [er] at e
        cases e
        cases a with
        | str _ hb =>
          obtain ⟨h1, h2⟩ := strs_at t er
          refine ⟨by rw [h1]; rfl, fun x hx => ?_⟩
          rcases List.mem_cons.mp hx with z | z
          · rw [z]; exact hb
          · exact h2 x z
    | _ => cases e
def joinD (y : Str) (xs : List Str) : Str := ⟨(TL.joinL (TL.tl y) (xs.map TL.tl)).toArray⟩
def joinF (y : Str) (b : D) : Option D := match itemsOf b with
  | some ds => match strsD ds with
    | some xs => if (xs.map (·.length)).sum + xs.length * y.length ≤ 16777216 then some (.str (joinD y xs)) else none
    | none => none
  | none => none
theorem joinL_sub (y : List Nat) : ∀ xs : List (List Nat), (∀ c ∈ TL.joinL y xs, c ∈ y ∨ ∃ x ∈ xs, c ∈ x) ∧ (TL.joinL y xs).length ≤ (xs.map List.length).sum + xs.length * y.length
  | [] => ⟨fun _ h => by simp [TL.joinL] at h, by simp [TL.joinL]⟩
  | [p] => ⟨fun c h => .inr ⟨p, by simp, by simpa [TL.joinL] using h⟩, by simp [TL.joinL]⟩
  | p :: q :: r => by
    obtain ⟨h1, h2⟩ := joinL_sub y (q :: r)
    refine ⟨fun c h => ?_, ?_⟩
    · rw [TL.joinL] at h
      rcases List.mem_append.mp h with h | h
      · exact .inr ⟨p, List.mem_cons_self, h⟩
      · rcases List.mem_append.mp h with h | h
        · exact .inl h
        · rcases h1 c h with h | ⟨x, hx, h⟩
          · exact .inl h
          · exact .inr ⟨x, List.mem_cons_of_mem _ hx, h⟩
    · rw [TL.joinL, List.length_append, List.length_append]
      rw [List.map_cons, List.sum_cons, List.length_cons]
      rw [Nat.add_mul]
      omega
theorem sf_join {a b : DE} {eo e : Expr} {apos pos : Pos} (hK : X.K = G.K) (ho : SW G X φ E a eo) (he : SW G X φ E b e) (hs : starEach [e] X.env = [(false, eval e X.env)]) (hb : attributeBase eo "join" X.env (eval eo X.env) = eval eo X.env) (hl : (apos.endLine == pos.line) = true) :
    SF G X φ E (dM1 joinF a b) (.Call (.Attribute eo "join" apos) [e] [] pos) := by
  obtain ⟨ta, pa, ha⟩ := ho
  obtain ⟨tb, pb, hb'⟩ := he
  have pp := pe_join pa pb hs hb hl
  rw [hK] at pp
  refine ⟨_, pp, fun H0 S H σ ρ p Q r s g q => pst_m1 ha hb' (fun S H p y v dy d Q s g hy a e k => ?_) r s g q⟩
  unfold joinF at e
  cases ei : itemsOf dy with
  | none => rw [ei] at e; cases e
  | some ds =>
    rw [ei] at e
    simp only at e
    cases es : strsD ds with
    | none => rw [es] at e; cases e
    | some xs =>
      rw [es] at e
      simp only at e
      split at e
      · rename_i hc
        cases e
        obtain ⟨b, vs, rfl, h1, h2⟩ := a.seq s ei
        obtain ⟨h3, h4⟩ := strs_at h2 es
        refine ⟨y, b, xs, rfl, rfl, by rw [← h3]; exact h1, hc, ?_⟩
        have e1 : Txt.join y xs = joinD y xs := by
          have := SX.join_S (TL.tl y) (xs.map TL.tl)
          rw [List.map_map] at this
          have e2 : (SX.S ∘ TL.tl) = (id : Str → Str) := by funext x; exact TL.mk_tl x
          rw [e2, List.map_id] at this
          exact this
        rw [e1]
        have hsub := joinL_sub (TL.tl y) (xs.map TL.tl)
        refine sameF s (.str _ ?_) k
        unfold joinD sOk
        rw [Bool.and_eq_true, decide_eq_true_eq]
        constructor
        · unfold PyData.strOk
          rw [Array.all_eq_true']
          intro c hc'
          have hc'' : c ∈ TL.joinL (TL.tl y) (xs.map TL.tl) := by simpa using hc'
          rcases hsub.1 c hc'' with z | ⟨l, hl, z⟩
          · exact (Array.all_eq_true'.mp (sOk_ok hy)) c (Array.mem_def.mpr z)
          · obtain ⟨x, hx, rfl⟩ := List.mem_map.mp hl
            exact (Array.all_eq_true'.mp (sOk_ok (h4 x hx))) c (Array.mem_def.mpr z)
        · have h5 := hsub.2
          rw [List.map_map, List.length_map] at h5
          have e3 : (List.length ∘ TL.tl) = fun x : Str => x.length := by funext x; simp [Str.length]
          rw [e3] at h5
          have e4 : (TL.tl y).length = y.length := by simp [Str.length]
          rw [e4] at h5
          show (TL.joinL (TL.tl y) (xs.map TL.tl)).toArray.size ≤ _
          rw [List.size_toArray]
          omega
      · cases e
def endF (x : Str) : D → Option D
  | .str y => some (.bl (Txt.endswith x y))
  | _ => none
theorem sf_ends {a b : DE} {eo e : Expr} {apos pos : Pos} (ho : SW G X φ E a eo) (he : SW G X φ E b e) (hs : starEach [e] X.env = [(false, eval e X.env)]) (hb : attributeBase eo "endswith" X.env (eval eo X.env) = eval eo X.env) (hl : (apos.endLine == pos.line) = true) :
    SF G X φ E (dM1 endF a b) (.Call (.Attribute eo "endswith" apos) [e] [] pos) := by
  obtain ⟨ta, pa, ha⟩ := ho
  obtain ⟨tb, pb, hb'⟩ := he
  refine ⟨_, pe_m1 F.slot_str_endswith F.type_str_endswith mt_endswith pa pb hs hb hl, fun H0 S H σ ρ p Q r s g q => pst_m1 ha hb' (fun S H p x v dy d Q s g hx a e k => ?_) r s g q⟩
  unfold endF at e
  split at e
  · cases e
    obtain ⟨rfl, hy⟩ := a.str
    exact ⟨x, _, rfl, rfl, sameF s (.bl _) k⟩
  · cases e
end
end Z
namespace Z
open PySem PySem.Spec PyProof.Rows L2
/-! ### isinstance -/
def tgV (G : Gx) : Tg → Value
  | .t n => .type n
  | .c k => .ref (G.cad k)
def tgOf (G : Gx) : D → Option Tg
  | .non => some (.t "NoneType")
  | .bl _ => some (.t "bool")
  | .int _ => some (.t "int")
  | .str _ => some (.t "str")
  | .lst _ => some (.t "list")
  | .tup _ => some (.t "tuple")
  | .dk _ _ => some (.t "dict")
  | .dt _ _ => some (.t "dict")
  | .obj c _ => if G.oc c then some (.c c) else none
  | .exc c _ => if G.ox c then some (.c c) else none
  | _ => none
def clsOf : D → Option Tg
  | .ty n => some (.t n)
  | .cl k => some (.c k)
  | _ => none
def clssOf : List D → Option (List Tg)
  | [] => some []
  | d :: ds => match clsOf d, clssOf ds with
    | some t, some ts => some (t :: ts)
    | _, _ => none
def anyIsa (G : Gx) (t : Tg) : List Tg → Option Bool
  | [] => some false
  | c :: r => match G.isa t c with
    | some true => some true
    | some false => anyIsa G t r
    | none => none
structure IsaOk (G : Gx) : Prop where
  exm : ∀ a b r, G.exm a b = some r → PySem.W.exmOne G.K (.ref (G.cad a)) (.ref (G.cad b)) = some r
  isa : ∀ a b r, G.isa a b = some r → PySem.W.kitOne G.K (tgV G a) (tgV G b) = some r
  oc : ∀ c, G.oc c = true → ∀ H a dx fs, H a = some (.ins (G.cad c) dx fs) → TyX G.K H (.ref a) (.ref (G.cad c))
  ox : ∀ c, G.ox c = true → XiC G.K (G.cad c)
def isiF (G : Gx) : List D → Option D
  | [d, c] => match tgOf G d with
    | some t => match clsOf c with
      | some u => (G.isa t u).map .bl
      | none => match c with
        | .tup cs => match clssOf cs with
          | some us => (anyIsa G t us).map .bl
          | none => none
        | _ => none
    | none => none
  | _ => none
section
variable {G : Gx} {X : Cx} {φ : Fns} {E : XK}
theorem Aw.tyx (ok : IsaOk G) {S H : Hp} {v : V} {d : D} {t : Tg} (s : Sub G S H) (h : Aw G S H v d) (e : tgOf G d = some t) : TyE G.K H v (tgV G t) := by
  have rd : ∀ {a : Addr} {kvs : List (Key × V)}, Rd H a (.dK kvs) → TyE G.K H (.ref a) (.type "dict") := fun {a kvs} h => by
    rcases h with h | ⟨o, h⟩
    · exact .x (.base (.dK h))
    · exact .x (.fDict h)
  cases d with
  | non => cases e; rw [h.non]; exact .x (.base .non)
  | bl b => cases e; rw [h.bl]; exact .x (.base (.bl _))
  | int b => cases e; rw [h.int]; exact .x (.base (.int _))
  | str b => cases e; rw [h.str.1]; exact .x (.base (.str _))
  | lst ds =>
    cases e
    obtain ⟨a, vs, rfl, h1, _⟩ := h.lst s
    exact .x (.base (.lst h1))
  | tup ds =>
    cases e
    obtain ⟨a, vs, rfl, h1, _⟩ := h.tup
    exact .x (.base (.tup (s.ext _ _ h1)))
  | dk ks ds =>
    cases e
    obtain ⟨a, kvs, rfl, h1, _⟩ := h.dk s
    exact rd h1
  | dt ks ds =>
    cases e
    rcases h with h | ⟨p, rfl, _, _, h⟩
    · cases h with
      | dT hk h1 h2 =>
        exact .x (.base (.dT (s.ext _ _ h1)))
    · cases h with
      | dT hk h1 h2 => exact .x (.base (.dT h1))
  | obj c ds =>
    simp only [tgOf] at e
    by_cases hc : G.oc c = true
    · rw [if_pos hc] at e
      cases e
      rcases h with h | ⟨p, rfl, _, _, h⟩
      · cases h with
        | obj hk h1 h2 => exact .x (ok.oc c hc H _ _ _ (s.ext _ _ h1))
      · cases h with
        | ins hk h1 h2 => exact .x (ok.oc c hc H _ _ _ h1)
    · rw [if_neg hc] at e
      cases e
  | exc c ds =>
    simp only [tgOf] at e
    by_cases hc : G.ox c = true
    · rw [if_pos hc] at e
      cases e
      rcases h with h | ⟨p, rfl, _, _, h⟩
      · cases h with
        | exc hf h1 h2 _ => exact .e (s.ext _ _ h1) (s.ext _ _ h2) (ok.ox c hc)
        | exc0 hf h1 => exact .e0 (s.ext _ _ h1) (ok.ox c hc)
      · cases h
    · rw [if_neg hc] at e
      cases e
  | _ => cases e
theorem Aw.cls {S H : Hp} {v : V} {d : D} {t : Tg} (h : Aw G S H v d) (e : clsOf d = some t) : ClsV v (tgV G t) := by
  cases d with
  | ty n =>
    cases e
    rcases h with h | ⟨_, _, _, _, h⟩
    · cases h; exact .ty n
    · cases h
  | cl k =>
    cases e
    rcases h with h | ⟨_, _, _, _, h⟩
    · cases h; exact .own _
    · cases h
  | _ => cases e
theorem Ats.clss {S : Hp} : ∀ {vs : List V} {ds : List D} {ts : List Tg}, Ats G S vs ds → clssOf ds = some ts → Paired ClsV vs (ts.map (tgV G))
  | _, _, _, .nil, e => by cases e; exact .nil
  | _, d :: ds, ts, .cons a t, e => by
    simp only [clssOf] at e
    cases e1 : clsOf d with
    | none => rw [e1] at e; cases e
    | some u =>
      cases e2 : clssOf ds with
      | none => rw [e1, e2] at e; cases e
      | some us =>
        rw [e1, e2] at e
        cases e
        exact .cons (Aw.cls (H := S) (.inl a) e1) (Ats.clss t e2)
theorem anyIsa_ok (ok : IsaOk G) {t : Tg} : ∀ {us : List Tg} {b : Bool}, anyIsa G t us = some b → PySem.W.kitAny G.K (tgV G t) (us.map (tgV G)) = some b
  | [], _, e => by cases e; rfl
  | c :: r, b, e => by
    rw [anyIsa] at e
    rw [List.map_cons, PySem.W.kitAny]
    cases q : G.isa t c with
    | none => rw [q] at e; cases e
    | some k =>
      rw [q] at e
      rw [ok.isa _ _ _ q]
      cases k with
      | true => cases e; rfl
      | false => exact anyIsa_ok ok e
theorem opc_isi (ok : IsaOk G) : OpC G (fun xs H Q => rIsiE G.K xs H Q ∨ rIsiTE G.K xs H Q) (isiF G) := by
  intro S H p vs ds d Q s g aa e q
  unfold isiF at e
  split at e
  · rename_i x c
    obtain ⟨v, w, rfl, av, aw⟩ := aws2 aa
    cases et : tgOf G x with
    | none => rw [et] at e; cases e
    | some t =>
      rw [et] at e
      simp only at e
      have ty := av.tyx ok s et
      cases ec : clsOf c with
      | some u =>
        rw [ec] at e
        simp only at e
        cases eb : G.isa t u with
        | none => rw [eb] at e; cases e
        | some b =>
          rw [eb] at e
          cases e
          exact .inl ⟨v, w, _, _, b, rfl, aw.cls ec, ty, ok.isa _ _ _ eb, sameF s (.bl _) q⟩
      | none =>
        rw [ec] at e
        simp only at e
        cases c with
        | tup cs =>
          simp only at e
          cases es : clssOf cs with
          | none => rw [es] at e; cases e
          | some us =>
            rw [es] at e
            simp only at e
            cases eb : anyIsa G t us with
            | none => rw [eb] at e; cases e
            | some b =>
              rw [eb] at e
              cases e
              obtain ⟨tp, ws, rfl, h1, h2⟩ := aw.tup
              exact .inr ⟨v, tp, ws, _, _, b, rfl, s.ext _ _ h1, h2.clss es, ty, anyIsa_ok ok eb, sameF s (.bl _) q⟩
        | _ => cases e
  · cases e
/-- str(i) -/
def strF : List D → Option D
  | [.int i] => if i.natAbs.log2 < 1920 ∧ sOk (toString i) = true then some (.str (toString i)) else none
  | _ => none
theorem opc_str : OpC G (fun xs H Q => ∃ i, xs = [.int i] ∧ i.natAbs.log2 < 1920 ∧ Q (.str (toString i)) H) strF := by
  intro S H p vs ds d Q s g aa e q
  unfold strF at e
  split at e
  · split at e
    · rename_i i hc
      cases e
      obtain ⟨v, rfl, a⟩ := aws1 aa
      exact ⟨_, by rw [a.int], hc.1, sameF s (.str _ hc.2) q⟩
    · cases e
  · cases e
/-! ### a built-in's call -/
def dBlt (f : List D → Option D) (a : DA) : DE := fun φ ρ => M.bind (a φ ρ) fun ds => M.of (f ds)
theorem bltCore {r : List V → Hp → VK → Prop} {f : List D → Option D} {a : DA} {ta : TA} (o : OpC G r f) (ha : ∀ H0 S H σ ρ p Q, Rep G H0 S H σ ρ → Sub G S H → RegOk G H p → Pst G E (relWs G) S H Q (a φ ρ p) → ta σ H Q)
    (H0 S H : Hp) (σ : L2.St) (ρ : Env) (p : PS) (Q : VK) (rr : Rep G H0 S H σ ρ) (s : Sub G S H) (g : RegOk G H p) (q : Pst G E (relF G H) S H Q (dBlt f a φ ρ p)) : tCB r ta σ H Q := by
  unfold dBlt at q
  refine ha H0 S H σ ρ p _ rr s g (q.bind fun ds p1 vs S1 H1 f1 g1 a1 q1 => ?_)
  obtain ⟨d, e, k⟩ := q1.of f1.sub g1
  exact o S1 H1 p1 vs ds d Q f1.sub g1 a1 e fun v S' H' fp rf => k v S' H' fp (rf.fn f1.dom)
theorem sf_bltB {id : String} {x : Str} {r : List V → Hp → VK → Prop} {f : List D → Option D} {a : DA} {e : Expr} {es : List Expr} {p pos : Pos} (hc : CallR X (.builtin id) r) (o : OpC G r f) (hg : Gl X x) (hm : X.mg x = none) (hv : bootBuiltins x = some (.builtin id)) (hn : x ≠ "__name__") (hdb : (x == ("__debug__" : Str)) = false)
    (ha : SAW G X φ E a (e :: es)) (he : starEach (e :: es) X.env = (false, eval e X.env) :: starEach es X.env) (hpl : (backTo pos (starEach es X.env)).any (·.1) = false) : SF G X φ E (dBlt f a) (.Call (.Name x p) (e :: es) [] pos) := by
  obtain ⟨ta, pa, ha⟩ := ha
  exact ⟨_, pe_callB hc hg hm hv pa hn hdb he hpl, fun H0 S H σ ρ p Q r s g q => bltCore o ha H0 S H σ ρ p Q r s g q⟩
theorem sf_bltT {T : String} {x : Str} {r : List V → Hp → VK → Prop} {f : List D → Option D} {a : DA} {e : Expr} {es : List Expr} {p pos : Pos} (hc : CallR X (.type T) r) (o : OpC G r f) (hg : Gl X x) (hm : X.mg x = none) (hv : bootBuiltins x = some (.type T)) (hn : x ≠ "__name__") (hdb : (x == ("__debug__" : Str)) = false)
    (ha : SAW G X φ E a (e :: es)) (he : starEach (e :: es) X.env = (false, eval e X.env) :: starEach es X.env) (hpl : (backTo pos (starEach es X.env)).any (·.1) = false) : SF G X φ E (dBlt f a) (.Call (.Name x p) (e :: es) [] pos) := by
  obtain ⟨ta, pa, ha⟩ := ha
  exact ⟨_, pe_callTy hc hg hm hv pa hn hdb he hpl, fun H0 S H σ ρ p Q r s g q => bltCore o ha H0 S H σ ρ p Q r s g q⟩
/-- a built-in type as a value -/
theorem se_ty {x : Str} {n : String} {pos : Pos} (hg : Gl X x) (hm : X.mg x = none) (hv : bootBuiltins x = some (.type n)) (hn : x ≠ "__name__") (hd : (x == ("__debug__" : Str)) = false) : SE G X φ E (dC (.ty n)) (.Name x pos) :=
  se_tC (pe_bltn (v := .ty n) hg hm hv rfl hn hd) fun _ => .ty n
end
end Z
namespace Z
open PySem PySem.Spec PyProof.Rows L2

/-! ### statements -/
inductive RS where
  | nx (ρ : Env) (p : PS) | rt (d : D) (p : PS) | exc (c : Nat) (fs : List D) (p : PS) | bad
abbrev MS := PS → RS
abbrev DS := Fns → Env → MS
def MS.seq (m : MS) (k : Env → MS) : MS := fun p => match m p with
  | .nx ρ p' => k ρ p'
  | .rt d p' => .rt d p'
  | .exc c fs p' => .exc c fs p'
  | .bad => .bad
def MS.let {α : Type} (m : M α) (k : α → MS) : MS := fun p => match m p with
  | .ok a p' => k a p'
  | .exc c fs p' => .exc c fs p'
  | .bad => .bad
section
variable (G : Gx) (E : XK) (fr : Bool) (S0 H0 S : Hp) (D : Ends)
/-- what is wanted behind a statement: anchored at the function's entry (S0, H0); S grows -/
def PstS : RS → Prop
  | .nx ρ p' => ∀ σ' S' H', Rep G H0 S' H' σ' ρ → Fn G S0 H0 S' H' → RegOk G H' p' → Ext S S' → D.nx σ' H'
  | .rt d p' => ∀ v S' H', Fn G S0 H0 S' H' → RegOk G H' p' → relR G fr H0 S' H' v d → D.rt v H'
  | .exc c fs p' => ∀ cls od S' H', Fn G S0 H0 S' H' → RegOk G H' p' → ExAt G S' H' cls od c fs → E cls od H'
  | .bad => False
end
section
variable {G : Gx} {E : XK} {fr : Bool} {S0 H0 S S' H : Hp} {D : Ends}
theorem PstS.mono {r : RS} (h : PstS G E fr S0 H0 S D r) (e : Ext S S') : PstS G E fr S0 H0 S' D r := by
  cases r with
  | nx ρ p => exact fun σ S2 H2 r f g x => h σ S2 H2 r f g (e.trans x)
  | rt d p => exact h
  | exc c fs p => exact h
  | bad => exact h
/-- an expression, then the rest -/
theorem PstS.let {α β : Type} {rel : Rl β α} {m : M α} {k : α → MS} {p : PS} {Q : β → Hp → Prop} (f0 : Fn G S0 H0 S H) (h : PstS G E fr S0 H0 S D (MS.let m k p))
    (q : ∀ d p' v S' H', Fn G S H S' H' → RegOk G H' p' → rel S' H' v d → PstS G E fr S0 H0 S' D (k d p') → Q v H') : Pst G E rel S H Q (m p) := by
  unfold MS.let at h
  cases e : m p with
  | ok d p' =>
    rw [e] at h
    exact fun v S' H' f g r => q d p' v S' H' f g r (h.mono f.ext)
  | exc c fs p' =>
    rw [e] at h
    exact fun cls od S' H' f g r => h cls od S' H' (f0.trans f) g r
  | bad => rw [e] at h; exact h
/-- a statement, then the rest -/
theorem PstS.seq {m : MS} {k : Env → MS} {p : PS} {D' : Ends} (h : PstS G E fr S0 H0 S D (MS.seq m k p)) (hr : D'.rt = D.rt)
    (q : ∀ ρ p' σ' S' H', Rep G H0 S' H' σ' ρ → Fn G S0 H0 S' H' → RegOk G H' p' → Ext S S' → PstS G E fr S0 H0 S' D (k ρ p') → D'.nx σ' H') : PstS G E fr S0 H0 S D' (m p) := by
  unfold MS.seq at h
  cases e : m p with
  | nx ρ p' =>
    rw [e] at h
    exact fun σ' S' H' r f g x => q ρ p' σ' S' H' r f g x (h.mono x)
  | rt d p' =>
    rw [e] at h
    intro v S' H' f g a
    rw [hr]
    exact h v S' H' f g a
  | exc c fs p' => rw [e] at h; exact h
  | bad => rw [e] at h; exact h
end
section
variable (G : Gx) (X : Cx) (φ : Fns) (E : XK) (fr : Bool)
def SS (den : DS) (st : Stmt) : Prop := ∃ t : TS, L2.PS X st t ∧ ∀ S0 H0 S H σ ρ p D, Rep G H0 S H σ ρ → Fn G S0 H0 S H → RegOk G H p → PstS G E fr S0 H0 S D (den φ ρ p) → t D σ H
def SSs (den : DS) (st : List Stmt) : Prop := ∃ t : TS, PSs X st t ∧ ∀ S0 H0 S H σ ρ p D, Rep G H0 S H σ ρ → Fn G S0 H0 S H → RegOk G H p → PstS G E fr S0 H0 S D (den φ ρ p) → t D σ H
/-- a name that takes an expression's value -/
def SN (i : Nat) (den : DE) (st : Stmt) : Prop := ∃ t : TE, L2.PS X st (tAsg t (gName i)) ∧ ∀ H0 S H σ ρ p Q, Rep G H0 S H σ ρ → Sub G S H → RegOk G H p → Pst G E (relF G H) S H Q (den φ ρ p) → t σ H Q
end
section
variable {G : Gx} {X : Cx} {φ : Fns} {E : XK} {fr : Bool}
def dsNil : DS := fun _ ρ p => .nx ρ p
def dsCons (a b : DS) : DS := fun φ ρ => MS.seq (a φ ρ) fun ρ' => b φ ρ'
theorem ss_nil : SSs G X φ E fr dsNil [] := ⟨tNext, pss_nil, fun S0 H0 S H σ ρ p D r f g q => q σ S H r f g (Ext.refl _)⟩
theorem ss_cons {a b : DS} {st : Stmt} {rest : List Stmt} (ha : SS G X φ E fr a st) (hb : SSs G X φ E fr b rest) : SSs G X φ E fr (dsCons a b) (st :: rest) := by
  obtain ⟨ta, pa, ha⟩ := ha
  obtain ⟨tb, pb, hb⟩ := hb
  exact ⟨_, pss_cons pa pb, fun S0 H0 S H σ ρ p D r f g q => ha S0 H0 S H σ ρ p _ r f g (q.seq rfl fun ρ' p' σ' S' H' r' f' g' x q' => hb S0 H0 S' H' σ' ρ' p' D r' f' g' q')⟩
theorem ss_pass {pos : Pos} : SS G X φ E fr dsNil (.Pass pos) := ⟨tNext, ps_pass, fun S0 H0 S H σ ρ p D r f g q => q σ S H r f g (Ext.refl _)⟩
/-- what the model or the proof does not take -/
def dsBad : DS := fun _ _ _ => .bad
theorem ss_bad {st : Stmt} : SS G X φ E fr dsBad st := ⟨tNever, ps_never, fun S0 H0 S H σ ρ p D r f g q => q.elim⟩
/-- slots are put to what stays -/
def frz (ρ : Env) : List Nat → Env
  | [] => ρ
  | i :: r => match ρ[i]? with
    | some (.ow d) => if ato d then frz ρ r else frz (ρ.set i (.fz d)) r
    | _ => frz ρ r
theorem Fn.put {S0 H0 S H : Hp} {p : Addr} {o : HO} (f : Fn G S0 H0 S H) (h : H p = some o) (h0 : ¬ Nn H0 p) (sp : S p = none) (n1 : p ≠ G.r1) (n2 : p ≠ G.r2) (nt : NTb o) : Fn G S0 H0 (upd S p o) H :=
  ⟨f.ext.trans (Ext.new sp), f.sub.put h n1 n2 nt, f.keep, f.dom, fun a ha => by
    have : a ≠ p := fun z => h0 (by rw [← z]; exact ha)
    rw [upd_ne this]
    exact f.new a ha⟩
theorem Rep.frz1 {H0 S0 S H : Hp} {σ : L2.St} {ρ : Env} {i : Nat} {d : D} (r : Rep G H0 S H σ ρ) (f : Fn G S0 H0 S H) (hi : ρ[i]? = some (.ow d)) (hd : ato d = false) :
    ∃ S', Ext S S' ∧ Fn G S0 H0 S' H ∧ Rep G H0 S' H σ (ρ.set i (.fz d)) := by
  obtain ⟨p, h1, h2, h3, h4, h5, h6⟩ := r.ow i d hi
  obtain ⟨o, e1, nt, a⟩ := h6.at h3 hd
  have ex : Ext S (upd S p o) := Ext.new h3
  refine ⟨upd S p o, ex, f.put e1 h2 h3 h4 h5 nt, ?_⟩
  have r2 : Rep G H0 (upd S p o) H σ (ρ.set i .no) := by
    refine ⟨by rw [List.length_set]; exact r.len, fun j e h => ?_, fun j e h => ?_, fun j k d1 d2 q h1 h2 h3 h4 => ?_, fun j c ds q h1 h2 => ?_⟩
    · rcases set_some h with ⟨rfl, e1⟩ | ⟨n, h⟩
      · cases e1
      · obtain ⟨w, h1, h2⟩ := r.fz j e h
        exact ⟨w, h1, h2.mono ex⟩
    · rcases set_some h with ⟨rfl, e1⟩ | ⟨n, h⟩
      · cases e1
      · obtain ⟨q, k1, k2, k3, k4, k5, k6⟩ := r.ow j e h
        have : q ≠ p := fun z => by
          subst z
          exact n (r.apart j i e d q h hi k1 h1)
        exact ⟨q, k1, k2, by rw [upd_ne this]; exact k3, k4, k5, k6.mono ex fun o _ h => h⟩
    · rcases set_some h1 with ⟨rfl, e1⟩ | ⟨n1, h1⟩
      · cases e1
      · rcases set_some h2 with ⟨rfl, e1⟩ | ⟨n2, h2⟩
        · cases e1
        · exact r.apart j k d1 d2 q h1 h2 h3 h4
    · rcases set_some h1 with ⟨rfl, e1⟩ | ⟨n1, h1⟩
      · cases e1
      · exact r.ob j c ds q h1 h2
  have r3 := r2.set_fz a i
  have e2 : (ρ.set i Sl.no).set i (.fz d) = ρ.set i (.fz d) := List.set_set ..
  have e3 : σ.set i (some (V.ref p)) = σ := by
    refine List.ext_getElem? fun j => ?_
    by_cases z : i = j
    · subst z
      have hl := r.lt hi
      rw [List.getElem?_set_self hl, h1]
    · rw [List.getElem?_set_ne z]
  rw [e2, e3] at r3
  exact r3
theorem Rep.frz {H0 S0 H : Hp} {σ : L2.St} : ∀ (l : List Nat) {S : Hp} {ρ : Env}, Rep G H0 S H σ ρ → Fn G S0 H0 S H → ∃ S', Ext S S' ∧ Fn G S0 H0 S' H ∧ Rep G H0 S' H σ (Z.frz ρ l)
  | [], S, ρ, r, f => ⟨S, Ext.refl _, f, r⟩
  | i :: l, S, ρ, r, f => by
    rw [Z.frz]
    cases e : ρ[i]? with
    | none => exact Rep.frz l r f
    | some s =>
      cases s with
      | no => exact Rep.frz l r f
      | fz d => exact Rep.frz l r f
      | ow d =>
        simp only
        by_cases hd : ato d = true
        · rw [if_pos hd]
          exact Rep.frz l r f
        · rw [if_neg hd]
          obtain ⟨S1, e1, f1, r1⟩ := r.frz1 f e (by simpa using hd)
          obtain ⟨S2, e2, f2, r2⟩ := Rep.frz l r1 f1
          exact ⟨S2, e1.trans e2, f2, r2⟩
def dsFrz (l : List Nat) (a : DS) : DS := fun φ ρ p => a φ (frz ρ l) p
theorem ss_frz {l : List Nat} {a : DS} {st : Stmt} (ha : SS G X φ E fr a st) : SS G X φ E fr (dsFrz l a) st := by
  obtain ⟨t, pa, ha⟩ := ha
  refine ⟨t, pa, fun S0 H0 S H σ ρ p D r f g q => ?_⟩
  obtain ⟨S', e, f', r'⟩ := r.frz l f
  exact ha S0 H0 S' H σ _ p D r' f' g (q.mono e)
/-- x = e, e's value stays -/
def dsAsg (pt : Pat) (a : DE) : DS := fun φ ρ => MS.let (a φ ρ) fun d => match pt.bind d ρ with
  | some ρ' => fun p => .nx ρ' p
  | none => fun _ => .bad
theorem asg_core {pt : Pat} {a : DE} {t : TE} (ha : ∀ H0 S H σ ρ p Q, Rep G H0 S H σ ρ → Sub G S H → RegOk G H p → Pst G E (relA G) S H Q (a φ ρ p) → t σ H Q)
    (S0 H0 S H : Hp) (σ : L2.St) (ρ : Env) (p : PS) (D : Ends) (r : Rep G H0 S H σ ρ) (f : Fn G S0 H0 S H) (g : RegOk G H p) (q : PstS G E fr S0 H0 S D (dsAsg pt a φ ρ p)) : tAsg t (pt.rd G.K) D σ H := by
  unfold dsAsg at q
  refine ha H0 S H σ ρ p _ r f.sub g (q.let f fun d p1 v S1 H1 f1 g1 a1 q1 => ?_)
  cases e : pt.bind d ρ with
  | none => rw [e] at q1; exact q1.elim
  | some ρ' =>
    rw [e] at q1
    exact Pat.rd_ok f1.sub.ext a1 (r.mono f1) e fun σ' r' _ => q1 σ' S1 H1 r' (f.trans f1) g1 (Ext.refl _)
theorem ss_asg (hK : X.K = G.K) {pt : Pat} {tg : Expr} {a : DE} {e : Expr} {pos : Pos} (ha : SE G X φ E a e) (hg : PG X tg (pt.rd G.K)) (hs : swapsWithSole [tg] e pos.line X.env = pure false) (hw : swappedStores [tg] e X.env = pure none) (h1 : (assignEach [tg] X.env).map (·.2) = [assign tg X.env]) :
    SS G X φ E fr (dsAsg pt a) (.Assign [tg] e pos) := by
  obtain ⟨t, pa, ha⟩ := ha
  exact ⟨_, ps_asg pa hg hs hw h1, fun S0 H0 S H σ ρ p D r f g q => asg_core ha S0 H0 S H σ ρ p D r f g q⟩
/-- x = e, e's value is ours -/
def slOf (d : D) : Sl := if ato d then .fz d else .ow d
def dsOwn (i : Nat) (a : DE) : DS := fun φ ρ => MS.let (a φ ρ) fun d p => .nx (ρ.set i (slOf d)) p
theorem Rep.set_rel {Hs H0 S H : Hp} {σ : L2.St} {ρ : Env} {v : V} {d : D} {i : Nat} (r : Rep G H0 S H σ ρ) (h : relF G Hs S H v d) (k0 : ∀ a, Nn H0 a → Nn Hs a) (k : ∀ (j : Nat) (e : D) (p : Addr), ρ[j]? = some (Sl.ow e) → σ[j]? = some (some (V.ref p)) → Nn Hs p) : Rep G H0 S H (σ.set i (some v)) (ρ.set i (slOf d)) := by
  rcases h with ⟨ha, h⟩ | ⟨ha, p, rfl, h0, sp, n1, n2, o⟩
  · unfold slOf
    rw [if_pos ha]
    exact r.set_fz h i
  · unfold slOf
    rw [if_neg (by simp [ha])]
    refine r.set_ow ?_ sp n1 n2 o i (fun c ds z => by subst z; cases ha) fun j e hj hr hv => h0 (k j e p hr hv)
    exact fun n => h0 (k0 p n)
theorem Rep.owd {H0 S H : Hp} {σ : L2.St} {ρ : Env} (r : Rep G H0 S H σ ρ) : ∀ (j : Nat) (e : D) (p : Addr), ρ[j]? = some (Sl.ow e) → σ[j]? = some (some (V.ref p)) → Nn H p := fun j e p h1 h2 => by
  obtain ⟨q, k1, _, _, _, _, k6⟩ := r.ow j e h1
  rw [k1] at h2
  cases h2
  exact k6.there
theorem own_core {i : Nat} {a : DE} {t : TE} (ha : ∀ H0 S H σ ρ p Q, Rep G H0 S H σ ρ → Sub G S H → RegOk G H p → Pst G E (relF G H) S H Q (a φ ρ p) → t σ H Q)
    (S0 H0 S H : Hp) (σ : L2.St) (ρ : Env) (p : PS) (D : Ends) (r : Rep G H0 S H σ ρ) (f : Fn G S0 H0 S H) (g : RegOk G H p) (q : PstS G E fr S0 H0 S D (dsOwn i a φ ρ p)) : tAsg t (gName i) D σ H := by
  unfold dsOwn at q
  refine ha H0 S H σ ρ p _ r f.sub g (q.let f fun d p1 v S1 H1 f1 g1 a1 q1 => ?_)
  exact q1 _ S1 H1 ((r.mono f1).set_rel a1 f.dom r.owd) (f.trans f1) g1 (Ext.refl _)
theorem ss_own {i : Nat} {a : DE} {st : Stmt} (ha : SN G X φ E i a st) : SS G X φ E fr (dsOwn i a) st := by
  obtain ⟨t, pa, ha⟩ := ha
  exact ⟨_, pa, fun S0 H0 S H σ ρ p D r f g q => own_core ha S0 H0 S H σ ρ p D r f g q⟩
/-- .. but put to what stays at once -/
theorem relF.pst {S H : Hp} {Q : V → Hp → Prop} {r : Res D} (q : Pst G E (relA G) S H Q r) : Pst G E (relF G H) S H Q r := by
  cases r with
  | ok d p' =>
    intro v S' H' f g' rf
    obtain ⟨S2, f2, a⟩ := rf.at (Hs := H) f
    exact q v S2 H' f2 g' a
  | exc c fs p' => exact q
  | bad => exact q
theorem ss_ownA {i : Nat} {pp : Pos} {a : DE} {st : Stmt} (ha : SN G X φ E i a st) : SS G X φ E fr (dsAsg (.nm i pp) a) st := by
  obtain ⟨t, pa, ha⟩ := ha
  exact ⟨_, pa, fun S0 H0 S H σ ρ p D r f g q => asg_core (pt := .nm i pp) (fun H0 S H σ ρ p Q r s g q => ha H0 S H σ ρ p Q r s g (relF.pst q)) S0 H0 S H σ ρ p D r f g q⟩
/-- e, its value dropped -/
def dsDrop (a : DE) : DS := fun φ ρ => MS.let (a φ ρ) fun _ p => .nx ρ p
theorem ss_drop {a : DE} {e : Expr} {pos : Pos} (ha : SE G X φ E a e) (hs : swapsWith e none pos.line X.env = pure false) : SS G X φ E fr (dsDrop a) (.Expr e pos) := by
  obtain ⟨t, pa, ha⟩ := ha
  refine ⟨_, ps_expr pa hs, fun S0 H0 S H σ ρ p D r f g q => ?_⟩
  unfold dsDrop at q
  exact ha H0 S H σ ρ p _ r f.sub g (q.let f fun d p1 v S1 H1 f1 g1 a1 q1 => q1 σ S1 H1 (r.mono f1) (f.trans f1) g1 (Ext.refl _))
/-- return e -/
def dsRet (a : DE) : DS := fun φ ρ => MS.let (a φ ρ) fun d p => .rt d p
theorem ss_ret {a : DE} {e : Expr} {pos : Pos} (ha : SR G X φ E fr a e) : SS G X φ E fr (dsRet a) (.Return (some e) pos) := by
  obtain ⟨t, pa, ha⟩ := ha
  refine ⟨_, ps_ret pa, fun S0 H0 S H σ ρ p D r f g q => ?_⟩
  unfold dsRet at q
  exact ha H0 S H σ ρ p _ r f.sub g (q.let f fun d p1 v S1 H1 f1 g1 a1 q1 => q1 v S1 H1 (f.trans f1) g1 (relR.fn a1 f.dom))
def dsRetN : DS := fun _ _ p => .rt .non p
theorem ss_retN {pos : Pos} : SS G X φ E fr dsRetN (.Return none pos) := by
  refine ⟨_, ps_retN, fun S0 H0 S H σ ρ p D r f g q => q .non S H f g ?_⟩
  cases fr with
  | false => exact .non
  | true => exact .inl ⟨rfl, .non⟩
/-- if -/
def dsIf (c : DT) (a b : DS) : DS := fun φ ρ => MS.let (c φ ρ) fun x => if x then a φ ρ else b φ ρ
theorem ss_if {c : DT} {a b : DS} {ec : Expr} {ea eb : List Stmt} {pos : Pos} (hc : ST G X φ E c ec) (ha : SSs G X φ E fr a ea) (hb : SSs G X φ E fr b eb) : SS G X φ E fr (dsIf c a b) (.If ec ea eb pos) := by
  obtain ⟨tc, pc, hc⟩ := hc
  obtain ⟨ta, pa, ha⟩ := ha
  obtain ⟨tb, pb, hb⟩ := hb
  refine ⟨_, ps_if pc pa pb, fun S0 H0 S H σ ρ p D r f g q => ?_⟩
  unfold dsIf at q
  refine hc H0 S H σ ρ p _ r f.sub g (q.let f fun x p1 b S1 H1 f1 g1 e q1 => ?_)
  have e : b = x := e
  subst e
  cases b with
  | true => exact ha S0 H0 S1 H1 σ ρ p1 D (r.mono f1) (f.trans f1) g1 q1
  | false => exact hb S0 H0 S1 H1 σ ρ p1 D (r.mono f1) (f.trans f1) g1 q1
/-- for -/
def forD (pt : Pat) (bd : Env → MS) : List D → Env → MS
  | [], ρ => fun p => .nx ρ p
  | d :: ds, ρ => match pt.bind d ρ with
    | some ρ' => MS.seq (bd ρ') (forD pt bd ds)
    | none => fun _ => .bad
def dsFor (it : DI) (pt : Pat) (b : DS) : DS := fun φ ρ => MS.let (it φ ρ) fun items => forD pt (b φ) items ρ
theorem ss_for (hp : PassesOwn (model X.prog X.w) X.A X.env X.xe) (hc : X.calm = true) {it : DI} {pt : Pat} {b : DS} {tg iter : Expr} {body : List Stmt} {pos : Pos} (hi : SI G X φ E it tg iter) (hg : PG X tg (pt.rd G.K)) (hb : SSs G X φ E fr b body) (hs : ∀ x, foldedSetIterable iter X.env x = pure x) :
    SS G X φ E fr (dsFor it pt b) (.For tg iter body [] pos) := by
  obtain ⟨ti, pi, hi⟩ := hi
  obtain ⟨tb, pb, hb⟩ := hb
  refine ⟨_, ps_for hp hc pi hg pb hs, fun S0 H0 S H σ ρ p D r f g q => ?_⟩
  unfold dsFor at q
  refine hi H0 S H σ ρ p _ r f.sub g (q.let f fun items p1 J S1 H1 f1 g1 wk q1 => ?_)
  obtain ⟨Gd, Y, w, k1, k2⟩ := wk
  refine for_it w (fun i σ Hc => ∃ S2 ρ2 p2, Rep G H0 S2 Hc σ ρ2 ∧ Fn G S0 H0 S2 Hc ∧ RegOk G Hc p2 ∧ Ext S1 S2 ∧ PstS G E fr S0 H0 S2 D (forD pt (b φ) (items.drop i) ρ2 p2)) ?_ ?_ ?_ ?_
  · exact ⟨S1, ρ, p1, r.mono f1, f.trans f1, g1, Ext.refl _, q1⟩
  · intro i σ2 Hc hi ⟨S2, ρ2, p2, r2, f2, g2, x2, _⟩
    exact k1 Hc (x2.trans f2.sub.ext)
  · intro i x σ2 Hc Hc' hi ⟨S2, ρ2, p2, r2, f2, g2, x2, q2⟩ y
    obtain ⟨d, hd⟩ : ∃ d, items[i]? = some d := ⟨items[i], List.getElem?_eq_getElem hi⟩
    obtain ⟨S3, fp, ax⟩ := k2 i Hc x Hc' S2 p2 d f2.sub x2 g2 (k1 Hc (x2.trans f2.sub.ext)) y hd
    have edrop : items.drop i = d :: items.drop (i + 1) := by
      rw [List.drop_eq_getElem_cons hi]
      congr 1
      have := List.getElem?_eq_getElem hi
      rw [this] at hd
      exact Option.some.inj hd
    rw [edrop, forD] at q2
    cases eb : pt.bind d ρ2 with
    | none => rw [eb] at q2; exact q2.elim
    | some ρ' =>
      rw [eb] at q2
      simp only at q2
      refine Pat.rd_ok fp.sub.ext ax (r2.mono fp.fn) eb fun σ3 r3 _ => ?_
      refine hb S0 H0 S3 Hc' σ3 ρ' p2 _ r3 (f2.trans fp.fn) (fp.reg g2) ((q2.mono fp.ext).seq rfl fun ρ4 p4 σ4 S4 H4 r4 f4 g4 x4 q4 => ?_)
      exact ⟨S4, ρ4, p4, r4, f4, g4, (x2.trans fp.ext).trans x4, q4⟩
  · intro σ2 Hc ⟨S2, ρ2, p2, r2, f2, g2, x2, q2⟩
    rw [List.drop_length, forD] at q2
    exact q2 σ2 S2 Hc r2 f2 g2 (Ext.refl _)
/-- while -/
def whileD (c : Env → M Bool) (b : Env → MS) : Nat → Env → MS
  | 0, _ => fun _ => .bad
  | n + 1, ρ => MS.let (c ρ) fun x => if x then MS.seq (b ρ) (whileD c b n) else fun p => .nx ρ p
def dsWhile (n : Nat) (c : DT) (b : DS) : DS := fun φ ρ => whileD (c φ) (b φ) n ρ
theorem ss_while (hp : PassesOwn (model X.prog X.w) X.A X.env X.xe) {n : Nat} {c : DT} {b : DS} {ec : Expr} {body : List Stmt} {pos : Pos} (hc : ST G X φ E c ec) (hb : SSs G X φ E fr b body) : SS G X φ E fr (dsWhile n c b) (.While ec body [] pos) := by
  obtain ⟨tc, pc, hc⟩ := hc
  obtain ⟨tb, pb, hb⟩ := hb
  refine ⟨_, ps_while hp pc pb, fun S0 H0 S H σ ρ p D r f g q => ?_⟩
  refine ⟨fun m σ Hc => ∃ S2 ρ2 p2, Rep G H0 S2 Hc σ ρ2 ∧ Fn G S0 H0 S2 Hc ∧ RegOk G Hc p2 ∧ PstS G E fr S0 H0 S2 D (whileD (c φ) (b φ) m ρ2 p2), ⟨n, S, ρ, p, r, f, g, q⟩, ?_⟩
  intro m σ2 Hc ⟨S2, ρ2, p2, r2, f2, g2, q2⟩
  cases m with
  | zero => exact q2.elim
  | succ m =>
    rw [whileD] at q2
    refine hc H0 S2 Hc σ2 ρ2 p2 _ r2 f2.sub g2 (q2.let f2 fun x p3 bb S3 H3 f3 g3 e q3 => ?_)
    have e : bb = x := e
    subst e
    cases bb with
    | true =>
      simp only [if_true] at q3 ⊢
      refine ⟨fun σ4 H4 => ∃ S4 ρ4 p4, Rep G H0 S4 H4 σ4 ρ4 ∧ Fn G S0 H0 S4 H4 ∧ RegOk G H4 p4 ∧ PstS G E fr S0 H0 S4 D (whileD (c φ) (b φ) m ρ4 p4), fun σ4 H4 h4 => ⟨m, Nat.lt_succ_self m, h4⟩, ?_⟩
      exact hb S0 H0 S3 H3 σ2 ρ2 p3 _ (r2.mono f3) (f2.trans f3) g3 (q3.seq rfl fun ρ4 p4 σ4 S4 H4 r4 f4 g4 x4 q4 => ⟨S4, ρ4, p4, r4, f4, g4, q4⟩)
    | false =>
      rw [if_neg (by simp)] at q3 ⊢
      exact q3 σ2 S3 H3 (r2.mono f3) (f2.trans f3) g3 (Ext.refl _)
end
end Z
namespace Z
open PySem PySem.Spec PyProof.Rows L2
section
variable {G : Gx} {X : Cx} {φ : Fns} {E : XK} {fr : Bool}
/-! ### our own objects, changed -/
theorem Rep.upd {H0 S H : Hp} {σ : L2.St} {ρ : Env} {i : Nat} {d d' : D} {p : Addr} {o : HO} (r : Rep G H0 S H σ ρ) (hi : ρ[i]? = some (.ow d)) (hs : σ[i]? = some (some (V.ref p))) (h : Own G S (upd H p o) p d') (hob : ∀ c ds, d' = .obj c ds → ∃ c' ds', d = .obj c' ds' := by intro _ _ z; cases z) : Rep G H0 S (upd H p o) σ (ρ.set i (.ow d')) := by
  obtain ⟨q, k1, k2, k3, k4, k5, k6⟩ := r.ow i d hi
  rw [hs] at k1
  cases k1
  refine ⟨by rw [List.length_set]; exact r.len, fun j e h => ?_, fun j e h' => ?_, fun j k d1 d2 q h1 h2 h3 h4 => ?_, fun j c ds q h1 h2 => ?_⟩
  · rcases set_some h with ⟨rfl, e1⟩ | ⟨n, h⟩
    · cases e1
    · exact r.fz j e h
  · rcases set_some h' with ⟨rfl, e1⟩ | ⟨n, h'⟩
    · cases e1
      exact ⟨p, hs, k2, k3, k4, k5, h⟩
    · obtain ⟨q, z1, z2, z3, z4, z5, z6⟩ := r.ow j e h'
      have : q ≠ p := fun z => by
        subst z
        exact n (r.apart j i e d q h' hi z1 hs)
      exact ⟨q, z1, z2, z3, z4, z5, z6.mono (Ext.refl _) fun o nt e => by rw [upd_ne this]; exact e⟩
  · have st : ∀ {j : Nat} {e : D}, (ρ.set i (.ow d'))[j]? = some (.ow e) → ∃ e', ρ[j]? = some (.ow e') := fun {j e} h => by
      rcases set_some h with ⟨rfl, e1⟩ | ⟨n, h⟩
      · exact ⟨d, hi⟩
      · exact ⟨e, h⟩
    obtain ⟨e1, h1⟩ := st h1
    obtain ⟨e2, h2⟩ := st h2
    exact r.apart j k e1 e2 q h1 h2 h3 h4
  · rcases set_some h1 with ⟨rfl, e1⟩ | ⟨n1, h1⟩
    · cases e1
      obtain ⟨c', ds', e2⟩ := hob c ds rfl
      rw [e2] at hi
      exact r.ob _ c' ds' q hi h2
    · exact r.ob j c ds q h1 h2
theorem tyV_lst {K : PySem.W.Frag} {H : Hp} {p : Addr} {xs : List V} (h : H p = some (.lst xs)) : tyV K "list" (.ref p) H := .inl ⟨rfl, xs, .inl (.inl h)⟩
theorem Rep.lst {H0 S H : Hp} {σ : L2.St} {ρ : Env} {i : Nat} {ds : List D} (r : Rep G H0 S H σ ρ) (hi : ρ[i]? = some (.ow (.lst ds))) : ∃ p vs, σ[i]? = some (some (V.ref p)) ∧ H p = some (.lst vs) ∧ Ats G S vs ds ∧ ¬ Nn H0 p ∧ S p = none ∧ p ≠ G.r1 ∧ p ≠ G.r2 := by
  obtain ⟨p, k1, k2, k3, k4, k5, k6⟩ := r.ow i _ hi
  cases k6 with
  | lst h1 h2 => exact ⟨p, _, k1, h1, h2, k2, k3, k4, k5⟩
/-- an own list at a slot -/
def owL (ρ : Env) (i : Nat) : Option (List D) := match ρ[i]? with
  | some (.ow (.lst xs)) => some xs
  | _ => none
theorem owL_some {ρ : Env} {i : Nat} {xs : List D} (h : owL ρ i = some xs) : ρ[i]? = some (.ow (.lst xs)) := by
  unfold owL at h
  split at h
  · rename_i e; cases h; exact e
  · cases h
/-- l.append(e) -/
def dsApp (i : Nat) (a : DE) : DS := fun φ ρ => match owL ρ i with
  | some xs => MS.let (a φ ρ) fun d => if xs.length < 16777216 then fun p => .nx (ρ.set i (.ow (.lst (xs ++ [d])))) p else fun _ => .bad
  | _ => fun _ => .bad
structure Mth (X : Cx) (o : Expr) (m : Str) (apos cpos : Pos) (es : List Expr) : Prop where
  base : attributeBase o m X.env (eval o X.env) = eval o X.env
  few : ((backTo cpos (starEach es X.env)).all (fun x => !x.1) && (backToKw cpos (keywordEach [] X.env)).all (fun x => x.1.isSome) && decide (es.length + ([] : List Keyword).length + (if ([] : List Keyword).isEmpty then 0 else 1) < 30)) = true
  line : (apos.endLine == cpos.line) = true
  hs : ∀ e r, es = e :: r → starEach (e :: r) X.env = (false, eval e X.env) :: starEach r X.env
  pl : ∀ e r, es = e :: r → (backTo cpos (starEach r X.env)).any (·.1) = false
theorem app_core {K : PySem.W.Frag} {i : Nat} {a : DE} {te : TE} (ha : ∀ H0 S H σ ρ p Q, Rep G H0 S H σ ρ → Sub G S H → RegOk G H p → Pst G E (relA G) S H Q (a φ ρ p) → te σ H Q)
    (S0 H0 S H : Hp) (σ : L2.St) (ρ : Env) (p : PS) (D : Ends) (r : Rep G H0 S H σ ρ) (f : Fn G S0 H0 S H) (g : RegOk G H p) (q : PstS G E fr S0 H0 S D (dsApp i a φ ρ p)) : tDrop (tBM K "list" rAppend (tVar i) (tCons te tNil)) D σ H := by
  unfold dsApp at q
  cases ho : owL ρ i with
  | none => rw [ho] at q; exact q.elim
  | some ds =>
    rw [ho] at q
    have hi := owL_some ho
    simp only at q
    obtain ⟨l, vs, k1, k2, k3, k4, k5, k6, k7⟩ := r.lst hi
    refine ⟨.ref l, k1, tyV_lst k2, ?_⟩
    refine ha H0 S H σ ρ p _ r f.sub g (q.let f fun d p1 v S1 H1 f1 g1 a1 q1 => ?_)
    have h1 : H1 l = some (.lst vs) := f1.keep l _ k6 k7 (fun _ z => by cases z) k2
    have s1 : S1 l = none := by rw [f1.new l ⟨_, k2, fun _ z => by cases z⟩]; exact k5
    by_cases hl : ds.length < 16777216
    · rw [if_pos hl] at q1
      refine ⟨l, vs, v, rfl, rfl, h1, by rw [sizeLine_eq, k3.length]; exact hl, ?_⟩
      have a1 : At G S1 v d := a1
      exact q1 σ S1 _ ((r.mono f1).upd hi k1 (.lst upd_same ((k3.mono f1.ext).append (.cons a1 .nil)))) ((f.trans f1).write k4 s1) (g1.write h1 trivial k6 k7) (Ext.refl _)
    · rw [if_neg hl] at q1
      exact q1.elim
theorem ss_app (hK : X.K = G.K) {i : Nat} {x : Str} {a : DE} {e : Expr} {p1 p2 p3 pos : Pos} (hN : X.N[i]? = some x) (hv : Vis X.env.scope x) (hd : (x == ("__debug__" : Str)) = false) (hcd : (x == ("__classdict__" : Str)) = false)
    (m : Mth X (.Name x p1) "append" p2 p3 [e]) (ha : SE G X φ E a e) : SS G X φ E fr (dsApp i a) (.Expr (.Call (.Attribute (.Name x p1) "append" p2) [e] [] p3) pos) := by
  obtain ⟨t, pa, ha⟩ := ha
  refine ⟨_, ps_expr (pe_bm F.plainAttrs_list F.slot_list_append F.type_list_append mt_append (pe_var hN hv hd hcd) (pa_cons pa pa_nil (m.hs _ _ rfl)) m.base m.few m.line (m.hs _ _ rfl) (m.pl _ _ rfl)) rfl, fun S0 H0 S H σ ρ p D r f g q => app_core ha S0 H0 S H σ ρ p D r f g q⟩
/-- l.extend(e) -/
def dsExt (i : Nat) (a : DE) : DS := fun φ ρ => match owL ρ i with
  | some xs => MS.let (a φ ρ) fun d => match d with
    | .lst ys => if xs.length + ys.length ≤ 16777216 then fun p => .nx (ρ.set i (.ow (.lst (xs ++ ys)))) p else fun _ => .bad
    | _ => fun _ => .bad
  | _ => fun _ => .bad
theorem ss_ext (hK : X.K = G.K) {i : Nat} {x : Str} {a : DE} {e : Expr} {p1 p2 p3 pos : Pos} (hN : X.N[i]? = some x) (hv : Vis X.env.scope x) (hd : (x == ("__debug__" : Str)) = false) (hcd : (x == ("__classdict__" : Str)) = false)
    (m : Mth X (.Name x p1) "extend" p2 p3 [e]) (ha : SW G X φ E a e) : SS G X φ E fr (dsExt i a) (.Expr (.Call (.Attribute (.Name x p1) "extend" p2) [e] [] p3) pos) := by
  obtain ⟨t, pa, ha⟩ := ha
  refine ⟨_, ps_expr (pe_bm F.plainAttrs_list F.slot_list_extend F.type_list_extend mt_extend (pe_var hN hv hd hcd) (pa_cons pa pa_nil (m.hs _ _ rfl)) m.base m.few m.line (m.hs _ _ rfl) (m.pl _ _ rfl)) rfl, fun S0 H0 S H σ ρ p D r f g q => ?_⟩
  unfold dsExt at q
  cases ho : owL ρ i with
  | none => rw [ho] at q; exact q.elim
  | some ds =>
    rw [ho] at q
    have hi := owL_some ho
    simp only at q
    obtain ⟨l, vs, k1, k2, k3, k4, k5, k6, k7⟩ := r.lst hi
    refine ⟨.ref l, k1, tyV_lst k2, ?_⟩
    refine ha H0 S H σ ρ p _ r f.sub g (q.let f fun d p1 v S1 H1 f1 g1 a1 q1 => ?_)
    have h1 : H1 l = some (.lst vs) := f1.keep l _ k6 k7 (fun _ z => by cases z) k2
    have s1 : S1 l = none := by rw [f1.new l ⟨_, k2, fun _ z => by cases z⟩]; exact k5
    cases d with
    | lst ys =>
      simp only at q1
      obtain ⟨b, ws, rfl, e1, e2⟩ := Aw.lst f1.sub a1
      by_cases hl : ds.length + ys.length ≤ 16777216
      · rw [if_pos hl] at q1
        refine ⟨l, b, vs, ws, rfl, rfl, h1, e1, by rw [sizeLine_eq, k3.length, e2.length]; exact hl, ?_⟩
        exact q1 σ S1 _ ((r.mono f1).upd hi k1 (.lst upd_same ((k3.mono f1.ext).append e2))) ((f.trans f1).write k4 s1) (g1.write h1 trivial k6 k7) (Ext.refl _)
      · rw [if_neg hl] at q1
        exact q1.elim
    | _ => exact q1.elim
/-- the target = l.pop() -/
def dsPop (pt : Pat) (j : Nat) : DS := fun φ ρ => match owL ρ j with
  | some xs => match xs[xs.length - 1]? with
    | some d => match pt.bind d (ρ.set j (.ow (.lst xs.dropLast))) with
      | some ρ' => fun p => .nx ρ' p
      | none => fun _ => .bad
    | none => fun _ => .bad
  | _ => fun _ => .bad
theorem ss_pop (hK : X.K = G.K) {pt : Pat} {tg : Expr} {j : Nat} {x : Str} {p1 p2 p3 pos : Pos} (hN : X.N[j]? = some x) (hv : Vis X.env.scope x) (hd : (x == ("__debug__" : Str)) = false) (hcd : (x == ("__classdict__" : Str)) = false)
    (hg : PG X tg (pt.rd G.K)) (hb : attributeBase (.Name x p1) "pop" X.env (eval (.Name x p1) X.env) = eval (.Name x p1) X.env) (hl : (p2.endLine == p3.line) = true)
    (hw : swappedStores [tg] (.Call (.Attribute (.Name x p1) "pop" p2) [] [] p3) X.env = pure none) (h1 : (assignEach [tg] X.env).map (·.2) = [assign tg X.env]) :
    SS G X φ E fr (dsPop pt j) (.Assign [tg] (.Call (.Attribute (.Name x p1) "pop" p2) [] [] p3) pos) := by
  refine ⟨_, ps_asg (pe_bm0 F.plainAttrs_list F.slot_list_pop F.type_list_pop mt_pop (pe_var hN hv hd hcd) hb hl) hg rfl hw h1, fun S0 H0 S H σ ρ p D r f g q => ?_⟩
  unfold dsPop at q
  cases ho : owL ρ j with
  | none => rw [ho] at q; exact q.elim
  | some ds =>
    rw [ho] at q
    have hi := owL_some ho
    simp only at q
    obtain ⟨l, vs, k1, k2, k3, k4, k5, k6, k7⟩ := r.lst hi
    cases e : ds[ds.length - 1]? with
    | none => rw [e] at q; exact q.elim
    | some d =>
      rw [e] at q
      simp only at q
      obtain ⟨v, e1, av⟩ := k3.get e
      refine ⟨.ref l, k1, tyV_lst k2, l, vs, v, rfl, rfl, k2, by rw [k3.length]; exact e1, ?_⟩
      have r2 := r.upd (o := .lst vs.dropLast) hi k1 (.lst upd_same k3.dropLast)
      have f2 := f.write (o := .lst vs.dropLast) k4 k5
      cases eb : pt.bind d (ρ.set j (.ow (.lst ds.dropLast))) with
      | none => rw [eb] at q; exact q.elim
      | some ρ' =>
        rw [eb] at q
        exact Pat.rd_ok f2.sub.ext av r2 eb fun σ' r' _ => q σ' S _ r' f2 (g.write k2 trivial k6 k7) (Ext.refl _)
/-- the target = l.pop(i) -/
def popAt (xs : List D) (d : D) : Option (D × List D) := match d with
  | .int i => if -(2 ^ 63) ≤ i ∧ i < 2 ^ 63 then match seqIndex? i xs.length with
    | some k => match xs[k]? with
      | some y => some (y, xs.eraseIdx k)
      | none => none
    | none => none else none
  | _ => none
theorem popAt_ok {S : Hp} {vs : List V} {ds : List D} {d y : D} {ys : List D} {v : V} {H : Hp} {l : Addr} {Q : VK} (a : Ats G S vs ds) (av : At G S v d) (e : popAt ds d = some (y, ys)) (hH : H l = some (.lst vs))
    (k : ∀ w ws, At G S w y → Ats G S ws ys → Q w (upd H l (.lst ws))) : rPopAt (.ref l) [v] H Q := by
  unfold popAt at e
  split at e
  · split at e
    · rename_i i hb
      cases es : seqIndex? i ds.length with
      | none => rw [es] at e; cases e
      | some n =>
        rw [es] at e
        simp only at e
        cases ey : ds[n]? with
        | none => rw [ey] at e; cases e
        | some z =>
          rw [ey] at e
          cases e
          cases av
          obtain ⟨w, e1, aw⟩ := a.get ey
          exact ⟨l, vs, i, n, w, rfl, rfl, hH, hb.1, hb.2, by rw [a.length]; exact es, e1, k w _ aw (a.eraseIdx n)⟩
    · cases e
  · cases e
def dsPopAt (pt : Pat) (j : Nat) (a : DE) : DS := fun φ ρ => match owL ρ j with
  | some xs => MS.let (a φ ρ) fun d => match popAt xs d with
    | some (y, ys) => match pt.bind y (ρ.set j (.ow (.lst ys))) with
      | some ρ' => fun p => .nx ρ' p
      | none => fun _ => .bad
    | none => fun _ => .bad
  | _ => fun _ => .bad
theorem ss_popAt (hK : X.K = G.K) {pt : Pat} {tg : Expr} {j : Nat} {x : Str} {a : DE} {e : Expr} {p1 p2 p3 pos : Pos} (hN : X.N[j]? = some x) (hv : Vis X.env.scope x) (hd : (x == ("__debug__" : Str)) = false) (hcd : (x == ("__classdict__" : Str)) = false)
    (hg : PG X tg (pt.rd G.K)) (m : Mth X (.Name x p1) "pop" p2 p3 [e]) (ha : SE G X φ E a e)
    (hw : swappedStores [tg] (.Call (.Attribute (.Name x p1) "pop" p2) [e] [] p3) X.env = pure none) (h1 : (assignEach [tg] X.env).map (·.2) = [assign tg X.env]) :
    SS G X φ E fr (dsPopAt pt j a) (.Assign [tg] (.Call (.Attribute (.Name x p1) "pop" p2) [e] [] p3) pos) := by
  obtain ⟨t, pa, ha⟩ := ha
  refine ⟨_, ps_asg (pe_bm F.plainAttrs_list F.slot_list_pop F.type_list_pop mt_popAt (pe_var hN hv hd hcd) (pa_cons pa pa_nil (m.hs _ _ rfl)) m.base m.few m.line (m.hs _ _ rfl) (m.pl _ _ rfl)) hg rfl hw h1, fun S0 H0 S H σ ρ p D r f g q => ?_⟩
  unfold dsPopAt at q
  cases ho : owL ρ j with
  | none => rw [ho] at q; exact q.elim
  | some ds =>
    rw [ho] at q
    have hi := owL_some ho
    simp only at q
    obtain ⟨l, vs, k1, k2, k3, k4, k5, k6, k7⟩ := r.lst hi
    refine ⟨.ref l, k1, tyV_lst k2, ?_⟩
    refine ha H0 S H σ ρ p _ r f.sub g (q.let f fun d p1 v S1 H1 f1 g1 a1 q1 => ?_)
    have h1 : H1 l = some (.lst vs) := f1.keep l _ k6 k7 (fun _ z => by cases z) k2
    have s1 : S1 l = none := by rw [f1.new l ⟨_, k2, fun _ z => by cases z⟩]; exact k5
    cases ep : popAt ds d with
    | none => rw [ep] at q1; exact q1.elim
    | some yy =>
      obtain ⟨y, ys⟩ := yy
      rw [ep] at q1
      simp only at q1
      show rPopAt (.ref l) [v] H1 fun x H1 => Pat.rd G.K pt x σ H1 D.nx
      refine popAt_ok (k3.mono f1.ext) a1 ep h1 fun w ws aw aws => ?_
      have r2 := (r.mono f1).upd (o := .lst ws) hi k1 (.lst upd_same aws)
      have f2 := (f.trans f1).write (o := .lst ws) k4 s1
      cases eb : pt.bind y (ρ.set j (.ow (.lst ys))) with
      | none => rw [eb] at q1; exact q1.elim
      | some ρ' =>
        rw [eb] at q1
        exact Pat.rd_ok f2.sub.ext aw r2 eb fun σ' r' _ => q1 σ' S1 _ r' f2 (g1.write h1 trivial k6 k7) (Ext.refl _)
/-- l.append(m.pop(i)) -/
def dsAppPop (i j : Nat) (a : DE) : DS := fun φ ρ => if i = j then fun _ => .bad else match owL ρ i with
  | some xs => match owL ρ j with
    | some ys => MS.let (a φ ρ) fun d => match popAt ys d with
      | some (y, zs) => if xs.length < 16777216 then fun p => .nx ((ρ.set j (.ow (.lst zs))).set i (.ow (.lst (xs ++ [y])))) p else fun _ => .bad
      | none => fun _ => .bad
    | _ => fun _ => .bad
  | _ => fun _ => .bad
theorem ss_appPop (hK : X.K = G.K) {i j : Nat} {x y : Str} {a : DE} {e : Expr} {p1 p2 p3 p4 p5 p6 pos : Pos} (hN : X.N[i]? = some x) (hv : Vis X.env.scope x) (hd : (x == ("__debug__" : Str)) = false) (hcd : (x == ("__classdict__" : Str)) = false)
    (hN' : X.N[j]? = some y) (hv' : Vis X.env.scope y) (hd' : (y == ("__debug__" : Str)) = false) (hcd' : (y == ("__classdict__" : Str)) = false)
    (m : Mth X (.Name x p1) "append" p2 p3 [.Call (.Attribute (.Name y p4) "pop" p5) [e] [] p6]) (m' : Mth X (.Name y p4) "pop" p5 p6 [e]) (ha : SE G X φ E a e) :
    SS G X φ E fr (dsAppPop i j a) (.Expr (.Call (.Attribute (.Name x p1) "append" p2) [.Call (.Attribute (.Name y p4) "pop" p5) [e] [] p6] [] p3) pos) := by
  obtain ⟨t, pa, ha⟩ := ha
  have pp := pe_bm F.plainAttrs_list F.slot_list_pop F.type_list_pop mt_popAt (pe_var (pos := p4) hN' hv' hd' hcd') (pa_cons pa pa_nil (m'.hs _ _ rfl)) m'.base m'.few m'.line (m'.hs _ _ rfl) (m'.pl _ _ rfl)
  refine ⟨_, ps_expr (pe_bm F.plainAttrs_list F.slot_list_append F.type_list_append mt_append (pe_var hN hv hd hcd) (pa_cons pp pa_nil (m.hs _ _ rfl)) m.base m.few m.line (m.hs _ _ rfl) (m.pl _ _ rfl)) rfl, fun S0 H0 S H σ ρ p D r f g q => ?_⟩
  unfold dsAppPop at q
  by_cases hij : i = j
  · rw [if_pos hij] at q
    exact q.elim
  · rw [if_neg hij] at q
    cases ho : owL ρ i with
    | none => rw [ho] at q; exact q.elim
    | some xs =>
      rw [ho] at q
      have hi := owL_some ho
      simp only at q
      cases ho' : owL ρ j with
      | none => rw [ho'] at q; exact q.elim
      | some ys =>
        rw [ho'] at q
        have hj := owL_some ho'
        simp only at q
        obtain ⟨l, vs, k1, k2, k3, k4, k5, k6, k7⟩ := r.lst hi
        obtain ⟨n, ws, c1, c2, c3, c4, c5, c6, c7⟩ := r.lst hj
        have nl : l ≠ n := fun z => by
          subst z
          exact hij (r.apart i j _ _ l hi hj k1 c1)
        refine ⟨.ref l, k1, tyV_lst k2, .ref n, c1, tyV_lst c2, ?_⟩
        refine ha H0 S H σ ρ p _ r f.sub g (q.let f fun d p1 v S1 H1 f1 g1 a1 q1 => ?_)
        have h1 : H1 l = some (.lst vs) := f1.keep l _ k6 k7 (fun _ z => by cases z) k2
        have s1 : S1 l = none := by rw [f1.new l ⟨_, k2, fun _ z => by cases z⟩]; exact k5
        have h2 : H1 n = some (.lst ws) := f1.keep n _ c6 c7 (fun _ z => by cases z) c2
        have s2 : S1 n = none := by rw [f1.new n ⟨_, c2, fun _ z => by cases z⟩]; exact c5
        cases ep : popAt ys d with
        | none => rw [ep] at q1; exact q1.elim
        | some yy =>
          obtain ⟨y', zs⟩ := yy
          rw [ep] at q1
          simp only at q1
          by_cases hl : xs.length < 16777216
          · rw [if_pos hl] at q1
            show rPopAt (.ref n) [v] H1 fun x H2 => rAppend (.ref l) [x] H2 fun _ H3 => D.nx σ H3
            refine popAt_ok (c3.mono f1.ext) a1 ep h2 fun w us aw aus => ?_
            have r2 := (r.mono f1).upd (o := .lst us) hj c1 (.lst upd_same aus)
            have f2 := (f.trans f1).write (o := .lst us) c4 s2
            have g2 := g1.write (o' := .lst us) h2 trivial c6 c7
            have h3 : (upd H1 n (.lst us)) l = some (.lst vs) := by rw [upd_ne nl]; exact h1
            refine ⟨l, vs, w, rfl, rfl, h3, by rw [sizeLine_eq, k3.length]; exact hl, ?_⟩
            have hi2 : (ρ.set j (.ow (.lst zs)))[i]? = some (.ow (.lst xs)) := by rw [List.getElem?_set_ne (Ne.symm hij)]; exact hi
            exact q1 σ S1 _ (r2.upd hi2 k1 (.lst upd_same ((k3.mono f1.ext).append (.cons aw .nil)))) (f2.write k4 s1) (g2.write h3 trivial k6 k7) (Ext.refl _)
          · rw [if_neg hl] at q1
            exact q1.elim
end
end Z
namespace Z
open PySem PySem.Spec PyProof.Rows L2
/-! ### x[i] = e -/
section
variable {κ : Type} [DecidableEq κ]
def hasK (ks : List κ) (k : κ) : Bool := ks.any fun z => decide (z = k)
def putKs (ks : List κ) (k : κ) : List κ := if hasK ks k then ks else ks ++ [k]
def repV : List κ → List D → κ → D → List D
  | k' :: ks, v :: vs, k, d => (if k' = k then d else v) :: repV ks vs k d
  | _, _, _, _ => []
def putV (ks : List κ) (vs : List D) (k : κ) (d : D) : List D := if hasK ks k then repV ks vs k d else vs ++ [d]
variable {G : Gx} {S : Hp}
theorem put_ok {kvs : List (κ × V)} {ds : List D} {k : κ} {v : V} {d : D} (a : Ats G S (kvs.map (·.2)) ds) (av : At G S v d) : (putK kvs k v).map (·.1) = putKs (kvs.map (·.1)) k ∧ Ats G S ((putK kvs k v).map (·.2)) (putV (kvs.map (·.1)) ds k d) := by
  have e1 : hasK (kvs.map (·.1)) k = kvs.any fun kv => decide (kv.1 = k) := by unfold hasK; rw [List.any_map]; rfl
  unfold putK putKs putV
  rw [e1]
  by_cases h : (kvs.any fun kv => decide (kv.1 = k)) = true
  · rw [if_pos h, if_pos h, if_pos h]
    refine ⟨?_, ?_⟩
    · rw [List.map_map]
      apply List.map_congr_left
      intro p _
      show (if p.1 = k then (p.1, v) else p).1 = p.1
      split <;> rfl
    · clear h e1
      induction kvs generalizing ds with
      | nil => cases a; exact .nil
      | cons p r ih =>
        cases a with
        | cons a t =>
          rw [List.map_cons, List.map_cons, List.map_cons, repV]
          refine .cons ?_ (ih t)
          by_cases c : p.1 = k
          · rw [if_pos c, if_pos c]; exact av
          · rw [if_neg c, if_neg c]; exact a
  · rw [if_neg h, if_neg h, if_neg h, List.map_append, List.map_append]
    exact ⟨rfl, a.append (.cons av .nil)⟩
theorem putK_mem {kvs : List (κ × V)} {k : κ} {v : V} {q : κ × V} (h : q ∈ putK kvs k v) : q.1 = k ∨ ∃ z ∈ kvs, z.1 = q.1 := by
  unfold putK at h
  split at h
  · obtain ⟨z, hz, rfl⟩ := List.mem_map.mp h
    refine .inr ⟨z, hz, ?_⟩
    show z.1 = (if z.1 = k then (z.1, v) else z).1
    split <;> rfl
  · rcases List.mem_append.mp h with h | h
    · exact .inr ⟨q, h, rfl⟩
    · rw [List.mem_singleton.mp h]; exact .inl rfl
end
/-- an own thing at a slot -/
def owD (ρ : Env) (i : Nat) : Option D := match ρ[i]? with
  | some (.ow d) => some d
  | _ => none
theorem owD_some {ρ : Env} {i : Nat} {d : D} (h : owD ρ i = some d) : ρ[i]? = some (.ow d) := by
  unfold owD at h
  split at h
  · rename_i e; cases h; exact e
  · cases h
/-- what a store makes of it -/
def putF (c i v : D) : Option D := match c with
  | .lst xs => match i with
    | .int k => match ixN xs.length k with
      | some j => some (.lst (xs.set j v))
      | none => none
    | _ => none
  | .dk ks vs => match keyD i with
    | some k => if ks.length < 16777216 then some (.dk (putKs ks k) (putV ks vs k v)) else none
    | none => none
  | .dt ks vs => match i with
    | .tup xs => match keysD xs with
      | some k => if ks.length < 16777216 then some (.dt (putKs ks k) (putV ks vs k v)) else none
      | none => none
    | _ => none
  | _ => none
def dsPut (j : Nat) (ix a : DE) : DS := fun φ ρ => match owD ρ j with
  | some c => MS.let (a φ ρ) fun v => MS.let (ix φ ρ) fun i => match putF c i v with
    | some c' => fun p => .nx (ρ.set j (.ow c')) p
    | none => fun _ => .bad
  | none => fun _ => .bad
section
variable {G : Gx} {X : Cx} {φ : Fns} {E : XK} {fr : Bool}
theorem PS.or {st : Stmt} {t u : TS} (h : L2.PS X st t) (h' : L2.PS X st u) : L2.PS X st (fun D σ H => t D σ H ∨ u D σ H) := ⟨fun pins s σ H D I q => q.elim (h.run pins s σ H D I) (h'.run pins s σ H D I)⟩
theorem Own.dk {S H : Hp} {a : Addr} {ks : List Key} {ds : List D} (h : Own G S H a (.dk ks ds)) : ∃ kvs : List (Key × V), H a = some (.dK kvs) ∧ ks = kvs.map (·.1) ∧ Ats G S (kvs.map (·.2)) ds ∧ ∀ p ∈ kvs, kOk p.1 = true := by
  cases h with
  | dK hk h1 h2 => exact ⟨_, h1, rfl, h2, hk⟩
theorem Own.dt {S H : Hp} {a : Addr} {ks : List (List Key)} {ds : List D} (h : Own G S H a (.dt ks ds)) : ∃ kvs : List (List Key × V), H a = some (.dT kvs) ∧ ks = kvs.map (·.1) ∧ Ats G S (kvs.map (·.2)) ds ∧ ∀ p ∈ kvs, ∀ k ∈ p.1, kOk k = true := by
  cases h with
  | dT hk h1 h2 => exact ⟨_, h1, rfl, h2, hk⟩
theorem ss_put (hK : X.K = G.K) (hu : X.A.units + 1 < cLine) {j : Nat} {x : Str} {a ix : DE} {e ei : Expr} {p1 p2 pos : Pos} (hN : X.N[j]? = some x) (hv : Vis X.env.scope x) (hd : (x == ("__debug__" : Str)) = false) (hcd : (x == ("__classdict__" : Str)) = false)
    (ha : SE G X φ E a e) (hi : SE G X φ E ix ei) (hsl : NoSl ei) (hs : swapsWith e (some (.Subscript (.Name x p1) ei p2)) pos.line X.env = pure false)
    (hass : ∀ v, assign (.Subscript (.Name x p1) ei p2) X.env v = (do
      let ov ← holding [v] (eval (.Name x p1) X.env)
      let iv ← holding [v, ov] (eval ei X.env)
      standAt p2
      holding [v, ov, iv] (setItem ov iv v)
      release [v, ov, iv] []))
    (hw : swappedStores [.Subscript (.Name x p1) ei p2] e X.env = pure none) :
    SS G X φ E fr (dsPut j ix a) (.Assign [.Subscript (.Name x p1) ei p2] e pos) := by
  obtain ⟨ta, pa, ha⟩ := ha
  obtain ⟨ti, pi, hi⟩ := hi
  have pv := pe_var (pos := p1) hN hv hd hcd
  have q1 := ps_asg (pos := pos) pa (pg_sub pv pi set_list hass) hs hw rfl
  have q2 := ps_dput (pos := pos) hu pv pi pa hs
  refine ⟨_, PS.or q1 q2, fun S0 H0 S H σ ρ p D r f g q => ?_⟩
  unfold dsPut at q
  cases ow : owD ρ j with
  | none => rw [ow] at q; exact q.elim
  | some c =>
    rw [ow] at q
    have hj := owD_some ow
    simp only at q
    obtain ⟨l, k1, k4, k5, k6, k7, k8⟩ := r.ow j c hj
    have step : ∀ {S1 H1 S2 H2 : Hp} {p2 : PS} {c' : Z.D} {o' : HO}, Fn G S H S1 H1 → Fn G S1 H1 S2 H2 → RegOk G H2 p2 → (∃ o, H2 l = some o ∧ Wr o) → Own G S2 (upd H2 l o') l c' → (∀ c0 ds, c' ≠ .obj c0 ds) → PstS G E fr S0 H0 S2 D (.nx (ρ.set j (.ow c')) p2) → D.nx σ (upd H2 l o') := fun {S1 H1 S2 H2 p2 c' o'} f1 f2 g2 ⟨o, ho, wo⟩ ow' nob q3 => by
      have s2 : S2 l = none := by rw [f2.new l (f1.dom l k8.there), f1.new l k8.there]; exact k5
      exact q3 σ S2 _ (((r.mono f1).mono f2).upd hj k1 ow' fun c0 ds z => absurd z (nob c0 ds)) (((f.trans f1).trans f2).write k4 s2) (g2.write ho wo k6 k7) (Ext.refl _)
    have kp : ∀ {S1 H1 S2 H2 : Hp} {o : HO}, Fn G S H S1 H1 → Fn G S1 H1 S2 H2 → NTb o → H l = some o → H2 l = some o := fun f1 f2 nt h => f2.keep l _ k6 k7 nt (f1.keep l _ k6 k7 nt h)
    cases c with
    | lst xs =>
      cases k8 with
      | lst h1 h2 =>
        refine .inl (ha H0 S H σ ρ p _ r f.sub g (q.let f fun v p1 vv S1 H1 f1 g1 a1 q1 => ?_))
        refine ⟨.ref l, k1, hi H0 S1 H1 σ ρ p1 _ (r.mono f1) f1.sub g1 (q1.let (f.trans f1) fun i p2 iv S2 H2 f2 g2 a2 q2 => ?_)⟩
        have e2 := kp f1 f2 (fun _ z => by cases z) h1
        cases i with
        | int n =>
          simp only [putF] at q2
          cases en : ixN xs.length n with
          | none => rw [en] at q2; exact q2.elim
          | some m =>
            rw [en] at q2
            replace a2 : At G S2 iv (.int n) := a2
            replace a1 : At G S1 vv v := a1
            cases a2
            have h3 := (h2.mono f1.ext).mono f2.ext
            exact ⟨l, _, n, m, rfl, rfl, e2, by rw [h3.length]; exact en, step f1 f2 g2 ⟨_, e2, trivial⟩ (.lst upd_same (h3.set (a1.mono f2.ext) m)) (fun _ _ z => by cases z) q2⟩
        | _ => exact q2.elim
    | dk ks vs =>
      · obtain ⟨kvs, h1, eks, h2, hk⟩ := k8.dk
        refine .inr (ha H0 S H σ ρ p _ r f.sub g (q.let f fun v p1 vv S1 H1 f1 g1 a1 q1 => ?_))
        refine ⟨.ref l, k1, hi H0 S1 H1 σ ρ p1 _ (r.mono f1) f1.sub g1 (q1.let (f.trans f1) fun i p2 iv S2 H2 f2 g2 a2 q2 => ?_)⟩
        have e2 := kp f1 f2 (fun _ z => by cases z) h1
        simp only [putF] at q2
        cases ek : keyD i with
        | none => rw [ek] at q2; exact q2.elim
        | some k =>
          rw [ek] at q2
          simp only at q2
          by_cases hl : ks.length < 16777216
          · rw [if_pos hl] at q2
            subst eks
            replace a2 : At G S2 iv i := a2
            replace a1 : At G S1 vv v := a1
            obtain ⟨rfl, hko⟩ := Aw.keyD (H := H2) (.inl a2) ek
            have h3 := (h2.mono f1.ext).mono f2.ext
            obtain ⟨z1, z2⟩ := put_ok (k := k) h3 (a1.mono f2.ext)
            refine ⟨l, _, rfl, .inl ⟨_, k, e2, rfl, by rw [sizeLine_eq]; simpa using hl, rfl⟩, step f1 f2 g2 ⟨_, e2, trivial⟩ ?_ (fun _ _ z => by cases z) q2⟩
            rw [← z1]
            refine .dK (fun q hq => ?_) upd_same z2
            rcases putK_mem hq with e | ⟨z, hz, e⟩
            · rw [e]; exact hko
            · rw [← e]; exact hk z hz
          · rw [if_neg hl] at q2
            exact q2.elim
    | dt ks vs =>
      · obtain ⟨kvs, h1, eks, h2, hk⟩ := k8.dt
        refine .inr (ha H0 S H σ ρ p _ r f.sub g (q.let f fun v p1 vv S1 H1 f1 g1 a1 q1 => ?_))
        refine ⟨.ref l, k1, hi H0 S1 H1 σ ρ p1 _ (r.mono f1) f1.sub g1 (q1.let (f.trans f1) fun i p2 iv S2 H2 f2 g2 a2 q2 => ?_)⟩
        have e2 := kp f1 f2 (fun _ z => by cases z) h1
        cases i with
        | tup is =>
          simp only [putF] at q2
          cases ek : keysD is with
          | none => rw [ek] at q2; exact q2.elim
          | some k =>
            rw [ek] at q2
            simp only at q2
            by_cases hl : ks.length < 16777216
            · rw [if_pos hl] at q2
              subst eks
              replace a2 : At G S2 iv (.tup is) := a2
              replace a1 : At G S1 vv v := a1
              obtain ⟨b, ws, rfl, hb, aw⟩ := Aw.tup (H := H2) (.inl a2)
              obtain ⟨e3, hko⟩ := aw.keysD ek
              have h3 := (h2.mono f1.ext).mono f2.ext
              obtain ⟨z1, z2⟩ := put_ok (k := k) h3 (a1.mono f2.ext)
              refine ⟨l, _, rfl, .inr ⟨_, k, b, e2, rfl, by rw [← e3]; exact f2.sub.ext _ _ hb, by rw [sizeLine_eq]; simpa using hl, rfl⟩, step f1 f2 g2 ⟨_, e2, trivial⟩ ?_ (fun _ _ z => by cases z) q2⟩
              rw [← z1]
              refine .dT (fun q hq => ?_) upd_same z2
              rcases putK_mem hq with e | ⟨z, hz, e⟩
              · rw [e]; exact hko
              · rw [← e]; exact hk z hz
            · rw [if_neg hl] at q2
              exact q2.elim
        | _ => exact q2.elim
    | _ =>
      refine .inl (ha H0 S H σ ρ p _ r f.sub g (q.let f fun v p1 vv S1 H1 f1 g1 a1 q1 => ?_))
      refine ⟨.ref l, k1, hi H0 S1 H1 σ ρ p1 _ (r.mono f1) f1.sub g1 (q1.let (f.trans f1) fun i p2 iv S2 H2 f2 g2 a2 q2 => ?_)⟩
      exact q2.elim
end
end Z
namespace Z
open PySem PySem.Spec PyProof.Rows L2
/-! ### dict comprehensions, keys ints and texts -/
def dcA (bd : D → M (Option (Key × D))) : List Key → List D → List D → M D
  | ks, vs, [] => M.pure (.dk ks vs)
  | ks, vs, d :: ds => M.bind (bd d) fun o => match o with
    | some (k, v) => dcA bd (putKs ks k) (putV ks vs k v) ds
    | none => dcA bd ks vs ds
def bdyD (pt : Pat) (ρw : Env) (tst : Env → M Bool) (kx vx : Env → M D) (d : D) : M (Option (Key × D)) := match pt.bind d ρw with
  | none => fun _ => .bad
  | some ρ' => M.bind (M.noexc (tst ρ')) fun b => if b then M.bind (M.noexc (kx ρ')) fun y => M.bind (M.noexc (vx ρ')) fun z => match keyD y with
    | some k => M.pure (some (k, z))
    | none => fun _ => .bad
    else M.pure none
def dDc (it : DI) (pt : Pat) (own : List Nat) (tst : DT) (kx vx : DE) : DE := fun φ ρ => M.bind (it φ ρ) fun items =>
  if items.length ≤ 16777216 then dcA (bdyD pt (wipeE ρ own) (tst φ) (kx φ) (vx φ)) [] [] items else fun _ => .bad
section
variable {G : Gx} {X : Cx} {φ : Fns} {E : XK}
theorem dc_rd {it : DI} {pt : Pat} {own : List Nat} {tst : DT} {kx vx : DE} {wi : TI}
    (hi : ∀ H0 S H σ ρ p Q, Rep G H0 S H σ ρ → Sub G S H → RegOk G H p → Pst G E (relIW G) S H Q (it φ ρ p) → wi σ H Q) (hin : pt.ins own = true)
    (H0 S H : Hp) (σ : L2.St) (ρ : Env) (p : PS) (Q : VK) (r : Rep G H0 S H σ ρ) (s : Sub G S H) (g : RegOk G H p) (q : Pst G E (relF G H) S H Q (dDc it pt own tst kx vx φ ρ p)) :
    tDc wi (pt.rd G.K) (tT G φ EF tst) (tE G φ EF kx) (tE G φ EF vx) own σ H Q := by
  unfold dDc at q
  refine hi H0 S H σ ρ p _ r s g (q.bindA (Fn.refl s) fun items p1 J S1 H1 f1 g1 wk q1 Dl hD => ?_)
  obtain ⟨Gd, Y, w, k1, k2⟩ := wk
  by_cases hl : items.length ≤ 16777216
  · rw [if_pos hl] at q1
    have nD := none_ne g1 hD
    have hD0 : ¬ Nn H Dl := fun n => Nn.no hD (f1.dom Dl n)
    let bd := bdyD pt (wipeE ρ own) (tst φ) (kx φ) (vx φ)
    let Pv : Nat → Hp → Prop := fun i Hc => ∃ S2 p2 kvs accD, Fn G S1 H1 S2 Hc ∧ RegOk G Hc p2 ∧ Hc Dl = some (.dK kvs) ∧ S2 Dl = none ∧ kvs.length ≤ i ∧ Ats G S2 (kvs.map (·.2)) accD ∧ (∀ p ∈ kvs, kOk p.1 = true) ∧
      Pst G E (relF G H) S H Q (dcA bd (kvs.map (·.1)) accD (items.drop i) p2)
    refine ⟨fun i m Hc => m = items.length - i ∧ i ≤ items.length ∧ Pv i Hc, ⟨items.length, by simp, Nat.zero_le _, S1, p1, [], [], (Fp.alloc0 f1.sub hD).fn, (Fp.alloc0 (o := .dK []) f1.sub hD).reg g1, upd_same, f1.sub.none hD, Nat.le_refl _, .nil, (fun _ h => by cases h), q1⟩, ?_⟩
    rintro i m Hc ⟨rfl, hi, S2, p2, kvs, accD, fn, g2, hDl, sD, hlen, ha, hk, q2⟩
    have hgd := k1 Hc ⟨S2, fn⟩
    by_cases hlt : i < items.length
    · refine .inr ⟨w.goes i Hc hlt hgd, Pv (i + 1), fun H' p' => ⟨items.length - (i + 1), by omega, rfl, hlt, p'⟩, fun x Hc' y0 => ?_⟩
      have y := w.yields i Hc x Hc' hlt hgd y0
      obtain ⟨d, hd⟩ : ∃ d, items[i]? = some d := ⟨items[i], List.getElem?_eq_getElem hlt⟩
      obtain ⟨S3, fp, ax⟩ := k2 i Hc x Hc' S2 p2 d fn.sub fn.ext g2 hgd y hd
      have edrop : items.drop i = d :: items.drop (i + 1) := by
        rw [List.drop_eq_getElem_cons hlt]
        congr 1
        rw [List.getElem?_eq_getElem hlt] at hd
        exact Option.some.inj hd
      rw [edrop, dcA] at q2
      have q2 : Pst G E (relF G H) S H Q (M.bind (bdyD pt (wipeE ρ own) (tst φ) (kx φ) (vx φ) d) (fun o => match o with
        | some (k, v) => dcA bd (putKs (kvs.map (·.1)) k) (putV (kvs.map (·.1)) accD k v) (items.drop (i + 1))
        | none => dcA bd (kvs.map (·.1)) accD (items.drop (i + 1))) p2) := q2
      unfold bdyD at q2
      cases eb : pt.bind d (wipeE ρ own) with
      | none => rw [eb] at q2; exact q2.elim
      | some ρ' =>
        rw [eb] at q2
        simp only at q2
        rw [M.bind_assoc] at q2
        have f13 : Fn G S1 H1 S3 Hc' := fn.trans fp.fn
        have hDl' : Hc' Dl = some (.dK kvs) := fp.keep _ _ hDl
        have sD' : S3 Dl = none := by rw [fp.new Dl (by rw [hDl]; exact fun z => by cases z)]; exact sD
        refine Pat.rd_ok fp.sub.ext ax ((r.mono (f1.trans f13)).wipe own) eb fun σ2 r2 w2 => ⟨by rw [w2 _ hin, wipe_wipe], ?_⟩
        refine ⟨H0, S3, ρ', p2, r2, fp.sub, fp.reg g2, q2.bindN fun b p3 b' S4 H4 f4 g4 eb' q3 => ?_⟩
        have eb' : b' = b := eb'
        subst eb'
        cases b' with
        | true =>
          simp only [if_true] at q3 ⊢
          rw [M.bind_assoc] at q3
          refine ⟨H0, S4, ρ', p3, r2.mono f4, f4.sub, g4, q3.bindN fun yd p5 yv S5 H5 f5 g5 ay q5 => ?_⟩
          rw [M.bind_assoc] at q5
          refine ⟨H0, S5, ρ', p5, (r2.mono f4).mono f5, f5.sub, g5, q5.bindN fun zd p6 zv S6 H6 f6 g6 az q6 => ?_⟩
          have ay : At G S5 yv yd := ay
          have az : At G S6 zv zd := az
          cases ek : keyD yd with
          | none => rw [ek] at q6; exact q6.elim
          | some k =>
            rw [ek] at q6
            simp only [M.pure_bind] at q6
            obtain ⟨e1, hko⟩ := Aw.keyD (H := H5) (.inl ay) ek
            have fa := (f4.trans f5).trans f6
            have h5 : H6 Dl = some (.dK kvs) := fa.keep _ _ nD.1 nD.2 (fun _ z => by cases z) hDl'
            have s5 : S6 Dl = none := by rw [fa.new Dl ⟨_, hDl', fun _ z => by cases z⟩]; exact sD'
            obtain ⟨z1, z2⟩ := put_ok (k := k) ((ha.mono fp.ext).mono fa.ext) az
            refine ⟨kvs, k, e1, h5, by rw [sizeLine_eq]; omega, S6, p6, putK kvs k zv, _, (f13.trans fa).write (Nn.no hD) s5, g6.write h5 trivial nD.1 nD.2, upd_same, s5, ?_, z2, fun q hq => ?_, by rw [z1]; exact q6⟩
            · have := length_putK kvs k zv
              omega
            · rcases putK_mem hq with e | ⟨z, hz, e⟩
              · rw [e]; exact hko
              · rw [← e]; exact hk z hz
        | false =>
          rw [if_neg (by simp)] at q3 ⊢
          have h5 : H4 Dl = some (.dK kvs) := f4.keep _ _ nD.1 nD.2 (fun _ z => by cases z) hDl'
          have s5 : S4 Dl = none := by rw [f4.new Dl ⟨_, hDl', fun _ z => by cases z⟩]; exact sD'
          rw [M.pure_bind] at q3
          exact ⟨S4, p3, kvs, accD, f13.trans f4, g4, h5, s5, by omega, (ha.mono fp.ext).mono f4.ext, hk, q3⟩
    · have e : i = items.length := by omega
      subst e
      rw [List.drop_length, dcA] at q2
      exact .inl ⟨w.stops Hc hgd, q2 _ S2 Hc (f1.trans fn) g2 (.inr ⟨rfl, Dl, rfl, hD0, sD, nD.1, nD.2, .dK hk hDl ha⟩)⟩
  · rw [if_neg hl] at q1
    exact q1.elim
theorem sf_dc (hK : X.K = G.K) (hc : X.calm = true) (hN : X.N.Nodup) {it : DI} {pt : Pat} {own : List (Str × Nat)} {tst : DT} {kx vx : DE} {ek ev iter : Expr} {ifs : List Expr} {scope : Scope} {pos : Pos}
    (hi : SIW G X φ E it (pt.ex X.N) iter) (ok : BlkOk X.N X.env.scope scope own) (hin : pt.ins (own.map (·.2)) = true)
    (hg : ∀ s H C cl fp, PG (XB X s H scope C cl fp) (pt.ex X.N) (pt.rd G.K))
    (ht : ∀ s H C cl fp, STs G (XB X s H scope C cl fp) φ EF tst ifs)
    (hk : ∀ s H C cl fp, SE G (XB X s H scope C cl fp) φ EF kx ek) (he : ∀ s H C cl fp, SE G (XB X s H scope C cl fp) φ EF vx ev) (hs : ∀ x, foldedSetIterable iter X.env x = pure x) :
    SF G X φ E (dDc it pt (own.map (·.2)) tst kx vx) (.DictComp ek ev [⟨pt.ex X.N, iter, ifs, 0⟩] scope pos) := by
  obtain ⟨wi, pi, hi⟩ := hi
  exact ⟨_, pe_dc hc hN pi ok hg ht (fun s H C cl fp => (hk s H C cl fp).can) (fun s H C cl fp => (he s H C cl fp).can) hs, fun H0 S H σ ρ p Q r s g q => dc_rd hi hin H0 S H σ ρ p Q r s g q⟩
end
end Z
namespace Z
open PySem PySem.Spec PyProof.Rows L2
section
variable {G : Gx} {X : Cx} {φ : Fns} {E : XK} {fr : Bool}
/-! ### x, y = a, b: the values first -/
inductive Rm (G : Gx) (S H : Hp) : Hp → List Bool → List V → List D → Prop
  | nil {Hs : Hp} : Rm G S H Hs [] [] []
  | cons {Hs Hm : Hp} {b : Bool} {bs : List Bool} {v : V} {vs : List V} {d : D} {ds : List D} (h : relR G b Hs S H v d) (n : ∀ p, v = .ref p → b = true → ato d = false → Nn Hm p) (k : ∀ a, Nn Hs a → Nn Hm a) (t : Rm G S H Hm bs vs ds) : Rm G S H Hs (b :: bs) (v :: vs) (d :: ds)
def SAM (G : Gx) (X : Cx) (φ : Fns) (E : XK) (bs : List Bool) (den : DA) (es : List Expr) : Prop := ∃ t : TA, PA X es t ∧ ∀ H0 S H σ ρ p Q, Rep G H0 S H σ ρ → Sub G S H → RegOk G H p → Pst G E (fun S' H' vs ds => Rm G S' H' H bs vs ds) S H Q (den φ ρ p) → t σ H Q
theorem sam_nil : SAM G X φ E [] daNil [] := ⟨tNil, pa_nil, fun H0 S H σ ρ p Q r s g q => q.pure s g .nil⟩
theorem relR.mono {b : Bool} {Hs S H S' H' : Hp} {v : V} {d : D} (h : relR G b Hs S H v d) (f : Fn G S H S' H') : relR G b Hs S' H' v d := by
  cases b with
  | false => exact At.mono f.ext h
  | true =>
    rcases h with ⟨ha, h⟩ | ⟨ha, p, e, h0, sp, n1, n2, o⟩
    · exact .inl ⟨ha, h.mono f.ext⟩
    · exact .inr ⟨ha, p, e, h0, by rw [f.new p o.there]; exact sp, n1, n2, o.mono f.ext fun u nt q => f.keep p u n1 n2 nt q⟩
theorem Rm.fn {S H Ha Hb : Hp} {bs : List Bool} {vs : List V} {ds : List D} (h : Rm G S H Ha bs vs ds) (k : ∀ a, Nn Hb a → Nn Ha a) : Rm G S H Hb bs vs ds := by
  cases h with
  | nil => exact .nil
  | cons h n k' t => exact .cons (h.fn k) n (fun a q => k' a (k a q)) t
theorem sam_cons {b : Bool} {bs : List Bool} {a : DE} {r : DA} {e : Expr} {es : List Expr} (ha : SR G X φ E b a e) (hb : SAM G X φ E bs r es) (hs : starEach (e :: es) X.env = (false, eval e X.env) :: starEach es X.env) : SAM G X φ E (b :: bs) (daCons a r) (e :: es) := by
  obtain ⟨ta, pa, ha⟩ := ha
  obtain ⟨tb, pb, hb⟩ := hb
  refine ⟨_, pa_cons pa pb hs, fun H0 S H σ ρ p Q r s g q => ha H0 S H σ ρ p _ r s g (q.bind fun x p1 v S1 H1 f1 g1 a1 q1 => ?_)⟩
  refine hb H0 S1 H1 σ ρ p1 _ (r.mono f1) f1.sub g1 (q1.bind fun xs p2 vs S2 H2 f2 g2 a2 q2 => ?_)
  replace a1 : relR G b H S1 H1 v x := a1
  refine q2.pure f2.sub g2 (.cons (Hm := H1) (a1.mono f2) (fun p hv hb hd => ?_) f1.dom a2)
  subst hb
  rcases a1 with ⟨z, _⟩ | ⟨_, q, e, h0, sp, n1, n2, o⟩
  · rw [z] at hd; cases hd
  · rw [hv] at e
    cases e
    exact o.there
/-- what a slot takes -/
def slB (b : Bool) (d : D) : Sl := if b then slOf d else .fz d
theorem Rep.set_relR {b : Bool} {Hs H0 S H : Hp} {σ : L2.St} {ρ : Env} {v : V} {d : D} {i : Nat} (r : Rep G H0 S H σ ρ) (h : relR G b Hs S H v d) (k0 : ∀ a, Nn H0 a → Nn Hs a) (k : ∀ (j : Nat) (e : D) (p : Addr), ρ[j]? = some (Sl.ow e) → σ[j]? = some (some (V.ref p)) → Nn Hs p) : Rep G H0 S H (σ.set i (some v)) (ρ.set i (slB b d)) := by
  cases b with
  | false => exact r.set_fz h i
  | true => exact r.set_rel h k0 k
theorem owd_set {Hs Hm : Hp} {b : Bool} {σ : L2.St} {ρ : Env} {i : Nat} {v : V} {d : D} (len : ρ.length = σ.length) (n : ∀ p, v = .ref p → b = true → ato d = false → Nn Hm p) (k : ∀ a, Nn Hs a → Nn Hm a)
    (o : ∀ (j : Nat) (e : D) (p : Addr), ρ[j]? = some (Sl.ow e) → σ[j]? = some (some (V.ref p)) → Nn Hs p) : ∀ (j : Nat) (e : D) (p : Addr), (ρ.set i (slB b d))[j]? = some (Sl.ow e) → (σ.set i (some v))[j]? = some (some (V.ref p)) → Nn Hm p := fun j e p h1 h2 => by
  rcases set_some h1 with ⟨rfl, e1⟩ | ⟨n1, h1'⟩
  · have hl : j < σ.length := by
      rw [← len]
      have := (List.getElem?_eq_some_iff.mp h1).1
      rwa [List.length_set] at this
    rw [List.getElem?_set_self hl] at h2
    cases h2
    unfold slB slOf at e1
    split at e1
    · rename_i hb
      split at e1
      · cases e1
      · rename_i ha
        exact n p rfl hb (by simpa using ha)
    · cases e1
  · rw [List.getElem?_set_ne (Ne.symm n1)] at h2
    exact k p (o j e p h1' h2)
def dsPar2 (i j : Nat) (b1 b2 : Bool) (a : DA) : DS := fun φ ρ => MS.let (a φ ρ) fun ds => match ds with
  | [x, y] => fun p => .nx ((ρ.set i (slB b1 x)).set j (slB b2 y)) p
  | _ => fun _ => .bad
theorem ss_par2 {i j : Nat} {b1 b2 : Bool} {a : DA} {st : Stmt} {e1 e2 : Expr} (hp : ∀ t, PA X [e1, e2] t → L2.PS X st (tPar i j t)) (ha : SAM G X φ E [b1, b2] a [e1, e2]) : SS G X φ E fr (dsPar2 i j b1 b2 a) st := by
  obtain ⟨ta, pa, ha⟩ := ha
  refine ⟨_, hp _ pa, fun S0 H0 S H σ ρ p D r f g q => ?_⟩
  unfold dsPar2 at q
  refine ha H0 S H σ ρ p _ r f.sub g (q.let f fun ds p1 vs S1 H1 f1 g1 a1 q1 => ?_)
  replace a1 : Rm G S1 H1 H [b1, b2] vs ds := a1
  cases a1 with
  | cons h1 n1 k1 t =>
    cases t with
    | cons h2 n2 k2 t =>
      cases t
      refine ⟨_, _, rfl, ?_⟩
      have r1 := r.mono f1
      have r2 := r1.set_relR (i := i) h1 f.dom r.owd
      have r3 := r2.set_relR (i := j) h2 (fun a h => k1 a (f.dom a h)) (owd_set r.len n1 k1 r.owd)
      exact q1 _ S1 H1 r3 (f.trans f1) g1 (Ext.refl _)
def dsPar3 (i j l : Nat) (b1 b2 b3 : Bool) (a : DA) : DS := fun φ ρ => MS.let (a φ ρ) fun ds => match ds with
  | [x, y, z] => fun p => .nx (((ρ.set i (slB b1 x)).set j (slB b2 y)).set l (slB b3 z)) p
  | _ => fun _ => .bad
theorem ss_par3 {i j l : Nat} {b1 b2 b3 : Bool} {a : DA} {st : Stmt} {e1 e2 e3 : Expr} (hp : ∀ t, PA X [e1, e2, e3] t → L2.PS X st (tPar3 i j l t)) (ha : SAM G X φ E [b1, b2, b3] a [e1, e2, e3]) : SS G X φ E fr (dsPar3 i j l b1 b2 b3 a) st := by
  obtain ⟨ta, pa, ha⟩ := ha
  refine ⟨_, hp _ pa, fun S0 H0 S H σ ρ p D r f g q => ?_⟩
  unfold dsPar3 at q
  refine ha H0 S H σ ρ p _ r f.sub g (q.let f fun ds p1 vs S1 H1 f1 g1 a1 q1 => ?_)
  replace a1 : Rm G S1 H1 H [b1, b2, b3] vs ds := a1
  cases a1 with
  | cons h1 n1 k1 t =>
    cases t with
    | cons h2 n2 k2 t =>
      cases t with
      | cons h3 n3 k3 t =>
        cases t
        refine ⟨_, _, _, rfl, ?_⟩
        have r1 := r.mono f1
        have r2 := r1.set_relR (i := i) h1 f.dom r.owd
        have o2 := owd_set (i := i) r.len n1 k1 r.owd
        have r3 := r2.set_relR (i := j) h2 (fun a h => k1 a (f.dom a h)) o2
        have o3 := owd_set (i := j) r2.len n2 k2 o2
        have r4 := r3.set_relR (i := l) h3 (fun a h => k2 a (k1 a (f.dom a h))) o3
        exact q1 _ S1 H1 r4 (f.trans f1) g1 (Ext.refl _)
/-! ### raise -/
/-- an exception's making: self.f = x -/
def spX (G : Gx) (c : Nat) (f : Str) : Sp := fun vs H Q E => vs.length = 2 ∧ ∃ a x, vs = [.ref a, x] ∧ H a = some (exo a (G.cad c) none) ∧ ∀ dx, H dx = none → dx ≠ a → Q .non (upd (upd H dx (exd dx [(f, x)])) a (exo a (G.cad c) (some dx)))
structure ExF (P : Program) (w : World) (K : PySem.W.Frag) (mg : Str → Option Value) (base : Heap) (G : Gx) (k : Nat) (c : Nat) : Prop where
  ex : ∃ fI fd ps f, OexC K (G.cad c) ∧ PySem.W.findIn K (.ref (G.cad c)) "__init__" = some (some (.ref fI)) ∧ PySem.W.typeIn K (.ref fI) = some (.type "function") ∧ ps.length = 2 ∧ G.cfs c = [f] ∧ FnOk P w K mg base (L2.CX P w) k fI fd ps (spX G c f) ∧ Binds K fd ps [] ∧ KwE K fd ps [f]
def dsRaise (c : Nat) (a : DE) : DS := fun φ ρ => MS.let (a φ ρ) fun d p => .exc c [d] p
theorem ss_raise (hc : X.calm = true) (tk : Takes X (fun cls d _ H => E cls d H)) {c k : Nat} {a : DE} {x : Str} {e : Expr} {p1 p2 pos : Pos} (F : ExF X.prog X.w X.K X.mg X.base G k c) (hr : Room (k + 1) X.A) (hg : Gl X x) (hm : X.mg x = some (.ref (G.cad c))) (hdb : (x == ("__debug__" : Str)) = false)
    (ha : SE G X φ E a e) (hs : starEach [e] X.env = (false, eval e X.env) :: starEach [] X.env) : SS G X φ E fr (dsRaise c a) (.Raise (some (.Call (.Name x p1) [e] [] p2)) none pos) := by
  obtain ⟨fI, fd, ps, fn, hO, iC, tI, hl, hf, F, hb, _⟩ := F.ex
  obtain ⟨t, pa, ha⟩ := ha
  have pm := pmk_oex (p := p1) (pos := p2) hO iC tI F hr hb .nil passL hg hm (pa_cons pa pa_nil hs) hdb hs rfl
  refine ⟨_, ps_raise hc tk pm, fun S0 H0 S H σ ρ p D r f g q => ?_⟩
  unfold dsRaise at q
  refine ha H0 S H σ ρ p _ r f.sub g (q.let f fun d p1 v S1 H1 f1 g1 a1 q1 => ?_)
  replace a1 : At G S1 v d := a1
  refine ⟨by show 1 ≤ 1000; decide, fun b hb => ⟨rfl, b, v, rfl, upd_same, fun dx hdx hne => ⟨rfl, dx, [(fn, v)], upd_same, by rw [upd_ne hne, upd_same], ?_, ?_⟩⟩⟩
  · rw [upd_ne hne] at hdx
    exact hdx
  · have hdx' : H1 dx = none := by rw [upd_ne hne] at hdx; exact hdx
    have e1 : upd (del (upd (upd (upd H1 b (exo b (G.cad c) none)) dx (exd dx [(fn, v)])) b (exo b (G.cad c) (some dx))) b) dx (.xd [(fn, v)]) = upd H1 dx (.xd [(fn, v)]) := by
      funext z
      by_cases z1 : z = dx
      · rw [z1, upd_same, upd_same]
      · rw [upd_ne z1, upd_ne z1]
        unfold del
        by_cases z2 : z = b
        · rw [if_pos z2, z2, hb]
        · rw [if_neg z2, upd_ne z2, upd_ne z1, upd_ne z2]
    show E (.ref (G.cad c)) (some dx) _
    rw [e1]
    have fa := Fp.alloc0 (o := .xd [(fn, v)]) f1.sub hdx'
    exact q1 _ _ S1 _ ((f.trans f1).trans fa.fn) (fa.reg g1) ⟨rfl, .inr ⟨dx, fn, d, v, rfl, hf, rfl, upd_same, a1⟩⟩
/-! ### self.f = e, in an instance's making -/
def dsFld (i c k : Nat) (a : DE) : DS := fun φ ρ => match owD ρ i with
  | some (.obj c' fs) => if c' = c ∧ k = fs.length then MS.let (a φ ρ) fun d p => .nx (ρ.set i (.ow (.obj c (fs ++ [d])))) p else fun _ => .bad
  | _ => fun _ => .bad
theorem putF_new : ∀ {fs : List (Str × V)} {f : Str} {v : V}, f ∉ fs.map (·.1) → L2.putF f v fs = fs ++ [(f, v)]
  | [], _, _, _ => rfl
  | (g, x) :: r, f, v, h => by
    rw [List.map_cons, List.mem_cons, not_or] at h
    rw [L2.putF, if_neg (fun z => h.1 z.symm), putF_new h.2]; rfl
theorem Own.ob {S H : Hp} {a : Addr} {c : Nat} {ds : List D} (h : Own G S H a (.obj c ds)) : ∃ (dx : Addr) (fs : List (Str × V)), H a = some (.ins (G.cad c) dx fs) ∧ fs.map (·.1) = (G.cfs c).take ds.length ∧ Ats G S (fs.map (·.2)) ds := by
  cases h with
  | ins hk h1 h2 => exact ⟨_, _, h1, hk, h2⟩
theorem ss_fld (hK : X.K = G.K) {i c k : Nat} {n : Str} {f : Str} {a : DE} {e : Expr} {p1 p2 pos : Pos} (cl : Cls G.K (G.cad c)) (na : NoAttr G.K (G.cad c) f) (hf : (G.cfs c)[k]? = some f) (hnd : (G.cfs c).Nodup) (hk : k < 1000) (hN : X.N[i]? = some n) (hv : Vis X.env.scope n) (hd : (n == ("__debug__" : Str)) = false) (hcd : (n == ("__classdict__" : Str)) = false)
    (ha : SE G X φ E a e) (hs : swapsWith e (some (.Attribute (.Name n p1) f p2)) pos.line X.env = pure false) : SS G X φ E fr (dsFld i c k a) (.Assign [.Attribute (.Name n p1) f p2] e pos) := by
  obtain ⟨t, pa, ha⟩ := ha
  have pf := ps_fld (pos := pos) (pe_var (pos := p1) hN hv hd hcd) pa hs
  rw [hK] at pf
  refine ⟨_, pf, fun S0 H0 S H σ ρ p D r fn g q => ?_⟩
  unfold dsFld at q
  cases ow : owD ρ i with
  | none => rw [ow] at q; exact q.elim
  | some d =>
    rw [ow] at q
    have hi := owD_some ow
    cases d with
    | obj c' ds =>
      simp only at q
      by_cases hc : c' = c ∧ k = ds.length
      · rw [if_pos hc] at q
        obtain ⟨rfl, hkl⟩ := hc
        obtain ⟨l, k1, k4, k5, k6, k7, k8⟩ := r.ow i _ hi
        obtain ⟨dx, fs, h1, h2, h3⟩ := k8.ob
        refine ha H0 S H σ ρ p _ r fn.sub g (q.let fn fun d p1 v S1 H1 f1 g1 a1 q1 => ?_)
        replace a1 : At G S1 v d := a1
        have h1' : H1 l = some _ := f1.keep l _ k6 k7 (fun _ z => by cases z) h1
        have s1 : S1 l = none := by rw [f1.new l ⟨_, h1, fun _ z => by cases z⟩]; exact k5
        have hlen : fs.length = ds.length := by
          have := h3.length
          rwa [List.length_map] at this
        have hnot : f ∉ fs.map (·.1) := by
          rw [h2]
          intro hm
          obtain ⟨j, hj, e⟩ := List.getElem_of_mem hm
          rw [List.getElem_take] at e
          have hj' : j < ds.length := by rw [List.length_take] at hj; omega
          have hk2 : k < (G.cfs c').length := (List.getElem?_eq_some_iff.mp hf).1
          have e2 := (List.getElem?_eq_some_iff.mp hf).2
          have := (List.getElem_inj hnd).mp (e.trans e2.symm)
          omega
        refine ⟨.ref l, k1, l, _, dx, fs, rfl, h1', cl, na, by omega, ?_⟩
        rw [putF_new hnot]
        refine q1 σ S1 _ ((r.mono f1).upd hi k1 (.ins ?_ upd_same ?_) fun _ _ _ => ⟨_, _, rfl⟩) ((fn.trans f1).write k4 s1) (g1.write h1' trivial k6 k7) (Ext.refl _)
        · rw [List.map_append, h2, List.length_append, List.length_singleton]
          rw [hkl] at hf
          rw [List.take_succ, hf]; rfl
        · rw [List.map_append]
          exact (h3.mono f1.ext).append (.cons a1 .nil)
      · rw [if_neg hc] at q
        exact q.elim
    | _ => exact q.elim
end
end Z
set_option maxHeartbeats 2000000
namespace L2
open PySem PySem.Spec PyProof.Rows
/-- what the clauses 'except c as n' wish of an exception of the body, one after the other; slot i is n's -/
def zMany (K : PySem.W.Frag) (i : Nat) (Wout : WX) (D : Ends) : List (Value × (Addr → Value → Option Addr → TS)) → WX
  | [] => Wout
  | (c, ts) :: r => fun cls d σ H => ∃ b, PySem.W.exmOne K cls c = some b ∧ (b = true → ∀ a, H a = none → ts a cls d { nx := fun σ' H' => D.nx (σ'.set i none) H', rt := D.rt, bk := fun σ' H' => D.bk (σ'.set i none) H', ct := fun σ' H' => D.ct (σ'.set i none) H' } (σ.set i (some (.ref a))) H) ∧ (b = false → zMany K i Wout D r cls d σ H)
inductive ZHds (X : Cx) (n : Str) : List ExceptHandler → List (Value × (Addr → Value → Option Addr → TS)) → Prop
  | nil : ZHds X n [] []
  | cons {x : Str} {c : Value} {ts : Addr → Value → Option Addr → TS} {b₀ : Stmt} {suite : List Stmt} {np pos' : Pos} {hds : List ExceptHandler} {l : List (Value × (Addr → Value → Option Addr → TS))} (hc : Names X x c)
      (hsu : ∀ (a : Addr) (oe : Obj) (cls : Value) (d : Option Addr) (pn : List (Addr × Obj)), Zc cls d oe → (∃ vs, oe.data = .fields vs) → PSs (X.suite a ((a, oe) :: pn)) (b₀ :: suite) (ts a cls d)) (r : ZHds X n hds l) :
      ZHds X n (.ExceptHandler (some (.Name x np)) (some n) (b₀ :: suite) pos' :: hds) ((c, ts) :: l)
section
variable {X : Cx} {body : List Stmt} {h₀ : ExceptHandler} {hds : List ExceptHandler} {l : List (Value × (Addr → Value → Option Addr → TS))} {pos : Pos} {tb : WX → TS} {Wout : WX} {n : Str} {i : Nat}
theorem ps_try_manyAs (hs : X.stack = X.env :: X.outer) (hf : X.env.frame = some X.env.locals) (hN : X.N.Nodup) (hi : X.N[i]? = some n) (hln : X.env.kindOf n = some .local) (tk : Takes X Wout)
    (hb : ∀ (W : WX) (pn : List (Addr × Obj)) (xe : Value → Shared → Prop), Takes (X.tr pn xe) W → PassesOwn (model X.prog X.w) X.A X.env xe → PSs (X.tr pn xe) body (tb W))
    (hh : ZHds X n (h₀ :: hds) l) : PS X (.Try body (h₀ :: hds) [] [] pos) (fun D σ H => tb (zMany X.K i Wout D l) D σ H) := by
  refine ⟨fun pins s σ H D I h => ?_⟩
  have ok := I.ok
  have hfr : X.A.frames = some (X.env :: X.outer) := by rw [ok.frames, hs]
  have hloc : Loc X.env.scope n := .inl hln
  refine wpAny_Try_except ?_
  refine wpAny_mono ((hb (zMany X.K i Wout D l) (X.pn ++ pins) (fun e s₁ => wpAny (model X.prog X.w) X.A (noteFrame e X.env) (fun _ s₂ => wpAny (model X.prog X.w) X.A (setFlight e none) (fun _ s₃ =>
    wpAny (model X.prog X.w) X.A (handleBy e X.env (h₀ :: hds)) (SP X pins D) X.xe s₃) X.xe s₂) X.xe s₁) (fun u s' xx => ?_) PassesOwn.looking).run [] s σ H D (I.toTry _) h) (fun f s1 hsp => ?_) (fun e s1 he => he)
  · obtain ⟨a, B, sI, pins', σ', H', cls, d, rfl, J', nbb, up, sky, na, os, ag, w⟩ := xx
    have J : Inv X pins σ' H' sI := J'.ofTry ok
    have sky' : Sky B (X.env :: X.outer) a (Zc cls d) X.env.locals s'.heap := by rw [← hs]; exact sky
    show wpAny (model X.prog X.w) X.A (noteFrame (.ref a) X.env) _ _ _
    refine Sky.land Zc.steady hfr hf sky' fun h3 fl3 up3 => ?_
    have J3 : Inv X pins σ' H' { s' with heap := h3 } := J.landed nbb fl3.1 (up.trans up3) os ag
    obtain ⟨oe3, vs3, he3, hz3, hd3⟩ := fl3.there
    have notFr : ∀ {h : Heap} {o : Obj} {vs : Array Value}, h.FunFrames B (X.env :: X.outer) → h.get? a = some o → o.data = .fields vs → a ∉ frs (X.env :: X.outer) := fun {h o vs} ff e dd hm => by
      obtain ⟨_, o', e', hnf⟩ := ff.mem hm
      rw [e] at e'; cases e'
      exact hnf _ dd
    have nfr := notFr fl3.2.2.1 he3 hd3
    have nL : a ≠ X.env.locals := fun z => nfr (List.mem_filterMap.mpr ⟨X.env, List.mem_cons_self, by rw [hf, z]⟩)
    have nF : a ∉ X.fs := fun hm => by
      obtain ⟨e, he, q⟩ := List.mem_filterMap.mp hm
      exact nfr (List.mem_filterMap.mpr ⟨e, List.mem_cons_of_mem _ he, q⟩)
    have S3 := J3.suite he3 hd3 na nL nF
    have go : ∀ {hds' : List ExceptHandler} {l' : List (Value × (Addr → Value → Option Addr → TS))}, ZHds X n hds' l' → zMany X.K i Wout D l' cls d σ' H' →
        wpAny (model X.prog X.w) X.A (handleBy (.ref a) X.env hds') (SP X pins D) X.xe { s' with heap := h3 } := by
      intro hds' l' hk
      induction hk with
      | nil =>
        intro w
        refine wpAny_handleBy_nil ?_
        obtain ⟨k1, k2, k3, oe, vs, T, oT, ts', he, hz, hd, h1, hr⟩ := id fl3
        unfold PySem.passOn
        refine wpAny_bind (wpAny_field he hd h1 ?_)
        rw [if_neg (show ¬ ((Value.ref T == Value.none) = true) from by simp)]
        have fin : wpAny (model X.prog X.w) X.A (setFlight (.ref a) X.env.frame) (fun _ s4 => wpAny (model X.prog X.w) X.A (throw (.ref a) : Sem Flow) (SP X pins D) X.xe s4) X.xe { s' with heap := h3 } := by
          rw [hf]
          refine HandSPX.setFlight_upZ fl3 fun h4 hh4 up4 => wpAny_throw (tk _ _ ?_)
          exact ⟨a, B, sI, pins, σ', H', cls, d, rfl, J, nbb, (up.trans up3).trans up4, .inr (.inr (by rw [hs]; exact hh4)), na, os, ag, w⟩
        first
          | exact wpAny_bind (wpAny_pure (wpAny_bind fin))
          | exact wpAny_bind fin
      | @cons x c ts b₀ suite np pos' hds2 l2 hc hsu r ih =>
        intro w
        obtain ⟨b, hb1, hyes, hno⟩ := w
        refine wpAny_handleBy_cons (codeAny_handlers_test ?_) (by intro q; cases q)
        have LT : PySem.W.Looks (model X.prog X.w) h3 (typeOf (.ref a)) cls := fun A Q E s k q => wpAny_typeOf_ref (k _ _ he3) (by rw [hz3.1]; exact q)
        have LM := PySem.W.exm_one (M := model X.prog X.w) (J3.kIn) LT hb1
        have test : ∀ {Q : Value → Shared → Prop} {E : Value → Shared → Prop}, Q c { s' with heap := h3 } → wpAny (model X.prog X.w) (X.A.mark (some (.ref a))) (eval (.Name x np) X.env) Q E { s' with heap := h3 } := fun {Q E} q => by
          obtain ⟨hg, hdbg, hm | ⟨hm, hv, hnn⟩⟩ := hc
          · exact ld_glob (X := X.suite a ((a, oe3) :: (X.pn ++ pins))) S3 hg hm q hdbg
          · exact ld_blt (X := X.suite a ((a, oe3) :: (X.pn ++ pins))) S3 hg hm hv q hnn hdbg
        refine test (LM.here ?_)
        cases b with
        | true =>
          refine codeAny_handlers_suite_as ?_
          refine HandSPX.lands_againZ fl3 fun h4 fl4 up4 => ?_
          have J4 : Inv X pins σ' H' { s' with heap := h4 } := J.landed nbb fl4.1 ((up.trans up3).trans up4) os ag
          obtain ⟨oe4, vs4, he4, hz4, hd4⟩ := fl4.there
          have S4 := J4.suite he4 hd4 na nL nF
          refine store_ok (X := X.suite a ((a, oe4) :: (X.pn ++ pins))) (v := .ref a) S4 hN hi hloc rfl (fun s5 S5 => ?_) (.inr hln)
          refine wpAny_mono ((hsu a oe4 cls d (X.pn ++ pins) hz4 ⟨_, hd4⟩).run [] s5 _ H' _ S5 (hyes rfl a na)) (fun f s6 hsp => ?_) (fun _ _ z => False.elim z)
          have end_ : ∀ {σ6 : St} {H6 : Hp} {Q : Shared → Prop}, Inv (X.suite a ((a, oe4) :: (X.pn ++ pins))) [] σ6 H6 s6 → (∀ s7, Inv X pins (σ6.set i none) H6 s7 → Q s7) →
              wpAny (model X.prog X.w) X.A (do bindName X.env n .none; unbindBehindTheSuite X.env n pos') (fun _ s7 => Q s7) X.xe s6 := fun {σ6 H6 Q} S6 hq => gone_ok (S6.unsuite ok) hN hi hln hq
          cases f with
          | next =>
            obtain ⟨σ6, H6, S6, q6⟩ := hsp
            exact end_ S6 fun s7 J7 => ⟨_, _, J7, q6⟩
          | brk =>
            obtain ⟨σ6, H6, S6, q6⟩ := hsp
            exact end_ S6 fun s7 J7 => ⟨_, _, J7, q6⟩
          | cont =>
            obtain ⟨σ6, H6, S6, q6⟩ := hsp
            exact end_ S6 fun s7 J7 => ⟨_, _, J7, q6⟩
          | ret u =>
            obtain ⟨v6, σ6, H6, S6, r6, q6⟩ := hsp
            exact end_ S6 fun s7 J7 => ⟨_, _, _, J7, r6, q6⟩
        | false =>
          show wpAny _ X.A (handleBy (.ref a) X.env hds2) _ _ _
          exact ih (hno rfl)
    exact go hh w
  · cases f with
    | next =>
      obtain ⟨σ', H', J', q⟩ := hsp
      exact wpAny_execs_nil ⟨σ', H', J'.ofTry ok, q⟩
    | brk =>
      obtain ⟨σ', H', J', q⟩ := hsp
      exact ⟨σ', H', J'.ofTry ok, q⟩
    | cont =>
      obtain ⟨σ', H', J', q⟩ := hsp
      exact ⟨σ', H', J'.ofTry ok, q⟩
    | ret u =>
      obtain ⟨v, σ', H', J', r, q⟩ := hsp
      exact ⟨v, σ', H', J'.ofTry ok, r, q⟩
end
end L2
namespace Z
open PySem PySem.Spec PyProof.Rows L2
section
variable {G : Gx} {X : Cx} {φ : Fns} {E : XK}
/-! ### a function that a slot holds -/
def dCallV (fs : List Nat) (i : Nat) (a : DA) : DE := fun φ ρ => match ρ[i]? with
  | some (.fz (.fn f)) => if fs.contains f then M.bind (a φ ρ) fun ds => φ f ds else fun _ => .bad
  | _ => fun _ => .bad
def fnV (ρ : Env) (i : Nat) : Option Nat := match ρ[i]? with
  | some (.fz (.fn f)) => some f
  | _ => none
theorem dCallV_eq (fs : List Nat) (i : Nat) (a : DA) (φ : Fns) (ρ : Env) : dCallV fs i a φ ρ = match fnV ρ i with
  | some f => if fs.contains f then M.bind (a φ ρ) fun ds => φ f ds else fun _ => .bad
  | none => fun _ => .bad := by
  unfold dCallV fnV
  split <;> rfl
theorem se_callv {k ar i : Nat} {fs : List Nat} {x : Str} {a : DA} {e : Expr} {es : List Expr} {p pos : Pos} (F : ∀ f ∈ fs, ∃ fr, FnF X.prog X.w X.K X.mg X.base G φ k f ar fr) (hr : Room k X.A) (hN : X.N[i]? = some x) (hv : Vis X.env.scope x) (hx : Passes (L2.CX X.prog X.w) X E)
    (ha : SA G X φ E a (e :: es)) (hlen : ∀ ρ p ds p', a φ ρ p = .ok ds p' → ds.length = ar) (hdb : (x == ("__debug__" : Str)) = false) (hcd : (x == ("__classdict__" : Str)) = false) (he : starEach (e :: es) X.env = (false, eval e X.env) :: starEach es X.env) (hpl : (backTo pos (starEach es X.env)).any (·.1) = false) :
    SE G X φ E (dCallV fs i a) (.Call (.Name x p) (e :: es) [] pos) := by
  obtain ⟨ta, pa, ha⟩ := ha
  refine ⟨fun σ H Q => ∃ f fr, f ∈ fs ∧ FnF X.prog X.w X.K X.mg X.base G φ k f ar fr ∧ σ[i]? = some (some (.ref (G.fad f))) ∧ tCall (spG G fr φ f ar) [] E ta σ H Q, ⟨fun pins s σ H Q I h => ?_⟩, fun H0 S H σ ρ p Q r s g q => ?_⟩
  · obtain ⟨f, fr, hf, FF, hs, ht⟩ := h
    obtain ⟨fd, ps, hps, F1, kp, hb⟩ := FF.ex
    refine wpAny_Call_Name_kw (thn ((pe_var (pos := p) hN hv hdb hcd).run pins s σ H (fun v H1 => v = .ref (G.fad f) ∧ H1 = H) I ⟨.ref (G.fad f), hs, rfl, rfl⟩) fun u s1 ⟨v, H1, I1, r1, q1⟩ => ?_)
    obtain ⟨rfl, rfl⟩ := q1
    cases r1
    refine PySem.W.callWith_K (h₀ := X.base) I.ok.mod.kin kp (thn (pa.run pos pins s1 σ _ _ I1 ht) fun us s2 ⟨vs, H2, I2, r, q⟩ => ⟨I2.kIn, ?_⟩) he hpl
    exact run_fn F1 hr hb .nil hx I2 r q
  · rw [dCallV_eq] at q
    cases ef : fnV ρ i with
    | none => rw [ef] at q; exact q.elim
    | some f =>
      rw [ef] at q
      simp only at q
      by_cases hf : fs.contains f = true
      · rw [if_pos hf] at q
        have hm : f ∈ fs := by simpa using hf
        obtain ⟨fr, FF⟩ := F f hm
        have hi : ρ[i]? = some (.fz (.fn f)) := by
          unfold fnV at ef
          split at ef
          · rename_i e; cases ef; exact e
          · cases ef
        obtain ⟨v, h1, h2⟩ := r.fz i _ hi
        cases h2
        refine ⟨f, fr, hm, FF, h1, callCore ha hlen H0 S H σ ρ p Q r s g ?_⟩
        cases fr with
        | false => exact q
        | true =>
          have q : Pst G E (relA G) S H Q (dCall f a φ ρ p) := q
          cases er : dCall f a φ ρ p with
          | ok d p' =>
            rw [er] at q
            intro v S' H' ff g' rf
            obtain ⟨S2, f2, a2⟩ := rf.at (Hs := H) ff
            exact q v S2 H' f2 g' a2
          | exc c fs p' => rw [er] at q; exact q
          | bad => rw [er] at q; exact q
      · rw [if_neg hf] at q
        exact q.elim
/-! ### a call by keywords alone -/
def SK (G : Gx) (X : Cx) (φ : Fns) (E : XK) (den : DA) (ks : List Keyword) : Prop := ∃ t : TA, PK X ks t ∧ ∀ H0 S H σ ρ p Q, Rep G H0 S H σ ρ → Sub G S H → RegOk G H p → Pst G E (relS G) S H Q (den φ ρ p) → t σ H Q
theorem sk_nil : SK G X φ E daNil [] := ⟨tNil, pk_nil, fun H0 S H σ ρ p Q r s g q => q.pure s g .nil⟩
theorem sk_cons {a : DE} {b : DA} {e : Expr} {es : List Keyword} {nm : Option Str} {kp : Pos} (ha : SE G X φ E a e) (hb : SK G X φ E b es) : SK G X φ E (daCons a b) (⟨nm, e, kp⟩ :: es) := by
  obtain ⟨ta, pa, ha⟩ := ha
  obtain ⟨tb, pb, hb⟩ := hb
  refine ⟨_, pk_cons pa pb, fun H0 S H σ ρ p Q r s g q => ha H0 S H σ ρ p _ r s g (q.bind fun x p1 v S1 H1 f1 g1 a1 q1 => ?_)⟩
  refine hb H0 S1 H1 σ ρ p1 _ (r.mono f1) f1.sub g1 (q1.bind fun xs p2 vs S2 H2 f2 g2 a2 q2 => ?_)
  have a1 : At G S1 v x := a1
  have a2 : Ats G S2 vs xs := a2
  exact q2.pure f2.sub g2 (.cons (a1.mono f2.ext) a2)
/-- in the order of the parameters -/
def ordL {α : Type} (o : List Nat) (xs : List α) : Option (List α) := match o with
  | [] => some []
  | i :: r => match xs[i]?, ordL r xs with
    | some x, some ys => some (x :: ys)
    | _, _ => none
def dCallK (f : Nat) (o : List Nat) (a : DA) : DE := fun φ ρ => M.bind (a φ ρ) fun ds => match ordL o ds with
  | some es => φ f es
  | none => fun _ => .bad
theorem ordL_ats {S : Hp} {vs : List V} {ds : List D} (h : Ats G S vs ds) : ∀ {o : List Nat} {es : List D}, ordL o ds = some es → ∃ ws, ordL o vs = some ws ∧ Ats G S ws es
  | [], _, e => by cases e; exact ⟨[], rfl, .nil⟩
  | i :: r, es, e => by
    simp only [ordL] at e ⊢
    cases e1 : ds[i]? with
    | none => rw [e1] at e; cases e
    | some x =>
      cases e2 : ordL r ds with
      | none => rw [e1, e2] at e; cases e
      | some ys =>
        rw [e1, e2] at e
        cases e
        obtain ⟨v, h1, h2⟩ := h.get e1
        obtain ⟨ws, h3, h4⟩ := ordL_ats h e2
        exact ⟨v :: ws, by rw [h1, h3], .cons h2 h4⟩
theorem ordL_vals {vs : List V} {us : List Value} (h : Vals vs us) : ∀ {o : List Nat} {ws : List V}, ordL o vs = some ws → ∃ xs, ordL o us = some xs ∧ Vals ws xs
  | [], _, e => by cases e; exact ⟨[], rfl, .nil⟩
  | i :: r, es, e => by
    simp only [ordL] at e ⊢
    cases e1 : vs[i]? with
    | none => rw [e1] at e; cases e
    | some x =>
      cases e2 : ordL r vs with
      | none => rw [e1, e2] at e; cases e
      | some ys =>
        rw [e1, e2] at e
        cases e
        obtain ⟨u, h1, h2⟩ := h.get e1
        obtain ⟨ws, h3, h4⟩ := ordL_vals h e2
        exact ⟨u :: ws, by rw [h1, h3], .cons h2 h4⟩
/-- how keywords bind -/
def KwB (K : PySem.W.Frag) (fd : FuncData) (ps ks : List Str) (o : List Nat) : Prop := ∀ (s : Shared) (ws xs : List Value), K.In s.heap → ws.length = ks.length → ordL o ws = some xs → BindsTo s fd ⟨[], ks.zip ws⟩ (ps.zip xs)
structure FnK (P : Program) (w : World) (K : PySem.W.Frag) (mg : Str → Option Value) (base : Heap) (G : Gx) (φ : Fns) (k f ar : Nat) (fr : Bool) (ks : List Str) (o : List Nat) : Prop where
  ex : ∃ fd ps, ps.length = ar ∧ FnOk P w K mg base (L2.CX P w) k (G.fad f) fd ps (spG G fr φ f ar) ∧ PySem.W.keepIn K (.ref (G.fad f)) = true ∧ KwB K fd ps ks o
theorem run_kw {CX : CXT} {k : Nat} {f : Addr} {fd : FuncData} {ps ks : List Str} {o : List Nat} {sp : Sp} {pins : List (Addr × Obj)} {σ : L2.St} {H : Hp} {s : Shared} {Q : VK} {ws xs : List Value} {zs : List V} (F : FnOk X.prog X.w X.K X.mg X.base CX k f fd ps sp) (hr : Room k X.A) (hb : KwB X.K fd ps ks o) (hx : Passes CX X E)
    (I : Inv X pins σ H s) (hl : ws.length = ks.length) (ho : ordL o ws = some xs) (r : Vals zs xs) (h : sp zs H Q E) : wpAny (model X.prog X.w) X.A (call (.ref f) [] (ks.zip ws)) (EP X pins σ Q) X.xe s := by
  refine wpAny_call (codeAny_mono (F.run _ X.stack _ _ ⟨[], ks.zip ws⟩ xs _ _ E hr I.env0 (hb _ ws xs I.kIn hl ho) r h) fun rr s' hq' => ?_)
  cases rr with
  | error e => exact hx pins σ _ _ e s' I hq'
  | ok fl =>
    cases fl with
    | ret u => exact I.after hq'
    | next => exact False.elim hq'
    | brk => exact False.elim hq'
    | cont => exact False.elim hq'
theorem sr_callk {k f ar : Nat} {fr : Bool} {x : Str} {ks : List Str} {o : List Nat} {a : DA} {kws : List Keyword} {p pos : Pos} (F : FnK X.prog X.w X.K X.mg X.base G φ k f ar fr ks o) (hr : Room k X.A) (hg : Gl X x) (hm : X.mg x = some (.ref (G.fad f))) (hx : Passes (L2.CX X.prog X.w) X E)
    (ha : SK G X φ E a kws) (hlen : ∀ ρ p ds p', a φ ρ p = .ok ds p' → ds.length = ks.length) (hol : o.length = ar) (hdb : (x == ("__debug__" : Str)) = false) (hall : (backToKw pos (keywordEach kws X.env)).all (·.1.isSome) = true) (hks : (backToKw pos (keywordEach kws X.env)).filterMap (·.1) = ks)
    (hpl : ((backTo pos (starEach [] X.env)).any (·.1) || (backToKw pos (keywordEach kws X.env)).any (·.1.isNone)) = false) : SR G X φ E fr (dCallK f o a) (.Call (.Name x p) [] kws pos) := by
  obtain ⟨fd, ps, hps, F, kp, hb⟩ := F.ex
  obtain ⟨ta, pa, ha⟩ := ha
  refine ⟨fun σ H Q => ta σ H fun vs H1 => vs.length = ks.length ∧ ∃ ws, ordL o vs = some ws ∧ spG G fr φ f ar ws H1 Q E, ⟨fun pins s σ H Q I h => ?_⟩, fun H0 S H σ ρ p Q r s g q => ?_⟩
  · refine wpAny_Call_Name_kw (ld_glob I hg hm ?_ hdb)
    refine PySem.W.callWith_KW0 (h₀ := X.base) I.ok.mod.kin kp hall ?_ hpl
    refine thn (pa.run pos pins s σ H _ I h) fun us s2 ⟨vs, H2, I2, rz, l1, ws, e1, q2⟩ => ⟨I2.kIn, ?_⟩
    rw [hks]
    obtain ⟨xs, e2, rv⟩ := ordL_vals rz e1
    exact run_kw F hr hb hx I2 (by rw [← rz.length]; exact l1) e2 rv q2
  · unfold dCallK at q
    refine ha H0 S H σ ρ p _ r s g ?_
    cases ea : a φ ρ p with
    | ok ds p1 =>
      intro vs S1 H1 f1 g1 a1
      have q1 := Pst.unb q ea
      replace a1 : Ats G S1 vs ds := a1
      cases eo : ordL o ds with
      | none => rw [eo] at q1; exact q1.elim
      | some es =>
        rw [eo] at q1
        obtain ⟨ws, h1, h2⟩ := ordL_ats a1 eo
        refine ⟨by rw [a1.length]; exact hlen _ _ _ _ ea, ws, h1, ?_, S1, p1, es, f1.sub, g1, h2, Pst.reA (Pst.mono q1 f1 g1) f1.dom⟩
        rw [h2.length, ← hol]
        have lo : ∀ {o : List Nat} {es : List D}, ordL o ds = some es → es.length = o.length := fun {o} => by
          induction o with
          | nil => intro es e; cases e; rfl
          | cons i r ih =>
            intro es e
            simp only [ordL] at e
            cases e1 : ds[i]? with
            | none => rw [e1] at e; cases e
            | some x =>
              cases e2 : ordL r ds with
              | none => rw [e1, e2] at e; cases e
              | some ys =>
                rw [e1, e2] at e
                cases e
                rw [List.length_cons, List.length_cons, ih e2]
        exact lo eo
    | exc c fs p1 =>
      unfold M.bind at q
      rw [ea] at q
      exact q
    | bad =>
      unfold M.bind at q
      rw [ea] at q
      exact q
end
end Z
namespace Z
open PySem PySem.Spec PyProof.Rows L2
/-! ### told(lambda: ..) -/
/-- one clause: except nm as e: found = (a, b, e.f) -/
structure ClE where
  nm : Str
  a : Str
  b : Str
  f : Str
  c : Nat
  p1 : Pos
  p2 : Pos
  p3 : Pos
  p4 : Pos
  p5 : Pos
  p6 : Pos
  p7 : Pos
  p8 : Pos
  p9 : Pos
  k1 : Nat
  k2 : Nat
  k3 : Nat
def ClE.hd (en fnd : Str) (q : ClE) : ExceptHandler := .ExceptHandler (some (.Name q.nm q.p1)) (some en) [.Assign [.Name fnd q.p2] (.Tuple [.Constant (.str q.a) q.k1 q.p3, .Constant (.str q.b) q.k2 q.p4, .Attribute (.Name en q.p5) q.f q.p6] q.k3 q.p7) q.p8] q.p9
def tolBody (fnd en a tw : Str) (cl : List ClE) (p1 p2 p3 p4 p5 p6 p7 p8 p9 : Pos) (k1 k2 : Nat) : List Stmt :=
  [.Try [.Assign [.Name fnd p1] (.Tuple [.Constant (.str tw) k1 p2, .Call (.Name a p3) [] [] p4] k2 p5) p6] (cl.map (ClE.hd en fnd)) [] [] p7, .Return (some (.Name fnd p8)) p9]
/-- what the clauses make of an exception -/
def tolW (G : Gx) (Q : VK) : List ClE → XK
  | [] => fun _ _ _ => False
  | q :: r => fun cls od H' => ∃ b, PySem.W.exmOne G.K cls (.ref (G.cad q.c)) = some b ∧ (b = true → cls = .ref (G.cad q.c) ∧ ∃ dd fs v, od = some dd ∧ H' dd = some (.xd fs) ∧ fs.lookup q.f = some v ∧ ∀ p, H' p = none → Q (.ref p) (upd H' p (.tup [.str q.a, .str q.b, v]))) ∧
    (b = false → tolW G Q r cls od H')
def tolTT (G : Gx) (tw : Str) (cl : List ClE) : (XK → Hp → VK → Prop) → Hp → VK → Prop := fun tl H Q => tl (tolW G Q cl) H (fun v H2 => ∀ p, H2 p = none → Q (.ref p) (upd H2 p (.tup [.str tw, v])))
/-- .. as data -/
def tolF (G : Gx) (c : Nat) (x : D) : List ClE → Option D
  | [] => none
  | q :: r => match G.exm c q.c with
    | some true => if c = q.c then some (.tup [.str q.a, .str q.b, x]) else none
    | some false => tolF G c x r
    | none => none
def tolR (G : Gx) (tw : Str) (cl : List ClE) : Res D → Res D
  | .ok d p => .ok (.tup [.str tw, d]) p
  | .exc c fs p => match fs with
    | [x] => match tolF G c x cl with
      | some d => .ok d p
      | none => .bad
    | _ => .bad
  | .bad => .bad
def dTold (G : Gx) (tw : Str) (cl : List ClE) (bd : DE) : DE := fun φ ρ p => tolR G tw cl (bd φ ρ p)
theorem takes_len {X : Cx} {W : WX} (tk : Takes X W) : Takes X (fun cls d σ H => σ.length = X.N.length → W cls d σ H) := fun u s' ⟨a, B, sI, pins, σ, H, cls, d, h1, h2, h3, h4, h5, h6, h7, h8, h9⟩ =>
  tk u s' ⟨a, B, sI, pins, σ, H, cls, d, h1, h2, h3, h4, h5, h6, h7, h8, h9 h2.len⟩
section
variable {G : Gx} {X : Cx} {φ : Fns} {E : XK}
theorem told_gives (hK : X.K = G.K) {Ng : List Str} {x a en fnd q tw : Str} {sg : Scope} {g : Addr} {cdg : Value} {cl : List ClE} {p1 p2 p3 p4 p5 p6 p7 p8 p9 : Pos} {k1 k2 jf ie : Nat} (hnd : Ng.Nodup) (hkd : sg.kind = .function)
    (hjf : Ng[jf]? = some fnd) (hie : Ng[ie]? = some en) (hij : jf ≠ ie) (hlf : sg.names.lookup fnd = some .local) (hle : sg.names.lookup en = some .local) (hdf : (fnd == ("__debug__" : Str)) = false) (hcf : (fnd == ("__classdict__" : Str)) = false) (hde : (en == ("__debug__" : Str)) = false) (hce : (en == ("__classdict__" : Str)) = false)
    (h0 : ∀ f : Addr, (L2.start Ng [V.ref f])[0]? = some (some (V.ref f))) (hcl0 : cl ≠ [])
    (hl : jf < Ng.length ∧ ie < Ng.length)
    (hcl : ∀ r ∈ cl, sg.names.lookup r.nm = some .globalImplicit ∧ X.mg r.nm = some (.ref (G.cad r.c)) ∧ (r.nm == ("__debug__" : Str)) = false ∧ XfC G.K (G.cad r.c) ∧ PySem.W.findIn G.K (.ref (G.cad r.c)) r.f = some none) :
    LamX.GivesTo X Ng x sg g cdg (tolBody fnd en a tw cl p1 p2 p3 p4 p5 p6 p7 p8 p9 k1 k2) a q (tolTT G tw cl) := by
  intro f c' s H Q tl act hc h
  let X' := (cxOf C8.CX0 X.prog X.w X.K X.mg X.base Ng x sg g cdg X.A X.stack s H C8.E0).nox
  have hX'N : X'.N = Ng := rfl
  let ts : ClE → Addr → Value → Option Addr → TS := fun r aa cls d => tAsg (tTup (tCons (tC (.str r.a)) (tCons (tC (.str r.b)) (tCons (tXf aa cls d (G.cad r.c) r.f (tVar ie)) tNil)))) (gName jf)
  have hz : ∀ l : List ClE, (∀ r ∈ l, r ∈ cl) → L2.ZHds X' en (l.map (ClE.hd en fnd)) (l.map fun r => (Value.ref (G.cad r.c), ts r)) := by
    intro l
    induction l with
    | nil => intro _; exact .nil
    | cons r l ih =>
      intro hs
      obtain ⟨c1, c2, c3, c4, c5⟩ := hcl r (hs r List.mem_cons_self)
      refine .cons ⟨c1, c3, .inl c2⟩ (fun aa oe cls d pn hzc hf => ?_) (ih fun z hz => hs z (List.mem_cons_of_mem _ hz))
      have pv : PE (X'.suite aa ((aa, oe) :: pn)) (.Name en r.p5) (tVar ie) := pe_var hie (.inl hle) hde hce
      have px : PE (X'.suite aa ((aa, oe) :: pn)) (.Attribute (.Name en r.p5) r.f r.p6) (tXf aa cls d (G.cad r.c) r.f (tVar ie)) := by
        refine pe_xf (X := X') ?_ ?_ hzc hf pv rfl
        · show XfC X.K (G.cad r.c)
          rw [hK]; exact c4
        · show PySem.W.findIn X.K (.ref (G.cad r.c)) r.f = some none
          rw [hK]; exact c5
      exact pss_one (ps_set (X := X'.suite aa ((aa, oe) :: pn)) hnd hjf (.inl hlf) (pe_tup (pa_cons pe_str (pa_cons pe_str (pa_cons px pa_nil rfl) rfl) rfl)) rfl (.inr hlf))
  have hmap : ∃ h₀ hds, cl.map (ClE.hd en fnd) = h₀ :: hds := by
    cases cl with
    | nil => exact absurd rfl hcl0
    | cons r l => exact ⟨_, _, rfl⟩
  obtain ⟨h₀, hds, hm⟩ := hmap
  have hzz := hz cl fun _ h => h
  rw [hm] at hzz
  have pt := ps_try_manyAs (X := X') (i := ie) (pos := p7) (body := [.Assign [.Name fnd p1] (.Tuple [.Constant (.str tw) k1 p2, .Call (.Name a p3) [] [] p4] k2 p5) p6])
      (tb := fun W D σ H => ∃ Ech : XK, (∀ cls d σ' H', σ'.length = Ng.length → Ech cls d H' → W cls d σ' H') ∧ σ[0]? = some (some (.ref f)) ∧ H c' = some (LamX.CodeO c' q) ∧
        tl Ech H (fun v H2 => ([V.str tw, v] : List V).length ≤ sizeLine ∧ ∀ p, H2 p = none → D.nx (σ.set jf (some (.ref p))) (upd H2 p (.tup [.str tw, v]))))
      rfl rfl hnd hie hle LamX.takes0 (fun W pn xe tk _ => ?_) hzz
  · refine ⟨_, by unfold tolBody; rw [hm]; exact pss_cons pt (pss_one (ps_ret (X := X') (pe_var hjf (.inl hlf) hdf hcf))), ?_⟩
    have lenst : (L2.start Ng [V.ref f]).length = Ng.length := by
      unfold L2.start
      rw [List.length_append, List.length_map, List.length_replicate]
      have : 0 < Ng.length := by omega
      simp
      omega
    refine ⟨tolW G Q cl, ?_, h0 f, hc, ?_⟩
    · intro cls d σ' H' hlen hw
      show L2.zMany X.K ie _ _ _ cls d σ' H'
      rw [hK]
      clear pt h hzz hm hcl hz hcl0
      induction cl with
      | nil => exact hw.elim
      | cons r l ih =>
        obtain ⟨b, e1, e2, e3⟩ := hw
        refine ⟨b, e1, fun hb aa haa => ?_, fun hb => ih (e3 hb)⟩
        obtain ⟨ec, dd, fs, v, e4, e5, e6, e7⟩ := e2 hb
        have hie2 : ie < σ'.length := by rw [hlen]; exact hl.2
        have hjf2 : jf < σ'.length := by rw [hlen]; exact hl.1
        refine ⟨.ref aa, by rw [List.getElem?_set_self hie2], rfl, ec, dd, fs, v, e4, e5, e6, (by show 3 ≤ sizeLine; decide), fun p hp => ?_⟩
        refine ⟨.ref p, ?_, e7 p hp⟩
        rw [List.getElem?_set_ne (Ne.symm hij), List.getElem?_set_self (by rw [List.length_set]; exact hjf2)]
    · have ec : (fun (v : V) (H2 : Hp) => ([V.str tw, v] : List V).length ≤ sizeLine ∧ ∀ p, H2 p = none → tRet (tVar jf) { nx := fun _ H' => Q .non H', rt := Q } ((L2.start Ng [V.ref f]).set jf (some (.ref p))) (upd H2 p (.tup [.str tw, v]))) = fun v H2 => ∀ p, H2 p = none → Q (.ref p) (upd H2 p (.tup [.str tw, v])) := by
        funext v H2
        refine propext ⟨fun ⟨_, z⟩ p hp => ?_, fun z => ⟨(by show 2 ≤ sizeLine; decide), fun p hp => ?_⟩⟩
        · obtain ⟨u, e1, e2⟩ := z p hp
          rw [List.getElem?_set_self (by rw [lenst]; exact hl.1)] at e1
          cases e1
          exact e2
        · exact ⟨.ref p, by rw [List.getElem?_set_self (by rw [lenst]; exact hl.1)], z p hp⟩
      show tl (tolW G Q cl) H (fun v H2 => ([V.str tw, v] : List V).length ≤ sizeLine ∧ ∀ p, H2 p = none → tRet (tVar jf) { nx := fun _ H' => Q .non H', rt := Q } ((L2.start Ng [V.ref f]).set jf (some (.ref p))) (upd H2 p (.tup [.str tw, v])))
      rw [ec]
      exact h
  · refine ⟨fun pins s' σ H' D I h' => ?_⟩
    obtain ⟨Ech, hW, h1, h2, h3⟩ := h'
    have hp := act (fun cls d σ H => σ.length = Ng.length → W cls d σ H) pn xe Ech p3 p4 (takes_len (X := X'.tr pn xe) tk) (fun cls d σ' H' he hlen => hW cls d σ' H' hlen he)
    have hq := pss_one (ps_set (X := X'.tr pn xe) (pos := p6) (pos' := p1) hnd hjf (.inl hlf) (pe_tup (x1 := k2) (pos := p5) (pa_cons (pe_str (x := tw) (j := k1) (pos := p2)) (pa_cons hp pa_nil rfl) rfl)) rfl (.inr hlf))
    exact hq.run pins s' σ H' D I ⟨h1, h2, h3⟩
abbrev dbgT (N : List Str) : Prop := ∀ n ∈ N, (n == ("__debug__" : Str)) = false ∧ (n == ("__classdict__" : Str)) = false
structure TolS (G : Gx) (mg : Str → Option Value) (x tw : Str) (cl : List ClE) : Prop where
  ex : ∃ (g : Addr) (pg : Arguments) (sg : Scope) (dV kV doc pm cdv ct oc : Value) (an od : Option Addr) (osl : Array (Option Value)) (Ng : List Str) (a en fnd : Str) (jf ie : Nat) (p1 p2 p3 p4 p5 p6 p7 p8 p9 : Pos) (k1 k2 : Nat),
    mg x = some (.ref g) ∧ PySem.W.keepIn G.K (.ref g) = true ∧ G.K.lookup g = some ⟨oc, od, .func (PySem.W.fnOf x x pg (tolBody fnd en a tw cl p1 p2 p3 p4 p5 p6 p7 p8 p9 k1 k2) sg dV kV doc pm an cdv ct), osl⟩ ∧ PySem.W.codeIn G.K cdv x = true ∧
    L2.Binds G.K (PySem.W.fnOf x x pg (tolBody fnd en a tw cl p1 p2 p3 p4 p5 p6 p7 p8 p9 k1 k2) sg dV kV doc pm an cdv ct) [a] [] ∧ FnScope Ng [a] sg ∧ Ng[0]? = some a ∧ Vis sg a ∧ Ng[jf]? = some fnd ∧ Ng[ie]? = some en ∧ jf ≠ ie ∧ sg.names.lookup fnd = some .local ∧ sg.names.lookup en = some .local ∧ dbgT Ng ∧ cl ≠ [] ∧
    ∀ r ∈ cl, sg.names.lookup r.nm = some .globalImplicit ∧ mg r.nm = some (.ref (G.cad r.c)) ∧ (r.nm == ("__debug__" : Str)) = false ∧ XfC G.K (G.cad r.c) ∧ PySem.W.findIn G.K (.ref (G.cad r.c)) r.f = some none
/-- the caller's code object and its table -/
def LamF (G : Gx) (X : Cx) : Prop := ∃ cc P : Addr, X.env.code = .ref cc ∧ LamX.TabB X.base X.mg cc P ∧ (P, X.env.qual ++ ("<lambda>" : Str)) ∈ G.T ∧ ∀ p ∈ G.T, p.1 = P → p.2 = X.env.qual ++ ("<lambda>" : Str)
abbrev noArgs : Arguments := ⟨[], [], none, [], [], none, []⟩
theorem tolF_ok (hex : ∀ a b r, G.exm a b = some r → PySem.W.exmOne G.K (.ref (G.cad a)) (.ref (G.cad b)) = some r) {S H : Hp} {p : PS} {c : Nat} {x d : D} {v : V} {dd : Addr} {n : Str} (s : Sub G S H) (g : RegOk G H p) (hx : H dd = some (.xd [(n, v)])) (av : At G S v x) {Q : VK} :
    ∀ {cl : List ClE}, (∀ r ∈ cl, c = r.c → r.f = n) → (∀ r ∈ cl, sOk r.a = true ∧ sOk r.b = true) → tolF G c x cl = some d → (∀ v S' H', Fp G S H S' H' → At G S' v d → Q v H') → tolW G Q cl (.ref (G.cad c)) (some dd) H
  | [], _, _, e, _ => by cases e
  | r :: l, hn, hk, e, k => by
    rw [tolF] at e
    cases em : G.exm c r.c with
    | none => rw [em] at e; cases e
    | some b =>
      rw [em] at e
      refine ⟨b, hex _ _ _ em, fun hb => ?_, fun hb => ?_⟩
      · subst hb
        simp only at e
        split at e
        · rename_i hc
          cases e
          refine ⟨by rw [hc], dd, _, v, rfl, hx, by rw [hn r List.mem_cons_self hc]; simp, fun pp hp => ?_⟩
          have fa := Fp.alloc (o := .tup [.str r.a, .str r.b, v]) s g hp
          have hk' := hk r List.mem_cons_self
          exact k _ _ _ fa (.tup upd_same (.cons (.str _ hk'.1) (.cons (.str _ hk'.2) (.cons (av.mono fa.ext) .nil))))
        · cases e
      · subst hb
        exact tolF_ok hex s g hx av (fun r hr => hn r (List.mem_cons_of_mem _ hr)) (fun r hr => hk r (List.mem_cons_of_mem _ hr)) e k
theorem se_told (hK : X.K = G.K) (hex : ∀ a b r, G.exm a b = some r → PySem.W.exmOne G.K (.ref (G.cad a)) (.ref (G.cad b)) = some r) {k : Nat} {x tw : Str} {cl : List ClE} {bd : DE} {eb : Expr} {scope : Scope} {p lpos pos : Pos} (T : TolS G X.mg x tw cl) (lam : LamF G X) (hr : Room (k + 2) X.A) (hg : Gl X x) (hdb : (x == ("__debug__" : Str)) = false)
    (L : LamX.LamS X.env.scope scope) (hsk : ∀ r ∈ cl, sOk r.a = true ∧ sOk r.b = true) (htw : sOk tw = true) (hf : ∀ r ∈ cl, G.cfs r.c = [r.f])
    (hbody : ∀ (A : Around) (outer : List PySem.Env) (s : Shared) (H : Hp) (E : XK) (f c' : Addr), Room k (A.deeper (LamX.lamEnv X scope s.heap.objs.size f c')) → SE G (LamX.lamCx X A outer s H E scope f c') φ E bd eb) :
    SE G X φ E (dTold G tw cl bd) (.Call (.Name x p) [.Lambda noArgs eb scope lpos] [] pos) := by
  obtain ⟨g, pg, sg, dV, kV, doc, pm, cdv, ct, oc, an, od, osl, Ng, a, en, fnd, jf, ie, p1, p2, p3, p4, p5, p6, p7, p8, p9, k1, k2, h1, h2, h3, h4, h5, h6, h7, h8, h9, h10, h11, h12, h13, h14, h15, h16⟩ := T.ex
  obtain ⟨cc, P, l1, l2, l3, l4⟩ := lam
  rw [← hK] at h2 h3 h4 h5
  have db := fun n hn => h14 n hn
  have hl : jf < Ng.length ∧ ie < Ng.length := ⟨(List.getElem?_eq_some_iff.mp h9).1, (List.getElem?_eq_some_iff.mp h10).1⟩
  have mem : ∀ {i : Nat} {n : Str}, Ng[i]? = some n → n ∈ Ng := fun h => List.mem_of_getElem? h
  have gv := told_gives (X := X) (G := G) (x := x) (a := a) (q := X.env.qual ++ ("<lambda>" : Str)) (g := g) (cdg := cdv) (p1 := p1) (p2 := p2) (p3 := p3) (p4 := p4) (p5 := p5) (p6 := p6) (p7 := p7) (p8 := p8) (p9 := p9) (k1 := k1) (k2 := k2) (tw := tw) hK h6.nd h6.kind h9 h10 h11 h12 h13 (db _ (mem h9)).1 (db _ (mem h9)).2 (db _ (mem h10)).1 (db _ (mem h10)).2
    (fun f => rfl) h15 hl h16
  have pe := LamX.pe_lamcall (T := G.T) (t := fun E => tE G φ E bd) (params := noArgs) (p := p) (lpos := lpos) (pos := pos) hg h1 h2 h3 h4 h5 h6 h7 h8 gv l2 l1 l3 l4 hr L rfl (fun _ _ _ _ _ => rfl) (fun A outer s H E f c' hrr => (hbody A outer s H E f c' hrr).can) hdb (db _ (mem h7)).1 (db _ (mem h7)).2
  refine ⟨_, pe, fun H0 S H σ ρ ps Q r s gg q => ⟨gg.tabs, fun H1 eN T1 => ?_⟩⟩
  have f1 : Fn G S H S H1 := ⟨Ext.refl _, ⟨fun a o h => eN a o (s.ext a o h) (fun ps z => by rw [z] at h; exact s.nt a ps h), s.n1, s.n2, s.nt⟩, fun a o _ _ nt h => eN a o h nt, fun a ⟨o, h, nt⟩ => ⟨o, eN a o h nt, nt⟩, fun _ _ => rfl⟩
  have g1 : RegOk G H1 ps := ⟨eN _ _ gg.a1 (fun _ z => by cases z), eN _ _ gg.a2 (fun _ z => by cases z), gg.ne, T1⟩
  refine ⟨H0, S, ρ, ps, r.mono f1, f1.sub, g1, ?_⟩
  unfold dTold at q
  cases eb : bd φ ρ ps with
  | ok d p' =>
    rw [eb] at q
    intro v S' H' f g' av pp hp
    replace av : At G S' v d := av
    have fa := Fp.alloc (o := .tup [.str tw, v]) f.sub g' hp
    exact q _ _ _ ((f1.trans f).trans fa.fn) (fa.reg g') (.tup upd_same (.cons (.str tw htw) (.cons (av.mono fa.ext) .nil)))
  | bad => rw [eb] at q; exact q.elim
  | exc c fs p' =>
    rw [eb] at q
    unfold tolR at q
    intro cls odd S' H' f g' ex
    obtain ⟨rfl, ex⟩ := ex
    rcases ex with ⟨rfl, _, _⟩ | ⟨dd, n, xd, v, rfl, hcf, rfl, hxd, av⟩
    · exact q.elim
    · simp only at q
      cases et : tolF G c xd cl with
      | none => rw [et] at q; exact q.elim
      | some d =>
        rw [et] at q
        refine tolF_ok hex f.sub g' hxd av (fun rr hr e => ?_) hsk et fun v2 S2 H2 fp a2 => q v2 S2 H2 ((f1.trans f).trans fp.fn) (fp.reg g') a2
        have := hf rr hr
        rw [← e, hcf] at this
        exact (List.cons.inj this).1.symm
end
end Z
namespace Z
open PySem PySem.Spec PyProof.Rows L2
/-! ### exceptions as values -/
def dMkx (c : Nat) (a : DE) : DE := fun φ ρ => M.bind (a φ ρ) fun d => M.pure (.exc c [d])
def xfF (cf : Nat → List Str) (xs : List Nat) (n : Str) : D → Option D
  | .exc c [x] => if xs.contains c && decide (cf c = [n]) then some x else none
  | _ => none
def dXfl (cf : Nat → List Str) (xs : List Nat) (n : Str) (o : DE) : DE := fun φ ρ => M.bind (o φ ρ) fun d => M.of (xfF cf xs n d)
section
variable {G : Gx} {X : Cx} {φ : Fns} {E : XK}
theorem mkx_end {c : Nat} {fn : Str} {S H S1 H1 : Hp} {p1 : PS} {d : D} {v : V} {Q : VK} (hf : G.cfs c = [fn]) (f1 : Fn G S H S1 H1) (g1 : RegOk G H1 p1) (a1 : At G S1 v d) (q1 : Pst G E (relF G H) S1 H1 Q (M.pure (.exc c [d]) p1)) {b : Addr} (hb : H1 b = none) :
    spX G c fn [.ref b, v] (upd H1 b (exo b (G.cad c) none)) (fun v H2 => v = .non ∧ ∃ (d : Addr) (fs : List (Str × V)), H2 b = some (exo b (G.cad c) (some d)) ∧ H2 d = some (exd d fs) ∧ H1 d = none ∧
      ∀ a, upd (del H2 b) d (.xd fs) a = none → Q (.ref a) (upd (upd (del H2 b) d (.xd fs)) a (ExV (.ref (G.cad c)) (some d) a))) (fun _ _ _ => False) := by
  refine ⟨rfl, b, v, rfl, upd_same, fun dx hdx hne => ⟨rfl, dx, [(fn, v)], upd_same, by rw [upd_ne hne, upd_same], ?_, fun a ha => ?_⟩⟩
  · rw [upd_ne hne] at hdx
    exact hdx
  · have hdx' : H1 dx = none := by rw [upd_ne hne] at hdx; exact hdx
    have e1 : upd (del (upd (upd (upd H1 b (exo b (G.cad c) none)) dx (exd dx [(fn, v)])) b (exo b (G.cad c) (some dx))) b) dx (.xd [(fn, v)]) = upd H1 dx (.xd [(fn, v)]) := by
      funext z
      by_cases z1 : z = dx
      · rw [z1, upd_same, upd_same]
      · rw [upd_ne z1, upd_ne z1]
        unfold del
        by_cases z2 : z = b
        · rw [if_pos z2, z2, hb]
        · rw [if_neg z2, upd_ne z2, upd_ne z1, upd_ne z2]
    rw [e1] at ha ⊢
    have fa := Fp.alloc (o := .xd [(fn, v)]) f1.sub g1 hdx'
    have ga := fa.reg g1
    have fb := Fp.alloc (o := ExV (.ref (G.cad c)) (some dx) a) fa.sub ga ha (by intro ps z; exact exv_tbl z)
    have hne2 : dx ≠ a := fun z => by rw [← z, upd_same] at ha; cases ha
    refine q1 _ _ _ (fa.fn.trans fb.fn) (fb.reg ga) (.inl ⟨rfl, .exc hf upd_same (by rw [upd_ne hne2, upd_same]) ((a1.mono fa.ext).mono fb.ext)⟩)
where
  exv_tbl {cls : Value} {d : Option Addr} {a : Addr} {ps : Array Value} (z : ExV cls d a = .tbl ps) : False := by
    have z' : HO.ext _ = HO.tbl ps := z
    cases z'
theorem sf_mkx {c k : Nat} {a : DE} {x : Str} {e : Expr} {p1 p2 : Pos} (F : ExF X.prog X.w X.K X.mg X.base G k c) (hr : Room (k + 1) X.A) (hg : Gl X x) (hm : X.mg x = some (.ref (G.cad c))) (hdb : (x == ("__debug__" : Str)) = false)
    (ha : SE G X φ E a e) (hs : starEach [e] X.env = (false, eval e X.env) :: starEach [] X.env) : SF G X φ E (dMkx c a) (.Call (.Name x p1) [e] [] p2) := by
  obtain ⟨fI, fd, ps, fn, hO, iC, tI, hl, hf, F, hb, _⟩ := F.ex
  obtain ⟨t, pa, ha⟩ := ha
  have pm := pmk_oex (p := p1) (pos := p2) hO iC tI F hr hb .nil passL hg hm (pa_cons pa pa_nil hs) hdb hs rfl
  refine ⟨_, pe_exV pm, fun H0 S H σ ρ p Q r s g q => ?_⟩
  unfold dMkx at q
  exact ha H0 S H σ ρ p _ r s g (q.bind fun d p1 v S1 H1 f1 g1 a1 q1 => ⟨by show 1 ≤ 1000; decide, fun b hb => mkx_end hf f1 g1 a1 q1 hb⟩)
theorem sf_mkk {c k : Nat} {a : DE} {x f : Str} {e : Expr} {kp p1 p2 : Pos} (F : ExF X.prog X.w X.K X.mg X.base G k c) (hcf : G.cfs c = [f]) (hr : Room (k + 1) X.A) (hg : Gl X x) (hm : X.mg x = some (.ref (G.cad c))) (hdb : (x == ("__debug__" : Str)) = false)
    (ha : SE G X φ E a e) : SF G X φ E (dMkx c a) (.Call (.Name x p1) [] [⟨some f, e, kp⟩] p2) := by
  obtain ⟨fI, fd, ps, fn, hO, iC, tI, hl, hf, F, hb, hkw⟩ := F.ex
  have ef : fn = f := by rw [hf] at hcf; simpa using hcf
  subst ef
  obtain ⟨t, pa, ha⟩ := ha
  have pm := pmk_oexK (p := p1) (pos := p2) hO iC tI F hr hkw passL hg hm (pk_cons (nm := some fn) (kpos := kp) pa pk_nil) hdb rfl rfl rfl
  refine ⟨_, pe_exV pm, fun H0 S H σ ρ p Q r s g q => ?_⟩
  unfold dMkx at q
  exact ha H0 S H σ ρ p _ r s g (q.bind fun d p1 v S1 H1 f1 g1 a1 q1 => ⟨rfl, by show 1 ≤ 1000; decide, fun b hb => mkx_end hf f1 g1 a1 q1 hb⟩)
theorem se_xfl (hK : X.K = G.K) {xs : List Nat} {n : Str} {a : DE} {e : Expr} {pos : Pos} (hx : ∀ c ∈ xs, XfC G.K (G.cad c) ∧ ∀ f, G.cfs c = [f] → PySem.W.findIn G.K (.ref (G.cad c)) f = some none) (ha : SE G X φ E a e) (hb : attributeBase e n X.env (eval e X.env) = eval e X.env) :
    SE G X φ E (dXfl G.cfs xs n a) (.Attribute e n pos) := by
  obtain ⟨t, pa, ha⟩ := ha
  refine ⟨_, pe_xv pa hb, fun H0 S H σ ρ p Q r s g q => ?_⟩
  unfold dXfl at q
  refine ha H0 S H σ ρ p _ r s g (q.bind fun d p1 v S1 H1 f1 g1 a1 q1 => ?_)
  replace a1 : At G S1 v d := a1
  obtain ⟨y, e1, k⟩ := q1.of f1.sub g1
  unfold xfF at e1
  split at e1
  · rename_i c x
    split at e1
    · rename_i hc
      cases e1
      rw [Bool.and_eq_true, decide_eq_true_eq] at hc
      obtain ⟨hc1, hc2⟩ := hc
      obtain ⟨z1, z2⟩ := hx c (List.contains_iff_mem.mp hc1)
      cases a1 with
      | exc hf h1 h2 h3 =>
        rename_i aa dx f v
        rw [hf] at hc2
        have ef : f = n := by simpa using hc2
        subst ef
        rw [hK]
        refine ⟨aa, _, dx, _, v, rfl, f1.sub.ext _ _ h1, z1, z2 f hf, f1.sub.ext _ _ h2, by simp [List.lookup], ?_⟩
        exact k _ S1 H1 (Fp.refl f1.sub) h3
    · cases e1
  · cases e1
end
end Z
namespace Z
open PySem PySem.Spec PyProof.Rows L2

/-! ### expressions -/
inductive Bi where
  | len | list | tuple | all | any | sum | abs | max | min | int | sorted | isi | str
  deriving DecidableEq
def Bi.nm : Bi → String
  | .len => "len" | .list => "list" | .tuple => "tuple" | .all => "all" | .any => "any" | .sum => "sum" | .abs => "abs" | .max => "max" | .min => "min" | .int => "int" | .sorted => "sorted" | .isi => "isinstance" | .str => "str"
inductive Ty where
  | list | tuple | dict | int | str | bool | ve | ke
def Ty.nm : Ty → String
  | .list => "list" | .tuple => "tuple" | .dict => "dict" | .int => "int" | .str => "str" | .bool => "bool" | .ve => "ValueError" | .ke => "KeyError"
mutual
inductive E where
  | var (i : Nat) (p : Pos)
  | int (i : Int) (k : Nat) (p : Pos) | str (x : Str) (k : Nat) (p : Pos) | bl (b : Bool) (k : Nat) (p : Pos) | non (k : Nat) (p : Pos)
  | gfn (f : Nat) (p : Pos) | gcl (c : Nat) (p : Pos) | gstr (s : Nat) (p : Pos) | ty (t : Ty) (p : Pos)
  | bin (op : Operator) (a b : E) (p : Pos) | neg (a : E) (p : Pos)
  | cmp (op : CmpOp) (a b : E) (p : Pos) | cmp2 (op op' : CmpOp) (a b c : E) (p : Pos)
  | bop (op : BoolOp) (a : E) (r : Es) (p : Pos) | not (a : E) (p : Pos) | ife (c a b : E) (p : Pos)
  | call (f : Nat) (es : Es) (q p : Pos) | lend (f : Nat) (es : Es) (q p : Pos)
  | make (c : Nat) (es : Es) (q p : Pos)
  | meth (m : Nat) (o : E) (es : Es) (q p : Pos) | fld (c k : Nat) (o : E) (p : Pos)
  | blt (b : Bi) (es : Es) (q p : Pos)
  | sub (a b : E) (p : Pos) | sl (a : E) (lo hi : Oe) (q p : Pos)
  | lst (es : Es) (p : Pos) | tup (es : Es) (k : Nat) (p : Pos) | dk (p : Pos) | dt (p : Pos)
  | spl (a b : E) (q p : Pos) | joi (a b : E) (q p : Pos) | ends (a b : E) (q p : Pos)
  | lc (own : List Nat) (pt : Pat) (it : Ie) (ifs : Es) (elt : E) (sc : Scope) (p : Pos)
  | callv (fs : List Nat) (i : Nat) (es : Es) (q p : Pos) | callk (m : Nat) (ks : Ks) (q p : Pos) | told (t : Nat) (bd : E) (sc : Scope) (q lp p : Pos)
  | mkx (c : Nat) (a : E) (q p : Pos) | mkk (c : Nat) (a : E) (kp q p : Pos) | xfl (n : Nat) (o : E) (p : Pos)
  | dc (own : List Nat) (pt : Pat) (it : Ie) (ifs : Es) (kx vx : E) (sc : Scope) (p : Pos)
inductive Es where
  | nil
  | cons (a : E) (r : Es)
inductive Ks where
  | nil
  | cons (n : Str) (a : E) (p : Pos) (r : Ks)
inductive Oe where
  | no
  | so (a : E)
inductive Ie where
  | e (a : E) | rng1 (a : E) (q p : Pos) | rng2 (a b : E) (q p : Pos) | enum (a : E) (q p : Pos) | zip (a b : E) (q p : Pos)
end
/-- the tables of the text: functions (name, how many arguments, whether what they give is fresh), classes (name, fields), the makers of the classes, methods, module texts -/
structure Tab where
  ng : Nat
  fns : List (Str × Nat × Bool)
  cls : List (Str × List Str)
  made : List (Option (Nat × Nat))
  mth : List (Nat × Str × Nat)
  txs : List (Str × Str)
  /-- calls by keywords: the function, the keywords, their order -/
  kws : List (Nat × List Str × List Nat)
  /-- defs that catch what a lambda raises -/
  tol : List (Str × Str × List ClE)
  /-- exception classes made as values, the names of their fields -/
  xcs : List Nat := []
  xfs : List Str := []
def Tab.xn (T : Tab) (n : Nat) : Str := T.xfs.getD n Str.empty
def Tab.fnm (T : Tab) (f : Nat) : Str := ((T.fns[f]?).map (·.1)).getD Str.empty
def Tab.ar (T : Tab) (f : Nat) : Nat := ((T.fns[f]?).map (·.2.1)).getD 0
def Tab.fr (T : Tab) (f : Nat) : Bool := ((T.fns[f]?).map (·.2.2)).getD false
def Tab.cnm (T : Tab) (c : Nat) : Str := ((T.cls[c]?).map (·.1)).getD Str.empty
def Tab.cfs (T : Tab) (c : Nat) : List Str := ((T.cls[c]?).map (·.2)).getD []
def Tab.mkf (T : Tab) (c : Nat) : Nat := (((T.made[c]?).join).map (·.1)).getD 0
def Tab.mka (T : Tab) (c : Nat) : Nat := (((T.made[c]?).join).map (·.2)).getD 0
def Tab.mc (T : Tab) (m : Nat) : Nat := ((T.mth[m]?).map (·.1)).getD 0
def Tab.mn (T : Tab) (m : Nat) : Str := ((T.mth[m]?).map (·.2.1)).getD Str.empty
def Tab.mf (T : Tab) (m : Nat) : Nat := ((T.mth[m]?).map (·.2.2)).getD 0
def Tab.snm (T : Tab) (s : Nat) : Str := ((T.txs[s]?).map (·.1)).getD Str.empty
def Tab.sval (T : Tab) (s : Nat) : Str := ((T.txs[s]?).map (·.2)).getD Str.empty
def Tab.kf (T : Tab) (m : Nat) : Nat := ((T.kws[m]?).map (·.1)).getD 0
def Tab.kn (T : Tab) (m : Nat) : List Str := ((T.kws[m]?).map (·.2.1)).getD []
def Tab.ko (T : Tab) (m : Nat) : List Nat := ((T.kws[m]?).map (·.2.2)).getD []
def Tab.tn (T : Tab) (t : Nat) : Str := ((T.tol[t]?).map (·.1)).getD Str.empty
def Tab.tt (T : Tab) (t : Nat) : Str := ((T.tol[t]?).map (·.2.1)).getD Str.empty
def Tab.tc (T : Tab) (t : Nat) : List ClE := ((T.tol[t]?).map (·.2.2)).getD []
section
variable (T : Tab) (N : List Str)
mutual
def E.ex : E → Expr
  | .var i p => .Name (N.getD i Str.empty) p
  | .int i k p => .Constant (.int i) k p
  | .str x k p => .Constant (.str x) k p
  | .bl b k p => .Constant (.bool b) k p
  | .non k p => .Constant .none k p
  | .gfn f p => .Name (T.fnm f) p
  | .gcl c p => .Name (T.cnm c) p
  | .gstr s p => .Name (T.snm s) p
  | .ty t p => .Name (Str.ofString t.nm) p
  | .bin op a b p => .BinOp a.ex op b.ex p
  | .neg a p => .UnaryOp .USub a.ex p
  | .cmp op a b p => .Compare a.ex [op] [b.ex] p
  | .cmp2 op op' a b c p => .Compare a.ex [op, op'] [b.ex, c.ex] p
  | .bop op a r p => .BoolOp op (a.ex :: r.ex) p
  | .not a p => .UnaryOp .Not a.ex p
  | .ife c a b p => .IfExp c.ex a.ex b.ex p
  | .call f es q p => .Call (.Name (T.fnm f) q) es.ex [] p
  | .lend f es q p => .Call (.Name (T.fnm f) q) es.ex [] p
  | .make c es q p => .Call (.Name (T.cnm c) q) es.ex [] p
  | .meth m o es q p => .Call (.Attribute o.ex (T.mn m) q) es.ex [] p
  | .fld c k o p => .Attribute o.ex ((T.cfs c).getD k Str.empty) p
  | .blt b es q p => .Call (.Name (Str.ofString b.nm) q) es.ex [] p
  | .sub a b p => .Subscript a.ex b.ex p
  | .sl a lo hi q p => .Subscript a.ex (.Slice lo.ex hi.ex none q) p
  | .lst es p => .List es.ex p
  | .tup es k p => .Tuple es.ex k p
  | .dk p => .Dict [] [] p
  | .dt p => .Dict [] [] p
  | .spl a b q p => .Call (.Attribute a.ex (Str.ofString "split") q) [b.ex] [] p
  | .joi a b q p => .Call (.Attribute a.ex (Str.ofString "join") q) [b.ex] [] p
  | .ends a b q p => .Call (.Attribute a.ex (Str.ofString "endswith") q) [b.ex] [] p
  | .lc _ pt it ifs elt sc p => .ListComp elt.ex [⟨pt.ex N, it.ex, ifs.ex, 0⟩] sc p
  | .callv _ i es q p => .Call (.Name (N.getD i Str.empty) q) es.ex [] p
  | .callk m ks q p => .Call (.Name (T.fnm (T.kf m)) q) [] ks.ex p
  | .told t bd sc q lp p => .Call (.Name (T.tn t) q) [.Lambda noArgs bd.ex sc lp] [] p
  | .mkx c a q p => .Call (.Name (T.cnm c) q) [a.ex] [] p
  | .mkk c a kp q p => .Call (.Name (T.cnm c) q) [] [⟨some ((T.cfs c).getD 0 Str.empty), a.ex, kp⟩] p
  | .xfl n o p => .Attribute o.ex (T.xn n) p
  | .dc _ pt it ifs kx vx sc p => .DictComp kx.ex vx.ex [⟨pt.ex N, it.ex, ifs.ex, 0⟩] sc p
def Es.ex : Es → List Expr
  | .nil => []
  | .cons a r => a.ex :: r.ex
def Ks.ex : Ks → List Keyword
  | .nil => []
  | .cons n a p r => ⟨some n, a.ex, p⟩ :: r.ex
def Oe.ex : Oe → Option Expr
  | .no => none
  | .so a => some a.ex
def Ie.ex : Ie → Expr
  | .e a => a.ex
  | .rng1 a q p => .Call (.Name (Str.ofString "range") q) [a.ex] [] p
  | .rng2 a b q p => .Call (.Name (Str.ofString "range") q) [a.ex, b.ex] [] p
  | .enum a q p => .Call (.Name (Str.ofString "enumerate") q) [a.ex] [] p
  | .zip a b q p => .Call (.Name (Str.ofString "zip") q) [a.ex, b.ex] [] p
end
end
def Ks.names : Ks → List Str
  | .nil => []
  | .cons n _ _ r => n :: r.names
def Es.len : Es → Nat
  | .nil => 0
  | .cons _ r => r.len + 1
/-! ### what they mean -/
def dsum (l : List DT) : DT := match l with
  | [] => dYes
  | a :: _ => a
def dCmp2 (f f' : D → D → Option D) (a b c : DE) : DE := fun φ ρ => M.bind (a φ ρ) fun x => M.bind (b φ ρ) fun y => M.bind (M.of (f x y)) fun z => M.bind (M.of (asB z)) fun k =>
  if k then M.bind (c φ ρ) fun w => M.of (f' y w) else M.pure (.bl false)
section
variable (G : Gx) (T : Tab)
def biF : Bi → List D → Option D
  | .len => lenF | .list => listF | .tuple => tupF | .all => allF | .any => anyF | .sum => sumF | .abs => i1 fun i => .int (if i < 0 then -i else i)
  | .max => i2 fun i j => .int (if j > i then j else i) | .min => i2 fun i j => .int (if j < i then j else i) | .int => intF | .sorted => sortF | .isi => isiF G | .str => strF
mutual
def E.den : Bool → E → DE
  | lk, .var i _ => if lk then dB i else dV i
  | _, .int i _ _ => dC (.int i)
  | _, .str x _ _ => dC (.str x)
  | _, .bl b _ _ => dC (.bl b)
  | _, .non _ _ => dC .non
  | _, .gfn f _ => dC (.fn f)
  | _, .gcl c _ => dC (.cl c)
  | _, .gstr s _ => dC (.str (T.sval s))
  | _, .ty t _ => dC (.ty t.nm)
  | _, .bin op a b _ => d2 (binF op) (a.den true) (b.den true)
  | _, .neg a _ => fun φ ρ => M.bind (a.den false φ ρ) fun x => M.of (negF x)
  | _, .cmp op a b _ => d2 (cmpF op) (a.den true) (b.den true)
  | _, .cmp2 op op' a b c _ => dCmp2 (cmpF op) (cmpF op') (a.den true) (b.den true) (c.den true)
  | _, .bop op a r _ => r.denB op (a.den false)
  | _, .not a _ => dNot (a.den false)
  | _, .ife c a b _ => dIfT c.denT (a.den false) (b.den false)
  | _, .call f es _ _ => dCall f (es.den false)
  | _, .lend f es _ _ => dLend f (es.den true)
  | _, .make c es _ _ => dCall (T.mkf c) (es.den false)
  | _, .meth m o es _ _ => dMeth (T.mc m) (T.mf m) (o.den false) (es.den false)
  | _, .fld c k o _ => dFld c k (o.den true)
  | _, .blt b es _ _ => dBlt (biF G b) (es.den true)
  | _, .sub a b _ => d2 sbF (a.den true) (b.den true)
  | _, .sl a lo hi _ _ => dSl (a.den true) lo.den hi.den
  | _, .lst es _ => dLst (es.den false)
  | _, .tup es _ _ => dTup (es.den false)
  | _, .dk _ => dDk
  | _, .dt _ => dDt
  | _, .spl a b _ _ => dM1 splitF (a.den true) (b.den true)
  | _, .joi a b _ _ => dM1 joinF (a.den true) (b.den true)
  | _, .ends a b _ _ => dM1 endF (a.den true) (b.den true)
  | _, .lc own pt it ifs elt _ _ => dLc (it.den true) pt own ifs.denI (elt.den false)
  | _, .callv fs i es _ _ => dCallV fs i (es.den false)
  | _, .callk m ks _ _ => dCallK (T.kf m) (T.ko m) ks.den
  | _, .told t bd _ _ _ _ => dTold G (T.tt t) (T.tc t) (bd.den false)
  | _, .mkx c a _ _ => dMkx c (a.den false)
  | _, .mkk c a _ _ _ => dMkx c (a.den false)
  | _, .xfl n o _ => dXfl T.cfs T.xcs (T.xn n) (o.den false)
  | _, .dc own pt it ifs kx vx _ _ => dDc (it.den true) pt own ifs.denI (kx.den false) (vx.den false)
/-- a test -/
def E.denT : E → DT
  | .not a _ => tbNot a.denT
  | .bop op a r _ => r.denBT op a.denT
  | .cmp op a b _ => dT (d2 (cmpF op) (a.den true) (b.den true))
  | .var i _ => dTB (dV i)
  | .bl b _ _ => dTB (dC (.bl b))
  | .call f es _ _ => dTB (dCall f (es.den false))
  | .lend f es _ _ => dTB (dLend f (es.den true))
  | .meth m o es _ _ => dTB (dMeth (T.mc m) (T.mf m) (o.den false) (es.den false))
  | .blt b es _ _ => dTB (dBlt (biF G b) (es.den true))
  | .sub a b _ => dTB (d2 sbF (a.den true) (b.den true))
  | .callk m ks _ _ => dTB (dCallK (T.kf m) (T.ko m) ks.den)
  | .fld c k o _ => dTB (dFld c k (o.den true))
  | .ends a b _ _ => dTB (dM1 endF (a.den true) (b.den true))
  | _ => fun _ _ _ => .bad
def Es.den : Bool → Es → DA
  | _, .nil => daNil
  | lk, .cons a r => daCons (a.den lk) (r.den lk)
def Ks.den : Ks → DA
  | .nil => daNil
  | .cons _ a _ r => daCons (a.den false) r.den
/-- a and the rest, or the rest -/
def Es.denB : BoolOp → Es → DE → DE
  | _, .nil, d => d
  | op, .cons a r, d => match op with
    | .And => dAnd d (r.denB op (a.den false))
    | .Or => dOr d (r.denB op (a.den false))
def Es.denBT : BoolOp → Es → DT → DT
  | _, .nil, d => d
  | op, .cons a r, d => match op with
    | .And => tbAnd d (r.denBT op a.denT)
    | .Or => tbOr d (r.denBT op a.denT)
def Es.denI : Es → DT
  | .nil => dYes
  | .cons a _ => a.denT
def Oe.den : Oe → DO
  | .no => doNo
  | .so a => doE (a.den false)
def Ie.den : Bool → Ie → DI
  | lk, .e a => diE (a.den lk)
  | _, .rng1 a _ _ => diA rngF1 (daCons (a.den true) daNil)
  | _, .rng2 a b _ _ => diA rngF2 (daCons (a.den true) (daCons (b.den true) daNil))
  | lk, .enum a _ _ => diA enumF (daCons (a.den lk) daNil)
  | lk, .zip a b _ _ => diA zipF (daCons (a.den lk) (daCons (b.den lk) daNil))
end
end
end Z
namespace Z
open PySem PySem.Spec PyProof.Rows L2

/-! ### looks at names -/
def natsB : List Nat → List Nat → Bool
  | [], [] => true
  | a :: as, b :: bs => Nat.beq a b && natsB as bs
  | _, _ => false
def strB (a b : Str) : Bool := natsB a.cps.toList b.cps.toList
theorem natsB_iff : ∀ {a b : List Nat}, natsB a b = true ↔ a = b
  | [], [] => by simp [natsB]
  | [], _ :: _ => by simp [natsB]
  | _ :: _, [] => by simp [natsB]
  | a :: as, b :: bs => by
    rw [natsB, Bool.and_eq_true, natsB_iff, List.cons.injEq]
    constructor
    · rintro ⟨h, h2⟩; exact ⟨Nat.eq_of_beq_eq_true h, h2⟩
    · rintro ⟨h, h2⟩; exact ⟨by rw [h]; exact Nat.beq_refl b, h2⟩
theorem strB_iff {a b : Str} : strB a b = true ↔ a = b := by
  unfold strB
  rw [natsB_iff]
  constructor
  · intro h
    cases a; cases b
    congr
    exact Array.toList_inj.mp h
  · intro h; rw [h]
def lookB : List (Str × NameKind) → Str → Option NameKind
  | [], _ => none
  | (y, k) :: r, x => if strB x y then some k else lookB r x
theorem lookB_eq : ∀ (l : List (Str × NameKind)) (x : Str), lookB l x = l.lookup x
  | [], _ => rfl
  | (y, k) :: r, x => by
    rw [lookB, List.lookup_cons, lookB_eq r x]
    by_cases h : x = y
    · subst h
      rw [if_pos (strB_iff.mpr rfl), show (x == x) = true from by simp]
    · rw [if_neg (fun z => h (strB_iff.mp z)), show (x == y) = false from by simpa using h]
structure Ct where
  N : List Str
  sc : Scope
  fn : Str → Bool
  lm : Bool
def visK : Option NameKind → Bool
  | some .local => true
  | some .cell => true
  | some .free => true
  | _ => false
def gloK : Option NameKind → Bool
  | some .globalImplicit => true
  | _ => false
def Ct.vis (c : Ct) (i : Nat) : Bool := match c.N[i]? with
  | some x => visK (lookB c.sc.names x)
  | none => false
def Ct.glo (c : Ct) (x : Str) : Bool := gloK (lookB c.sc.names x)
def Ct.blk (c : Ct) (sc : Scope) : Ct := { c with sc := L2.relS sc c.sc, fn := fun x => lookB sc.names x == some .cell }
def Ct.lam (c : Ct) (sc : Scope) : Ct := { c with sc := sc, fn := fun _ => false, lm := false }
/-- what may stand ahead of a dot -/
def E.rcv : E → Bool
  | .call _ .nil _ _ => false
  | .lend _ .nil _ _ => false
  | .make _ .nil _ _ => false
  | .blt _ .nil _ _ => false
  | .callv _ _ .nil _ _ => false
  | .callk _ .nil _ _ => false
  | .mkx _ _ _ _ => false
  | .mkk _ _ _ _ _ => false
  | _ => true
def lamB (sc scope : Scope) : Bool := (match scope.kind with | .function => true | _ => false) && (!scope.isCoroutine && (!scope.isGenerator && (scope.names.all fun y => match y.2 with
  | .local => false
  | .cell => false
  | .free => (match lookB sc.names y.1 with | some .cell => true | some .free => true | _ => false)
  | _ => true)))
theorem lamB_ok {sc scope : Scope} (h : lamB sc scope = true) : LamX.LamS sc scope := by
  unfold lamB at h
  simp only [Bool.and_eq_true, Bool.not_eq_true'] at h
  obtain ⟨h1, h2, h3, h4⟩ := h
  refine ⟨?_, h2, h3, fun y hy => ?_, fun y hy e => ?_⟩
  · cases e : scope.kind <;> rw [e] at h1 <;> first | rfl | cases h1
  · have := List.all_eq_true.mp h4 y hy
    constructor
    · intro z; rw [z] at this; cases this
    · intro z; rw [z] at this; cases this
  · have := List.all_eq_true.mp h4 y hy
    rw [e] at this
    simp only at this
    rw [lookB_eq] at this
    cases q : sc.names.lookup y.1 with
    | none => rw [q] at this; cases this
    | some k => rw [q] at this; cases k <;> first | exact .inl rfl | exact .inr rfl | cases this
def Es.isNil : Es → Bool
  | .nil => true
  | _ => false
def lineB (q p : Pos) : Bool := q.endLine == p.line
def ownIx (N : List Str) (own : List Nat) : List (Str × Nat) := own.map fun i => (N.getD i Str.empty, i)
/-- blkC, with strB -/
def blkB (N : List Str) (sc scope : Scope) (own : List (Str × Nat)) : Bool :=
  (match scope.kind with | .function => true | _ => false) && (scope.names.all fun y => lookB scope.names y.1 == some y.2) && (own.all fun p => match N[p.2]? with | some x => strB x p.1 | none => false) &&
    (scope.names.all fun y => match y.2 with
      | .free => (match lookB sc.names y.1 with | some .cell => true | some .free => true | _ => false)
      | .local => (own.any fun p => strB p.1 y.1) || !(N.any fun x => strB x y.1)
      | .cell => (own.any fun p => strB p.1 y.1) || !(N.any fun x => strB x y.1)
      | _ => true)
theorem blkB_ok {N : List Str} {sc scope : Scope} {own : List (Str × Nat)} (h : blkB N sc scope own = true) : BlkOk N sc scope own := by
  unfold blkB at h
  simp only [Bool.and_eq_true] at h
  obtain ⟨⟨⟨h1, h2⟩, h3⟩, h4⟩ := h
  have mem : ∀ x : Str, ((own.any fun p => strB p.1 x) || !(N.any fun y => strB y x)) = true → x ∈ own.map (·.1) ∨ x ∉ N := fun x h => by
    rw [Bool.or_eq_true] at h
    rcases h with h | h
    · obtain ⟨p, hp, e⟩ := List.any_eq_true.mp h
      exact .inl (List.mem_map.mpr ⟨p, hp, strB_iff.mp e⟩)
    · refine .inr fun hm => ?_
      have : (N.any fun y => strB y x) = true := List.any_eq_true.mpr ⟨x, hm, strB_iff.mpr rfl⟩
      rw [this] at h
      cases h
  refine ⟨?_, fun y hy => ?_, fun p hp => ?_, fun y hy e => ?_, fun y hy e => ?_⟩
  · cases e : scope.kind <;> rw [e] at h1 <;> first | rfl | cases h1
  · have := List.all_eq_true.mp h2 y hy
    rw [lookB_eq] at this
    simpa using this
  · have := List.all_eq_true.mp h3 p hp
    cases e : N[p.2]? with
    | none => rw [e] at this; cases this
    | some x => rw [e] at this; rw [strB_iff.mp this]
  · have := List.all_eq_true.mp h4 y hy
    rw [e] at this
    simp only at this
    rw [lookB_eq] at this
    cases q : sc.names.lookup y.1 with
    | none => rw [q] at this; cases this
    | some k => rw [q] at this; cases k <;> first | exact .inl rfl | exact .inr rfl | cases this
  · have := List.all_eq_true.mp h4 y hy
    rcases e with e | e <;> rw [e] at this <;> exact mem _ this
mutual
/-- a test's shape -/
def E.wfT : E → Bool
  | .not a _ => a.wfT
  | .bop _ a r _ => a.wfT && r.wfT
  | .cmp _ _ _ _ => true
  | .var _ _ => true
  | .bl _ _ _ => true
  | .call _ _ _ _ => true
  | .lend _ _ _ _ => true
  | .meth _ _ _ _ _ => true
  | .blt _ _ _ _ => true
  | .sub _ _ _ => true
  | .fld _ _ _ _ => true
  | .callk _ _ _ _ => true
  | .ends _ _ _ _ => true
  | _ => false
def Es.wfT : Es → Bool
  | .nil => true
  | .cons a r => a.wfT && r.wfT
end
def Pat.isTup : Pat → Bool
  | .tup _ _ _ => true
  | _ => false
def Ks.nmB : Ks → List Str → Bool
  | .nil, [] => true
  | .cons n _ _ r, m :: ms => strB n m && r.nmB ms
  | _, _ => false
def Ie.needTup : Ie → Bool
  | .enum _ _ _ => true
  | .zip _ _ _ _ => true
  | _ => false
section
variable (T : Tab)
mutual
def E.wf (c : Ct) : E → Bool
  | .var i _ => c.vis i
  | .int _ _ _ => true
  | .str x _ _ => sOk x
  | .bl _ _ _ => true
  | .non _ _ => true
  | .gfn f _ => decide (f < T.ng) && c.glo (T.fnm f)
  | .gcl k _ => decide (k < T.cls.length) && c.glo (T.cnm k)
  | .gstr s _ => decide (s < T.txs.length) && c.glo (T.snm s)
  | .ty t _ => c.glo (Str.ofString t.nm)
  | .bin _ a b _ => a.wf c && b.wf c
  | .neg a _ => a.wf c
  | .cmp _ a b _ => a.wf c && b.wf c
  | .cmp2 _ _ a b d _ => a.wf c && (b.wf c && d.wf c)
  | .bop _ a r _ => a.wf c && (r.wf c && !r.isNil)
  | .not a _ => a.wf c
  | .ife d a b _ => (d.wf c && d.wfT) && (a.wf c && b.wf c)
  | .call f es _ _ => decide (f < T.ng) && (c.glo (T.fnm f) && (decide (es.len = T.ar f) && es.wf c))
  | .lend f es _ _ => decide (f < T.ng) && (c.glo (T.fnm f) && (decide (es.len = T.ar f) && (es.wf c && !es.isNil)))
  | .make k es _ _ => decide (k < T.cls.length) && (((T.made[k]?).join).isSome && (c.glo (T.cnm k) && (decide (es.len = T.mka k) && (es.wf c && !es.isNil))))
  | .meth m o es q p => decide (m < T.mth.length) && (decide (T.mf m < T.fns.length) && (decide (T.ar (T.mf m) = es.len + 1) && (decide (es.len < 20) && (o.rcv && (lineB q p && (o.wf c && es.wf c))))))
  | .fld k i o _ => ((T.made[k]?).join).isSome && (decide (i < (T.cfs k).length) && (o.rcv && o.wf c))
  | .blt b es _ _ => c.glo (Str.ofString b.nm) && (es.wf c && !es.isNil)
  | .sub a b _ => a.wf c && b.wf c
  | .sl a lo hi _ _ => a.wf c && (lo.wf c && hi.wf c)
  | .lst es _ => es.wf c
  | .tup es _ _ => es.wf c
  | .dk _ => true
  | .dt _ => true
  | .spl a b q p => a.rcv && (lineB q p && (a.wf c && b.wf c))
  | .joi a b q p => a.rcv && (lineB q p && (a.wf c && b.wf c))
  | .ends a b q p => a.rcv && (lineB q p && (a.wf c && b.wf c))
  | .lc own pt it ifs elt sc _ => blkB c.N c.sc sc (ownIx c.N own) && (pt.ins own && (pt.ok (c.blk sc).sc c.N (c.blk sc).fn && ((it.needTup == false || pt.isTup) && (it.wf c && (ifs.wfI (c.blk sc) && elt.wf (c.blk sc))))))
  | .callv fs i es _ _ => c.vis i && ((fs.all fun f => decide (f < T.fns.length) && decide (T.ar f = es.len)) && (es.wf c && !es.isNil))
  | .callk m ks _ _ => decide (m < T.kws.length) && (decide (T.kf m < T.ng) && (c.glo (T.fnm (T.kf m)) && (ks.nmB (T.kn m) && ks.wf c)))
  | .told t bd sc _ _ _ => decide (t < T.tol.length) && (c.lm && (c.glo (T.tn t) && (lamB c.sc sc && bd.wf (c.lam sc))))
  | .mkx k a _ _ => decide (k < T.cls.length) && (T.xcs.contains k && (c.glo (T.cnm k) && a.wf c))
  | .mkk k a _ _ _ => decide (k < T.cls.length) && (T.xcs.contains k && (c.glo (T.cnm k) && (Nat.beq (T.cfs k).length 1 && a.wf c)))
  | .xfl _ o _ => o.rcv && o.wf c
  | .dc own pt it ifs kx vx sc _ => blkB c.N c.sc sc (ownIx c.N own) && (pt.ins own && (pt.ok (c.blk sc).sc c.N (c.blk sc).fn && ((it.needTup == false || pt.isTup) && (it.wf c && (ifs.wfI (c.blk sc) && (kx.wf (c.blk sc) && vx.wf (c.blk sc)))))))
def Es.wf (c : Ct) : Es → Bool
  | .nil => true
  | .cons a r => a.wf c && r.wf c
def Ks.wf (c : Ct) : Ks → Bool
  | .nil => true
  | .cons _ a _ r => a.wf c && r.wf c
def Es.wfI (c : Ct) : Es → Bool
  | .nil => true
  | .cons a .nil => a.wf c && a.wfT
  | _ => false
def Oe.wf (c : Ct) : Oe → Bool
  | .no => true
  | .so a => a.wf c
def Ie.wf (c : Ct) : Ie → Bool
  | .e a => a.wf c
  | .rng1 a _ _ => c.glo (Str.ofString "range") && a.wf c
  | .rng2 a b _ _ => c.glo (Str.ofString "range") && (a.wf c && b.wf c)
  | .enum a _ _ => c.glo (Str.ofString "enumerate") && a.wf c
  | .zip a b _ _ => c.glo (Str.ofString "zip") && (a.wf c && b.wf c)
end
mutual
/-- what gives a fresh value -/
def E.frk : E → Bool
  | .int _ _ _ => true
  | .str _ _ _ => true
  | .bl _ _ _ => true
  | .non _ _ => true
  | .bin _ _ _ _ => true
  | .ife _ a b _ => a.frk && b.frk
  | .call f _ _ _ => T.fr f
  | .meth m _ _ _ _ => T.fr (T.mf m)
  | .callk m _ _ _ => T.fr (T.kf m)
  | .blt _ _ _ _ => true
  | .sl _ _ _ _ _ => true
  | .lst _ _ => true
  | .tup _ _ _ => true
  | .dk _ => true
  | .dt _ => true
  | .spl _ _ _ _ => true
  | .joi _ _ _ _ => true
  | .ends _ _ _ _ => true
  | .lc _ _ _ _ _ _ _ => true
  | .mkx _ _ _ _ => true
  | .mkk _ _ _ _ _ => true
  | _ => false
end
end
end Z
namespace Z
open PySem PySem.Spec PyProof.Rows L2

/-- what is known of the text at call depth k -/
structure Lib (P : Program) (w : World) (mg : Str → Option Value) (base : Heap) (G : Gx) (T : Tab) (φ : Fns) (k : Nat) : Prop where
  isa : IsaOk G
  fn : ∀ f, f < T.fns.length → FnF P w G.K mg base G φ k f (T.ar f) (T.fr f)
  mgf : ∀ f, f < T.ng → mg (T.fnm f) = some (.ref (G.fad f)) ∧ f < T.fns.length ∧ (T.fnm f == ("__debug__" : Str)) = false
  mgc : ∀ c, c < T.cls.length → mg (T.cnm c) = some (.ref (G.cad c)) ∧ (T.cnm c == ("__debug__" : Str)) = false
  mgs : ∀ s, s < T.txs.length → (∃ t, mg (T.snm s) = some (.str (T.sval s) t)) ∧ sOk (T.sval s) = true ∧ (T.snm s == ("__debug__" : Str)) = false
  mgb : ∀ b : Bi, mg (Str.ofString b.nm) = none
  mgt : ∀ t : Ty, mg (Str.ofString t.nm) = none
  mgr : mg "range" = none ∧ mg "enumerate" = none ∧ mg "zip" = none
  cfs : ∀ c, G.cfs c = T.cfs c
  nd : ∀ c, (T.cfs c).Nodup
  cls : ∀ c, ((T.made[c]?).join).isSome = true → Cls G.K (G.cad c) ∧ ∀ f ∈ T.cfs c, NoAttr G.K (G.cad c) f
  made : ∀ c, ((T.made[c]?).join).isSome = true → InF P w G.K mg base G φ k c (T.mkf c) (T.mka c)
  kws : ∀ m, m < T.kws.length → FnK P w G.K mg base G φ k (T.kf m) (T.ar (T.kf m)) (T.fr (T.kf m)) (T.kn m) (T.ko m) ∧ (T.ko m).length = T.ar (T.kf m)
  tol : ∀ t, t < T.tol.length → TolS G mg (T.tn t) (T.tt t) (T.tc t) ∧ (∀ r ∈ T.tc t, sOk r.a = true ∧ sOk r.b = true) ∧ sOk (T.tt t) = true ∧ (∀ r ∈ T.tc t, T.cfs r.c = [r.f]) ∧ (T.tn t == ("__debug__" : Str)) = false
  xcs : ∀ c ∈ T.xcs, ExF P w G.K mg base G k c ∧ XfC G.K (G.cad c) ∧ ∀ f, G.cfs c = [f] → PySem.W.findIn G.K (.ref (G.cad c)) f = some none
  mth : ∀ m, m < T.mth.length → Cls G.K (G.cad (T.mc m)) ∧ Meth G.K (G.cad (T.mc m)) (T.mn m) (G.fad (T.mf m)) ∧ T.mn m ∉ T.cfs (T.mc m)
structure OkX (G : Gx) (k : Nat) (c : Ct) (X : Cx) (Ex : XK) : Prop where
  hK : X.K = G.K
  N : X.N = c.N
  sc : X.env.scope = c.sc
  fn : X.fn = c.fn
  nd : c.N.Nodup
  dbg : ∀ x ∈ c.N, (x == ("__debug__" : Str)) = false ∧ (x == ("__classdict__" : Str)) = false
  calm : X.calm = true
  room : Room (k + 1) X.A
  pass : Passes (L2.CX X.prog X.w) X Ex
  lam : c.lm = true → Room (k + 3) X.A ∧ LamF G X
section
variable {G : Gx} {T : Tab} {k : Nat} {c : Ct} {X : Cx} {Ex : XK} {φ : Fns}
theorem OkX.hu (o : OkX G k c X Ex) : X.A.units + 64 < cLine := o.room.units
theorem OkX.gl (o : OkX G k c X Ex) {x : Str} (h : c.glo x = true) : Gl X x := by
  unfold Ct.glo at h
  rw [lookB_eq] at h
  show X.env.scope.names.lookup x = _
  rw [o.sc]
  cases e : c.sc.names.lookup x with
  | none => rw [e] at h; cases h
  | some kd => rw [e] at h; cases kd <;> first | rfl | cases h
theorem OkX.vs (o : OkX G k c X Ex) {i : Nat} (h : c.vis i = true) : ∃ x, X.N[i]? = some x ∧ c.N.getD i Str.empty = x ∧ Vis X.env.scope x ∧ (x == ("__debug__" : Str)) = false ∧ (x == ("__classdict__" : Str)) = false := by
  unfold Ct.vis at h
  cases e : c.N[i]? with
  | none => rw [e] at h; cases h
  | some x =>
    rw [e] at h
    simp only at h
    rw [lookB_eq] at h
    have hm : x ∈ c.N := List.mem_of_getElem? e
    refine ⟨x, by rw [o.N]; exact e, by rw [List.getD_eq_getElem?_getD, e]; rfl, ?_, (o.dbg x hm).1, (o.dbg x hm).2⟩
    rw [o.sc]
    unfold Vis
    cases q : c.sc.names.lookup x with
    | none => rw [q] at h; cases h
    | some kd => rw [q] at h; cases kd <;> first | exact .inl rfl | exact .inr (.inl rfl) | exact .inr (.inr rfl) | cases h
variable (T) (N : List Str)
theorem star_ex (e : E) (es : List Expr) (env : PySem.Env) : starEach (e.ex T N :: es) env = (false, eval (e.ex T N) env) :: starEach es env := by
  cases e <;> rfl
theorem star_pl (pos : Pos) (env : PySem.Env) : ∀ es : Es, (backTo pos (starEach (es.ex T N) env)).any (·.1) = false
  | .nil => rfl
  | .cons a r => by
    show (backTo pos (starEach (a.ex T N :: r.ex T N) env)).any (·.1) = false
    rw [star_ex]
    exact star_pl pos env r
theorem star_all (pos : Pos) (env : PySem.Env) : ∀ es : Es, (backTo pos (starEach (es.ex T N) env)).all (fun x => !x.1) = true
  | .nil => rfl
  | .cons a r => by
    show (backTo pos (starEach (a.ex T N :: r.ex T N) env)).all (fun x => !x.1) = true
    rw [star_ex]
    exact star_all pos env r
theorem ex_len : ∀ es : Es, (es.ex T N).length = es.len
  | .nil => rfl
  | .cons a r => by
    show (a.ex T N :: r.ex T N).length = r.len + 1
    rw [List.length_cons, ex_len r]
theorem few_ex (pos : Pos) (env : PySem.Env) (es : Es) (h : es.len < 20) : methodCallForm (es.ex T N).length (backTo pos (starEach (es.ex T N) env)) [] = true := by
  unfold methodCallForm
  rw [star_all, ex_len]
  simp
  omega
theorem ab_ex (e : E) (h : e.rcv = true) (m : Str) (env : PySem.Env) : attributeBase (e.ex T N) m env (eval (e.ex T N) env) = eval (e.ex T N) env := by
  cases e with
  | call f es q p => cases es with
    | nil => cases h
    | cons a r => rfl
  | lend f es q p => cases es with
    | nil => cases h
    | cons a r => rfl
  | make f es q p => cases es with
    | nil => cases h
    | cons a r => rfl
  | blt f es q p => cases es with
    | nil => cases h
    | cons a r => rfl
  | callv fs i es q p => cases es with
    | nil => cases h
    | cons a r => rfl
  | callk m ks q p => cases ks with
    | nil => cases h
    | cons n a p r => rfl
  | mkx c a q p => cases h
  | mkk c a kp q p => cases h
  | _ => rfl
theorem plain_ix (e : E) : PlainIx (e.ex T N) := fun o i => by cases e <;> rfl
theorem beh_ex (op : CmpOp) (e : E) : behindInMarks op (e.ex T N) = false := by cases e <;> rfl
theorem last_ex (op op' : CmpOp) (a b : E) : lastMarks [op, op'] [a.ex T N, b.ex T N] = false := by
  show lastMarks [op'] [b.ex T N] = false
  exact beh_ex T N op' b
theorem fold_ex (env : PySem.Env) (i : Ie) (x : Value) : foldedSetIterable (i.ex T N) env x = pure x := by
  cases i with
  | e a => cases a <;> rfl
  | _ => rfl
theorem kw_all (pos : Pos) (env : PySem.Env) : ∀ ks : Ks, (backToKw pos (keywordEach (ks.ex T N) env)).all (·.1.isSome) = true
  | .nil => rfl
  | .cons n a p r => kw_all pos env r
theorem kw_names (pos : Pos) (env : PySem.Env) : ∀ ks : Ks, (backToKw pos (keywordEach (ks.ex T N) env)).filterMap (·.1) = ks.names
  | .nil => rfl
  | .cons n a p r => by
    show n :: ((backToKw pos (keywordEach (r.ex T N) env)).filterMap (·.1)) = n :: r.names
    rw [kw_names pos env r]
theorem kw_any (pos : Pos) (env : PySem.Env) : ∀ ks : Ks, (backToKw pos (keywordEach (ks.ex T N) env)).any (·.1.isNone) = false
  | .nil => rfl
  | .cons n a p r => kw_any pos env r
theorem nmB_ok : ∀ {ks : Ks} {l : List Str}, ks.nmB l = true → ks.names = l
  | .nil, [], _ => rfl
  | .nil, _ :: _, h => by cases h
  | .cons _ _ _ _, [], h => by cases h
  | .cons n a p r, m :: ms, h => by
    have h : (strB n m && r.nmB ms) = true := h
    rw [Bool.and_eq_true] at h
    show n :: r.names = m :: ms
    rw [strB_iff.mp h.1, nmB_ok h.2]
theorem kden_len : ∀ (ks : Ks) (φ : Fns) (ρ : Env) (p : PS) (ds : List D) (p' : PS), ks.den G T φ ρ p = .ok ds p' → ds.length = ks.names.length
  | .nil, φ, ρ, p, ds, p', h => by
    cases h; rfl
  | .cons n a q r, φ, ρ, p, ds, p', h => by
    simp only [Ks.den, daCons, M.bind] at h
    cases ea : a.den G T false φ ρ p with
    | ok x p1 =>
      rw [ea] at h
      simp only at h
      cases er : r.den G T φ ρ p1 with
      | ok xs p2 =>
        rw [er] at h
        cases h
        show xs.length + 1 = r.names.length + 1
        rw [kden_len r φ ρ p1 xs _ er]
      | exc c fs p2 => rw [er] at h; cases h
      | bad => rw [er] at h; cases h
    | exc c fs p1 => rw [ea] at h; cases h
    | bad => rw [ea] at h; cases h
theorem den_len (lk : Bool) : ∀ (es : Es) (φ : Fns) (ρ : Env) (p : PS) (ds : List D) (p' : PS), es.den G T lk φ ρ p = .ok ds p' → ds.length = es.len
  | .nil, φ, ρ, p, ds, p', h => by
    cases h; rfl
  | .cons a r, φ, ρ, p, ds, p', h => by
    simp only [Es.den, daCons, M.bind] at h
    cases ea : a.den G T lk φ ρ p with
    | ok x p1 =>
      rw [ea] at h
      simp only at h
      cases er : r.den G T lk φ ρ p1 with
      | ok xs p2 =>
        rw [er] at h
        cases h
        show xs.length + 1 = r.len + 1
        rw [den_len lk r φ ρ p1 xs _ er]
      | exc c fs p2 => rw [er] at h; cases h
      | bad => rw [er] at h; cases h
    | exc c fs p1 => rw [ea] at h; cases h
    | bad => rw [ea] at h; cases h
end
/-! ### a chain of two -/
section
variable {G : Gx} {X : Cx} {φ : Fns} {E : XK}
theorem se_cmp2 (hK : X.K = G.K) (hu : X.A.units + 64 < cLine) {op op' : CmpOp} {a b c : DE} {ea eb ec : Expr} {pos : Pos} (ha : SW G X φ E a ea) (hb : SW G X φ E b eb) (hc : SW G X φ E c ec) (hm : lastMarks [op, op'] [eb, ec] = false) :
    SE G X φ E (dCmp2 (cmpF op) (cmpF op') a b c) (.Compare ea [op, op'] [eb, ec] pos) := by
  obtain ⟨ta, pa, ha⟩ := ha
  obtain ⟨tb, pb, hb⟩ := hb
  obtain ⟨tc, pc, hc⟩ := hc
  obtain ⟨r, o1, o2⟩ := op_cmp (G := G) hK hu op
  obtain ⟨r', o1', o2'⟩ := op_cmp (G := G) hK hu op'
  refine ⟨_, pe_chain o1 o1' pa pb pc hm, fun H0 S H σ ρ p Q rr s g q => ?_⟩
  unfold dCmp2 at q
  refine ha H0 S H σ ρ p _ rr s g (q.bind fun dx p1 x S1 H1 f1 g1 a1 q1 => ?_)
  refine hb H0 S1 H1 σ ρ p1 _ (rr.mono f1) f1.sub g1 (q1.bind fun dy p2 y S2 H2 f2 g2 a2 q2 => ?_)
  cases ez : cmpF op dx dy with
  | none => rw [ez] at q2; exact q2.elim
  | some dz =>
    rw [ez] at q2
    replace q2 : Pst G E (relA G) S2 H2 Q ((M.bind (M.of (asB dz)) fun k => if k then M.bind (c φ ρ) fun w => M.of (cmpF op' dy w) else M.pure (.bl false)) p2) := q2
    cases eb : asB dz with
    | none => rw [eb] at q2; exact q2.elim
    | some b =>
      rw [eb] at q2
      replace q2 : Pst G E (relA G) S2 H2 Q ((if b then M.bind (c φ ρ) fun w => M.of (cmpF op' dy w) else M.pure (.bl false)) p2) := q2
      refine o2 S2 H2 p2 x y dx dy dz _ f2.sub g2 (Aw.mono a1 f2) a2 ez fun v S3 H3 f3 a3 => ?_
      obtain ⟨rfl, rfl⟩ := asB_at (H := H3) (.inl a3) eb
      refine ⟨b, rfl, ?_⟩
      cases b with
      | true =>
        have q3 := q2.mono f3.fn (f3.reg g2)
        simp only [if_true] at q3 ⊢
        refine hc H0 S3 H3 σ ρ p2 _ (((rr.mono f1).mono f2).mono f3.fn) f3.sub (f3.reg g2) (q3.bind fun dw p4 w S4 H4 f4 g4 a4 q4 => ?_)
        obtain ⟨d, e, kk⟩ := q4.of f4.sub g4
        exact o2' S4 H4 p4 y w dy dw d Q f4.sub g4 ((Aw.mono a2 f3.fn).mono f4) a4 e kk
      | false =>
        have q3 := q2.mono f3.fn (f3.reg g2)
        simp only [if_neg (by simp : ¬ (false = true))] at q3 ⊢
        exact q3.pure f3.sub (f3.reg g2) (.bl false)
end
end Z
namespace Z
open PySem PySem.Spec PyProof.Rows L2
theorem bb_all : bootBuiltins "all" = some (.builtin "all") := by decide +kernel
theorem bb_any : bootBuiltins "any" = some (.builtin "any") := by decide +kernel
theorem bb_sum : bootBuiltins "sum" = some (.builtin "sum") := by decide +kernel
theorem bb_abs : bootBuiltins "abs" = some (.builtin "abs") := by decide +kernel
theorem bb_max : bootBuiltins "max" = some (.builtin "max") := by decide +kernel
theorem bb_min : bootBuiltins "min" = some (.builtin "min") := by decide +kernel
theorem bb_sorted : bootBuiltins "sorted" = some (.builtin "sorted") := by decide +kernel
theorem bb_isi : bootBuiltins "isinstance" = some (.builtin "isinstance") := by decide +kernel
theorem bb_len : bootBuiltins "len" = some (.builtin "len") := by decide +kernel
theorem bb_list : bootBuiltins "list" = some (.type "list") := by decide +kernel
theorem bb_tuple : bootBuiltins "tuple" = some (.type "tuple") := by decide +kernel
theorem bb_dict : bootBuiltins "dict" = some (.type "dict") := by decide +kernel
theorem bb_int : bootBuiltins "int" = some (.type "int") := by decide +kernel
theorem bb_str : bootBuiltins "str" = some (.type "str") := by decide +kernel
theorem bb_bool : bootBuiltins "bool" = some (.type "bool") := by decide +kernel
theorem bb_ve : bootBuiltins "ValueError" = some (.type "ValueError") := by decide +kernel
theorem bb_ke : bootBuiltins "KeyError" = some (.type "KeyError") := by decide +kernel
section
variable {G : Gx} {X : Cx} {φ : Fns} {E : XK}
theorem sf_blt (hK : X.K = G.K) (hc : X.calm = true) (hisa : IsaOk G) (b : Bi) {a : DA} {e : Expr} {es : List Expr} {p pos : Pos} (hg : Gl X (Str.ofString b.nm)) (hm : X.mg (Str.ofString b.nm) = none) (ha : SAW G X φ E a (e :: es)) (he : starEach (e :: es) X.env = (false, eval e X.env) :: starEach es X.env) (hpl : (backTo pos (starEach es X.env)).any (·.1) = false) :
    SF G X φ E (dBlt (biF G b) a) (.Call (.Name (Str.ofString b.nm) p) (e :: es) [] pos) := by
  cases b with
  | len => exact sf_bltB (cr_len hK) opc_len hg hm bb_len (by decide +kernel) (by decide +kernel) ha he hpl
  | list => exact sf_bltT (CallR.or (by rw [← hK]; exact call_list_of) (call_listD hc)) opc_list hg hm bb_list (by decide +kernel) (by decide +kernel) ha he hpl
  | tuple => exact sf_bltT (by rw [← hK]; exact call_tuple_of) opc_tup hg hm bb_tuple (by decide +kernel) (by decide +kernel) ha he hpl
  | all => exact sf_bltB (by rw [← hK]; exact cr_all hc) opc_all hg hm bb_all (by decide +kernel) (by decide +kernel) ha he hpl
  | any => exact sf_bltB (by rw [← hK]; exact cr_any hc) opc_any hg hm bb_any (by decide +kernel) (by decide +kernel) ha he hpl
  | sum => exact sf_bltB (by rw [← hK]; exact cr_sum hc) opc_sum hg hm bb_sum (by decide +kernel) (by decide +kernel) ha he hpl
  | abs => exact sf_bltB call_abs opc_abs hg hm bb_abs (by decide +kernel) (by decide +kernel) ha he hpl
  | max => exact sf_bltB (call_max2 hc) opc_max2 hg hm bb_max (by decide +kernel) (by decide +kernel) ha he hpl
  | min => exact sf_bltB (call_min2 hc) opc_min2 hg hm bb_min (by decide +kernel) (by decide +kernel) ha he hpl
  | int => exact sf_bltT call_int1 opc_int hg hm bb_int (by decide +kernel) (by decide +kernel) ha he hpl
  | sorted => exact sf_bltB (by rw [← hK]; exact cr_sorted) opc_sorted hg hm bb_sorted (by decide +kernel) (by decide +kernel) ha he hpl
  | isi => exact sf_bltB (CallR.or (by rw [← hK]; exact call_isiE) (by rw [← hK]; exact call_isiTE)) (opc_isi hisa) hg hm bb_isi (by decide +kernel) (by decide +kernel) ha he hpl
  | str => exact sf_bltT call_str_int opc_str hg hm bb_str (by decide +kernel) (by decide +kernel) ha he hpl
theorem se_tyE (t : Ty) {p : Pos} (hg : Gl X (Str.ofString t.nm)) (hm : X.mg (Str.ofString t.nm) = none) : SE G X φ E (dC (.ty t.nm)) (.Name (Str.ofString t.nm) p) := by
  cases t with
  | list => exact se_ty hg hm bb_list (by decide +kernel) (by decide +kernel)
  | tuple => exact se_ty hg hm bb_tuple (by decide +kernel) (by decide +kernel)
  | dict => exact se_ty hg hm bb_dict (by decide +kernel) (by decide +kernel)
  | int => exact se_ty hg hm bb_int (by decide +kernel) (by decide +kernel)
  | str => exact se_ty hg hm bb_str (by decide +kernel) (by decide +kernel)
  | bool => exact se_ty hg hm bb_bool (by decide +kernel) (by decide +kernel)
  | ve => exact se_ty hg hm bb_ve (by decide +kernel) (by decide +kernel)
  | ke => exact se_ty hg hm bb_ke (by decide +kernel) (by decide +kernel)
theorem sf_tC {v : V} {d : D} {e : Expr} (pe : PE X e (tC v)) (ha : ∀ S, At G S v d) (h : ato d = true := by rfl) : SF G X φ E (dC d) e :=
  ⟨tC v, pe, fun H0 S H σ ρ p Q r s g q => q.pure s g (.inl ⟨h, ha S⟩)⟩
end
/-- all that is said of an expression -/
structure Snd (G : Gx) (T : Tab) (X : Cx) (φ : Fns) (Ex : XK) (N : List Str) (e : E) : Prop where
  se : SE G X φ Ex (e.den G T false) (e.ex T N)
  sw : SW G X φ Ex (e.den G T true) (e.ex T N)
  sf : e.frk T = true → SF G X φ Ex (e.den G T false) (e.ex T N)
  st : e.wfT = true → ST G X φ Ex (e.denT G T) (e.ex T N)
section
variable {G : Gx} {T : Tab} {X : Cx} {φ : Fns} {Ex : XK} {N : List Str} {e : E}
theorem Snd.ofE (h : SE G X φ Ex (e.den G T false) (e.ex T N)) (hl : e.den G T true = e.den G T false) (hf : e.frk T = false) (ht : e.wfT = true → ST G X φ Ex (e.denT G T) (e.ex T N)) : Snd G T X φ Ex N e :=
  ⟨h, by rw [hl]; exact h.w, (fun z => by rw [hf] at z; cases z), ht⟩
theorem Snd.ofF (h : SF G X φ Ex (e.den G T false) (e.ex T N)) (hl : e.den G T true = e.den G T false) (ht : e.wfT = true → ST G X φ Ex (e.denT G T) (e.ex T N)) : Snd G T X φ Ex N e :=
  ⟨h.se, by rw [hl]; exact h.se.w, fun _ => h, ht⟩
end
theorem ba {a b : Bool} (h : (a && b) = true) : a = true ∧ b = true := Bool.and_eq_true_iff.mp h
theorem own_map (N : List Str) (own : List Nat) : (ownIx N own).map (·.2) = own := by
  unfold ownIx
  rw [List.map_map]
  exact List.map_id'' (fun _ => rfl) own
section
variable {G : Gx} {T : Tab} {k : Nat} {c : Ct} {X : Cx} {Ex : XK} {φ : Fns}
theorem OkX.blk (o : OkX G k c X Ex) (s : Shared) (H : Hp) (scope : Scope) (C : Addr) (cl : List (Str × Addr)) (fp : List Addr) : OkX G k (c.blk scope) (XB X s H scope C cl fp) EF := by
  refine ⟨o.hK, o.N, ?_, ?_, o.nd, o.dbg, o.calm, o.room, passL, o.lam⟩
  · show relabel scope X.env = L2.relS scope c.sc
    rw [← o.sc]; rfl
  · show (fun x => scope.names.lookup x == some .cell) = fun x => lookB scope.names x == some .cell
    funext x
    rw [lookB_eq]
theorem OkX.lamc (o : OkX G k c X Ex) (scope : Scope) (A : Around) (outer : List PySem.Env) (s : Shared) (H : Hp) (E : XK) (f c' : Addr) (hr : Room (k + 1) (A.deeper (LamX.lamEnv X scope s.heap.objs.size f c'))) : OkX G k (c.lam scope) (LamX.lamCx X A outer s H E scope f c') E := by
  have tk : Takes (LamX.lamCx X A outer s H E scope f c') (fun cls dd _ H => E cls dd H) := takes_of rfl rfl rfl rfl
  exact ⟨o.hK, o.N, rfl, rfl, o.nd, o.dbg, rfl, hr, passes_call tk (fun _ _ _ _ h => h), fun z => by cases z⟩
theorem OkX.pg (o : OkX G k c X Ex) (pt : Pat) (h : pt.ok c.sc c.N c.fn = true) : PG X (pt.ex c.N) (pt.rd G.K) := by
  have := Pat.pg (X := X) o.sc o.N o.nd o.calm o.fn pt h
  rw [o.hK] at this
  exact this
mutual
theorem E.snd (e : E) (c : Ct) (X : Cx) (Ex : XK) (o : OkX G k c X Ex) (L : Lib X.prog X.w X.mg X.base G T φ k) (h : e.wf T c = true) : Snd G T X φ Ex c.N e := by
  cases e with
  | var i p =>
    obtain ⟨x, h1, h2, h3, h4, h5⟩ := o.vs h
    have e1 : E.ex T c.N (.var i p) = .Name x p := by show Expr.Name (c.N.getD i Str.empty) p = _; rw [h2]
    refine ⟨?_, ?_, (fun z => by cases z), fun _ => ?_⟩
    · rw [e1]; exact se_var h1 h3 h4 h5
    · rw [e1]; exact sw_var h1 h3 h4 h5
    · rw [e1]; exact st_of (se_var h1 h3 h4 h5) (fun _ => rfl)
  | int i kk p => exact .ofF (sf_tC pe_int fun _ => .int i) rfl (fun z => by cases z)
  | str x kk p => exact .ofF (sf_tC pe_str fun _ => .str x h) rfl (fun z => by cases z)
  | bl b kk p => exact .ofF (sf_tC pe_bl fun _ => .bl b) rfl (fun _ => st_of se_bl (fun _ => rfl))
  | non kk p => exact .ofF (sf_tC pe_non fun _ => .non) rfl (fun z => by cases z)
  | gfn f p =>
    obtain ⟨h1, h2⟩ := ba h
    have m := L.mgf f (of_decide_eq_true h1)
    exact .ofE (se_fn (o.gl h2) m.1 m.2.2) rfl rfl (fun z => by cases z)
  | gcl q p =>
    obtain ⟨h1, h2⟩ := ba h
    have m := L.mgc q (of_decide_eq_true h1)
    exact .ofE (se_cl (o.gl h2) m.1 m.2) rfl rfl (fun z => by cases z)
  | gstr s p =>
    obtain ⟨h1, h2⟩ := ba h
    obtain ⟨⟨t, m1⟩, m2, m3⟩ := L.mgs s (of_decide_eq_true h1)
    exact .ofE (se_gstr (o.gl h2) m1 m2 m3) rfl rfl (fun z => by cases z)
  | ty t p => exact .ofE (se_tyE t (o.gl h) (L.mgt t)) rfl rfl (fun z => by cases z)
  | bin op a b p =>
    obtain ⟨h1, h2⟩ := ba h
    exact .ofF (sf_bin o.hK (a.snd c X Ex o L h1).sw (b.snd c X Ex o L h2).sw) rfl (fun z => by cases z)
  | neg a p => exact .ofE (se_neg (a.snd c X Ex o L h).se) rfl rfl (fun z => by cases z)
  | cmp op a b p =>
    obtain ⟨h1, h2⟩ := ba h
    have s1 := (a.snd c X Ex o L h1).sw
    have s2 := (b.snd c X Ex o L h2).sw
    exact .ofE (se_cmp o.hK o.hu s1 s2 (beh_ex T c.N op b)) rfl rfl (fun _ => st_cmp o.hK o.hu s1 s2 (beh_ex T c.N op b))
  | cmp2 op op' a b d p =>
    obtain ⟨h1, t1⟩ := ba h
    obtain ⟨h2, h3⟩ := ba t1
    exact .ofE (se_cmp2 o.hK o.hu (a.snd c X Ex o L h1).sw (b.snd c X Ex o L h2).sw (d.snd c X Ex o L h3).sw (last_ex T c.N op op' b d)) rfl rfl (fun z => by cases z)
  | bop op a r p =>
    obtain ⟨h1, t1⟩ := ba h
    obtain ⟨h2, h3⟩ := ba t1
    have sa := a.snd c X Ex o L h1
    refine .ofE (r.sndB c X Ex o L h2 op p _ _ sa.se) rfl rfl fun z => ?_
    obtain ⟨z1, z2⟩ := ba z
    exact (r.sndBT c X Ex o L h2 z2 op p _ _ (sa.st z1)).st
  | not a p =>
    have sa := a.snd c X Ex o L h
    exact .ofE (se_not sa.se) rfl rfl (fun z => st_not (sa.st z))
  | ife d a b p =>
    obtain ⟨t1, t2⟩ := ba h
    obtain ⟨h1, h1'⟩ := ba t1
    obtain ⟨h2, h3⟩ := ba t2
    have sd := (d.snd c X Ex o L h1).st h1'
    have sa := a.snd c X Ex o L h2
    have sb := b.snd c X Ex o L h3
    refine ⟨se_if sd sa.se sb.se, (se_if sd sa.se sb.se).w, fun z => ?_, fun z => by cases z⟩
    obtain ⟨z1, z2⟩ := ba z
    exact sf_if sd (sa.sf z1) (sb.sf z2)
  | call f es q p =>
    obtain ⟨h1, t1⟩ := ba h
    obtain ⟨h2, t2⟩ := ba t1
    obtain ⟨h3, h4⟩ := ba t2
    have m := L.mgf f (of_decide_eq_true h1)
    have hl := of_decide_eq_true h3
    have F := L.fn f m.2.1
    rw [← o.hK] at F
    have sr : SR G X φ Ex (T.fr f) (dCall f (es.den G T false)) (.Call (.Name (T.fnm f) q) (es.ex T c.N) [] p) := by
      cases es with
      | nil =>
        have e0 : T.ar f = 0 := hl.symm
        rw [e0] at F
        exact sr_call0 F (o.room.mono (by omega)) (o.gl h2) m.1 o.pass m.2.2
      | cons a r =>
        have sa := (Es.cons a r).snd c X Ex o L h4
        exact sr_call F (o.room.mono (by omega)) (o.gl h2) m.1 o.pass sa.1 (fun ρ p ds p' e => by rw [den_len T false _ _ _ _ _ _ e, hl]) m.2.2 (star_ex T c.N a _ _) (star_pl T c.N p _ r)
    refine ⟨sr.se, sr.se.w, fun z => ?_, fun z => st_of sr.se (fun _ => rfl)⟩
    have z : T.fr f = true := z
    rw [z] at sr
    exact sr
  | lend f es q p =>
    obtain ⟨h1, t1⟩ := ba h
    obtain ⟨h2, t2⟩ := ba t1
    obtain ⟨h3, t3⟩ := ba t2
    obtain ⟨h4, h5⟩ := ba t3
    have m := L.mgf f (of_decide_eq_true h1)
    have hl := of_decide_eq_true h3
    have F := L.fn f m.2.1
    rw [← o.hK] at F
    cases es with
    | nil => cases h5
    | cons a r =>
      have sa := (Es.cons a r).snd c X Ex o L h4
      have se := se_lend (p := q) (pos := p) F (o.room.mono (by omega)) (o.gl h2) m.1 o.pass sa.2 (fun ρ p ds p' e => by rw [den_len T true _ _ _ _ _ _ e, hl]) m.2.2 (star_ex T c.N a _ _) (star_pl T c.N p _ r)
      exact .ofE se rfl rfl (fun z => st_of se (fun _ => rfl))
  | make q es qp p =>
    obtain ⟨h1, t1⟩ := ba h
    obtain ⟨h2, t2⟩ := ba t1
    obtain ⟨h3, t3⟩ := ba t2
    obtain ⟨h4, t4⟩ := ba t3
    obtain ⟨h5, h6⟩ := ba t4
    have m := L.mgc q (of_decide_eq_true h1)
    have hl := of_decide_eq_true h4
    have F := L.made q h2
    rw [← o.hK] at F
    cases es with
    | nil => cases h6
    | cons a r =>
      have sa := (Es.cons a r).snd c X Ex o L h5
      exact .ofE (se_make F o.room (o.gl h3) m.1 o.pass sa.1 (fun ρ p ds p' e => by rw [den_len T false _ _ _ _ _ _ e, hl]) m.2 (star_ex T c.N a _ _) (star_pl T c.N p _ r)) rfl rfl (fun z => by cases z)
  | meth m ob es q p =>
    obtain ⟨h1, t1⟩ := ba h
    obtain ⟨h2, t2⟩ := ba t1
    obtain ⟨h3, t3⟩ := ba t2
    obtain ⟨h4, t4⟩ := ba t3
    obtain ⟨h5, t5⟩ := ba t4
    obtain ⟨h6, t6⟩ := ba t5
    obtain ⟨h7, h8⟩ := ba t6
    obtain ⟨m1, m2, m3⟩ := L.mth m (of_decide_eq_true h1)
    have F := L.fn (T.mf m) (of_decide_eq_true h2)
    rw [of_decide_eq_true h3, ← o.hK] at F
    have so := (ob.snd c X Ex o L h7).se
    rw [← L.cfs] at m3
    rw [← o.hK] at m1 m2
    have sr : SR G X φ Ex (T.fr (T.mf m)) (dMeth (T.mc m) (T.mf m) (ob.den G T false) (es.den G T false)) (.Call (.Attribute (ob.ex T c.N) (T.mn m) q) (es.ex T c.N) [] p) := by
      cases es with
      | nil => exact sr_meth0 F (o.room.mono (by omega)) m1 m2 m3 o.pass so (ab_ex T c.N ob h5 _ _) h6
      | cons a r =>
        have sa := (Es.cons a r).snd c X Ex o L h8
        exact sr_meth F (o.room.mono (by omega)) m1 m2 m3 o.pass so sa.1 (fun ρ p ds p' e => den_len T false _ _ _ _ _ _ e) (star_ex T c.N a _ _) (star_pl T c.N p _ r) (ab_ex T c.N ob h5 _ _) (few_ex T c.N p _ (.cons a r) (of_decide_eq_true h4)) h6
    refine ⟨sr.se, sr.se.w, fun z => ?_, fun z => st_of sr.se (fun _ => rfl)⟩
    have z : T.fr (T.mf m) = true := z
    rw [z] at sr
    exact sr
  | fld q i ob p =>
    obtain ⟨h1, t1⟩ := ba h
    obtain ⟨h2, t2⟩ := ba t1
    obtain ⟨h3, h4⟩ := ba t2
    obtain ⟨m1, m2⟩ := L.cls q h1
    have hi := of_decide_eq_true h2
    have eg : (T.cfs q)[i]? = some ((T.cfs q).getD i Str.empty) := by rw [List.getD_eq_getElem?_getD, List.getElem?_eq_getElem hi]; rfl
    have se : SE G X φ Ex (dFld q i (ob.den G T true)) (.Attribute (ob.ex T c.N) ((T.cfs q).getD i Str.empty) p) := se_fld o.hK m1 (m2 _ (List.mem_of_getElem? eg)) (by
      rw [L.cfs]
      rw [List.idxOf?_eq_some_iff]
      have e2 := (List.getElem?_eq_some_iff.mp eg)
      refine ⟨hi, by simpa using e2.2, fun j hj => ?_⟩
      have nd := L.nd q
      intro z
      have z : (T.cfs q)[j] = (T.cfs q).getD i Str.empty := by simpa using z
      rw [← e2.2] at z
      have := (List.getElem_inj nd).mp z
      omega) (ob.snd c X Ex o L h4).sw (ab_ex T c.N ob h3 _ _)
    exact .ofE se rfl rfl (fun z => st_of se (fun _ => rfl))
  | blt b es q p =>
    obtain ⟨h1, t1⟩ := ba h
    obtain ⟨h2, h3⟩ := ba t1
    cases es with
    | nil => cases h3
    | cons a r =>
      have sa := (Es.cons a r).snd c X Ex o L h2
      have sf := sf_blt (p := q) (pos := p) o.hK o.calm L.isa b (o.gl h1) (L.mgb b) sa.2 (star_ex T c.N a _ _) (star_pl T c.N p _ r)
      exact .ofF sf rfl (fun z => st_of sf.se (fun _ => rfl))
  | sub a b p =>
    obtain ⟨h1, h2⟩ := ba h
    have se := se_sub (pos := p) o.hK (Nat.lt_of_le_of_lt (Nat.add_le_add_left (by decide : 1 ≤ 64) _) o.hu) (a.snd c X Ex o L h1).sw (b.snd c X Ex o L h2).sw (plain_ix T c.N b)
    exact .ofE se rfl rfl (fun z => st_of se (fun _ => rfl))
  | sl a lo hi q p =>
    obtain ⟨h1, t1⟩ := ba h
    obtain ⟨h2, h3⟩ := ba t1
    exact .ofF (sf_sl o.hK (a.snd c X Ex o L h1).sw (lo.snd c X Ex o L h2) (hi.snd c X Ex o L h3)) rfl (fun z => by cases z)
  | lst es p => exact .ofF (sf_lst (es.snd c X Ex o L h).1) rfl (fun z => by cases z)
  | tup es kk p => exact .ofF (sf_tup (es.snd c X Ex o L h).1) rfl (fun z => by cases z)
  | dk p => exact .ofF sf_dk rfl (fun z => by cases z)
  | dt p => exact .ofF sf_dt rfl (fun z => by cases z)
  | spl a b q p =>
    obtain ⟨h1, t1⟩ := ba h
    obtain ⟨h2, t2⟩ := ba t1
    obtain ⟨h3, h4⟩ := ba t2
    exact .ofF (sf_split (a.snd c X Ex o L h3).sw (b.snd c X Ex o L h4).sw (star_ex T c.N b [] _) (ab_ex T c.N a h1 _ _) h2) rfl (fun z => by cases z)
  | joi a b q p =>
    obtain ⟨h1, t1⟩ := ba h
    obtain ⟨h2, t2⟩ := ba t1
    obtain ⟨h3, h4⟩ := ba t2
    exact .ofF (sf_join o.hK (a.snd c X Ex o L h3).sw (b.snd c X Ex o L h4).sw (star_ex T c.N b [] _) (ab_ex T c.N a h1 _ _) h2) rfl (fun z => by cases z)
  | ends a b q p =>
    obtain ⟨h1, t1⟩ := ba h
    obtain ⟨h2, t2⟩ := ba t1
    obtain ⟨h3, h4⟩ := ba t2
    have sf := sf_ends (apos := q) (pos := p) (a.snd c X Ex o L h3).sw (b.snd c X Ex o L h4).sw (star_ex T c.N b [] _) (ab_ex T c.N a h1 _ _) h2
    exact .ofF sf rfl (fun z => st_of sf.se (fun _ => rfl))
  | lc own pt it ifs elt sc p =>
    obtain ⟨h1, t1⟩ := ba h
    obtain ⟨h2, t2⟩ := ba t1
    obtain ⟨h3, t3⟩ := ba t2
    obtain ⟨h4, t4⟩ := ba t3
    obtain ⟨h5, t5⟩ := ba t4
    obtain ⟨h6, h7⟩ := ba t5
    have sit := it.snd c X Ex o L h5 (pt.ex c.N) (fun z => by
      rw [z] at h4
      cases pt with
      | nm i p => cases h4
      | tup ps kk p => exact ⟨_, _, _, rfl⟩)
    have sf := sf_lc (φ := φ) (E := Ex) (own := ownIx c.N own) (scope := sc) (pos := p) (pt := pt) (iter := it.ex T c.N) (ifs := ifs.ex T c.N) (ee := elt.ex T c.N) (tst := ifs.denI G T) (elt := elt.den G T false) (it := it.den G T true) o.hK o.calm (by rw [o.N]; exact o.nd) (by rw [o.N]; exact sit.2) (by rw [o.N, o.sc]; exact blkB_ok h1) (by rw [own_map]; exact h2)
      (fun s H C cl fp => by rw [o.N]; exact (o.blk s H sc C cl fp).pg pt h3)
      (fun s H C cl fp => ifs.sndI (c.blk sc) _ _ (o.blk s H sc C cl fp) L h6)
      (fun s H C cl fp => (elt.snd (c.blk sc) _ _ (o.blk s H sc C cl fp) L h7).se) (fold_ex T c.N _ it)
    rw [own_map, o.N] at sf
    exact .ofF sf rfl (fun z => by cases z)
  | callv fs i es q p =>
    obtain ⟨h1, t1⟩ := ba h
    obtain ⟨h2, t2⟩ := ba t1
    obtain ⟨h3, h4⟩ := ba t2
    obtain ⟨x, x1, x2, x3, x4, x5⟩ := o.vs h1
    cases es with
    | nil => cases h4
    | cons a r =>
      have sa := (Es.cons a r).snd c X Ex o L h3
      have FF : ∀ f ∈ fs, ∃ fr, FnF X.prog X.w X.K X.mg X.base G φ k f (Es.cons a r).len fr := fun f hf => by
        obtain ⟨z1, z2⟩ := ba (List.all_eq_true.mp h2 f hf)
        have F := L.fn f (of_decide_eq_true z1)
        rw [of_decide_eq_true z2, ← o.hK] at F
        exact ⟨_, F⟩
      have e1 : E.ex T c.N (.callv fs i (.cons a r) q p) = .Call (.Name x q) (a.ex T c.N :: r.ex T c.N) [] p := by
        show Expr.Call (.Name (c.N.getD i Str.empty) q) _ [] p = _
        rw [x2]; rfl
      refine .ofE ?_ rfl rfl (fun z => by cases z)
      rw [e1]
      exact se_callv FF (o.room.mono (by omega)) x1 x3 o.pass sa.1 (fun ρ p ds p' e => den_len T false _ _ _ _ _ _ e) x4 x5 (star_ex T c.N a _ _) (star_pl T c.N p _ r)
  | callk m ks q p =>
    obtain ⟨h1, t1⟩ := ba h
    obtain ⟨h2, t2⟩ := ba t1
    obtain ⟨h3, t3⟩ := ba t2
    obtain ⟨h4, h5⟩ := ba t3
    obtain ⟨F, ho⟩ := L.kws m (of_decide_eq_true h1)
    have mm := L.mgf (T.kf m) (of_decide_eq_true h2)
    rw [← o.hK] at F
    have sr := sr_callk (p := q) (pos := p) F (o.room.mono (by omega)) (o.gl h3) mm.1 o.pass (ks.snd c X Ex o L h5) (fun ρ p ds p' e => by rw [kden_len T _ _ _ _ _ _ e, nmB_ok h4]) ho mm.2.2 (kw_all T c.N p _ ks) (by rw [kw_names, nmB_ok h4]) (by rw [kw_any]; rfl)
    refine ⟨sr.se, sr.se.w, fun z => ?_, fun z => st_of sr.se (fun _ => rfl)⟩
    have z : T.fr (T.kf m) = true := z
    rw [z] at sr
    exact sr
  | told t bd sc q lp p =>
    obtain ⟨h1, t1⟩ := ba h
    obtain ⟨h2, t2⟩ := ba t1
    obtain ⟨h3, t3⟩ := ba t2
    obtain ⟨h4, h5⟩ := ba t3
    obtain ⟨m1, m2, m3, m4, m5⟩ := L.tol t (of_decide_eq_true h1)
    obtain ⟨r1, lf⟩ := o.lam h2
    refine .ofE (se_told o.hK L.isa.exm m1 lf r1 (o.gl h3) m5 (by rw [o.sc]; exact lamB_ok h4) m2 m3 (fun r hr => by rw [L.cfs]; exact m4 r hr) (fun A outer s H E f c' hr => (bd.snd (c.lam sc) _ E (o.lamc sc A outer s H E f c' hr) L h5).se)) rfl rfl (fun z => by cases z)
  | mkx q a qp p =>
    obtain ⟨h1, t1⟩ := ba h
    obtain ⟨h2, t2⟩ := ba t1
    obtain ⟨h3, h4⟩ := ba t2
    have m := L.mgc q (of_decide_eq_true h1)
    obtain ⟨F, _⟩ := L.xcs q (List.contains_iff_mem.mp h2)
    rw [← o.hK] at F
    exact .ofF (sf_mkx (p1 := qp) (p2 := p) F o.room (o.gl h3) m.1 m.2 (a.snd c X Ex o L h4).se (star_ex T c.N a [] _)) rfl (fun z => by cases z)
  | mkk q a kp qp p =>
    obtain ⟨h1, t1⟩ := ba h
    obtain ⟨h2, t2⟩ := ba t1
    obtain ⟨h3, t3⟩ := ba t2
    obtain ⟨h4, h5⟩ := ba t3
    have m := L.mgc q (of_decide_eq_true h1)
    obtain ⟨F, _⟩ := L.xcs q (List.contains_iff_mem.mp h2)
    rw [← o.hK] at F
    have e1 : G.cfs q = [(T.cfs q).getD 0 Str.empty] := by
      rw [L.cfs]
      have hl := Nat.eq_of_beq_eq_true h4
      match h6 : T.cfs q, hl with
      | [f], _ => rfl
    exact .ofF (sf_mkk (kp := kp) (p1 := qp) (p2 := p) F e1 o.room (o.gl h3) m.1 m.2 (a.snd c X Ex o L h5).se) rfl (fun z => by cases z)
  | xfl n ob p =>
    obtain ⟨h1, h2⟩ := ba h
    have e1 : T.cfs = G.cfs := funext fun c => (L.cfs c).symm
    have se : SE G X φ Ex (dXfl T.cfs T.xcs (T.xn n) (ob.den G T false)) (.Attribute (ob.ex T c.N) (T.xn n) p) := by
      rw [e1]
      exact se_xfl o.hK (fun c hc => (L.xcs c hc).2) (ob.snd c X Ex o L h2).se (ab_ex T c.N ob h1 _ _)
    exact .ofE se rfl rfl (fun z => by cases z)
  | dc own pt it ifs kx vx sc p =>
    obtain ⟨h1, t1⟩ := ba h
    obtain ⟨h2, t2⟩ := ba t1
    obtain ⟨h3, t3⟩ := ba t2
    obtain ⟨h4, t4⟩ := ba t3
    obtain ⟨h5, t5⟩ := ba t4
    obtain ⟨h6, t6⟩ := ba t5
    obtain ⟨h7, h8⟩ := ba t6
    have sit := it.snd c X Ex o L h5 (pt.ex c.N) (fun z => by
      rw [z] at h4
      cases pt with
      | nm i p => cases h4
      | tup ps kk p => exact ⟨_, _, _, rfl⟩)
    have sf := sf_dc (φ := φ) (E := Ex) (own := ownIx c.N own) (scope := sc) (pos := p) (pt := pt) (iter := it.ex T c.N) (ifs := ifs.ex T c.N) (ek := kx.ex T c.N) (ev := vx.ex T c.N) (tst := ifs.denI G T) (kx := kx.den G T false) (vx := vx.den G T false) (it := it.den G T true) o.hK o.calm (by rw [o.N]; exact o.nd) (by rw [o.N]; exact sit.2) (by rw [o.N, o.sc]; exact blkB_ok h1) (by rw [own_map]; exact h2)
      (fun s H C cl fp => by rw [o.N]; exact (o.blk s H sc C cl fp).pg pt h3)
      (fun s H C cl fp => ifs.sndI (c.blk sc) _ _ (o.blk s H sc C cl fp) L h6)
      (fun s H C cl fp => (kx.snd (c.blk sc) _ _ (o.blk s H sc C cl fp) L h7).se)
      (fun s H C cl fp => (vx.snd (c.blk sc) _ _ (o.blk s H sc C cl fp) L h8).se) (fold_ex T c.N _ it)
    rw [own_map, o.N] at sf
    exact .ofF sf rfl (fun z => by cases z)
theorem Ks.snd (ks : Ks) (c : Ct) (X : Cx) (Ex : XK) (o : OkX G k c X Ex) (L : Lib X.prog X.w X.mg X.base G T φ k) (h : ks.wf T c = true) : SK G X φ Ex (ks.den G T) (ks.ex T c.N) := by
  cases ks with
  | nil => exact sk_nil
  | cons n a p r =>
    obtain ⟨h1, h2⟩ := ba h
    exact sk_cons (a.snd c X Ex o L h1).se (r.snd c X Ex o L h2)
theorem Es.snd (es : Es) (c : Ct) (X : Cx) (Ex : XK) (o : OkX G k c X Ex) (L : Lib X.prog X.w X.mg X.base G T φ k) (h : es.wf T c = true) : SA G X φ Ex (es.den G T false) (es.ex T c.N) ∧ SAW G X φ Ex (es.den G T true) (es.ex T c.N) := by
  cases es with
  | nil => exact ⟨sa_nil, saw_nil⟩
  | cons a r =>
    obtain ⟨h1, h2⟩ := ba h
    have sa := a.snd c X Ex o L h1
    have sr := r.snd c X Ex o L h2
    exact ⟨sa_cons sa.se sr.1 (star_ex T c.N a _ _), saw_cons sa.sw sr.2 (star_ex T c.N a _ _)⟩
theorem Es.sndB (es : Es) (c : Ct) (X : Cx) (Ex : XK) (o : OkX G k c X Ex) (L : Lib X.prog X.w X.mg X.base G T φ k) (h : es.wf T c = true) (op : BoolOp) (p : Pos) (d : DE) (e : Expr) (sd : SE G X φ Ex d e) : SE G X φ Ex (es.denB G T op d) (.BoolOp op (e :: es.ex T c.N) p) := by
  cases es with
  | nil => exact se_one sd
  | cons a r =>
    obtain ⟨h1, h2⟩ := ba h
    have sa := a.snd c X Ex o L h1
    have sr := r.sndB c X Ex o L h2 op p _ _ sa.se
    cases op with
    | And => exact se_and sd sr
    | Or => exact se_or sd sr
theorem Es.sndBT (es : Es) (c : Ct) (X : Cx) (Ex : XK) (o : OkX G k c X Ex) (L : Lib X.prog X.w X.mg X.base G T φ k) (h : es.wf T c = true) (ht : es.wfT = true) (op : BoolOp) (p : Pos) (d : DT) (e : Expr) (sd : ST G X φ Ex d e) : SWt G X φ Ex (es.denBT G T op d) (.BoolOp op (e :: es.ex T c.N) p) := by
  cases es with
  | nil =>
    cases op with
    | And => exact sw_and1 sd
    | Or => exact sw_or1 sd
  | cons a r =>
    obtain ⟨h1, h2⟩ := ba h
    obtain ⟨t1, t2⟩ := ba ht
    have sa := (a.snd c X Ex o L h1).st t1
    have sr := r.sndBT c X Ex o L h2 t2 op p _ _ sa
    cases op with
    | And => exact sw_and sd sr
    | Or => exact sw_or sd sr
theorem Es.sndI (es : Es) (c : Ct) (X : Cx) (Ex : XK) (o : OkX G k c X Ex) (L : Lib X.prog X.w X.mg X.base G T φ k) (h : es.wfI T c = true) : STs G X φ Ex (es.denI G T) (es.ex T c.N) := by
  cases es with
  | nil => exact sts_nil
  | cons a r =>
    cases r with
    | nil =>
      obtain ⟨h1, h2⟩ := ba h
      exact sts_one ((a.snd c X Ex o L h1).st h2)
    | cons b r => cases h
theorem Oe.snd (oe : Oe) (c : Ct) (X : Cx) (Ex : XK) (o : OkX G k c X Ex) (L : Lib X.prog X.w X.mg X.base G T φ k) (h : oe.wf T c = true) : SO G X φ Ex (oe.den G T) (oe.ex T c.N) := by
  cases oe with
  | no => exact so_none
  | so a => exact so_some (a.snd c X Ex o L h).se
theorem Ie.snd (it : Ie) (c : Ct) (X : Cx) (Ex : XK) (o : OkX G k c X Ex) (L : Lib X.prog X.w X.mg X.base G T φ k) (h : it.wf T c = true) (tg : Expr) (ht : it.needTup = true → ∃ es kk p, tg = .Tuple es kk p) :
    SI G X φ Ex (it.den G T false) tg (it.ex T c.N) ∧ SIW G X φ Ex (it.den G T true) tg (it.ex T c.N) := by
  cases it with
  | e a =>
    have sa := a.snd c X Ex o L h
    exact ⟨si_e o.hK sa.se, siw_e o.hK sa.sw⟩
  | rng1 a q p =>
    obtain ⟨h1, h2⟩ := ba h
    have sa := a.snd c X Ex o L h2
    have si := si_rng1 (tg := tg) (p := q) (pos := p) (o.gl h1) L.mgr.1 (saw_cons sa.sw saw_nil (star_ex T c.N a _ _)) (star_ex T c.N a [] _)
    exact ⟨si, si.w⟩
  | rng2 a b q p =>
    obtain ⟨h1, t1⟩ := ba h
    obtain ⟨h2, h3⟩ := ba t1
    have sa := a.snd c X Ex o L h2
    have sb := b.snd c X Ex o L h3
    have si := si_rng2 (tg := tg) (p := q) (pos := p) (o.gl h1) L.mgr.1 (saw_cons sa.sw (saw_cons sb.sw saw_nil (star_ex T c.N b _ _)) (star_ex T c.N a _ _)) (by rw [star_ex, star_ex]; rfl) (star_ex T c.N b [] _)
    exact ⟨si, si.w⟩
  | enum a q p =>
    obtain ⟨h1, h2⟩ := ba h
    have sa := a.snd c X Ex o L h2
    obtain ⟨es, kk, tp, rfl⟩ := ht rfl
    exact ⟨si_enum o.hK (o.gl h1) L.mgr.2.1 (sa_cons sa.se sa_nil (star_ex T c.N a _ _)) (star_ex T c.N a [] _), siw_enum o.hK (o.gl h1) L.mgr.2.1 (saw_cons sa.sw saw_nil (star_ex T c.N a _ _)) (star_ex T c.N a [] _)⟩
  | zip a b q p =>
    obtain ⟨h1, t1⟩ := ba h
    obtain ⟨h2, h3⟩ := ba t1
    have sa := a.snd c X Ex o L h2
    have sb := b.snd c X Ex o L h3
    obtain ⟨es, kk, tp, rfl⟩ := ht rfl
    have pl : (backTo p (starEach [b.ex T c.N] X.env)).any (·.1) = false := star_pl T c.N p X.env (.cons b .nil)
    exact ⟨si_zip o.hK (o.gl h1) L.mgr.2.2 (sa_cons sa.se (sa_cons sb.se sa_nil (star_ex T c.N b _ _)) (star_ex T c.N a _ _)) (star_ex T c.N a _ _) pl, siw_zip o.hK (o.gl h1) L.mgr.2.2 (saw_cons sa.sw (saw_cons sb.sw saw_nil (star_ex T c.N b _ _)) (star_ex T c.N a _ _)) (star_ex T c.N a _ _) pl⟩
end
end
end Z
namespace Z
open PySem PySem.Spec PyProof.Rows L2

mutual
inductive S where
  | asg (fz : List Nat) (pt : Pat) (e : E) (p : Pos)
  | asgN (fz : List Nat) (i : Nat) (q : Pos) (e : E) (p : Pos)
  | own (fz : List Nat) (i : Nat) (q : Pos) (e : E) (p : Pos)
  | par2 (fz : List Nat) (i j : Nat) (b1 b2 : Bool) (q1 q2 : Pos) (k1 : Nat) (t1 : Pos) (e1 e2 : E) (k2 : Nat) (t2 p : Pos)
  | par3 (fz : List Nat) (i j l : Nat) (b1 b2 b3 : Bool) (q1 q2 q3 : Pos) (k1 : Nat) (t1 : Pos) (e1 e2 e3 : E) (k2 : Nat) (t2 p : Pos)
  | app (fz : List Nat) (i : Nat) (e : E) (q1 q2 q3 p : Pos)
  | ext (fz : List Nat) (i : Nat) (e : E) (q1 q2 q3 p : Pos)
  | pop (pt : Pat) (j : Nat) (q1 q2 q3 p : Pos)
  | popAt (fz : List Nat) (pt : Pat) (j : Nat) (e : E) (q1 q2 q3 p : Pos)
  | appPop (fz : List Nat) (i j : Nat) (e : E) (q1 q2 q3 q4 q5 q6 p : Pos)
  | put (fz : List Nat) (j : Nat) (ix e : E) (q1 q2 p : Pos)
  | ife (fz : List Nat) (c : E) (a b : Ss) (p : Pos)
  | ret (fz : List Nat) (e : E) (p : Pos)
  | retN (p : Pos)
  | forr (fz : List Nat) (pt : Pat) (it : Ie) (b : Ss) (p : Pos)
  | whl (n : Nat) (c : E) (b : Ss) (p : Pos)
  | drop (fz : List Nat) (e : E) (p : Pos)
  | pass (p : Pos)
  | raise (fz : List Nat) (c : Nat) (e : E) (q1 q2 p : Pos)
  | fldI (fz : List Nat) (i c k : Nat) (e : E) (q1 q2 p : Pos)
  | no (st : Stmt)
inductive Ss where
  | nil
  | cons (a : S) (r : Ss)
end
section
variable (T : Tab) (N : List Str)
abbrev nmE (N : List Str) (i : Nat) (p : Pos) : Expr := .Name (N.getD i Str.empty) p
mutual
def S.ex : S → Stmt
  | .asg _ pt e p => .Assign [pt.ex N] (e.ex T N) p
  | .asgN _ i q e p => .Assign [nmE N i q] (e.ex T N) p
  | .own _ i q e p => .Assign [nmE N i q] (e.ex T N) p
  | .par2 _ i j _ _ q1 q2 k1 t1 e1 e2 k2 t2 p => .Assign [.Tuple [nmE N i q1, nmE N j q2] k1 t1] (.Tuple [e1.ex T N, e2.ex T N] k2 t2) p
  | .par3 _ i j l _ _ _ q1 q2 q3 k1 t1 e1 e2 e3 k2 t2 p => .Assign [.Tuple [nmE N i q1, nmE N j q2, nmE N l q3] k1 t1] (.Tuple [e1.ex T N, e2.ex T N, e3.ex T N] k2 t2) p
  | .app _ i e q1 q2 q3 p => .Expr (.Call (.Attribute (nmE N i q1) (Str.ofString "append") q2) [e.ex T N] [] q3) p
  | .ext _ i e q1 q2 q3 p => .Expr (.Call (.Attribute (nmE N i q1) (Str.ofString "extend") q2) [e.ex T N] [] q3) p
  | .pop pt j q1 q2 q3 p => .Assign [pt.ex N] (.Call (.Attribute (nmE N j q1) (Str.ofString "pop") q2) [] [] q3) p
  | .popAt _ pt j e q1 q2 q3 p => .Assign [pt.ex N] (.Call (.Attribute (nmE N j q1) (Str.ofString "pop") q2) [e.ex T N] [] q3) p
  | .appPop _ i j e q1 q2 q3 q4 q5 q6 p => .Expr (.Call (.Attribute (nmE N i q1) (Str.ofString "append") q2) [.Call (.Attribute (nmE N j q4) (Str.ofString "pop") q5) [e.ex T N] [] q6] [] q3) p
  | .put _ j ix e q1 q2 p => .Assign [.Subscript (nmE N j q1) (ix.ex T N) q2] (e.ex T N) p
  | .ife _ c a b p => .If (c.ex T N) a.ex b.ex p
  | .ret _ e p => .Return (some (e.ex T N)) p
  | .retN p => .Return none p
  | .forr _ pt it b p => .For (pt.ex N) (it.ex T N) b.ex [] p
  | .whl _ c b p => .While (c.ex T N) b.ex [] p
  | .drop _ e p => .Expr (e.ex T N) p
  | .pass p => .Pass p
  | .raise _ c e q1 q2 p => .Raise (some (.Call (.Name (T.cnm c) q1) [e.ex T N] [] q2)) none p
  | .fldI _ i c k e q1 q2 p => .Assign [.Attribute (nmE N i q1) ((T.cfs c).getD k Str.empty) q2] (e.ex T N) p
  | .no st => st
def Ss.ex : Ss → List Stmt
  | .nil => []
  | .cons a r => a.ex :: r.ex
end
end
section
variable (G : Gx) (T : Tab)
mutual
def S.den : S → DS
  | .asg fz pt e _ => dsFrz fz (dsAsg pt (e.den G T false))
  | .asgN fz i q e _ => dsFrz fz (dsAsg (.nm i q) (e.den G T false))
  | .own fz i _ e _ => dsFrz fz (dsOwn i (e.den G T false))
  | .par2 fz i j b1 b2 _ _ _ _ e1 e2 _ _ _ => dsFrz fz (dsPar2 i j b1 b2 (daCons (e1.den G T false) (daCons (e2.den G T false) daNil)))
  | .par3 fz i j l b1 b2 b3 _ _ _ _ _ e1 e2 e3 _ _ _ => dsFrz fz (dsPar3 i j l b1 b2 b3 (daCons (e1.den G T false) (daCons (e2.den G T false) (daCons (e3.den G T false) daNil))))
  | .app fz i e _ _ _ _ => dsFrz fz (dsApp i (e.den G T false))
  | .ext fz i e _ _ _ _ => dsFrz fz (dsExt i (e.den G T true))
  | .pop pt j _ _ _ _ => dsPop pt j
  | .popAt fz pt j e _ _ _ _ => dsFrz fz (dsPopAt pt j (e.den G T false))
  | .appPop fz i j e _ _ _ _ _ _ _ => dsFrz fz (dsAppPop i j (e.den G T false))
  | .put fz j ix e _ _ _ => dsFrz fz (dsPut j (ix.den G T false) (e.den G T false))
  | .ife fz c a b _ => dsFrz fz (dsIf (c.denT G T) a.den b.den)
  | .ret fz e _ => dsFrz fz (dsRet (e.den G T false))
  | .retN _ => dsRetN
  | .forr fz pt it b _ => dsFrz fz (dsFor (it.den G T false) pt b.den)
  | .whl n c b _ => dsWhile n (c.denT G T) b.den
  | .drop fz e _ => dsFrz fz (dsDrop (e.den G T false))
  | .pass _ => dsNil
  | .raise fz c e _ _ _ => dsFrz fz (dsRaise c (e.den G T false))
  | .fldI fz i c k e _ _ _ => dsFrz fz (dsFld i c k (e.den G T false))
  | .no _ => dsBad
def Ss.den : Ss → DS
  | .nil => dsNil
  | .cons a r => dsCons a.den r.den
end
end
def E.isLc : E → Bool
  | .lc _ _ _ _ _ _ _ => true
  | .dc _ _ _ _ _ _ _ _ => true
  | _ => false
def E.isTup : E → Bool
  | .tup _ _ _ => true
  | _ => false
def Pat.swp : Pat → Bool
  | .nm _ _ => false
  | .tup ps _ _ => ps.len == 2 || ps.len == 3
def Ct.loc (c : Ct) (i : Nat) : Bool := match c.N[i]? with
  | some x => (match lookB c.sc.names x with | some .local => true | _ => false)
  | none => false
/-- a pair of names that the compiler does not swap: one of them is in a cell -/
def Pat.cel (c : Ct) : Pat → Bool
  | .nm i _ => (match c.N[i]? with
    | some x => (match lookB c.sc.names x with | some .cell => true | _ => false)
    | none => false)
  | .tup _ _ _ => true
def Pats.cel (c : Ct) : Pats → Bool
  | .nil => false
  | .cons a r => a.cel c || r.cel c
def Pat.swapsNot (c : Ct) : Pat → Bool
  | .nm _ _ => true
  | .tup ps _ _ => !(ps.len == 2 || ps.len == 3) || ps.cel c
section
variable (T : Tab) (ecs : List Nat)
mutual
def S.wf (c : Ct) (fr : Bool) : S → Bool
  | .asg _ pt e _ => pt.ok c.sc c.N c.fn && (e.wf T c && (!e.isLc && (!e.isTup || pt.swapsNot c)))
  | .asgN _ i q e _ => (Pat.nm i q).ok c.sc c.N c.fn && (e.wf T c && e.frk T)
  | .own _ i q e _ => (Pat.nm i q).ok c.sc c.N c.fn && (e.wf T c && e.frk T)
  | .par2 _ i j b1 b2 q1 q2 _ _ e1 e2 _ _ _ => decide (i ≠ j) && (c.loc i && (c.loc j && (q1.line == q2.line && (e1.wf T c && (e2.wf T c && ((!b1 || e1.frk T) && ((!b2 || e2.frk T) &&
      (!([e1.ex T c.N, e2.ex T c.N].all (foldedForSure 8)) && !([e1.ex T c.N, e2.ex T c.N].all (constantsAlone 8))))))))))
  | .par3 _ i j l b1 b2 b3 q1 q2 q3 _ _ e1 e2 e3 _ _ _ => (decide (i ≠ j) && (decide (i ≠ l) && decide (j ≠ l))) && (c.loc i && (c.loc j && (c.loc l && ((q1.line == q2.line && q1.line == q3.line) && (e1.wf T c && (e2.wf T c && (e3.wf T c && ((!b1 || e1.frk T) && ((!b2 || e2.frk T) && ((!b3 || e3.frk T) &&
      (!([e1.ex T c.N, e2.ex T c.N, e3.ex T c.N].all (foldedForSure 8)) && !([e1.ex T c.N, e2.ex T c.N, e3.ex T c.N].all (constantsAlone 8)))))))))))))
  | .app _ i e _ q2 q3 _ => c.vis i && (lineB q2 q3 && e.wf T c)
  | .ext _ i e _ q2 q3 _ => c.vis i && (lineB q2 q3 && e.wf T c)
  | .pop pt j _ q2 q3 _ => pt.ok c.sc c.N c.fn && (c.vis j && lineB q2 q3)
  | .popAt _ pt j e _ q2 q3 _ => pt.ok c.sc c.N c.fn && (c.vis j && (lineB q2 q3 && e.wf T c))
  | .appPop _ i j e _ q2 q3 _ q5 q6 _ => c.vis i && (c.vis j && (lineB q2 q3 && (lineB q5 q6 && e.wf T c)))
  | .put _ j ix e _ _ _ => c.vis j && (ix.wf T c && e.wf T c)
  | .ife _ d a b _ => d.wf T c && (d.wfT && (a.wf c fr && b.wf c fr))
  | .ret _ e _ => e.wf T c && (!fr || e.frk T)
  | .retN _ => true
  | .forr _ pt it b _ => (it.needTup == false || pt.isTup) && (pt.ok c.sc c.N c.fn && (it.wf T c && b.wf c fr))
  | .whl _ d b _ => d.wf T c && (d.wfT && b.wf c fr)
  | .drop _ e _ => e.wf T c && !e.isLc
  | .pass _ => true
  | .raise _ q e _ _ _ => decide (q < T.cls.length) && (ecs.contains q && (c.glo (T.cnm q) && e.wf T c))
  | .fldI _ i q k e _ _ _ => c.vis i && (((T.made[q]?).join).isSome && (decide (k < (T.cfs q).length) && (decide (k < 1000) && e.wf T c)))
  | .no _ => true
def Ss.wf (c : Ct) (fr : Bool) : Ss → Bool
  | .nil => true
  | .cons a r => a.wf c fr && r.wf c fr
end
end
/-! ### their soundness -/
structure OkS (P : Program) (w : World) (mg : Str → Option Value) (base : Heap) (G : Gx) (T : Tab) (φ : Fns) (k : Nat) (ecs : List Nat) (c : Ct) (X : Cx) (Ex : XK) : Prop extends OkX G k c X Ex where
  kd : c.sc.kind = .function
  tk : Takes X (fun cls d _ H => Ex cls d H)
  po : PassesOwn (model X.prog X.w) X.A X.env X.xe
  prog : X.prog = P ∧ X.w = w ∧ X.mg = mg ∧ X.base = base
  lib : Lib P w mg base G T φ k
  exc : ∀ q ∈ ecs, ExF P w G.K mg base G k q
section
variable {G : Gx} {T : Tab} {k : Nat} {c : Ct} {X : Cx} {Ex : XK} {φ : Fns} {ecs : List Nat}
theorem loc_ok (o : OkX G k c X Ex) {i : Nat} (h : c.loc i = true) : ∃ x, X.N[i]? = some x ∧ c.N.getD i Str.empty = x ∧ X.env.scope.names.lookup x = some .local := by
  unfold Ct.loc at h
  cases e : c.N[i]? with
  | none => rw [e] at h; cases h
  | some x =>
    rw [e] at h
    simp only at h
    rw [lookB_eq] at h
    refine ⟨x, by rw [o.N]; exact e, by rw [List.getD_eq_getElem?_getD, e]; rfl, ?_⟩
    rw [o.sc]
    cases q : c.sc.names.lookup x with
    | none => rw [q] at h; cases h
    | some kd => rw [q] at h; cases kd <;> first | rfl | cases h
theorem swaps_ex (N : List Str) (e : E) (h : e.isLc = false) (t : Option Expr) (l : Nat) (env : PySem.Env) : swapsWith (e.ex T N) t l env = pure false := by
  cases e <;> first | rfl | cases h
theorem swaps_lc {elt : Expr} {gs : List Comprehension} {sc : Scope} {pos : Pos} {x : Str} {px : Pos} {l : Nat} {env : PySem.Env} :
    swapsWith (.ListComp elt gs sc pos) (some (.Name x px)) l env = pure (env.blockKind == .function && env.kindOf x == some .local && px.line == pos.line && !(sc.names.any fun (n, k) => n == x && (k == .local || k == .cell))) := rfl
end
end Z
namespace Z
open PySem PySem.Spec PyProof.Rows L2
def lnN (env : PySem.Env) (l : Nat) : Expr → Option Str
    | .Name id pos => if env.kindOf id == some .local && pos.line == l then some id else none
    | _ => none
def swN (ts : List Expr) (env : PySem.Env) : List Str := ts.filterMap fun
    | .Name id pos => if env.kindOf id == some .local && pos.line == (ts.head?.map (·.pos.line)).getD 0 then some id else none
    | _ => none
theorem swapped_short {ts vs : List Expr} {k1 k2 : Nat} {p1 p2 : Pos} {env : PySem.Env} (h : (ts.length == 2 || ts.length == 3) = false) : swappedStores [.Tuple ts k1 p1] (.Tuple vs k2 p2) env = pure none := by
  unfold swappedStores
  simp only [h]
  rfl
theorem swapped_none {ts vs : List Expr} {k1 k2 : Nat} {p1 p2 : Pos} {env : PySem.Env} (h : (swN ts env).length ≠ ts.length) : swappedStores [.Tuple ts k1 p1] (.Tuple vs k2 p2) env = pure none := by
  unfold swappedStores
  simp only
  split
  · rfl
  · split
    · rfl
    · rw [if_pos]
      have : ((swN ts env).length != ts.length) = true := by simpa using h
      exact (Bool.or_eq_true _ _).mpr (Or.inl this)
theorem swapped_some {ts vs : List Expr} {names : List Str} {k1 k2 : Nat} {p1 p2 : Pos} {env : PySem.Env} (hb : env.blockKind = .function) (hl : (ts.length == 2 || ts.length == 3) = true) (hv : vs.length = ts.length) (hn : swN ts env = names) (hnl : names.length = ts.length) (hnd : names.eraseDups = names)
    (hs : (vs.any fun | .Starred .. => true | _ => false) = false) (h1 : vs.all (foldedForSure 8) = false) (h2 : vs.all (constantsAlone 8) = false) :
    swappedStores [.Tuple ts k1 p1] (.Tuple vs k2 p2) env = pure (some names) := by
  unfold swappedStores
  simp only
  split
  · rename_i hh
    rw [hl, hv, hb] at hh
    simp at hh
  · split
    · rename_i hh
      have : (vs.any fun | .Starred .. => true | _ => false) = true := hh
      rw [hs] at this
      cases this
    · split
      · rename_i hh
        have : ((swN ts env).length != ts.length || (swN ts env).eraseDups.length != (swN ts env).length) = true := hh
        rw [hn, hnd, hnl] at this
        simp at this
      · split
        · rename_i hh
          rw [h1] at hh
          cases hh
        · rw [if_neg (by rw [h2]; simp)]
          show (pure (some (swN ts env)) : Sem (Option (List Str))) = _
          rw [hn]
theorem swN_two {x y : Str} {px py : Pos} {env : PySem.Env} (hx : env.kindOf x = some .local) (hy : env.kindOf y = some .local) (hl : (px.line == py.line) = true) : swN [.Name x px, .Name y py] env = [x, y] := by
  have hl' : py.line = px.line := (eq_of_beq hl).symm
  unfold swN
  simp [List.filterMap, hx, hy, Expr.pos, hl']
theorem swN_three {x y z : Str} {px py pz : Pos} {env : PySem.Env} (hx : env.kindOf x = some .local) (hy : env.kindOf y = some .local) (hz : env.kindOf z = some .local) (hl : (px.line == py.line) = true) (hl2 : (px.line == pz.line) = true) : swN [.Name x px, .Name y py, .Name z pz] env = [x, y, z] := by
  have e1 : py.line = px.line := (eq_of_beq hl).symm
  have e2 : pz.line = px.line := (eq_of_beq hl2).symm
  unfold swN
  simp [List.filterMap, hx, hy, hz, Expr.pos, e1, e2]
theorem dups2 {x y : Str} (h : x ≠ y) : [x, y].eraseDups = [x, y] := by
  rw [List.eraseDups_cons]
  simp [Ne.symm h, List.eraseDups_cons]
theorem dups3 {x y z : Str} (h : x ≠ y) (h2 : x ≠ z) (h3 : y ≠ z) : [x, y, z].eraseDups = [x, y, z] := by
  rw [List.eraseDups_cons]
  simp [Ne.symm h, Ne.symm h2, Ne.symm h3, List.eraseDups_cons]
theorem swN_ln (ts : List Expr) (env : PySem.Env) : swN ts env = ts.filterMap (lnN env ((ts.head?.map (·.pos.line)).getD 0)) := rfl
end Z
namespace Z
open PySem PySem.Spec PyProof.Rows L2
section
variable {G : Gx} {T : Tab} {k : Nat} {c : Ct} {X : Cx} {Ex : XK} {φ : Fns} {ecs : List Nat} {fr : Bool}
variable {P : Program} {w : World} {mg : Str → Option Value} {base : Heap}
theorem OkX.bk (o : OkX G k c X Ex) (h : c.sc.kind = .function) : X.env.blockKind = .function := by
  unfold Env.blockKind
  rw [o.sc, h]; rfl
theorem mth1 (N : List Str) (e : E) (x m : Str) (p1 p2 p3 : Pos) (X : Cx) (hl : lineB p2 p3 = true) : Mth X (.Name x p1) m p2 p3 [e.ex T N] := by
  refine ⟨rfl, ?_, hl, fun a r h => ?_, fun a r h => ?_⟩
  · have := star_all T N p3 X.env (.cons e .nil)
    rw [show [e.ex T N] = Es.ex T N (.cons e .nil) from rfl, this]
    rfl
  · cases h; exact star_ex T N e [] X.env
  · cases h; rfl
/-- a name takes what e tells -/
theorem sn_e (o : OkX G k c X Ex) (kd : c.sc.kind = .function) (L : Lib X.prog X.w X.mg X.base G T φ k) (i : Nat) (q : Pos) (e : E) (p : Pos) (hp : (Pat.nm i q).ok c.sc c.N c.fn = true) (he : e.wf T c = true) (hf : e.frk T = true) :
    SN G X φ Ex i (e.den G T false) (.Assign [nmE c.N i q] (e.ex T c.N) p) := by
  have pg : ∃ x, X.N[i]? = some x ∧ nmE c.N i q = .Name x q ∧ Loc X.env.scope x ∧ (X.fn x = true ∨ X.env.scope.names.lookup x = some .local) := by
    simp only [Pat.ok] at hp
    cases ex : c.N[i]? with
    | none => rw [ex] at hp; cases hp
    | some x =>
      rw [ex] at hp
      simp only at hp
      refine ⟨x, by rw [o.N]; exact ex, by show Expr.Name (c.N.getD i Str.empty) q = _; rw [List.getD_eq_getElem?_getD, ex]; rfl, ?_⟩
      rw [o.sc, o.fn]
      cases el : c.sc.names.lookup x with
      | none => rw [el] at hp; cases hp
      | some kk =>
        rw [el] at hp
        cases kk with
        | «local» => exact ⟨.inl el, .inr rfl⟩
        | cell => exact ⟨.inr el, .inl hp⟩
        | _ => cases hp
  obtain ⟨x, hN, ex, hloc, hfn⟩ := pg
  rw [ex]
  have plain : swapsWith (e.ex T c.N) (some (.Name x q)) p.line X.env = pure false → SN G X φ Ex i (e.den G T false) (.Assign [.Name x q] (e.ex T c.N) p) := fun hs => by
    obtain ⟨t, pe, ht⟩ := (e.snd c X Ex o L he).sf hf
    exact ⟨t, ps_set (by rw [o.N]; exact o.nd) hN hloc pe hs hfn, ht⟩
  cases hlc : e.isLc with
  | false => exact plain (swaps_ex c.N e hlc _ _ _)
  | true =>
    cases e with
    | lc own pt it ifs elt sc pp =>
      have hs : swapsWith (E.ex T c.N (.lc own pt it ifs elt sc pp)) (some (.Name x q)) p.line X.env = pure (X.env.blockKind == .function && X.env.kindOf x == some .local && q.line == pp.line && !(sc.names.any fun (n, k) => n == x && (k == .local || k == .cell))) := rfl
      cases hb : (X.env.blockKind == .function && X.env.kindOf x == some .local && q.line == pp.line && !(sc.names.any fun (n, k) => n == x && (k == .local || k == .cell))) with
      | false =>
        rw [hb] at hs
        exact plain hs
      | true =>
        rw [hb] at hs
        have hloc' : X.env.scope.names.lookup x = some .local := by
          simp only [Bool.and_eq_true] at hb
          exact eq_of_beq hb.1.1.2
        obtain ⟨h1, t1⟩ := ba he
        obtain ⟨h2, t2⟩ := ba t1
        obtain ⟨h3, t3⟩ := ba t2
        obtain ⟨h4, t4⟩ := ba t3
        obtain ⟨h5, t5⟩ := ba t4
        obtain ⟨h6, h7⟩ := ba t5
        have sit := it.snd c X Ex o L h5 (pt.ex c.N) (fun z => by
          rw [z] at h4
          cases pt with
          | nm i p => cases h4
          | tup ps kk p => exact ⟨_, _, _, rfl⟩)
        have sn := sn_lc (φ := φ) (E := Ex) (own := ownIx c.N own) (scope := sc) (pos := pp) (pt := pt) (iter := it.ex T c.N) (ifs := ifs.ex T c.N) (ee := elt.ex T c.N) (tst := ifs.denI G T) (elt := elt.den G T false) (it := it.den G T true) (py := q) (spos := p) o.calm (by rw [o.N]; exact o.nd) hN hloc' (by rw [o.N]; exact hs) (by rw [o.N]; exact sit.2) (by rw [o.N, o.sc]; exact blkB_ok h1) (by rw [own_map]; exact h2)
          (fun s H C cl fp => by rw [o.N]; exact (o.blk s H sc C cl fp).pg pt h3)
          (fun s H C cl fp => ifs.sndI (c.blk sc) _ _ (o.blk s H sc C cl fp) L h6)
          (fun s H C cl fp => (elt.snd (c.blk sc) _ _ (o.blk s H sc C cl fp) L h7).se) (fold_ex T c.N _ it)
        rw [own_map, o.N] at sn
        exact sn
    | dc _ _ _ _ _ _ _ _ => cases hf
    | _ => cases hlc
theorem nb {b : Bool} (h : (!b) = true) : b = false := by cases b <;> first | rfl | cases h
theorem asg_one (N : List Str) (pt : Pat) (env : PySem.Env) : (assignEach [pt.ex N] env).map (·.2) = [assign (pt.ex N) env] := by cases pt <;> rfl
theorem Pats.ex_length (N : List Str) : ∀ ps : Pats, (ps.ex N).length = ps.len
  | .nil => rfl
  | .cons a r => by
    show (r.ex N).length + 1 = r.len + 1
    rw [Pats.ex_length N r]
theorem swN_lt (o : OkX G k c X Ex) (l : Nat) : ∀ ps : Pats, ps.cel c = true → ((ps.ex c.N).filterMap (lnN X.env l)).length < (ps.ex c.N).length
  | .nil, h => by cases h
  | .cons a r, h => by
    have hr : ((r.ex c.N).filterMap (lnN X.env l)).length ≤ (r.ex c.N).length := List.length_filterMap_le _ _
    show ((a.ex c.N :: r.ex c.N).filterMap (lnN X.env l)).length < (a.ex c.N :: r.ex c.N).length
    rw [List.filterMap_cons, List.length_cons]
    have h : (a.cel c || r.cel c) = true := h
    cases ha : a.cel c with
    | true =>
      have : lnN X.env l (a.ex c.N) = none := by
        cases a with
        | tup ps kk p => rfl
        | nm i p =>
          have ha : (match c.N[i]? with
            | some x => (match lookB c.sc.names x with | some .cell => true | _ => false)
            | none => false) = true := ha
          cases e : c.N[i]? with
          | none => rw [e] at ha; cases ha
          | some x =>
            rw [e] at ha
            simp only at ha
            rw [lookB_eq, ← o.sc] at ha
            have e2 : c.N.getD i Str.empty = x := by rw [List.getD_eq_getElem?_getD, e]; rfl
            show (if (X.env.kindOf (c.N.getD i Str.empty) == some .local && p.line == l) = true then some (c.N.getD i Str.empty) else none) = none
            rw [e2]
            have : (X.env.kindOf x == some NameKind.local) = false := by
              show (X.env.scope.names.lookup x == some NameKind.local) = false
              cases q : X.env.scope.names.lookup x with
              | none => rfl
              | some kk => rw [q] at ha; cases kk <;> first | rfl | cases ha
            rw [this]
            rfl
      rw [this]
      simp only
      omega
    | false =>
      rw [ha, Bool.false_or] at h
      have := swN_lt o l r h
      split
      · omega
      · rw [List.length_cons]; omega
theorem sw_none (o : OkX G k c X Ex) (pt : Pat) (e : E) (h : (!e.isTup || pt.swapsNot c) = true) : swappedStores [pt.ex c.N] (e.ex T c.N) X.env = pure none := by
  cases pt with
  | nm i p => cases e <;> rfl
  | tup ps kk p =>
    cases ht : e.isTup with
    | false => cases e <;> first | rfl | cases ht
    | true =>
      cases e with
      | tup es k2 p2 =>
        have h : (!(ps.len == 2 || ps.len == 3) || ps.cel c) = true := h
        cases h2 : (ps.len == 2 || ps.len == 3) with
        | false => exact swapped_short (by rw [Pats.ex_length]; exact h2)
        | true =>
          rw [h2] at h
          have h : ps.cel c = true := h
          refine swapped_none ?_
          rw [swN_ln]
          have := swN_lt o (((ps.ex c.N).head?.map (·.pos.line)).getD 0) ps h
          omega
      | _ => cases ht
theorem nosta (N : List Str) : ∀ (es : Es), ((es.ex T N).any fun | .Starred .. => true | _ => false) = false
  | .nil => rfl
  | .cons a r => by
    show ((a.ex T N :: r.ex T N).any fun | .Starred .. => true | _ => false) = false
    rw [List.any_cons, nosta N r, Bool.or_false]
    cases a <;> rfl
mutual
theorem S.snd (st : S) (o : OkS P w mg base G T φ k ecs c X Ex) (h : st.wf T ecs c fr = true) : SS G X φ Ex fr (st.den G T) (st.ex T c.N) := by
  have ox := o.toOkX
  have L : Lib X.prog X.w X.mg X.base G T φ k := by
    obtain ⟨h1, h2, h3, h4⟩ := o.prog
    rw [h1, h2, h3, h4]
    exact o.lib
  cases st with
  | asg fz pt e p =>
    obtain ⟨h1, t1⟩ := ba h
    obtain ⟨h2, t2⟩ := ba t1
    obtain ⟨h3, h4⟩ := ba t2
    exact ss_frz (ss_asg ox.hK (e.snd c X Ex ox L h2).se (ox.pg pt h1) (swaps_ex c.N e (by simpa using h3) _ _ _) (sw_none ox pt e h4) (asg_one c.N pt _))
  | asgN fz i q e p =>
    obtain ⟨h1, t1⟩ := ba h
    obtain ⟨h2, h3⟩ := ba t1
    exact ss_frz (ss_ownA (sn_e ox o.kd L i q e p h1 h2 h3))
  | own fz i q e p =>
    obtain ⟨h1, t1⟩ := ba h
    obtain ⟨h2, h3⟩ := ba t1
    exact ss_frz (ss_own (sn_e ox o.kd L i q e p h1 h2 h3))
  | par2 fz i j b1 b2 q1 q2 k1 tp e1 e2 k2 tp2 p =>
    obtain ⟨h1, t1⟩ := ba h
    obtain ⟨h2, t2⟩ := ba t1
    obtain ⟨h3, t3⟩ := ba t2
    obtain ⟨h4, t4⟩ := ba t3
    obtain ⟨h5, t5⟩ := ba t4
    obtain ⟨h6, t6⟩ := ba t5
    obtain ⟨h7, t7⟩ := ba t6
    obtain ⟨h8, t8⟩ := ba t7
    obtain ⟨h9, h10⟩ := ba t8
    have s1 := e1.snd c X Ex ox L h5
    have s2 := e2.snd c X Ex ox L h6
    have r1 : SR G X φ Ex b1 (e1.den G T false) (e1.ex T c.N) := by
      cases b1 with
      | false => exact s1.se
      | true => exact s1.sf (by simpa using h7)
    have r2 : SR G X φ Ex b2 (e2.den G T false) (e2.ex T c.N) := by
      cases b2 with
      | false => exact s2.se
      | true => exact s2.sf (by simpa using h8)
    obtain ⟨x, x1, x2, x3⟩ := loc_ok ox h2
    obtain ⟨y, y1, y2, y3⟩ := loc_ok ox h3
    have ij : i ≠ j := of_decide_eq_true h1
    have nd : X.N.Nodup := by rw [ox.N]; exact ox.nd
    have xy : x ≠ y := fun z => by
      subst z
      exact ij (nodup_ix nd x1 y1)
    have ex : S.ex T c.N (.par2 fz i j b1 b2 q1 q2 k1 tp e1 e2 k2 tp2 p) = .Assign [.Tuple [.Name x q1, .Name y q2] k1 tp] (.Tuple [e1.ex T c.N, e2.ex T c.N] k2 tp2) p := by
      show Stmt.Assign [.Tuple [.Name (c.N.getD i Str.empty) q1, .Name (c.N.getD j Str.empty) q2] k1 tp] _ _ = _
      rw [x2, y2]
    rw [ex]
    refine ss_frz (ss_par2 (e1 := e1.ex T c.N) (e2 := e2.ex T c.N) (fun t pa => ?_) (sam_cons r1 (sam_cons r2 sam_nil (star_ex T c.N e2 _ _)) (star_ex T c.N e1 _ _)))
    exact ps_par ox.calm nd x1 y1 ij x3 y3 pa (swapped_some (ox.bk o.kd) rfl rfl (swN_two x3 y3 h4) rfl (dups2 xy) (nosta c.N (.cons e1 (.cons e2 .nil))) (nb h9) (nb h10)) rfl
  | par3 fz i j l b1 b2 b3 q1 q2 q3 k1 tp e1 e2 e3 k2 tp2 p =>
    obtain ⟨h1, t1⟩ := ba h
    obtain ⟨h2, t2⟩ := ba t1
    obtain ⟨h3, t3⟩ := ba t2
    obtain ⟨h3', t3'⟩ := ba t3
    obtain ⟨h4, t4⟩ := ba t3'
    obtain ⟨h5, t5⟩ := ba t4
    obtain ⟨h6, t6⟩ := ba t5
    obtain ⟨h6', t6'⟩ := ba t6
    obtain ⟨h7, t7⟩ := ba t6'
    obtain ⟨h8, t8⟩ := ba t7
    obtain ⟨h8', t8'⟩ := ba t8
    obtain ⟨h9, h10⟩ := ba t8'
    obtain ⟨n1, nn⟩ := ba h1
    obtain ⟨n2, n3⟩ := ba nn
    obtain ⟨l1, l2⟩ := ba h4
    have s1 := e1.snd c X Ex ox L h5
    have s2 := e2.snd c X Ex ox L h6
    have s3 := e3.snd c X Ex ox L h6'
    have r1 : SR G X φ Ex b1 (e1.den G T false) (e1.ex T c.N) := by
      cases b1 with
      | false => exact s1.se
      | true => exact s1.sf (by simpa using h7)
    have r2 : SR G X φ Ex b2 (e2.den G T false) (e2.ex T c.N) := by
      cases b2 with
      | false => exact s2.se
      | true => exact s2.sf (by simpa using h8)
    have r3 : SR G X φ Ex b3 (e3.den G T false) (e3.ex T c.N) := by
      cases b3 with
      | false => exact s3.se
      | true => exact s3.sf (by simpa using h8')
    obtain ⟨x, x1, x2, x3⟩ := loc_ok ox h2
    obtain ⟨y, y1, y2, y3⟩ := loc_ok ox h3
    obtain ⟨z, z1, z2, z3⟩ := loc_ok ox h3'
    have ij : i ≠ j := of_decide_eq_true n1
    have il : i ≠ l := of_decide_eq_true n2
    have jl : j ≠ l := of_decide_eq_true n3
    have nd : X.N.Nodup := by rw [ox.N]; exact ox.nd
    have xy : x ≠ y := fun z => by subst z; exact ij (nodup_ix nd x1 y1)
    have xz : x ≠ z := fun z => by subst z; exact il (nodup_ix nd x1 z1)
    have yz : y ≠ z := fun z => by subst z; exact jl (nodup_ix nd y1 z1)
    have ex : S.ex T c.N (.par3 fz i j l b1 b2 b3 q1 q2 q3 k1 tp e1 e2 e3 k2 tp2 p) = .Assign [.Tuple [.Name x q1, .Name y q2, .Name z q3] k1 tp] (.Tuple [e1.ex T c.N, e2.ex T c.N, e3.ex T c.N] k2 tp2) p := by
      show Stmt.Assign [.Tuple [.Name (c.N.getD i Str.empty) q1, .Name (c.N.getD j Str.empty) q2, .Name (c.N.getD l Str.empty) q3] k1 tp] _ _ = _
      rw [x2, y2, z2]
    rw [ex]
    refine ss_frz (ss_par3 (e1 := e1.ex T c.N) (e2 := e2.ex T c.N) (e3 := e3.ex T c.N) (fun t pa => ?_) (sam_cons r1 (sam_cons r2 (sam_cons r3 sam_nil (star_ex T c.N e3 _ _)) (star_ex T c.N e2 _ _)) (star_ex T c.N e1 _ _)))
    exact ps_par3 ox.calm nd x1 y1 z1 ij il jl x3 y3 z3 pa (swapped_some (ox.bk o.kd) rfl rfl (swN_three x3 y3 z3 l1 l2) rfl (dups3 xy xz yz) (nosta c.N (.cons e1 (.cons e2 (.cons e3 .nil)))) (nb h9) (nb h10)) rfl
  | app fz i e q1 q2 q3 p =>
    obtain ⟨h1, t1⟩ := ba h
    obtain ⟨h2, h3⟩ := ba t1
    obtain ⟨x, x1, x2, x3, x4, x5⟩ := ox.vs h1
    have ex : S.ex T c.N (.app fz i e q1 q2 q3 p) = .Expr (.Call (.Attribute (.Name x q1) (Str.ofString "append") q2) [e.ex T c.N] [] q3) p := by
      show Stmt.Expr (.Call (.Attribute (.Name (c.N.getD i Str.empty) q1) _ q2) _ [] q3) p = _
      rw [x2]
    rw [ex]
    exact ss_frz (ss_app ox.hK x1 x3 x4 x5 (mth1 c.N e x _ q1 q2 q3 X h2) (e.snd c X Ex ox L h3).se)
  | ext fz i e q1 q2 q3 p =>
    obtain ⟨h1, t1⟩ := ba h
    obtain ⟨h2, h3⟩ := ba t1
    obtain ⟨x, x1, x2, x3, x4, x5⟩ := ox.vs h1
    have ex : S.ex T c.N (.ext fz i e q1 q2 q3 p) = .Expr (.Call (.Attribute (.Name x q1) (Str.ofString "extend") q2) [e.ex T c.N] [] q3) p := by
      show Stmt.Expr (.Call (.Attribute (.Name (c.N.getD i Str.empty) q1) _ q2) _ [] q3) p = _
      rw [x2]
    rw [ex]
    exact ss_frz (ss_ext ox.hK x1 x3 x4 x5 (mth1 c.N e x _ q1 q2 q3 X h2) (e.snd c X Ex ox L h3).sw)
  | pop pt j q1 q2 q3 p =>
    obtain ⟨h1, t1⟩ := ba h
    obtain ⟨h2, h3⟩ := ba t1
    obtain ⟨x, x1, x2, x3, x4, x5⟩ := ox.vs h2
    have ex : S.ex T c.N (.pop pt j q1 q2 q3 p) = .Assign [pt.ex c.N] (.Call (.Attribute (.Name x q1) (Str.ofString "pop") q2) [] [] q3) p := by
      show Stmt.Assign _ (.Call (.Attribute (.Name (c.N.getD j Str.empty) q1) _ q2) [] [] q3) p = _
      rw [x2]
    rw [ex]
    exact ss_pop ox.hK x1 x3 x4 x5 (ox.pg pt h1) rfl h3 (by cases pt <;> rfl) (asg_one c.N pt _)
  | popAt fz pt j e q1 q2 q3 p =>
    obtain ⟨h1, t1⟩ := ba h
    obtain ⟨h2, t2⟩ := ba t1
    obtain ⟨h3, h4⟩ := ba t2
    obtain ⟨x, x1, x2, x3, x4, x5⟩ := ox.vs h2
    have ex : S.ex T c.N (.popAt fz pt j e q1 q2 q3 p) = .Assign [pt.ex c.N] (.Call (.Attribute (.Name x q1) (Str.ofString "pop") q2) [e.ex T c.N] [] q3) p := by
      show Stmt.Assign _ (.Call (.Attribute (.Name (c.N.getD j Str.empty) q1) _ q2) _ [] q3) p = _
      rw [x2]
    rw [ex]
    exact ss_frz (ss_popAt ox.hK x1 x3 x4 x5 (ox.pg pt h1) (mth1 c.N e x _ q1 q2 q3 X h3) (e.snd c X Ex ox L h4).se (by cases pt <;> rfl) (asg_one c.N pt _))
  | appPop fz i j e q1 q2 q3 q4 q5 q6 p =>
    obtain ⟨h1, t1⟩ := ba h
    obtain ⟨h2, t2⟩ := ba t1
    obtain ⟨h3, t3⟩ := ba t2
    obtain ⟨h4, h5⟩ := ba t3
    obtain ⟨x, x1, x2, x3, x4, x5⟩ := ox.vs h1
    obtain ⟨y, y1, y2, y3, y4, y5⟩ := ox.vs h2
    have ex : S.ex T c.N (.appPop fz i j e q1 q2 q3 q4 q5 q6 p) = .Expr (.Call (.Attribute (.Name x q1) (Str.ofString "append") q2) [.Call (.Attribute (.Name y q4) (Str.ofString "pop") q5) [e.ex T c.N] [] q6] [] q3) p := by
      show Stmt.Expr (.Call (.Attribute (.Name (c.N.getD i Str.empty) q1) _ q2) [.Call (.Attribute (.Name (c.N.getD j Str.empty) q4) _ q5) _ [] q6] [] q3) p = _
      rw [x2, y2]
    rw [ex]
    exact ss_frz (ss_appPop ox.hK x1 x3 x4 x5 y1 y3 y4 y5 ⟨rfl, rfl, h3, (fun a r h => by cases h; rfl), (fun a r h => by cases h; rfl)⟩ (mth1 c.N e y _ q4 q5 q6 X h4) (e.snd c X Ex ox L h5).se)
  | put fz j ix e q1 q2 p =>
    obtain ⟨h1, t1⟩ := ba h
    obtain ⟨h2, h3⟩ := ba t1
    obtain ⟨x, x1, x2, x3, x4, x5⟩ := ox.vs h1
    have ex : S.ex T c.N (.put fz j ix e q1 q2 p) = .Assign [.Subscript (.Name x q1) (ix.ex T c.N) q2] (e.ex T c.N) p := by
      show Stmt.Assign [.Subscript (.Name (c.N.getD j Str.empty) q1) _ q2] _ p = _
      rw [x2]
    rw [ex]
    exact ss_frz (ss_put ox.hK (Nat.lt_of_le_of_lt (Nat.add_le_add_left (by decide : 1 ≤ 64) _) ox.hu) x1 x3 x4 x5 (e.snd c X Ex ox L h3).se (ix.snd c X Ex ox L h2).se (fun o i => by cases ix <;> rfl) (by cases e <;> rfl) (fun v => by cases ix <;> rfl) (by cases e <;> rfl))
  | ife fz d a b p =>
    obtain ⟨h1, t1⟩ := ba h
    obtain ⟨h2, t2⟩ := ba t1
    obtain ⟨h3, h4⟩ := ba t2
    exact ss_frz (ss_if ((d.snd c X Ex ox L h1).st h2) (a.snd o h3) (b.snd o h4))
  | ret fz e p =>
    obtain ⟨h1, h2⟩ := ba h
    have s1 := e.snd c X Ex ox L h1
    refine ss_frz (ss_ret ?_)
    cases fr with
    | false => exact s1.se
    | true => exact s1.sf (by simpa using h2)
  | retN p => exact ss_retN
  | forr fz pt it b p =>
    obtain ⟨h1, t1⟩ := ba h
    obtain ⟨h2, t2⟩ := ba t1
    obtain ⟨h3, h4⟩ := ba t2
    have sit := it.snd c X Ex ox L h3 (pt.ex c.N) (fun z => by
      rw [z] at h1
      cases pt with
      | nm i p => cases h1
      | tup ps kk p => exact ⟨_, _, _, rfl⟩)
    exact ss_frz (ss_for o.po ox.calm sit.1 (ox.pg pt h2) (b.snd o h4) (fold_ex T c.N _ it))
  | whl n d b p =>
    obtain ⟨h1, t1⟩ := ba h
    obtain ⟨h2, h3⟩ := ba t1
    exact ss_while o.po ((d.snd c X Ex ox L h1).st h2) (b.snd o h3)
  | drop fz e p =>
    obtain ⟨h1, h2⟩ := ba h
    exact ss_frz (ss_drop (e.snd c X Ex ox L h1).se (swaps_ex c.N e (by simpa using h2) _ _ _))
  | pass p => exact ss_pass
  | raise fz q e q1 q2 p =>
    obtain ⟨h1, t1⟩ := ba h
    obtain ⟨h2, t2⟩ := ba t1
    obtain ⟨h3, h4⟩ := ba t2
    have m := L.mgc q (of_decide_eq_true h1)
    have F := o.exc q (by simpa using h2)
    obtain ⟨e1, e2, e3, e4⟩ := o.prog
    rw [← e1, ← e2, ← e3, ← e4, ← ox.hK] at F
    exact ss_frz (ss_raise ox.calm o.tk F ox.room (ox.gl h3) m.1 m.2 (e.snd c X Ex ox L h4).se (star_ex T c.N e [] _))
  | fldI fz i q kk e q1 q2 p =>
    obtain ⟨h1, t1⟩ := ba h
    obtain ⟨h2, t2⟩ := ba t1
    obtain ⟨h3, t3⟩ := ba t2
    obtain ⟨h4, h5⟩ := ba t3
    obtain ⟨x, x1, x2, x3, x4, x5⟩ := ox.vs h1
    obtain ⟨m1, m2⟩ := L.cls q h2
    have hi := of_decide_eq_true h3
    have eg : (T.cfs q)[kk]? = some ((T.cfs q).getD kk Str.empty) := by rw [List.getD_eq_getElem?_getD, List.getElem?_eq_getElem hi]; rfl
    have ex : S.ex T c.N (.fldI fz i q kk e q1 q2 p) = .Assign [.Attribute (.Name x q1) ((T.cfs q).getD kk Str.empty) q2] (e.ex T c.N) p := by
      show Stmt.Assign [.Attribute (.Name (c.N.getD i Str.empty) q1) _ q2] _ p = _
      rw [x2]
    rw [ex]
    exact ss_frz (ss_fld ox.hK m1 (m2 _ (List.mem_of_getElem? eg)) (by rw [L.cfs]; exact eg) (by rw [L.cfs]; exact L.nd q) (of_decide_eq_true h4) x1 x3 x4 x5 (e.snd c X Ex ox L h5).se (by cases e <;> rfl))
  | no st => exact ss_bad
theorem Ss.snd (ss : Ss) (o : OkS P w mg base G T φ k ecs c X Ex) (h : ss.wf T ecs c fr = true) : SSs G X φ Ex fr (ss.den G T) (ss.ex T c.N) := by
  cases ss with
  | nil => exact ss_nil
  | cons a r =>
    obtain ⟨h1, h2⟩ := ba h
    exact ss_cons (a.snd o h1) (r.snd o h2)
end
end
end Z
namespace Z
open PySem PySem.Spec PyProof.Rows L2
theorem zip_lookup_some : ∀ {ps : List Str} {us : List Value}, us.length = ps.length → ∀ n ∈ ps, ((ps.zip us).lookup n).isNone = false
  | [], _, _, _, h => by cases h
  | p :: ps, [], h, _, _ => by simp at h
  | p :: ps, u :: us, h, n, hn => by
    rw [List.zip_cons_cons, List.lookup_cons]
    by_cases e : n = p
    · rw [show (n == p) = true from by simp [e]]; rfl
    · rw [show (n == p) = false from by simpa using e]
      exact zip_lookup_some (by simpa using h) n ((List.mem_cons.mp hn).resolve_left e)
theorem zip_look : ∀ {ps : List Str} {us : List Value} {i : Nat} {n : Str} {u : Value}, ps.Nodup → us.length = ps.length → (ps.zip us)[i]? = some (n, u) → (ps.zip us).lookup n = some u
  | [], _, _, _, _, _, _, h => by simp at h
  | p :: ps, [], _, _, _, _, h, _ => by simp at h
  | p :: ps, v :: us, 0, n, u, nd, hl, e => by
    rw [List.zip_cons_cons] at e ⊢
    simp only [List.getElem?_cons_zero, Option.some.injEq, Prod.mk.injEq] at e
    rw [List.lookup_cons, show (n == p) = true from by simp [e.1], e.2]
  | p :: ps, v :: us, i + 1, n, u, nd, hl, e => by
    rw [List.zip_cons_cons] at e ⊢
    simp only [List.getElem?_cons_succ] at e
    have hm : n ∈ ps := (List.of_mem_zip (List.mem_of_getElem? e)).1
    have : n ≠ p := fun z => (List.nodup_cons.mp nd).1 (z ▸ hm)
    rw [List.lookup_cons, show (n == p) = false from by simpa using this]
    exact zip_look (List.nodup_cons.mp nd).2 (by simpa using hl) e
theorem pick_all (all : List (Str × Value)) : ∀ (ps : List Str) (us : List Value), us.length = ps.length → (∀ (i : Nat) (n : Str) (u : Value), (ps.zip us)[i]? = some (n, u) → all.lookup n = some u) → (ps.filterMap fun n => (all.lookup n).map (n, ·)) = ps.zip us
  | [], _, _, _ => rfl
  | p :: ps, [], h, _ => by simp at h
  | p :: ps, v :: us, hl, h => by
    rw [List.zip_cons_cons, List.filterMap_cons]
    have h0 := h 0 p v rfl
    rw [h0]
    simp only [Option.map_some]
    rw [pick_all all ps us (by simpa using hl) fun i n u e => h (i + 1) n u (by simpa using e)]
theorem zip_pick {ps : List Str} {us : List Value} (nd : ps.Nodup) (hl : us.length = ps.length) : (ps.filterMap fun n => ((ps.zip us).lookup n).map (n, ·)) = ps.zip us := pick_all _ ps us hl fun _ _ _ e => zip_look nd hl e
theorem binds_gen {x qual : Str} {args : List Arg} {body : List Stmt} {scope : Scope} {kV doc pm : Value} {an : Option Addr} {cdv ct : Value} {us : List Value} (nd : (args.map (·.arg)).Nodup) (hl : us.length = args.length) :
    bindArgs (PySem.W.fnOf x qual ⟨[], args, none, [], [], none, []⟩ body scope .none kV doc pm an cdv ct) ⟨us, []⟩ = pure ((args.map (·.arg)).zip us) := by
  have hl' : us.length = (args.map (·.arg)).length := by rw [hl, List.length_map]
  have miss : ((args.map (·.arg)).filter fun n => (((args.map (·.arg)).zip us).lookup n).isNone) = [] := by
    rw [List.filter_eq_nil_iff]
    intro n hn
    rw [zip_lookup_some hl' n hn]; simp
  have pick := zip_pick nd hl'
  unfold bindArgs PySem.W.fnOf
  simp [seqItems?, notAStandIn, hl, miss, pick, List.take_of_length_le]
  rw [← List.filterMap_map, pick]
end Z
namespace Z
open PySem PySem.Spec PyProof.Rows L2
/-! ### the text's functions -/
structure DefS where
  x : Str
  qual : Str
  st : Stmt
  N : List Str
  nps : Nat
  body : Ss
  /-- a class's making -/
  ini : Option Nat := none
  /-- there are lambdas in it -/
  lm : Bool := false
def startE (N : List Str) (ds : List D) : Env := ds.map Sl.fz ++ List.replicate (N.length - ds.length) Sl.no
def startI (N : List Str) (c : Nat) (ds : List D) : Env := Sl.ow (.obj c []) :: (ds.map Sl.fz ++ List.replicate (N.length - (ds.length + 1)) Sl.no)
/-- what a function's body comes to -/
def retR : RS → Res D
  | .rt d p => .ok d p
  | .nx _ p => .ok .non p
  | .exc c fs p => .exc c fs p
  | .bad => .bad
def iniR (G : Gx) (c : Nat) : RS → Res D
  | .nx ρ p => match owD ρ 0 with
    | some (.obj c' fs) => if c' = c ∧ fs.length = (G.cfs c).length then .ok (.obj c fs) p else .bad
    | _ => .bad
  | .exc c fs p => .exc c fs p
  | _ => .bad
def runD (G : Gx) (T : Tab) (φ : Fns) (d : DefS) (args : List D) : M D := fun p => match d.ini with
  | none => retR (d.body.den G T φ (startE d.N args) p)
  | some c => iniR G c (d.body.den G T φ (startI d.N c args) p)
/-- what the functions tell, at call depth n -/
def Phi (G : Gx) (T : Tab) (defs : List DefS) (pr : Nat → Option (Fns → List D → M D)) : Nat → Fns
  | 0 => fun _ _ _ => .bad
  | n + 1 => fun f args => match pr f with
    | some m => m (Phi G T defs pr n) args
    | none => match defs[f]? with
      | some d => runD G T (Phi G T defs pr n) d args
      | none => fun _ => .bad
def nodupB : List Str → Bool
  | [] => true
  | x :: r => !(r.any fun y => strB x y) && nodupB r
theorem nodupB_ok : ∀ {l : List Str}, nodupB l = true → l.Nodup
  | [], _ => List.nodup_nil
  | x :: r, h => by
    obtain ⟨h1, h2⟩ := ba h
    refine List.nodup_cons.mpr ⟨fun hm => ?_, nodupB_ok h2⟩
    have : (r.any fun y => strB x y) = true := List.any_eq_true.mpr ⟨x, hm, strB_iff.mpr rfl⟩
    rw [this] at h1
    cases h1
def strsB : List Str → List Str → Bool
  | [], [] => true
  | a :: as, b :: bs => strB a b && strsB as bs
  | _, _ => false
theorem strsB_ok : ∀ {a b : List Str}, strsB a b = true → a = b
  | [], [], _ => rfl
  | [], _ :: _, h => by cases h
  | _ :: _, [], h => by cases h
  | a :: as, b :: bs, h => by
    obtain ⟨h1, h2⟩ := ba h
    rw [strB_iff.mp h1, strsB_ok h2]
def fscB (N ps : List Str) (sc : Scope) : Bool := (match sc.kind with | .function => true | _ => false) && (!sc.isCoroutine && (!sc.isGenerator && (nodupB N && (strsB (N.take ps.length) ps && ((ps.all fun x => match lookB sc.names x with | some .local => true | some .cell => true | _ => false) &&
  (sc.names.all fun y => match y.2 with | .free => false | _ => true))))))
theorem fscB_ok {N ps : List Str} {sc : Scope} (h : fscB N ps sc = true) : FnScope N ps sc := by
  obtain ⟨h1, t1⟩ := ba h
  obtain ⟨h2, t2⟩ := ba t1
  obtain ⟨h3, t3⟩ := ba t2
  obtain ⟨h4, t4⟩ := ba t3
  obtain ⟨h5, t5⟩ := ba t4
  obtain ⟨h6, h7⟩ := ba t5
  refine ⟨?_, nb h2, nb h3, nodupB_ok h4, strsB_ok h5, fun x hx => ?_, fun y hy => ?_⟩
  · cases e : sc.kind <;> rw [e] at h1 <;> first | rfl | cases h1
  · have := List.all_eq_true.mp h6 x hx
    rw [lookB_eq] at this
    cases q : sc.names.lookup x with
    | none => rw [q] at this; cases this
    | some kk => rw [q] at this; cases kk <;> first | exact .inl rfl | exact .inr rfl | cases this
  · have := List.all_eq_true.mp h7 y hy
    intro z
    rw [z] at this
    cases this
def dbgB (N : List Str) : Bool := N.all fun x => !strB x "__debug__" && !strB x "__classdict__"
theorem dbgB_ok {N : List Str} (h : dbgB N = true) : ∀ x ∈ N, (x == ("__debug__" : Str)) = false ∧ (x == ("__classdict__" : Str)) = false := fun x hx => by
  obtain ⟨h1, h2⟩ := ba (List.all_eq_true.mp h x hx)
  have st : ∀ {a b : Str}, (!strB a b) = true → (a == b) = false := fun {a b} h => by
    have : a ≠ b := fun z => by
      rw [strB_iff.mpr z] at h
      cases h
    simpa using this
  exact ⟨st h1, st h2⟩
def argB (a : Arguments) (N : List Str) (n : Nat) : Bool := match a with
  | ⟨[], as, none, [], [], none, []⟩ => strsB (as.map (·.arg)) (N.take n) && Nat.beq as.length n
  | _ => false
theorem argB_ok {a : Arguments} {N : List Str} {n : Nat} (h : argB a N n = true) : ∃ as : List Arg, a = ⟨[], as, none, [], [], none, []⟩ ∧ as.map (·.arg) = N.take n ∧ as.length = n := by
  unfold argB at h
  split at h
  · rename_i as
    obtain ⟨h1, h2⟩ := ba h
    exact ⟨as, rfl, strsB_ok h1, Nat.eq_of_beq_eq_true h2⟩
  · cases h
def DefS.ct (d : DefS) : Ct := ⟨d.N, defScope d.st, fun _ => true, d.lm⟩
/-- the checks of a function, but that its body is the text's -/
def DefS.ok (T : Tab) (ecs : List Nat) (d : DefS) (fr : Bool) (ar : Nat) : Bool := argB (defArgs d.st) d.N d.nps && (fscB d.N (d.N.take d.nps) (defScope d.st) && (dbgB d.N && (d.body.wf T ecs d.ct fr && (Nat.beq d.nps (match d.ini with | none => ar | some _ => ar + 1) && (match d.ini with | none => true | some _ => !fr)))))
section
variable {P : Program} {w : World} {mg : Str → Option Value} {base : Heap} {G : Gx} {T : Tab} {φ : Fns} {k : Nat} {ecs : List Nat}
/-- a def as it stands, its code object known -/
structure FunC (K : PySem.W.Frag) (x qual : Str) (st : Stmt) (f : Addr) (fd : FuncData) (cc : Addr) : Prop where
  ex : ∃ (oc : Value) (od : Option Addr) (kV doc pm : Value) (an : Option Addr) (ct : Value) (osl : Array (Option Value)),
    fd = PySem.W.fnOf x qual (defArgs st) (defBody st) (defScope st) .none kV doc pm an (.ref cc) ct ∧ K.lookup f = some ⟨oc, od, .func fd, osl⟩ ∧ PySem.W.codeIn K (.ref cc) qual = true
  kp : PySem.W.keepIn K (.ref f) = true
theorem FunC.of {K : PySem.W.Frag} {x qual : Str} {st : Stmt} {f : Addr} {fd : FuncData} (F : L2.Fun K x qual st f fd) : ∃ cc, FunC K x qual st f fd cc := by
  obtain ⟨oc, od, kV, doc, pm, an, cdv, ct, osl, h1, h2, h3⟩ := F.ex
  cases cdv with
  | ref cc => exact ⟨cc, ⟨oc, od, kV, doc, pm, an, ct, osl, h1, h2, h3⟩, F.kp⟩
  | _ => cases h3
theorem FunC.fn {K : PySem.W.Frag} {x qual : Str} {st : Stmt} {f : Addr} {fd : FuncData} {cc : Addr} (F : FunC K x qual st f fd cc) : L2.Fun K x qual st f fd := by
  obtain ⟨oc, od, kV, doc, pm, an, ct, osl, h1, h2, h3⟩ := F.ex
  exact ⟨⟨oc, od, kV, doc, pm, an, .ref cc, ct, osl, h1, h2, h3⟩, F.kp⟩
theorem FunC.okX {P : Program} {w : World} {K : PySem.W.Frag} {mg : Str → Option Value} {base : Heap} {x qual : Str} {st : Stmt} {f : Addr} {fd : FuncData} {cc : Addr} {N ps : List Str} {k : Nat} {sp : Sp} (F : FunC K x qual st f fd cc) (S : FnScope N ps (defScope st)) (len : ∀ vs H Q E, sp vs H Q E → vs.length = ps.length)
    (hbody : ∀ (A : Around) (outer : List PySem.Env) (s : Shared) (H : Hp) (vs : List V) (Q : VK) (E : XK), Room k (A.deeper (envOfC qual (defScope st) s.heap.objs.size f (.ref cc))) → sp vs H Q E →
      ∃ t, PSs (cxOf (L2.CX P w) P w K mg base N qual (defScope st) f (.ref cc) A outer s H E) (defBody st) t ∧ t { nx := fun _ H' => Q .non H', rt := Q } (L2.start N vs) H) : FnOk P w K mg base (L2.CX P w) (k + 1) f fd ps sp := by
  obtain ⟨oc, od, kV, doc, pm, an, ct, osl, rfl, lk, hcd⟩ := F.ex
  exact fn_of lk hcd S len fun A outer s H vs Q E hr hsp => hbody A outer s H vs Q E hr hsp
/-- the table of a def's lambdas -/
def LamC (G : Gx) (mg : Str → Option Value) (base : Heap) (cc : Addr) (qual : Str) : Prop := ∃ P : Addr, LamX.TabB base mg cc P ∧ (P, (qual ++ ".<locals>.") ++ ("<lambda>" : Str)) ∈ G.T ∧ ∀ p ∈ G.T, p.1 = P → p.2 = (qual ++ ".<locals>.") ++ ("<lambda>" : Str)
theorem okS_of {cc : Addr} {A : Around} {outer : List PySem.Env} {s : Shared} {H : Hp} {E : XK} {d : DefS} {f : Addr} (L : Lib P w mg base G T φ k) (hx : ∀ q ∈ ecs, ExF P w G.K mg base G k q) (S : FnScope d.N (d.N.take d.nps) (defScope d.st)) (hd : dbgB d.N = true) (hlm : d.lm = true → LamC G mg base cc d.qual)
    (hr : Room (k + 3) (A.deeper (envOfC d.qual (defScope d.st) s.heap.objs.size f (.ref cc)))) : OkS P w mg base G T φ k ecs d.ct (cxOf (L2.CX P w) P w G.K mg base d.N d.qual (defScope d.st) f (.ref cc) A outer s H E) E := by
  have tk : Takes (cxOf (L2.CX P w) P w G.K mg base d.N d.qual (defScope d.st) f (.ref cc) A outer s H E) (fun cls dd _ H => E cls dd H) := takes_of rfl rfl rfl rfl
  exact { hK := rfl, N := rfl, sc := rfl, fn := rfl, nd := S.nd, dbg := dbgB_ok hd, calm := rfl, room := hr.mono (by omega), pass := passes_call tk (fun _ _ _ _ h => h), lam := fun z => ⟨hr, by obtain ⟨P, h1, h2, h3⟩ := hlm z; exact ⟨cc, P, rfl, h1, h2, h3⟩⟩, kd := S.kind, tk := tk, po := passes_of rfl, prog := ⟨rfl, rfl, rfl, rfl⟩, lib := L, exc := hx }
theorem start_rep {S H : Hp} {N : List Str} {vs : List V} {ds : List D} (a : Ats G S vs ds) (hl : vs.length ≤ N.length) : Rep G H S H (L2.start N vs) (startE N ds) := by
  have el := a.length
  refine ⟨?_, fun i d h => ?_, fun i d h => ?_, fun i j d e p h => ?_, fun i c dd p h => ?_⟩
  · unfold startE L2.start
    rw [List.length_append, List.length_append, List.length_map, List.length_map, List.length_replicate, List.length_replicate, el]
  · unfold startE at h
    rw [List.getElem?_append] at h
    split at h
    · rename_i hi
      rw [List.getElem?_map] at h
      cases e : ds[i]? with
      | none => rw [e] at h; cases h
      | some d' =>
        rw [e] at h
        cases h
        obtain ⟨v, h1, h2⟩ := a.get e
        refine ⟨v, ?_, h2⟩
        unfold L2.start
        rw [List.length_map] at hi
        rw [List.getElem?_append_left (by rw [List.length_map]; omega), List.getElem?_map, h1]; rfl
    · rw [List.getElem?_replicate] at h
      split at h <;> cases h
  · unfold startE at h
    rw [List.getElem?_append] at h
    split at h
    · rw [List.getElem?_map] at h
      cases e : ds[i]? with
      | none => rw [e] at h; cases h
      | some d' => rw [e] at h; cases h
    · rw [List.getElem?_replicate] at h
      split at h <;> cases h
  · unfold startE at h
    rw [List.getElem?_append] at h
    split at h
    · rw [List.getElem?_map] at h
      cases e : ds[i]? with
      | none => rw [e] at h; cases h
      | some d' => rw [e] at h; cases h
    · rw [List.getElem?_replicate] at h
      split at h <;> cases h
  · unfold startE at h
    rw [List.getElem?_append] at h
    split at h
    · rw [List.getElem?_map] at h
      cases e : ds[i]? with
      | none => rw [e] at h; cases h
      | some d' => rw [e] at h; cases h
    · rw [List.getElem?_replicate] at h
      split at h <;> cases h
/-- a def keeps what its body means -/
theorem fnOk_of (L : Lib P w mg base G T φ k) (hx : ∀ q ∈ ecs, ExF P w G.K mg base G k q) {f : Nat} {ar : Nat} {fr : Bool} {d : DefS} {fd : FuncData} {cc : Addr} (F : FunC G.K d.x d.qual d.st (G.fad f) fd cc) (hlm : d.lm = true → LamC G mg base cc d.qual) (hb : defBody d.st = d.body.ex T d.N) (hok : d.ok T ecs fr ar = true) (hi : d.ini = none) (ψ : Fns) (hψ : ∀ args, ψ f args = runD G T φ d args) :
    (d.N.take d.nps).length = ar ∧ FnOk P w G.K mg base (L2.CX P w) (k + 4) (G.fad f) fd (d.N.take d.nps) (spG G fr ψ f ar) ∧ L2.Binds G.K fd (d.N.take d.nps) [] := by
  obtain ⟨h1, t1⟩ := ba hok
  obtain ⟨h2, t2⟩ := ba t1
  obtain ⟨h3, t3⟩ := ba t2
  obtain ⟨h4, t4⟩ := ba t3
  obtain ⟨h5, h6⟩ := ba t4
  rw [hi] at h5
  have h5 : d.nps = ar := Nat.eq_of_beq_eq_true h5
  have S := fscB_ok h2
  obtain ⟨as, e1, e2, e3⟩ := argB_ok h1
  have hps : (d.N.take d.nps).length = ar := by rw [← e2, List.length_map, e3, h5]
  refine ⟨hps, ?_, F.fn.binds fun kV doc pm an cdv ct us hl => ?_⟩
  · refine FunC.okX F S (fun vs H Q E h => by rw [hps]; exact h.1) fun A outer s H vs Q E hr hsp => ?_
    obtain ⟨hl, S0, p, ds, sub, g, a, q⟩ := hsp
    have O := okS_of (E := E) (outer := outer) (H := H) L hx S h3 hlm hr
    obtain ⟨t, pss, ht⟩ := d.body.snd O h4
    refine ⟨t, by rw [hb]; exact pss, ?_⟩
    have hln : vs.length ≤ d.N.length := by
      rw [hl, ← hps, List.length_take]
      exact Nat.min_le_right _ _
    refine ht S0 H S0 H _ _ p _ (start_rep a hln) (Fn.refl sub) g ?_
    rw [hψ] at q
    unfold runD at q
    rw [hi] at q
    simp only at q
    cases er : d.body.den G T φ (startE d.N ds) p with
    | nx ρ p' =>
      rw [er] at q
      intro σ' S' H' _ f' g' _
      refine q .non S' H' f' g' ?_
      cases fr with
      | false => exact .non
      | true => exact .inl ⟨rfl, .non⟩
    | rt dd p' => rw [er] at q; exact q
    | exc c fs p' => rw [er] at q; exact q
    | bad => rw [er] at q; exact q
  · rw [e1]
    rw [← e2]
    exact binds_gen (by rw [e2]; exact (List.take_sublist _ _).nodup S.nd) (by rw [hl, ← e2, List.length_map])
theorem fnF_of (L : Lib P w mg base G T φ k) (hx : ∀ q ∈ ecs, ExF P w G.K mg base G k q) {f : Nat} {ar : Nat} {fr : Bool} {d : DefS} {fd : FuncData} {cc : Addr} (F : FunC G.K d.x d.qual d.st (G.fad f) fd cc) (hlm : d.lm = true → LamC G mg base cc d.qual) (hb : defBody d.st = d.body.ex T d.N) (hok : d.ok T ecs fr ar = true) (hi : d.ini = none) (ψ : Fns) (hψ : ∀ args, ψ f args = runD G T φ d args) :
    FnF P w G.K mg base G ψ (k + 4) f ar fr := by
  obtain ⟨h1, h2, h3⟩ := fnOk_of L hx F hlm hb hok hi ψ hψ
  exact ⟨fd, d.N.take d.nps, h1, h2, F.kp, h3⟩
/-- how the keywords ks bind, in the order o -/
def KwS (x qual : Str) (st : Stmt) (ps ks : List Str) (o : List Nat) : Prop := ∀ (kV doc pm : Value) (an : Option Addr) (cdv ct : Value) (ws xs : List Value), ws.length = ks.length → ordL o ws = some xs →
  bindArgs (PySem.W.fnOf x qual (defArgs st) (defBody st) (defScope st) .none kV doc pm an cdv ct) ⟨[], ks.zip ws⟩ = pure (ps.zip xs)
theorem fnK_of (L : Lib P w mg base G T φ k) (hx : ∀ q ∈ ecs, ExF P w G.K mg base G k q) {f : Nat} {ar : Nat} {fr : Bool} {d : DefS} {fd : FuncData} {cc : Addr} (F : FunC G.K d.x d.qual d.st (G.fad f) fd cc) (hlm : d.lm = true → LamC G mg base cc d.qual) (hb : defBody d.st = d.body.ex T d.N) (hok : d.ok T ecs fr ar = true) (hi : d.ini = none) (ψ : Fns) (hψ : ∀ args, ψ f args = runD G T φ d args)
    {ks : List Str} {o : List Nat} (hk : KwS d.x d.qual d.st (d.N.take d.nps) ks o) : FnK P w G.K mg base G ψ (k + 4) f ar fr ks o := by
  obtain ⟨h1, h2, h3⟩ := fnOk_of L hx F hlm hb hok hi ψ hψ
  refine ⟨fd, d.N.take d.nps, h1, h2, F.kp, fun s ws xs _ hl ho => ?_⟩
  obtain ⟨oc, od, kV, doc, pm, an, ct, osl, rfl, lk, hcd⟩ := F.ex
  exact .of_eq (hk kV doc pm an _ ct ws xs hl ho)
/-- an instance's making -/
theorem start_repI {S H1 : Hp} {N : List Str} {vs : List V} {ds : List D} {c : Nat} {x dx : Addr} (sub : Sub G S H1) {p : PS} (g : RegOk G H1 p) (h1 : H1 x = none) (h2 : H1 dx = none) (hne : dx ≠ x) (a : Ats G S vs ds) (hl : vs.length + 1 ≤ N.length) :
    Rep G (upd H1 G.r1 (.own x)) S (upd (upd H1 dx (.own x)) x (.ins (G.cad c) dx [])) (L2.start N (.ref x :: vs)) (startI N c ds) ∧ Fn G S (upd H1 G.r1 (.own x)) S (upd (upd H1 dx (.own x)) x (.ins (G.cad c) dx [])) ∧ RegOk G (upd (upd H1 dx (.own x)) x (.ins (G.cad c) dx [])) p := by
  have f1 := Fp.alloc0 (o := .own x) sub h2
  have h1' : (upd H1 dx (.own x)) x = none := by rw [upd_ne (Ne.symm hne)]; exact h1
  have f2 := Fp.alloc0 (o := .ins (G.cad c) dx []) f1.sub h1'
  have nx := none_ne g h1
  have el := a.length
  have r0 : Rep G (upd H1 G.r1 (.own x)) S (upd (upd H1 dx (.own x)) x (.ins (G.cad c) dx [])) (L2.start N (.ref x :: vs)) (Sl.no :: (ds.map Sl.fz ++ List.replicate (N.length - (ds.length + 1)) Sl.no)) := by
    have st : ∀ {i : Nat} {s : Sl}, (Sl.no :: (ds.map Sl.fz ++ List.replicate (N.length - (ds.length + 1)) Sl.no))[i]? = some s → (s = .no) ∨ ∃ j d v, i = j + 1 ∧ s = .fz d ∧ vs[j]? = some v ∧ At G S v d := fun {i s} h => by
      cases i with
      | zero => simp only [List.getElem?_cons_zero, Option.some.injEq] at h; exact .inl h.symm
      | succ i =>
        simp only [List.getElem?_cons_succ] at h
        rw [List.getElem?_append] at h
        split at h
        · rw [List.getElem?_map] at h
          cases e : ds[i]? with
          | none => rw [e] at h; cases h
          | some d' =>
            rw [e] at h
            cases h
            obtain ⟨v, k1, k2⟩ := a.get e
            exact .inr ⟨i, d', v, rfl, rfl, k1, k2⟩
        · rw [List.getElem?_replicate] at h
          split at h
          · cases h; exact .inl rfl
          · cases h
    refine ⟨?_, fun i d h => ?_, fun i d h => ?_, fun i j d e p h => ?_, fun i c dd p h => ?_⟩
    · unfold L2.start
      simp only [List.length_cons, List.length_append, List.length_map, List.length_replicate]
      omega
    · rcases st h with z | ⟨j, d', v, rfl, z, k1, k2⟩
      · cases z
      · cases z
        refine ⟨v, ?_, k2⟩
        unfold L2.start
        have hj : j < vs.length := (List.getElem?_eq_some_iff.mp k1).1
        rw [List.map_cons, List.cons_append, List.getElem?_cons_succ, List.getElem?_append_left (by rw [List.length_map]; exact hj), List.getElem?_map, k1]; rfl
    · rcases st h with z | ⟨j, d', v, rfl, z, k1, k2⟩
      · cases z
      · cases z
    · rcases st h with z | ⟨j, d', v, rfl, z, k1, k2⟩
      · cases z
      · cases z
    · rcases st h with z | ⟨j, d', v, rfl, z, k1, k2⟩
      · cases z
      · cases z
  have o : Own G S (upd (upd H1 dx (.own x)) x (.ins (G.cad c) dx [])) x (.obj c []) := .ins (fs := []) rfl upd_same .nil
  have r1 := r0.set_ow (i := 0) (Nn.no (by rw [upd_ne nx.1]; exact h1)) (sub.none h1) nx.1 nx.2 o (fun _ _ _ => upd_same) (fun j e hj he => by
    intro _
    cases j with
    | zero => exact hj rfl
    | succ j =>
      simp only [List.getElem?_cons_succ] at he
      rw [List.getElem?_append] at he
      split at he
      · rw [List.getElem?_map] at he
        cases e : ds[j]? with
        | none => rw [e] at he; cases he
        | some d' => rw [e] at he; cases he
      · rw [List.getElem?_replicate] at he
        split at he <;> cases he)
  have e1 : (L2.start N (.ref x :: vs)).set 0 (some (.ref x)) = L2.start N (.ref x :: vs) := rfl
  have e2 : (Sl.no :: (ds.map Sl.fz ++ List.replicate (N.length - (ds.length + 1)) Sl.no)).set 0 (.ow (.obj c [])) = startI N c ds := rfl
  rw [e1, e2] at r1
  have f3 := (f1.trans f2).fn
  have g3 := (f1.trans f2).reg g
  refine ⟨r1, ⟨f3.ext, f3.sub, fun a o n1 n2 nt e => f3.keep a o n1 n2 nt (by rw [upd_ne n1] at e; exact e), fun a e => ?_, fun a e => rfl⟩, g3⟩
  by_cases z : a = G.r1
  · rw [z]; exact g3.nn.1
  · obtain ⟨u, e, nt⟩ := e
    rw [upd_ne z] at e; exact f3.dom a ⟨u, e, nt⟩
theorem inF_of (L : Lib P w mg base G T φ k) (hx : ∀ q ∈ ecs, ExF P w G.K mg base G k q) {c f : Nat} {ar : Nat} {d : DefS} {fd : FuncData} {cc : Addr} (F : FunC G.K d.x d.qual d.st (G.fad f) fd cc) (hlm : d.lm = true → LamC G mg base cc d.qual) (mk : Mk G.K (G.cad c) (G.fad f)) (hb : defBody d.st = d.body.ex T d.N) (hok : d.ok T ecs false ar = true) (hi : d.ini = some c) (ψ : Fns) (hψ : ∀ args, ψ f args = runD G T φ d args) :
    InF P w G.K mg base G ψ (k + 4) c f ar := by
  obtain ⟨h1, t1⟩ := ba hok
  obtain ⟨h2, t2⟩ := ba t1
  obtain ⟨h3, t3⟩ := ba t2
  obtain ⟨h4, t4⟩ := ba t3
  obtain ⟨h5, h6⟩ := ba t4
  rw [hi] at h5
  have h5 : d.nps = ar + 1 := Nat.eq_of_beq_eq_true h5
  have S := fscB_ok h2
  obtain ⟨as, e1, e2, e3⟩ := argB_ok h1
  have hps : (d.N.take d.nps).length = ar + 1 := by rw [← e2, List.length_map, e3, h5]
  refine ⟨fd, d.N.take d.nps, hps, ?_, mk, F.fn.binds fun kV doc pm an cdv ct us hl => ?_⟩
  · refine FunC.okX F S (fun vs H Q E h => by rw [hps]; exact h.1) fun A outer s H vs Q E hr hsp => ?_
    obtain ⟨hl, S0, p, ds, H1, x, dx, ws, k1, k2, k3, rfl, rfl, sub, g, a, q⟩ := hsp
    have O := okS_of (E := E) (outer := outer) (H := upd (upd H1 dx (.own x)) x (.ins (G.cad c) dx [])) L hx S h3 hlm hr
    obtain ⟨t, pss, ht⟩ := d.body.snd O h4
    refine ⟨t, by rw [hb]; exact pss, ?_⟩
    have hln : ws.length + 1 ≤ d.N.length := by
      have : ws.length + 1 = ar + 1 := hl
      rw [this, ← hps, List.length_take]
      exact Nat.min_le_right _ _
    obtain ⟨r0, f0, g0⟩ := start_repI (c := c) sub g k1 k2 k3 a hln
    have cv : ∀ {S' H' : Hp}, Fn G S0 (upd H1 G.r1 (.own x)) S' H' → Fn G S0 H1 S' H' := fun {S' H'} f => by
      have dm : ∀ a, Nn H1 a → Nn (upd H1 G.r1 (.own x)) a := fun a ⟨u, h, nt⟩ => by
        by_cases z : a = G.r1
        · exact ⟨.own x, by rw [z, upd_same], fun _ y => by cases y⟩
        · exact ⟨u, by rw [upd_ne z]; exact h, nt⟩
      exact ⟨f.ext, f.sub, fun a o n1 n2 nt e => f.keep a o n1 n2 nt (by rw [upd_ne n1]; exact e), fun a h => f.dom a (dm a h), fun a h => f.new a (dm a h)⟩
    refine ht S0 (upd H1 G.r1 (.own x)) S0 _ _ _ p _ r0 f0 g0 ?_
    rw [hψ] at q
    unfold runD at q
    rw [hi] at q
    simp only at q
    cases er : d.body.den G T φ (startI d.N c ds) p with
    | nx ρ p' =>
      rw [er] at q
      intro σ' S' H' r' f' g' _
      unfold iniR at q
      simp only at q
      cases ow : owD ρ 0 with
      | none => rw [ow] at q; exact q.elim
      | some d0 =>
        rw [ow] at q
        cases d0 with
        | obj c' fs =>
          simp only at q
          by_cases hc : c' = c ∧ fs.length = (G.cfs c).length
          · rw [if_pos hc] at q
            obtain ⟨rfl, hfl⟩ := hc
            have h0 := owD_some ow
            obtain ⟨l, z1, z2, z3, z4, z5, z6⟩ := r'.ow 0 _ h0
            have hx' := r'.ob 0 _ _ l h0 z1
            rw [upd_same] at hx'
            cases hx'
            obtain ⟨dx', fs', e1, e2, e3⟩ := z6.ob
            have fq := (cv f').put e1 (Nn.no k1) z3 z4 z5 (fun _ z => by cases z)
            exact q .non _ H' fq g' ⟨rfl, .obj (by rw [e2, hfl, List.take_length]) upd_same (e3.mono (Ext.new z3))⟩
          · rw [if_neg hc] at q; exact q.elim
        | _ => exact q.elim
    | rt dd p' => rw [er] at q; exact q.elim
    | exc c fs p' => rw [er] at q; exact fun cls od S' H' f' g' x => q cls od S' H' (cv f') g' x
    | bad => rw [er] at q; exact q.elim
  · rw [e1]
    rw [← e2]
    exact binds_gen (by rw [e2]; exact (List.take_sublist _ _).nodup S.nd) (by rw [hl, ← e2, List.length_map])
end
end Z
namespace Z
open PySem PySem.Spec PyProof.Rows L2
/-! ### an exception class's making: self.f = x -/
def excBody (n0 n1 f : Str) (p1 p2 p3 p4 : Pos) : List Stmt := [.Assign [.Attribute (.Name n0 p1) f p2] (.Name n1 p3) p4]
section
variable {P : Program} {w : World} {mg : Str → Option Value} {base : Heap} {G : Gx}
theorem binds_kw1 {x qual : Str} {a0 a1 : Arg} {body : List Stmt} {scope : Scope} {kV doc pm : Value} {an : Option Addr} {cdv ct : Value} {u v : Value} (nd : a0.arg ≠ a1.arg) :
    bindArgs (PySem.W.fnOf x qual ⟨[], [a0, a1], none, [], [], none, []⟩ body scope .none kV doc pm an cdv ct) ⟨[u], [a1.arg].zip [v]⟩ = pure ([a0.arg, a1.arg].zip [u, v]) := by
  have n1 : (a1.arg == a0.arg) = false := by simpa using Ne.symm nd
  have n2 : (a0.arg == a1.arg) = false := by simpa using nd
  unfold bindArgs PySem.W.fnOf
  simp [seqItems?, notAStandIn, n1, n2, List.lookup]
theorem exF_of {c : Nat} {x qual : Str} {st : Stmt} {fI : Addr} {fd : FuncData} {n0 n1 f : Str} {p1 p2 p3 p4 : Pos} (F : L2.Fun G.K x qual st fI fd) (hO : OexC G.K (G.cad c)) (iC : PySem.W.findIn G.K (.ref (G.cad c)) "__init__" = some (some (.ref fI))) (tI : PySem.W.typeIn G.K (.ref fI) = some (.type "function"))
    (hf : G.cfs c = [f]) (hna : PySem.W.findIn G.K (.ref (G.cad c)) f = some none) (hb : defBody st = excBody n0 n1 f p1 p2 p3 p4) (ha : argB (defArgs st) [n0, n1] 2 = true) (hs : fscB [n0, n1] [n0, n1] (defScope st) = true) (hd : dbgB [n0, n1] = true) (hn : n1 = f) : ExF P w G.K mg base G 1 c := by
  have S := fscB_ok hs
  obtain ⟨as, e1, e2, e3⟩ := argB_ok ha
  have db := dbgB_ok hd
  refine ⟨fI, fd, [n0, n1], f, hO, iC, tI, rfl, hf, ?_, F.binds fun kV doc pm an cdv ct us hl => ?_, fun s u ws _ hl => ?_⟩
  · refine Fun.okX F S (fun vs H Q E h => h.1) fun cdv A outer s H vs Q E hr hsp => ?_
    obtain ⟨hl, a, v, rfl, h1, h2⟩ := hsp
    have vis : ∀ n ∈ [n0, n1], Vis (defScope st) n := fun n hn => by
      rcases S.par n hn with z | z
      · exact .inl z
      · exact .inr (.inl z)
    have q0 : PE (cxOf (L2.CX P w) P w G.K mg base [n0, n1] qual (defScope st) fI cdv A outer s H E) (.Name n0 p1) (tVar 0) := pe_var rfl (vis n0 (by simp)) (db n0 (by simp)).1 (db n0 (by simp)).2
    have q1 : PE (cxOf (L2.CX P w) P w G.K mg base [n0, n1] qual (defScope st) fI cdv A outer s H E) (.Name n1 p3) (tVar 1) := pe_var rfl (vis n1 (by simp)) (db n1 (by simp)).1 (db n1 (by simp)).2
    refine ⟨_, by rw [hb]; exact pss_one (ps_ost q0 q1), ?_⟩
    refine ⟨v, rfl, .ref a, rfl, a, G.cad c, rfl, hO, hna, .inl ⟨h1, fun dx hdx hne => h2 dx hdx hne⟩⟩
  · rw [e1]
    have : as.map (·.arg) = [n0, n1] := e2
    rw [← this]
    exact binds_gen (by rw [this]; exact S.nd) (by rw [hl, e3]; rfl)
  · obtain ⟨oc, od, kV, doc, pm, an, cdv, ct, osl, rfl, lk, hcd⟩ := F.ex
    match as, e2, e3 with
    | [a0, a1], e2, _ =>
      have e2 : [a0.arg, a1.arg] = [n0, n1] := e2
      simp only [List.cons.injEq, and_true] at e2
      obtain ⟨q0, q1⟩ := e2
      match ws, hl with
      | [v], _ =>
        rw [e1, ← hn, ← q0, ← q1]
        refine .of_eq (binds_kw1 ?_)
        have := S.nd
        rw [q0, q1]
        exact (List.pairwise_pair.mp this)
theorem ExF.mono {k k' c : Nat} {K : PySem.W.Frag} (h : ExF P w K mg base G k c) (hk : k ≤ k') : ExF P w K mg base G k' c := by
  obtain ⟨fI, fd, ps, f, a1, a2, a3, a4, a5, a6, a7, a8⟩ := h.ex
  exact ⟨fI, fd, ps, f, a1, a2, a3, a4, a5, a6.mono hk, a7, a8⟩
theorem FnF.mono {k k' f ar : Nat} {fr : Bool} {K : PySem.W.Frag} {φ : Fns} (h : FnF P w K mg base G φ k f ar fr) (hk : k ≤ k') : FnF P w K mg base G φ k' f ar fr := by
  obtain ⟨fd, ps, a1, a2, a3, a4⟩ := h.ex
  exact ⟨fd, ps, a1, a2.mono hk, a3, a4⟩
end
end Z
namespace Z
open PySem PySem.Spec PyProof.Rows L2
abbrev Prims := Nat → Option (Fns → List D → M D)
/-- what is known of the text, at any call depth -/
structure Txt (P : Program) (w : World) (mg : Str → Option Value) (base : Heap) (G : Gx) (T : Tab) (defs : List DefS) (pr : Prims) (ecs : List Nat) : Prop where
  isa : IsaOk G
  mgf : ∀ f, f < T.ng → mg (T.fnm f) = some (.ref (G.fad f)) ∧ f < T.fns.length ∧ (T.fnm f == ("__debug__" : Str)) = false
  mgc : ∀ c, c < T.cls.length → mg (T.cnm c) = some (.ref (G.cad c)) ∧ (T.cnm c == ("__debug__" : Str)) = false
  mgs : ∀ s, s < T.txs.length → (∃ t, mg (T.snm s) = some (.str (T.sval s) t)) ∧ sOk (T.sval s) = true ∧ (T.snm s == ("__debug__" : Str)) = false
  mgb : ∀ b : Bi, mg (Str.ofString b.nm) = none
  mgt : ∀ t : Ty, mg (Str.ofString t.nm) = none
  mgr : mg "range" = none ∧ mg "enumerate" = none ∧ mg "zip" = none
  cfs : ∀ c, G.cfs c = T.cfs c
  nd : ∀ c, (T.cfs c).Nodup
  cls : ∀ c, ((T.made[c]?).join).isSome = true → Cls G.K (G.cad c) ∧ ∀ f ∈ T.cfs c, NoAttr G.K (G.cad c) f
  mth : ∀ m, m < T.mth.length → Cls G.K (G.cad (T.mc m)) ∧ Meth G.K (G.cad (T.mc m)) (T.mn m) (G.fad (T.mf m)) ∧ T.mn m ∉ T.cfs (T.mc m)
  tol : ∀ t, t < T.tol.length → TolS G mg (T.tn t) (T.tt t) (T.tc t) ∧ (∀ r ∈ T.tc t, sOk r.a = true ∧ sOk r.b = true) ∧ sOk (T.tt t) = true ∧ (∀ r ∈ T.tc t, T.cfs r.c = [r.f]) ∧ (T.tn t == ("__debug__" : Str)) = false
  exc : ∀ q ∈ ecs, ExF P w G.K mg base G 1 q
  xcs : ∀ c ∈ T.xcs, c ∈ ecs ∧ XfC G.K (G.cad c) ∧ ∀ f, G.cfs c = [f] → PySem.W.findIn G.K (.ref (G.cad c)) f = some none
  fun_ : ∀ (f : Nat) (d : DefS), defs[f]? = some d → ∃ fd cc, FunC G.K d.x d.qual d.st (G.fad f) fd cc ∧ (d.lm = true → LamC G mg base cc d.qual)
  body : ∀ (f : Nat) (d : DefS), defs[f]? = some d → defBody d.st = d.body.ex T d.N
  /-- each function is a def, or a thing of its own -/
  all : ∀ f, f < T.fns.length → (∃ m, pr f = some m) ∨ (pr f = none ∧ ∃ d, defs[f]? = some d ∧ d.ini = none ∧ d.ok T ecs (T.fr f) (T.ar f) = true)
  prim0 : ∀ f m, pr f = some m → f < T.fns.length → ∃ fd ps, ps.length = T.ar f ∧ PySem.W.keepIn G.K (.ref (G.fad f)) = true ∧ L2.Binds G.K fd ps []
  prim : ∀ f m n, pr f = some m → f < T.fns.length → Lib P w mg base G T (Phi G T defs pr n) (4 * n + 1) → FnF P w G.K mg base G (Phi G T defs pr (n + 1)) (4 * n + 5) f (T.ar f) (T.fr f)
  made : ∀ c, ((T.made[c]?).join).isSome = true → pr (T.mkf c) = none ∧ Mk G.K (G.cad c) (G.fad (T.mkf c)) ∧ ∃ d, defs[T.mkf c]? = some d ∧ d.ini = some c ∧ d.ok T ecs false (T.mka c) = true
  kws : ∀ m, m < T.kws.length → T.kf m < T.fns.length ∧ pr (T.kf m) = none ∧ (T.ko m).length = T.ar (T.kf m) ∧ ∀ d, defs[T.kf m]? = some d → KwS d.x d.qual d.st (d.N.take d.nps) (T.kn m) (T.ko m)
section
variable {P : Program} {w : World} {mg : Str → Option Value} {base : Heap} {G : Gx} {T : Tab} {defs : List DefS} {pr : Prims} {ecs : List Nat}
theorem phi_def {f n : Nat} {d : DefS} (h : pr f = none) (hd : defs[f]? = some d) (args : List D) : Phi G T defs pr (n + 1) f args = runD G T (Phi G T defs pr n) d args := by
  show (match pr f with
    | some m => m (Phi G T defs pr n) args
    | none => match defs[f]? with
      | some d => runD G T (Phi G T defs pr n) d args
      | none => fun _ => .bad) = _
  rw [h, hd]
/-- at depth 0 nothing is promised -/
theorem fnOk0 {sp : Sp} {k : Nat} {f : Addr} {fd : FuncData} {ps : List Str} (h : ∀ vs H Q E, ¬ sp vs H Q E) : FnOk P w G.K mg base (L2.CX P w) k f fd ps sp :=
  ⟨fun vs H Q E z => (h vs H Q E z).elim, fun A outer s H args us vs Q E _ _ _ _ z => (h vs H Q E z).elim⟩
theorem psOf {d : DefS} {fr : Bool} {ar : Nat} (hok : d.ok T ecs fr ar = true) : ∃ as : List Arg, defArgs d.st = ⟨[], as, none, [], [], none, []⟩ ∧ as.map (·.arg) = d.N.take d.nps ∧ as.length = d.nps ∧ (d.N.take d.nps).Nodup ∧ d.nps = (match d.ini with | none => ar | some _ => ar + 1) := by
  obtain ⟨h1, t1⟩ := ba hok
  obtain ⟨h2, t2⟩ := ba t1
  obtain ⟨h3, t3⟩ := ba t2
  obtain ⟨h4, t4⟩ := ba t3
  obtain ⟨h5, h6⟩ := ba t4
  obtain ⟨as, e1, e2, e3⟩ := argB_ok h1
  exact ⟨as, e1, e2, e3, (List.take_sublist _ _).nodup (fscB_ok h2).nd, Nat.eq_of_beq_eq_true h5⟩
theorem bindsOf {d : DefS} {fr : Bool} {ar : Nat} (hok : d.ok T ecs fr ar = true) {f : Addr} {fd : FuncData} {cc : Addr} (F : FunC G.K d.x d.qual d.st f fd cc) : L2.Binds G.K fd (d.N.take d.nps) [] := by
  obtain ⟨as, e1, e2, e3, e4, e5⟩ := psOf hok
  refine F.fn.binds fun kV doc pm an cdv ct us hl => ?_
  rw [e1, ← e2]
  exact binds_gen (by rw [e2]; exact e4) (by rw [hl, ← e2, List.length_map])
theorem lib (X : Txt P w mg base G T defs pr ecs) : ∀ n, Lib P w mg base G T (Phi G T defs pr n) (4 * n + 1)
  | 0 => by
    refine { isa := X.isa, fn := fun f hf => ?_, mgf := X.mgf, mgc := X.mgc, mgs := X.mgs, mgb := X.mgb, mgt := X.mgt, mgr := X.mgr, cfs := X.cfs, nd := X.nd, cls := X.cls, made := fun c hc => ?_, kws := fun m hm => ?_, tol := X.tol, xcs := fun c hc => ⟨(X.exc c (X.xcs c hc).1).mono (by omega), (X.xcs c hc).2⟩, mth := X.mth }
    · rcases X.all f hf with ⟨m, hp⟩ | ⟨hp, d, hd, hi, hok⟩
      · obtain ⟨fd, ps, h1, h2, h3⟩ := X.prim0 f m hp hf
        exact ⟨fd, ps, h1, fnOk0 (fun vs H Q E ⟨_, _, _, _, _, _, _, z⟩ => z), h2, h3⟩
      · obtain ⟨fd, cc, F, _⟩ := X.fun_ f d hd
        obtain ⟨as, e1, e2, e3, e4, e5⟩ := psOf hok
        rw [hi] at e5
        exact ⟨fd, d.N.take d.nps, by rw [← e2, List.length_map, e3, e5], fnOk0 (fun vs H Q E ⟨_, _, _, _, _, _, _, z⟩ => z), F.kp, bindsOf hok F⟩
    · obtain ⟨hp, mk, d, hd, hi, hok⟩ := X.made c hc
      obtain ⟨fd, cc, F, _⟩ := X.fun_ _ d hd
      obtain ⟨as, e1, e2, e3, e4, e5⟩ := psOf hok
      rw [hi] at e5
      exact ⟨fd, d.N.take d.nps, by rw [← e2, List.length_map, e3, e5], fnOk0 (fun vs H Q E ⟨_, _, _, _, _, _, _, _, _, _, _, _, _, _, _, _, z⟩ => z), mk, bindsOf hok F⟩
    · obtain ⟨h1, h2, h3, h4⟩ := X.kws m hm
      rcases X.all _ h1 with ⟨mm, hp⟩ | ⟨hp, d, hd, hi, hok⟩
      · rw [h2] at hp; cases hp
      · obtain ⟨fd, cc, F, _⟩ := X.fun_ _ d hd
        obtain ⟨as, e1, e2, e3, e4, e5⟩ := psOf hok
        rw [hi] at e5
        refine ⟨⟨fd, d.N.take d.nps, by rw [← e2, List.length_map, e3, e5], fnOk0 (fun vs H Q E ⟨_, _, _, _, _, _, _, z⟩ => z), F.kp, fun s ws xs _ hl ho => ?_⟩, h3⟩
        obtain ⟨oc, od, kV, doc, pm, an, ct, osl, rfl, lk, hcd⟩ := F.ex
        exact .of_eq (h4 d hd kV doc pm an _ ct ws xs hl ho)
  | n + 1 => by
    have L := lib X n
    have hx : ∀ q ∈ ecs, ExF P w G.K mg base G (4 * n + 1) q := fun q hq => (X.exc q hq).mono (by omega)
    have e4 : 4 * (n + 1) + 1 = (4 * n + 1) + 4 := by omega
    rw [e4]
    refine { isa := X.isa, fn := fun f hf => ?_, mgf := X.mgf, mgc := X.mgc, mgs := X.mgs, mgb := X.mgb, mgt := X.mgt, mgr := X.mgr, cfs := X.cfs, nd := X.nd, cls := X.cls, made := fun c hc => ?_, kws := fun m hm => ?_, tol := X.tol, xcs := fun c hc => ⟨(X.exc c (X.xcs c hc).1).mono (by omega), (X.xcs c hc).2⟩, mth := X.mth }
    · rcases X.all f hf with ⟨m, hp⟩ | ⟨hp, d, hd, hi, hok⟩
      · exact X.prim f m n hp hf L
      · obtain ⟨fd, cc, F, hlm⟩ := X.fun_ f d hd
        exact fnF_of L hx F hlm (X.body f d hd) hok hi _ (phi_def hp hd)
    · obtain ⟨hp, mk, d, hd, hi, hok⟩ := X.made c hc
      obtain ⟨fd, cc, F, hlm⟩ := X.fun_ _ d hd
      exact inF_of L hx F hlm mk (X.body _ d hd) hok hi _ (phi_def hp hd)
    · obtain ⟨h1, h2, h3, h4⟩ := X.kws m hm
      rcases X.all _ h1 with ⟨mm, hp⟩ | ⟨hp, d, hd, hi, hok⟩
      · rw [h2] at hp; cases hp
      · obtain ⟨fd, cc, F, hlm⟩ := X.fun_ _ d hd
        exact ⟨fnK_of L hx F hlm (X.body _ d hd) hok hi _ (phi_def hp hd) (h4 d hd), h3⟩
end
end Z
namespace Z
open PySem PySem.Spec PyProof.Rows L2
/-! ### the draws -/
def ab (c : Int) : Int := if c < 0 then -c else c
def pickLoop : List Int → Int → Int → List Int × Int × Int
  | [], dig, mix => ([], dig, mix)
  | c :: cs, dig, mix => if dig = 0 then pickLoop cs (if ab c ≥ 1000000000000000000 then ab c else 0) ((mix * 6151 + ab c + 5) % 2147483647) else (c :: cs, dig, mix)
def pickD (many : Int) (p : PS) : Int × PS :=
  let l := pickLoop p.cells p.dig p.mix
  if 0 < l.2.1 then (l.2.1 % many, ⟨l.1, l.2.1 / many, p.cnt + 1, l.2.2⟩)
  else (((((l.2.2 + 7907 * (p.cnt + 1) + 104723) ^ 5 % 2147483629) * 48271 + 30011 * (p.cnt + 1) + 31) ^ 3) % 1000000007 % many, ⟨l.1, l.2.1, p.cnt + 1, l.2.2⟩)
/-- the draws are in their bounds -/
def pOk (p : PS) : Bool := decide (0 ≤ p.cnt) && (decide (p.cnt < 1099511627776) && (decide (0 ≤ p.mix) && decide (p.mix < 2147483648)))
def pickM (args : List D) : M D := fun p => match args with
  | [.reg, .int many] => if (decide (0 < many) && (decide (many < 1073741824) && pOk p)) = true then .ok (.int (pickD many p).1) (pickD many p).2 else .bad
  | _ => .bad
section
variable (Ps : Nat → Pos) (ks : Nat → Nat)
abbrev sN (i : Nat) : Expr := .Name "state" (Ps i)
abbrev sI (i : Nat) (k : Int) : Expr := .Subscript (.Name "state" (Ps i)) (.Constant (.int k) (ks (i + 1)) (Ps (i + 1))) (Ps (i + 2))
abbrev cI (i : Nat) (k : Int) : Expr := .Constant (.int k) (ks i) (Ps i)
/-- the body of _law_pick -/
def pickB : List Stmt :=
  [.Assign [sI Ps ks 0 2] (.BinOp (sI Ps ks 3 2) .Add (cI Ps ks 6 1) (Ps 7)) (Ps 8),
   .While (.BoolOp .And [.Compare (sI Ps ks 9 1) [.Eq] [cI Ps ks 12 0] (Ps 13), .Compare (sI Ps ks 14 0) [.NotEq] [.List [] (Ps 17)] (Ps 18)] (Ps 19))
     [.Assign [.Name "cell" (Ps 20)] (.Call (.Name "abs" (Ps 21)) [.Call (.Attribute (sI Ps ks 22 0) "pop" (Ps 25)) [cI Ps ks 26 0] [] (Ps 27)] [] (Ps 28)) (Ps 29),
      .Assign [sI Ps ks 30 3] (.BinOp (.Call (.Name "int" (Ps 33)) [.BinOp (.BinOp (.BinOp (sI Ps ks 34 3) .Mult (cI Ps ks 37 6151) (Ps 38)) .Add (.Name "cell" (Ps 39)) (Ps 40)) .Add (cI Ps ks 41 5) (Ps 42)] [] (Ps 43)) .Mod (cI Ps ks 44 2147483647) (Ps 45)) (Ps 46),
      .Assign [sI Ps ks 47 1] (.IfExp (.Compare (.Name "cell" (Ps 50)) [.GtE] [.BinOp (cI Ps ks 51 10) .Pow (cI Ps ks 52 18) (Ps 53)] (Ps 54)) (.Name "cell" (Ps 55)) (cI Ps ks 56 0) (Ps 57)) (Ps 58)] [] (Ps 59),
   .If (.Compare (sI Ps ks 60 1) [.Gt] [cI Ps ks 63 0] (Ps 64))
     [.Assign [.Name "digit" (Ps 65)] (.BinOp (.Call (.Name "int" (Ps 66)) [sI Ps ks 67 1] [] (Ps 70)) .Mod (.Name "many" (Ps 71)) (Ps 72)) (Ps 73),
      .Assign [sI Ps ks 74 1] (.BinOp (sI Ps ks 77 1) .FloorDiv (.Name "many" (Ps 80)) (Ps 81)) (Ps 82),
      .Return (some (.Name "digit" (Ps 83))) (Ps 84)] [] (Ps 85),
   .Assign [.Name "mixed" (Ps 86)] (.BinOp (.Call (.Name "int" (Ps 87)) [.BinOp (.BinOp (.BinOp (sI Ps ks 88 3) .Add (.BinOp (cI Ps ks 91 7907) .Mult (sI Ps ks 92 2) (Ps 95)) (Ps 96)) .Add (cI Ps ks 97 104723) (Ps 98)) .Pow (cI Ps ks 99 5) (Ps 100)] [] (Ps 101)) .Mod (cI Ps ks 102 2147483629) (Ps 103)) (Ps 104),
   .Return (some (.BinOp (.BinOp (.Call (.Name "int" (Ps 105)) [.BinOp (.BinOp (.BinOp (.BinOp (.Name "mixed" (Ps 106)) .Mult (cI Ps ks 107 48271) (Ps 108)) .Add (.BinOp (cI Ps ks 109 30011) .Mult (sI Ps ks 110 2) (Ps 113)) (Ps 114)) .Add (cI Ps ks 115 31) (Ps 116)) .Pow (cI Ps ks 117 3) (Ps 118)] [] (Ps 119)) .Mod (cI Ps ks 120 1000000007) (Ps 121)) .Mod (.Name "many" (Ps 122)) (Ps 123))) (Ps 124)]
end
def pickN : List Str := ["state", "many", "cell", "digit", "mixed"]
section
variable {G : Gx}
theorem RegOk.w1 {S H Hc : Hp} {p : PS} {a b c : Int} (f : Fn G S H S Hc) (g : RegOk G Hc p) (sub : Sub G S H) : Fn G S H S (upd Hc G.r1 (.lst [.ref G.r2, .int a, .int b, .int c])) ∧ RegOk G (upd Hc G.r1 (.lst [.ref G.r2, .int a, .int b, .int c])) ⟨p.cells, a, b, c⟩ := by
  refine ⟨⟨f.ext, ⟨fun x o h => ?_, f.sub.n1, f.sub.n2, f.sub.nt⟩, fun x o n1 n2 nt h => by rw [upd_ne n1]; exact f.keep x o n1 n2 nt h, fun x h => ?_, f.new⟩, ⟨upd_same, by rw [upd_ne (Ne.symm g.ne)]; exact g.a2, g.ne, tabs_mono g.tabs fun x u h1 _ _ _ e => ?_⟩⟩
  · have : x ≠ G.r1 := fun z => by rw [z, f.sub.n1] at h; cases h
    rw [upd_ne this]; exact f.sub.ext x o h
  · by_cases z : x = G.r1
    · exact ⟨_, by rw [z, upd_same], fun _ y => by cases y⟩
    · obtain ⟨u, e, nt⟩ := f.dom x h
      exact ⟨u, by rw [upd_ne z]; exact e, nt⟩
  · have : x ≠ G.r1 := fun z => by
      rw [z, g.a1] at e
      cases e
      exact h1 _ rfl
    rw [upd_ne this]; exact e
theorem RegOk.w2 {S H Hc : Hp} {p : PS} {cs : List Int} (f : Fn G S H S Hc) (g : RegOk G Hc p) : Fn G S H S (upd Hc G.r2 (.lst (cs.map V.int))) ∧ RegOk G (upd Hc G.r2 (.lst (cs.map V.int))) ⟨cs, p.dig, p.cnt, p.mix⟩ := by
  refine ⟨⟨f.ext, ⟨fun x o h => ?_, f.sub.n1, f.sub.n2, f.sub.nt⟩, fun x o n1 n2 nt h => by rw [upd_ne n2]; exact f.keep x o n1 n2 nt h, fun x h => ?_, f.new⟩, ⟨by rw [upd_ne g.ne]; exact g.a1, upd_same, g.ne, tabs_mono g.tabs fun x u h1 _ _ _ e => ?_⟩⟩
  · have : x ≠ G.r2 := fun z => by rw [z, f.sub.n2] at h; cases h
    rw [upd_ne this]; exact f.sub.ext x o h
  · by_cases z : x = G.r2
    · exact ⟨_, by rw [z, upd_same], fun _ y => by cases y⟩
    · obtain ⟨u, e, nt⟩ := f.dom x h
      exact ⟨u, by rw [upd_ne z]; exact e, nt⟩
  · have : x ≠ G.r2 := fun z => by
      rw [z, g.a2] at e
      cases e
      exact h1 _ rfl
    rw [upd_ne this]; exact e
/-- the register's items, read -/
theorem reg_ix {Hc : Hp} {p : PS} (g : RegOk G Hc p) (k : Int) (v : V) (h : atI [V.ref G.r2, .int p.dig, .int p.cnt, .int p.mix] k = some v) {σ : L2.St} (hs : σ[0]? = some (some (V.ref G.r1))) {Q : VK} (q : Q v Hc) : tOp (rIxL G.K) (tVar 0) (tC (.int k)) σ Hc Q :=
  ⟨_, hs, G.r1, _, k, v, rfl, rfl, .inl (.inl g.a1), h, q⟩
end
end Z
namespace Z
open PySem PySem.Spec PyProof.Rows L2
section
variable {P : Program} {w : World} {mg : Str → Option Value} {base : Heap} {G : Gx} {Ps : Nat → Pos} {ks : Nat → Nat}
theorem pickLoop_cons {c : Int} {cs : List Int} {mix : Int} : pickLoop (c :: cs) 0 mix = pickLoop cs (if ab c ≥ 1000000000000000000 then ab c else 0) ((mix * 6151 + ab c + 5) % 2147483647) := by
  rw [pickLoop, if_pos rfl]
theorem pick_wf {sc : Scope} (h : fscB pickN ["state", "many"] sc = true) : FnScope pickN ["state", "many"] sc := fscB_ok h
def pickScB (sc : Scope) : Bool := fscB pickN ["state", "many"] sc && ((["cell", "digit", "mixed"] : List Str).all fun x => match lookB sc.names x with | some .local => true | _ => false) && ((["abs", "int"] : List Str).all fun x => match lookB sc.names x with | some .globalImplicit => true | _ => false)
theorem pick_ok {x qual : Str} {st : Stmt} {f : Nat} {fd : FuncData} (FF : L2.Fun G.K x qual st (G.fad f) fd) (hb : defBody st = pickB Ps ks) (hs : pickScB (defScope st) = true) (hdb : dbgB pickN = true) (ma : mg "abs" = none) (mi : mg "int" = none) (hl : ((Ps 25).endLine == (Ps 27).line) = true) (φ : Fns) (hφ : ∀ args, φ f args = pickM args) :
    FnOk P w G.K mg base (L2.CX P w) 1 (G.fad f) fd ["state", "many"] (spG G false φ f 2) := by
  obtain ⟨t1, hgl⟩ := ba hs
  obtain ⟨hsc, hloc⟩ := ba t1
  have S := fscB_ok hsc
  have gl : ∀ n ∈ (["abs", "int"] : List Str), (defScope st).names.lookup n = some .globalImplicit := fun n hn => by
    have := List.all_eq_true.mp hgl n hn
    rw [lookB_eq] at this
    cases q : (defScope st).names.lookup n with
    | none => rw [q] at this; cases this
    | some kk => rw [q] at this; cases kk <;> first | rfl | cases this
  have lc : ∀ n ∈ (["cell", "digit", "mixed"] : List Str), (defScope st).names.lookup n = some .local := fun n hn => by
    have := List.all_eq_true.mp hloc n hn
    rw [lookB_eq] at this
    cases q : (defScope st).names.lookup n with
    | none => rw [q] at this; cases this
    | some kk => rw [q] at this; cases kk <;> first | rfl | cases this
  have db := dbgB_ok hdb
  refine Fun.okX FF S (fun vs H Q E h => h.1) fun cdv A outer s H vs Q E hr hsp => ?_
  obtain ⟨hlen, S0, p, ds, sub, g, a, q⟩ := hsp
  rw [hφ] at q
  -- the arguments
  obtain ⟨many, rfl⟩ : ∃ many, ds = [.reg, .int many] := by
    unfold pickM at q
    split at q
    · exact ⟨_, rfl⟩
    · exact q.elim
  have q : Pst G E (relA G) S0 H Q (if (decide (0 < many) && (decide (many < 1073741824) && pOk p)) = true then .ok (.int (pickD many p).1) (pickD many p).2 else .bad) := q
  split at q
  · rename_i hc
    simp only [Bool.and_eq_true, decide_eq_true_eq, pOk] at hc
    obtain ⟨m1, m2, c1, c2, x1, x2⟩ := hc
    obtain ⟨rfl⟩ : vs = [.ref G.r1, .int many] := by
      cases a with
      | cons h1 t =>
        cases t with
        | cons h2 t => cases t; cases h1; cases h2; rfl
    have q : ∀ v S' H', Fn G S0 H S' H' → RegOk G H' (pickD many p).2 → At G S' v (.int (pickD many p).1) → Q v H' := q
    have q : ∀ H', Fn G S0 H S0 H' → RegOk G H' (pickD many p).2 → Q (.int (pickD many p).1) H' := fun H' f g' => q _ S0 H' f g' (.int _)
    let X := cxOf (L2.CX P w) P w G.K mg base pickN qual (defScope st) (G.fad f) cdv A outer s H E
    have vis : ∀ n ∈ (["state", "many"] : List Str), Vis X.env.scope n := fun n hn => by
      rcases S.par n hn with z | z
      · exact .inl z
      · exact .inr (.inl z)
    have p0 : ∀ i, PE X (.Name "state" (Ps i)) (tVar 0) := fun i => pe_var rfl (vis _ (by simp)) (db "state" (by simp [pickN])).1 (db "state" (by simp [pickN])).2
    have p1 : ∀ i, PE X (.Name "many" (Ps i)) (tVar 1) := fun i => pe_var rfl (vis _ (by simp)) (db "many" (by simp [pickN])).1 (db "many" (by simp [pickN])).2
    have p2 : ∀ i, PE X (.Name "cell" (Ps i)) (tVar 2) := fun i => pe_var rfl (.inl (lc _ (by simp))) (db "cell" (by simp [pickN])).1 (db "cell" (by simp [pickN])).2
    have p3 : ∀ i, PE X (.Name "digit" (Ps i)) (tVar 3) := fun i => pe_var rfl (.inl (lc _ (by simp))) (db "digit" (by simp [pickN])).1 (db "digit" (by simp [pickN])).2
    have p4 : ∀ i, PE X (.Name "mixed" (Ps i)) (tVar 4) := fun i => pe_var rfl (.inl (lc _ (by simp))) (db "mixed" (by simp [pickN])).1 (db "mixed" (by simp [pickN])).2
    have ix : ∀ i (k : Int), PE X (sI Ps ks i k) (tOp (rIxL G.K) (tVar 0) (tC (.int k))) := fun i k => pe_ix (X := X) ix_list (p0 i) pe_int fun _ _ => rfl
    have nd : X.N.Nodup := S.nd
    have hu : X.A.units + 64 < cLine := hr.units
    have gs : ∀ (i : Nat) (k : Int), PG X (sI Ps ks i k) (gSub (tVar 0) (tC (.int k)) rSetL) := fun i k => pg_sub (p0 i) pe_int set_list
    have e1 := ps_asg (X := X) (pos := Ps 8) (pe_op (pos := Ps 7) op_add (ix 3 2) (pe_int (i := 1) (j := ks 6) (pos := Ps 6))) (gs 0 2) rfl rfl rfl
    have cnd := (pw_and (X := X) (pos := Ps 19) (pt_cmpR (pos := Ps 13) op_eq (ix 9 1) (pe_int (i := 0) (j := ks 12) (pos := Ps 12)) rfl) (pw_and1 (pos := Ps 19) (pt_cmpR (pos := Ps 18) (op_neM hu) (ix 14 0) (pe_lst (pos := Ps 17) pa_nil) rfl))).pt
    have bpop : PE X (.Call (.Attribute (sI Ps ks 22 0) "pop" (Ps 25)) [cI Ps ks 26 0] [] (Ps 27)) _ := pe_bm (X := X) F.plainAttrs_list F.slot_list_pop F.type_list_pop mt_popAt (ix 22 0) (pa_cons (pe_int (i := 0) (j := ks 26) (pos := Ps 26)) pa_nil rfl) rfl rfl hl rfl rfl
    have b1 := ps_set (X := X) (pos := Ps 29) (pos' := Ps 20) (i := 2) nd rfl (.inl (lc "cell" (by simp))) (pe_callB (X := X) (p := Ps 21) (pos := Ps 28) call_abs (gl "abs" (by simp)) ma bb_abs (pa_cons bpop pa_nil rfl) (by decide +kernel) (by decide +kernel) rfl rfl) rfl (.inr (lc "cell" (by simp)))
    have b2 := ps_asg (X := X) (pos := Ps 46) (pe_op (pos := Ps 45) op_mod (pe_callTy (X := X) (p := Ps 33) (pos := Ps 43) call_int1 (gl "int" (by simp)) mi bb_int (pa_cons (pe_op (pos := Ps 42) op_add (pe_op (pos := Ps 40) op_add (pe_op (pos := Ps 38) op_mul (ix 34 3) (pe_int (i := 6151) (j := ks 37) (pos := Ps 37))) (p2 39)) (pe_int (i := 5) (j := ks 41) (pos := Ps 41))) pa_nil rfl) (by decide +kernel) (by decide +kernel) rfl rfl) (pe_int (i := 2147483647) (j := ks 44) (pos := Ps 44))) (gs 30 3) rfl rfl rfl
    have b3 := ps_asg (X := X) (pos := Ps 58) (pe_ifExp (pos := Ps 57) (pt_cmpR (pos := Ps 54) op_ge (p2 50) (pe_op (pos := Ps 53) op_pow (pe_int (i := 10) (j := ks 51) (pos := Ps 51)) (pe_int (i := 18) (j := ks 52) (pos := Ps 52))) rfl) (p2 55) (pe_int (i := 0) (j := ks 56) (pos := Ps 56))) (gs 47 1) rfl rfl rfl
    have wh := ps_while (X := X) (pos := Ps 59) (passes_of rfl) cnd (pss_cons b1 (pss_cons b2 (pss_one b3)))
    have d1 := ps_set (X := X) (pos := Ps 73) (pos' := Ps 65) (i := 3) nd rfl (.inl (lc "digit" (by simp))) (pe_op (pos := Ps 72) op_mod (pe_callTy (X := X) (p := Ps 66) (pos := Ps 70) call_int1 (gl "int" (by simp)) mi bb_int (pa_cons (ix 67 1) pa_nil rfl) (by decide +kernel) (by decide +kernel) rfl rfl) (p1 71)) rfl (.inr (lc "digit" (by simp)))
    have d2' := ps_asg (X := X) (pos := Ps 82) (pe_op (pos := Ps 81) op_fdiv (ix 77 1) (p1 80)) (gs 74 1) rfl rfl rfl
    have iff := ps_if (X := X) (pos := Ps 85) (pt_cmpR (pos := Ps 64) op_gt (ix 60 1) (pe_int (i := 0) (j := ks 63) (pos := Ps 63)) rfl) (pss_cons d1 (pss_cons d2' (pss_one (ps_ret (pos := Ps 84) (p3 83))))) pss_nil
    have mx := ps_set (X := X) (pos := Ps 104) (pos' := Ps 86) (i := 4) nd rfl (.inl (lc "mixed" (by simp))) (pe_op (pos := Ps 103) op_mod (pe_callTy (X := X) (p := Ps 87) (pos := Ps 101) call_int1 (gl "int" (by simp)) mi bb_int (pa_cons (pe_op (pos := Ps 100) op_pow (pe_op (pos := Ps 98) op_add (pe_op (pos := Ps 96) op_add (ix 88 3) (pe_op (pos := Ps 95) op_mul (pe_int (i := 7907) (j := ks 91) (pos := Ps 91)) (ix 92 2))) (pe_int (i := 104723) (j := ks 97) (pos := Ps 97))) (pe_int (i := 5) (j := ks 99) (pos := Ps 99))) pa_nil rfl) (by decide +kernel) (by decide +kernel) rfl rfl) (pe_int (i := 2147483629) (j := ks 102) (pos := Ps 102))) rfl (.inr (lc "mixed" (by simp)))
    have rt := ps_ret (X := X) (pos := Ps 124) (pe_op (pos := Ps 123) op_mod (pe_op (pos := Ps 121) op_mod (pe_callTy (X := X) (p := Ps 105) (pos := Ps 119) call_int1 (gl "int" (by simp)) mi bb_int (pa_cons (pe_op (pos := Ps 118) op_pow (pe_op (pos := Ps 116) op_add (pe_op (pos := Ps 114) op_add (pe_op (pos := Ps 108) op_mul (p4 106) (pe_int (i := 48271) (j := ks 107) (pos := Ps 107))) (pe_op (pos := Ps 113) op_mul (pe_int (i := 30011) (j := ks 109) (pos := Ps 109)) (ix 110 2))) (pe_int (i := 31) (j := ks 115) (pos := Ps 115))) (pe_int (i := 3) (j := ks 117) (pos := Ps 117))) pa_nil rfl) (by decide +kernel) (by decide +kernel) rfl rfl) (pe_int (i := 1000000007) (j := ks 120) (pos := Ps 120))) (p1 122))
    refine ⟨_, by rw [hb]; exact pss_cons e1 (pss_cons wh (pss_cons iff (pss_cons mx (pss_one rt)))), ?_⟩
    -- what is read, step by step
    have hK : X.K = G.K := rfl
    have r0 : (L2.start pickN [V.ref G.r1, .int many])[0]? = some (some (V.ref G.r1)) := rfl
    have r1' : (L2.start pickN [V.ref G.r1, .int many])[1]? = some (some (V.int many)) := rfl
    refine reg_ix g 2 (.int p.cnt) rfl r0 ⟨p.cnt, 1, rfl, rfl, ?_⟩
    refine ⟨_, r0, G.r1, _, 2, 2, rfl, rfl, g.a1, rfl, ?_⟩
    obtain ⟨f1, g1⟩ := RegOk.w1 (a := p.dig) (b := p.cnt + 1) (c := p.mix) (Fn.refl sub) g sub
    have Pv : ∀ (σ : L2.St) (Hc : Hp), Prop := fun _ _ => True
    refine ⟨fun m σ Hc => ∃ cells dig mix, m = cells.length ∧ σ.length = 5 ∧ σ[0]? = some (some (V.ref G.r1)) ∧ σ[1]? = some (some (V.int many)) ∧ Fn G S0 H S0 Hc ∧ RegOk G Hc ⟨cells, dig, p.cnt + 1, mix⟩ ∧ pickLoop cells dig mix = pickLoop p.cells p.dig p.mix ∧ 0 ≤ mix ∧ mix < 2147483648,
      ⟨_, p.cells, p.dig, p.mix, rfl, rfl, r0, r1', f1, g1, rfl, x1, x2⟩, ?_⟩
    rintro m σ Hc ⟨cells, dig, mix, rfl, hl5, s0, s1, fc, gc, hp, y1, y2⟩
    have fin : ∀ (σ : L2.St) (Hc : Hp) (cells : List Int) (dig mix : Int), σ.length = 5 → σ[0]? = some (some (V.ref G.r1)) → σ[1]? = some (some (V.int many)) → Fn G S0 H S0 Hc → RegOk G Hc ⟨cells, dig, p.cnt + 1, mix⟩ → (cells, dig, mix) = pickLoop p.cells p.dig p.mix → 0 ≤ mix → mix < 2147483648 →
        (tSeq (tIfS (tTest (tOp (rI0 fun i j => .bl (decide (j < i))) (tOp (rIxL G.K) (tVar 0) (tC (.int 1))) (tC (.int 0))))
          (tSeq (tAsg (tOp (rI (fun _ j => 0 < j) fun i j => .int (i % j)) (tCB (fun xs H Q => (∃ i, xs = [V.int i] ∧ Q (.int i) H) ∨ ∃ k, xs = [V.bl k] ∧ Q (.int (if k then 1 else 0)) H) (tCons (tOp (rIxL G.K) (tVar 0) (tC (.int 1))) tNil)) (tVar 1)) (gName 3))
            (tSeq (tAsg (tOp (rI CDiv fun i j => .int (i / j)) (tOp (rIxL G.K) (tVar 0) (tC (.int 1))) (tVar 1)) (gSub (tVar 0) (tC (.int 1)) rSetL)) (tRet (tVar 3)))) tNext)
          (tSeq (tAsg (tOp (rI (fun _ j => 0 < j) fun i j => .int (i % j)) (tCB (fun xs H Q => (∃ i, xs = [V.int i] ∧ Q (.int i) H) ∨ ∃ k, xs = [V.bl k] ∧ Q (.int (if k then 1 else 0)) H) (tCons (tOp (rI CPow fun i j => .int (i ^ j.toNat)) (tOp (rI0 fun i j => .int (i + j)) (tOp (rI0 fun i j => .int (i + j)) (tOp (rIxL G.K) (tVar 0) (tC (.int 3))) (tOp (rI CMul fun i j => .int (i * j)) (tC (.int 7907)) (tOp (rIxL G.K) (tVar 0) (tC (.int 2))))) (tC (.int 104723))) (tC (.int 5))) tNil)) (tC (.int 2147483629))) (gName 4))
            (tRet (tOp (rI (fun _ j => 0 < j) fun i j => .int (i % j)) (tOp (rI (fun _ j => 0 < j) fun i j => .int (i % j)) (tCB (fun xs H Q => (∃ i, xs = [V.int i] ∧ Q (.int i) H) ∨ ∃ k, xs = [V.bl k] ∧ Q (.int (if k then 1 else 0)) H) (tCons (tOp (rI CPow fun i j => .int (i ^ j.toNat)) (tOp (rI0 fun i j => .int (i + j)) (tOp (rI0 fun i j => .int (i + j)) (tOp (rI CMul fun i j => .int (i * j)) (tVar 4) (tC (.int 48271))) (tOp (rI CMul fun i j => .int (i * j)) (tC (.int 30011)) (tOp (rIxL G.K) (tVar 0) (tC (.int 2))))) (tC (.int 31))) (tC (.int 3))) tNil)) (tC (.int 1000000007))) (tVar 1)))))
          { nx := fun _ H' => Q .non H', rt := Q } σ Hc := by
      intro σ Hc cells dig mix hl5 s0 s1 fc gc he y1 y2
      have l3 : 3 < σ.length := by omega
      have l4 : 4 < σ.length := by omega
      refine reg_ix gc 1 (.int dig) rfl s0 ⟨dig, 0, rfl, rfl, _, rfl, ?_⟩
      by_cases hd : 0 < dig
      · show if decide (0 < dig) = true then _ else _
        rw [if_pos (decide_eq_true hd)]
        refine reg_ix gc 1 (.int dig) rfl s0 (.inl ⟨dig, rfl, ⟨_, s1, dig, many, rfl, rfl, m1, ?_⟩⟩)
        have s0' : (σ.set 3 (some (V.int (dig % many))))[0]? = some (some (V.ref G.r1)) := by rw [List.getElem?_set_ne (by decide)]; exact s0
        have s1' : (σ.set 3 (some (V.int (dig % many))))[1]? = some (some (V.int many)) := by rw [List.getElem?_set_ne (by decide)]; exact s1
        refine reg_ix gc 1 (.int dig) rfl s0' ⟨_, s1', dig, many, rfl, rfl, ⟨m1, m2⟩, ?_⟩
        refine ⟨_, s0', G.r1, _, 1, 1, rfl, rfl, gc.a1, rfl, ?_⟩
        obtain ⟨f2, g2⟩ := RegOk.w1 (a := dig / many) (b := p.cnt + 1) (c := mix) fc gc sub
        refine ⟨.int (dig % many), by rw [List.getElem?_set_self l3], ?_⟩
        have ep : pickD many p = (dig % many, ⟨cells, dig / many, p.cnt + 1, mix⟩) := by
          unfold pickD
          rw [← he]
          simp only
          rw [if_pos hd]
        rw [ep] at q
        exact q _ f2 g2
      · show if decide (0 < dig) = true then _ else _
        rw [if_neg (by simpa using hd)]
        have ep : pickD many p = (((((mix + 7907 * (p.cnt + 1) + 104723) ^ 5 % 2147483629) * 48271 + 30011 * (p.cnt + 1) + 31) ^ 3) % 1000000007 % many, ⟨cells, dig, p.cnt + 1, mix⟩) := by
          unfold pickD
          rw [← he]
          simp only
          rw [if_neg hd]
        rw [ep] at q
        refine reg_ix gc 3 (.int mix) rfl s0 ?_
        refine reg_ix gc 2 (.int (p.cnt + 1)) rfl s0 ⟨7907, p.cnt + 1, rfl, rfl, .inl (by decide), ?_⟩
        have b0 : 0 ≤ (mix + 7907 * (p.cnt + 1) + 104723) ^ (5 : Int).toNat % 2147483629 := Int.emod_nonneg _ (by decide)
        have b1 : (mix + 7907 * (p.cnt + 1) + 104723) ^ (5 : Int).toNat % 2147483629 < 2147483629 := Int.emod_lt_of_pos _ (by decide)
        have bnd : ∀ M : Int, 0 ≤ M → M < 2147483629 → (M * 48271 + 30011 * (p.cnt + 1) + 31).natAbs < 2 ^ 64 := fun M h1 h2 => by omega
        refine ⟨mix, 7907 * (p.cnt + 1), rfl, rfl, _, 104723, rfl, rfl, _, 5, rfl, rfl, ⟨by decide, by decide, by omega⟩, .inl ⟨_, rfl, _, 2147483629, rfl, rfl, (show (0 : Int) < 2147483629 by decide), ?_⟩⟩
        have s0' : ∀ M : V, (σ.set 4 (some M))[0]? = some (some (V.ref G.r1)) := fun M => by rw [List.getElem?_set_ne (by decide)]; exact s0
        have s1' : ∀ M : V, (σ.set 4 (some M))[1]? = some (some (V.int many)) := fun M => by rw [List.getElem?_set_ne (by decide)]; exact s1
        refine ⟨.int _, by rw [List.getElem?_set_self l4], _, 48271, rfl, rfl, .inr (by decide), ?_⟩
        refine reg_ix gc 2 (.int (p.cnt + 1)) rfl (s0' _) ⟨30011, p.cnt + 1, rfl, rfl, .inl (by decide), _, _, rfl, rfl, _, 31, rfl, rfl, _, 3, rfl, rfl, ⟨by decide, by decide, bnd _ b0 b1⟩, .inl ⟨_, rfl, _, 1000000007, rfl, rfl, (show (0 : Int) < 1000000007 by decide), _, s1' _, _, many, rfl, rfl, m1, ?_⟩⟩
        exact q _ fc gc
    have stay : dig ≠ 0 → pickLoop cells dig mix = (cells, dig, mix) := fun hd => by
      cases cells with
      | nil => rfl
      | cons c cs => rw [pickLoop, if_neg hd]
    refine reg_ix gc 1 (.int dig) rfl s0 ⟨rfl, _, rfl, ?_⟩
    by_cases hd : dig = 0
    · subst hd
      show if decide (V.int 0 = V.int 0) = true then _ else _
      rw [if_pos (decide_eq_true rfl)]
      refine reg_ix gc 0 (.ref G.r2) rfl s0 ⟨Nat.zero_le _, fun pp hpp => ?_⟩
      have fa := Fp.alloc0 (o := .lst []) fc.sub hpp
      have g2 := fa.reg gc
      have f2 := fc.trans fa.fn
      obtain ⟨dp1, dp2⟩ := Ats.dp (H := upd Hc pp (.lst [])) (G := G) fa.sub.ext (ints_mk (S := S0) cells) (by
        have : ∀ l : List Int, pls (l.map D.int) = true := fun l => by
          induction l with
          | nil => rfl
          | cons a l ih => simp [pls, pl, ih]
        exact this cells)
      refine ⟨.list (toPs (cells.map D.int)), .list [], .lst (.inl (.inl g2.a2)) dp1, .lst (a := pp) (xs := []) (.inl (.inl upd_same)) .nil, by simpa [PyData.canLay0] using dp2, by rfl, Nat.le_trans (Nat.min_le_right _ _) (by decide), _, rfl, ?_⟩
      cases cells with
      | nil =>
        show if false = true then _ else _
        rw [if_neg (by simp)]
        exact fin σ _ [] 0 mix hl5 s0 s1 f2 g2 hp y1 y2
      | cons c cs =>
        show if true = true then _ else _
        rw [if_pos rfl]
        refine ⟨fun σ Hc => ∃ cells dig mix, cs.length = cells.length ∧ σ.length = 5 ∧ σ[0]? = some (some (V.ref G.r1)) ∧ σ[1]? = some (some (V.int many)) ∧ Fn G S0 H S0 Hc ∧ RegOk G Hc ⟨cells, dig, p.cnt + 1, mix⟩ ∧ pickLoop cells dig mix = pickLoop p.cells p.dig p.mix ∧ 0 ≤ mix ∧ mix < 2147483648, fun σ' H' hN => ⟨cs.length, Nat.lt_succ_self _, hN⟩, ?_⟩
        have l2 : 2 < σ.length := by omega
        refine reg_ix g2 0 (.ref G.r2) rfl s0 ⟨tyV_lst g2.a2, ?_⟩
        refine ⟨G.r2, (c :: cs).map V.int, 0, 0, .int c, rfl, rfl, g2.a2, by decide, by decide, ?_, rfl, ?_⟩
        · unfold seqIndex?
          simp
        obtain ⟨f3, g3⟩ := RegOk.w2 (cs := cs) f2 g2
        refine ⟨c, rfl, ?_⟩
        have t0 : (σ.set 2 (some (V.int (ab c))))[0]? = some (some (V.ref G.r1)) := by rw [List.getElem?_set_ne (by decide)]; exact s0
        have t1 : (σ.set 2 (some (V.int (ab c))))[1]? = some (some (V.int many)) := by rw [List.getElem?_set_ne (by decide)]; exact s1
        have t2 : (σ.set 2 (some (V.int (ab c))))[2]? = some (some (V.int (ab c))) := by rw [List.getElem?_set_self l2]
        refine reg_ix g3 3 (.int mix) rfl t0 ⟨mix, 6151, rfl, rfl, .inr (by decide), ?_⟩
        refine ⟨_, t2, _, ab c, rfl, rfl, _, 5, rfl, rfl, .inl ⟨_, rfl, _, 2147483647, rfl, rfl, (show (0 : Int) < 2147483647 by decide), ?_⟩⟩
        refine ⟨_, t0, G.r1, _, 3, 3, rfl, rfl, g3.a1, rfl, ?_⟩
        obtain ⟨f4, g4⟩ := RegOk.w1 (a := 0) (b := p.cnt + 1) (c := (mix * 6151 + ab c + 5) % 2147483647) f3 g3 sub
        refine ⟨_, t2, _, _, rfl, rfl, ⟨by decide, by decide, by decide⟩, _, _, rfl, rfl, _, rfl, ?_⟩
        have z1 : 0 ≤ (mix * 6151 + ab c + 5) % 2147483647 := Int.emod_nonneg _ (by decide)
        have z2 : (mix * 6151 + ab c + 5) % 2147483647 < 2147483647 := Int.emod_lt_of_pos _ (by decide)
        rw [pickLoop_cons] at hp
        by_cases hb : (1000000000000000000 : Int) ≤ ab c
        · show if decide ((10 : Int) ^ (18 : Int).toNat ≤ ab c) = true then _ else _
          rw [if_pos (decide_eq_true (show (10 : Int) ^ (18 : Int).toNat ≤ ab c from hb))]
          rw [if_pos hb] at hp
          refine ⟨_, t2, _, t0, G.r1, _, 1, 1, rfl, rfl, g4.a1, rfl, ?_⟩
          obtain ⟨f5, g5⟩ := RegOk.w1 (a := ab c) (b := p.cnt + 1) (c := (mix * 6151 + ab c + 5) % 2147483647) f4 g4 sub
          exact ⟨cs, ab c, _, rfl, by rw [List.length_set]; exact hl5, t0, t1, f5, g5, hp, z1, by omega⟩
        · show if decide ((10 : Int) ^ (18 : Int).toNat ≤ ab c) = true then _ else _
          rw [if_neg (fun (z : decide ((10 : Int) ^ (18 : Int).toNat ≤ ab c) = true) => hb (show (10 : Int) ^ (18 : Int).toNat ≤ ab c from of_decide_eq_true z))]
          rw [if_neg hb] at hp
          refine ⟨_, t0, G.r1, _, 1, 1, rfl, rfl, g4.a1, rfl, ?_⟩
          obtain ⟨f5, g5⟩ := RegOk.w1 (a := 0) (b := p.cnt + 1) (c := (mix * 6151 + ab c + 5) % 2147483647) f4 g4 sub
          exact ⟨cs, 0, _, rfl, by rw [List.length_set]; exact hl5, t0, t1, f5, g5, hp, z1, by omega⟩
    · show if decide (V.int dig = V.int 0) = true then _ else _
      rw [if_neg (by simpa using hd)]
      show if false = true then _ else _
      rw [if_neg (by simp)]
      exact fin σ Hc cells dig mix hl5 s0 s1 fc gc (by rw [← hp, stay hd]) y1 y2
  · exact q.elim
end
end Z
namespace Z
open PySem PySem.Spec PyProof.Rows L2
/-! ### the draws among the functions; the law's def -/
def Gx.at (G : Gx) (r1 r2 : Addr) : Gx := { G with r1 := r1, r2 := r2 }
theorem ats_ints {G : Gx} {S : Hp} : ∀ ns : List Int, Ats G S (ns.map V.int) (ns.map D.int)
  | [] => .nil
  | n :: r => .cons (.int n) (ats_ints r)
section
variable {P : Program} {w : World} {mg : Str → Option Value} {base : Heap} {G : Gx} {T : Tab} {defs : List DefS} {pr : Prims} {ecs : List Nat} {Ps : Nat → Pos} {ks : Nat → Nat}
theorem pick_prim {x qual : Str} {st : Stmt} {f n : Nat} {fd : FuncData} (FF : L2.Fun G.K x qual st (G.fad f) fd) (hb : defBody st = pickB Ps ks) (hs : pickScB (defScope st) = true) (ha : argB (defArgs st) ["state", "many"] 2 = true) (ma : mg "abs" = none) (mi : mg "int" = none) (hl : ((Ps 25).endLine == (Ps 27).line) = true) (hp : pr f = some fun _ => pickM) :
    FnF P w G.K mg base G (Phi G T defs pr (n + 1)) (4 * n + 5) f 2 false := by
  have h := pick_ok (P := P) (w := w) (base := base) FF hb hs (by decide +kernel) ma mi hl (Phi G T defs pr (n + 1)) (fun args => by
    show (match pr f with
      | some m => m (Phi G T defs pr n) args
      | none => match defs[f]? with
        | some d => runD G T (Phi G T defs pr n) d args
        | none => fun _ => .bad) = _
    rw [hp])
  obtain ⟨as, e1, e2, e3⟩ := argB_ok ha
  have e2 : as.map (·.arg) = (["state", "many"] : List Str) := e2
  refine ⟨fd, ["state", "many"], rfl, h.mono (by omega), FF.kp, FF.binds fun kV doc pm an cdv ct us hl => ?_⟩
  rw [e1, ← e2]
  exact binds_gen (by rw [e2]; decide +kernel) (by rw [hl, ← e2, List.length_map])
theorem pick_prim0 {x qual : Str} {st : Stmt} {f : Nat} {fd : FuncData} (FF : L2.Fun G.K x qual st (G.fad f) fd) (ha : argB (defArgs st) ["state", "many"] 2 = true) :
    ∃ fd ps, ps.length = 2 ∧ PySem.W.keepIn G.K (.ref (G.fad f)) = true ∧ L2.Binds G.K fd ps [] := by
  obtain ⟨as, e1, e2, e3⟩ := argB_ok ha
  have e2 : as.map (·.arg) = (["state", "many"] : List Str) := e2
  refine ⟨fd, ["state", "many"], rfl, FF.kp, FF.binds fun kV doc pm an cdv ct us hl => ?_⟩
  rw [e1, ← e2]
  exact binds_gen (by rw [e2]; decide +kernel) (by rw [hl, ← e2, List.length_map])
/-- what _law_start gives: two new lists -/
def spStart (K : PySem.W.Frag) : Sp := fun vs H Q E => ∃ (a : Addr) (ns : List Int), vs = [.ref a] ∧ ns.length ≤ sizeLine ∧ SqL K H a (ns.map V.int) ∧
  ∀ r2 r1, H r2 = none → upd H r2 (.lst (ns.map V.int)) r1 = none → Q (.ref r1) (upd (upd H r2 (.lst (ns.map V.int))) r1 (.lst [.ref r2, .int 0, .int 0, .int 29]))
def startB (Ps : Nat → Pos) (ks : Nat → Nat) : List Stmt := [.Return (some (.List [.Call (.Name "list" (Ps 0)) [.Name "script" (Ps 1)] [] (Ps 2), .Constant (.int 0) (ks 3) (Ps 3), .Constant (.int 0) (ks 4) (Ps 4), .Constant (.int 29) (ks 5) (Ps 5)] (Ps 6))) (Ps 7)]
def startScB (sc : Scope) : Bool := fscB ["script"] ["script"] sc && gloK (lookB sc.names "list")
theorem start_ok {x qual : Str} {st : Stmt} {f : Addr} {fd : FuncData} (FF : L2.Fun G.K x qual st f fd) (hb : defBody st = startB Ps ks) (hs : startScB (defScope st) = true) (ml : mg "list" = none) :
    FnOk P w G.K mg base (L2.CX P w) 1 f fd ["script"] (spStart G.K) := by
  obtain ⟨hsc, hgl⟩ := ba hs
  have S := fscB_ok hsc
  have gl : (defScope st).names.lookup (Str.ofString "list") = some NameKind.globalImplicit := by
    rw [lookB_eq] at hgl
    cases q : (defScope st).names.lookup (Str.ofString "list") with
    | none => rw [q] at hgl; cases hgl
    | some kk => rw [q] at hgl; cases kk <;> first | rfl | cases hgl
  refine Fun.okX FF S (fun vs H Q E ⟨a, ns, e, _⟩ => by rw [e]; rfl) fun cdv A outer s H vs Q E hr hsp => ?_
  obtain ⟨a, ns, rfl, hn, hq, q⟩ := hsp
  let X := cxOf (L2.CX P w) P w G.K mg base ["script"] qual (defScope st) f cdv A outer s H E
  have vis : Vis X.env.scope "script" := by
    rcases S.par "script" (by simp) with z | z
    · exact .inl z
    · exact .inr (.inl z)
  have p0 : PE X (.Name "script" (Ps 1)) (tVar 0) := pe_var rfl vis (by decide) (by decide)
  have pl := pe_callTy (X := X) (p := Ps 0) (pos := Ps 2) call_list_of gl ml bb_list (pa_cons p0 pa_nil rfl) (by decide +kernel) (by decide +kernel) rfl rfl
  have rt := ps_ret (X := X) (pos := Ps 7) (pe_lst (pos := Ps 6) (pa_cons pl (pa_cons (pe_int (i := 0) (j := ks 3) (pos := Ps 3)) (pa_cons (pe_int (i := 0) (j := ks 4) (pos := Ps 4)) (pa_cons (pe_int (i := 29) (j := ks 5) (pos := Ps 5)) pa_nil rfl) rfl) rfl) rfl))
  refine ⟨_, by rw [hb]; exact pss_one rt, ?_⟩
  refine ⟨_, rfl, a, _, rfl, .inl hq, fun r2 h2 => ?_⟩
  exact ⟨(show 4 ≤ sizeLine by decide), fun r1 h1 => q r2 r1 h2 h1⟩
/-- the law's promise -/
def spLaw (G : Gx) (most : Nat) : Sp := fun vs H Q E => ∃ (a : Addr) (ns : List Int), vs = [.ref a] ∧ ns.length ≤ most ∧ SqL G.K H a (ns.map V.int) ∧ LamX.Tabs G.T H ∧ ∀ H', Q (.bl true) H'
/-- what the law's rest tells, the draws' state given -/
def restD (G : Gx) (T : Tab) (φ : Fns) (N : List Str) (j : Nat) (rest : Ss) (st : D) : M D := fun p => retR (rest.den G T φ ((List.replicate N.length Sl.no).set j (.fz st)) p)
theorem law_ok {d : DefS} {j n : Nat} {f fs : Addr} {fd fds : FuncData} {cc : Addr} {q0 q1 q2 q3 q4 : Pos} {rest : Ss} {most : Nat} {xs : Str}
    (X : ∀ r1 r2, Txt P w mg base (G.at r1 r2) T defs pr ecs) (F : FunC G.K d.x d.qual d.st f fd cc) (hlm : d.lm = true → LamC G mg base cc d.qual)
    (hb : defBody d.st = .Assign [nmE d.N j q0] (.Call (.Name xs q1) [nmE d.N 0 q2] [] q3) q4 :: rest.ex T d.N)
    (hn1 : d.nps = 1) (hs : fscB d.N (d.N.take d.nps) (defScope d.st) = true) (hd : dbgB d.N = true) (hj : (Pat.nm j q0).ok d.ct.sc d.ct.N d.ct.fn = true) (hv : d.ct.vis 0 = true) (hg : d.ct.glo xs = true)
    (hx : (xs == ("__debug__" : Str)) = false) (hw : rest.wf T ecs d.ct false = true) (hj1 : decide (j < d.N.length) = true)
    (hmx : mg xs = some (.ref fs)) (hst : FnOk P w G.K mg base (L2.CX P w) 1 fs fds ["script"] (spStart G.K)) (hks : PySem.W.keepIn G.K (.ref fs) = true) (hbs : L2.Binds G.K fds ["script"] [])
    (hmo : most ≤ sizeLine) (hm : ∀ r1 r2 (ns : List Int), ns.length ≤ most → ∃ p', restD (G.at r1 r2) T (Phi (G.at r1 r2) T defs pr n) d.N j rest .reg ⟨ns, 0, 0, 29⟩ = .ok (.bl true) p') :
    FnOk P w G.K mg base (L2.CX P w) (4 * n + 5) f fd (d.N.take d.nps) (spLaw G most) := by
  have S := fscB_ok hs
  have l0 : 0 < d.N.length := by
    cases e : d.N with
    | nil => rw [e] at hj1; exact absurd (of_decide_eq_true hj1) (by simp)
    | cons a r => simp
  have hps : (d.N.take d.nps).length = 1 := by rw [List.length_take, hn1]; omega
  have e45 : 4 * n + 5 = (4 * n + 1) + 4 := by omega
  rw [e45]
  refine FunC.okX F S (fun vs H Q E ⟨a, ns, e, _⟩ => by rw [e, hps]; rfl) fun A outer s H vs Q E hr hsp => ?_
  obtain ⟨a, ns, rfl, hn0, hq, htb, hQ⟩ := hsp
  have hn : ns.length ≤ sizeLine := Nat.le_trans hn0 hmo
  have O : ∀ r1 r2, OkS P w mg base (G.at r1 r2) T (Phi (G.at r1 r2) T defs pr n) (4 * n + 1) ecs d.ct (cxOf (L2.CX P w) P w G.K mg base d.N d.qual (defScope d.st) f (.ref cc) A outer s H E) E := fun r1 r2 =>
    okS_of (G := G.at r1 r2) (E := E) (outer := outer) (H := H) (lib (X r1 r2) n) (fun q hq => ((X r1 r2).exc q hq).mono (by omega)) S hd hlm hr
  let XX := cxOf (L2.CX P w) P w G.K mg base d.N d.qual (defScope d.st) f (.ref cc) A outer s H E
  let tU : TS := fun D σ H => ∃ t, PSs XX (rest.ex T d.N) t ∧ t D σ H
  have pU : PSs XX (rest.ex T d.N) tU := ⟨fun pins s σ H D I ⟨t, h, k⟩ => h.run pins s σ H D I k⟩
  have O0 : OkX G (4 * n + 1) d.ct XX E := (show OkX (G.at 0 0) (4 * n + 1) d.ct XX E from (O 0 0).toOkX) |> fun o => { hK := o.hK, N := o.N, sc := o.sc, fn := o.fn, nd := o.nd, dbg := o.dbg, calm := o.calm, room := o.room, pass := o.pass, lam := fun z => by obtain ⟨h1, h2⟩ := o.lam z; exact ⟨h1, h2⟩ }
  have pg := O0.pg (.nm j q0) hj
  obtain ⟨x0, v1, v2, v3, v4, v5⟩ := O0.vs hv
  have p0 : PE XX (nmE d.N 0 q2) (tVar 0) := by
    show PE XX (.Name (d.N.getD 0 Str.empty) q2) (tVar 0)
    rw [show d.N.getD 0 Str.empty = x0 from v2]
    exact pe_var v1 v3 v4 v5
  have pc := pe_call (X := XX) (pos := q3) (p := q1) (E := E) (ds := []) (dvs := []) hst (show Room 1 XX.A from O0.room.mono (by omega)) (O0.gl hg) hmx hks hbs .nil O0.pass (pa_cons p0 pa_nil rfl) hx rfl rfl
  have s1 := ps_asg (X := XX) (pos := q4) pc pg rfl rfl rfl
  refine ⟨_, by rw [hb]; exact pss_cons s1 pU, ?_⟩
  have hj2 := of_decide_eq_true hj1
  have h0 : (L2.start d.N [V.ref a])[0]? = some (some (V.ref a)) := rfl
  refine ⟨_, h0, a, ns, rfl, hn, hq, fun r2 r1 h2 h1 => ?_⟩
  have ne : r1 ≠ r2 := fun z => by rw [z, upd_same] at h1; cases h1
  have h1' : H r1 = none := by rw [upd_ne ne] at h1; exact h1
  obtain ⟨t, pt, ht⟩ := rest.snd (O r1 r2) hw
  refine ⟨t, pt, ?_⟩
  let H2 := upd (upd H r2 (.lst (ns.map V.int))) r1 (.lst [.ref r2, .int 0, .int 0, .int 29])
  let S0 : Hp := fun _ => none
  have sub : Sub (G.at r1 r2) S0 H2 := ⟨fun x o h => (by cases (show none = some o from h)), rfl, rfl, fun x ps h => (by cases (show none = some _ from h))⟩
  have g : RegOk (G.at r1 r2) H2 ⟨ns, 0, 0, 29⟩ := ⟨upd_same, by
    show upd _ r1 _ r2 = _
    rw [upd_ne (Ne.symm ne), upd_same], ne, Ext.tabs (Ext.trans (Ext.new h2) (Ext.new h1)) htb⟩
  have lst : (L2.start d.N [V.ref a]).length = d.N.length := by
    unfold L2.start
    simp only [List.length_append, List.length_map, List.length_replicate, List.length_cons, List.length_nil]
    omega
  have rp : Rep (G.at r1 r2) H2 S0 H2 ((L2.start d.N [V.ref a]).set j (some (V.ref r1))) ((List.replicate d.N.length Sl.no).set j (.fz .reg)) := by
    have no : ∀ (i : Nat) (s : Sl), ((List.replicate d.N.length Sl.no).set j (.fz .reg))[i]? = some s → (i = j ∧ s = .fz .reg) ∨ s = .no := fun i s h => by
      by_cases z : j = i
      · rw [z, List.getElem?_set_self (by rw [List.length_replicate, ← z]; exact hj2)] at h
        cases h
        exact .inl ⟨z.symm, rfl⟩
      · rw [List.getElem?_set_ne z, List.getElem?_replicate] at h
        split at h
        · cases h; exact .inr rfl
        · cases h
    refine ⟨by rw [List.length_set, List.length_set, List.length_replicate, lst], fun i dd h => ?_, fun i dd h => ?_, fun i j' dd e p h => ?_, fun i c dd p h => ?_⟩
    · rcases no i _ h with ⟨e1, e2⟩ | z
      · cases e2
        exact ⟨.ref r1, by rw [e1, List.getElem?_set_self (by rw [lst]; exact hj2)], At.reg (G := G.at r1 r2)⟩
      · cases z
    · rcases no i _ h with ⟨_, z⟩ | z <;> cases z
    · rcases no i _ h with ⟨_, z⟩ | z <;> cases z
    · rcases no i _ h with ⟨_, z⟩ | z <;> cases z
  refine ht S0 H2 S0 H2 _ _ ⟨ns, 0, 0, 29⟩ _ rp (Fn.refl sub) g ?_
  obtain ⟨p', hr'⟩ := hm r1 r2 ns hn0
  unfold restD at hr'
  cases er : rest.den (G.at r1 r2) T (Phi (G.at r1 r2) T defs pr n) ((List.replicate d.N.length Sl.no).set j (.fz .reg)) ⟨ns, 0, 0, 29⟩ with
  | nx ρ p1 => rw [er] at hr'; cases hr'
  | rt dd p1 =>
    rw [er] at hr'
    cases hr'
    intro v S' H' f' g' rel
    cases rel
    exact hQ H'
  | exc c fs p1 => rw [er] at hr'; cases hr'
  | bad => rw [er] at hr'; cases hr'
end
end Z
namespace Z
open PySem PySem.Spec PyProof.Rows L2
/-! ### the head: facts in parts, each part its own run -/
structure PartZ where
  fa : List He.Fa
  fn : List He.DefD
  ex : PySem.W.Frag → Bool := fun _ => true
  tf : List He.Defn := []
abbrev AlZ : Type := He.AlD × Bool
def PartZ.ob (p : PartZ) (g : Addr → Option Obj) (K : PySem.W.Frag) : AlZ := (He.obsD p.fa p.fn K, p.ex K && He.tabsB g p.tf K)
def PartZ.val (p : PartZ) : AlZ := (He.valD p.fn, true)
structure PartZ.Says (p : PartZ) (h : Heap) (K : PySem.W.Frag) : Prop where
  d : He.SaysD p.fa p.fn K
  more : p.ex K = true
  hd : ∀ q ∈ p.tf, PySem.W.codeHdIn K (He.cT K q).1 (He.cT K q).2 = true
  out : ∀ q ∈ p.tf, K.lookup (He.cT K q).2 = none
  empty : ∀ q ∈ p.tf, h.get? (He.cT K q).2 = some { cls := .none, data := .fields #[] }
theorem PartZ.says_of {p : PartZ} {h : Heap} {as : List Addr} (e : p.ob h.get? (He.frT h.get? as) = p.val) : p.Says h (He.frT h.get? as) := by
  have e1 : He.obsD p.fa p.fn (He.frT h.get? as) = He.valD p.fn := congrArg (fun z : AlZ => z.1) e
  have e2 : (p.ex (He.frT h.get? as) && He.tabsB h.get? p.tf (He.frT h.get? as)) = true := congrArg (fun z : AlZ => z.2) e
  obtain ⟨h1, h2⟩ := He.ba e2
  have key : ∀ q ∈ p.tf, PySem.W.codeHdIn (He.frT h.get? as) (He.cT (He.frT h.get? as) q).1 (He.cT (He.frT h.get? as) q).2 = true ∧ ∃ o, h.get? (He.cT (He.frT h.get? as) q).2 = some o ∧ He.emptyTab o = true := fun q hq => by
    obtain ⟨h3, h4⟩ := He.ba (List.all_eq_true.mp h2 q hq)
    refine ⟨h3, ?_⟩
    cases z : h.get? (He.cT (He.frT h.get? as) q).2 with
    | none => rw [z] at h4; cases h4
    | some o => rw [z] at h4; exact ⟨o, rfl, h4⟩
  refine ⟨e1, h1, fun q hq => (key q hq).1, fun q hq => ?_, fun q hq => ?_⟩
  · obtain ⟨_, o, z, y⟩ := key q hq
    exact He.frT_none z y
  · obtain ⟨_, o, z, y⟩ := key q hq
    rw [z, He.emptyTab_eq y]
def hookZ (as : (Addr → Option Obj) → List Addr) (ps : List PartZ) : PySem.W.Hook where
  α := List AlZ
  obs := fun s => ps.map fun p => p.ob s.heap.get? (He.frT s.heap.get? (as s.heap.get?))
  val := fun _ => ps.map PartZ.val
  says := fun _ h => ∃ K : PySem.W.Frag, K.In h ∧ ∀ p ∈ ps, p.Says h K
  of := fun w s e => ⟨He.frT s.heap.get? (as s.heap.get?), He.frT_in, fun p hp => PartZ.says_of (by
    have := List.map_inj_left.mp e p hp
    exact this)⟩
  keeps := fun _ _ _ ⟨K, hK, c⟩ k => ⟨K, PySem.W.Frag.In.keeps hK k, fun p hp => ⟨(c p hp).d, (c p hp).more, (c p hp).hd, (c p hp).out, fun q hq => k _ _ ((c p hp).empty q hq)⟩⟩
def obZ (as : (Addr → Option Obj) → List Addr) (ps : List PartZ) (s : PySem.W.SharedT) : List AlZ := ps.map fun p => p.ob (HandSHeadRun.getT s) (He.frT (HandSHeadRun.getT s) (as (HandSHeadRun.getT s)))
theorem obZ_eq (as : (Addr → Option Obj) → List Addr) (ps : List PartZ) (s : PySem.W.SharedT) : obZ as ps s = (hookZ as ps).obs s.abs := by
  have e : HandSHeadRun.getT s = s.abs.heap.get? := funext (HandSHeadRun.getT_eq s)
  unfold obZ
  rw [e]
  rfl
open PySem.W PySem.Calls HandSHeadRun in
/-- one run a part, one for the looks -/
theorem runZ {r : OpenRow} {q : Program} {M : Nat} {loose : List PySem.Str} {as : (Addr → Option Obj) → List Addr} {ps : List PartZ} {w : World}
    (e0 : ∀ os : OsState, (HandSHeadRun.endF (stepQ (denQ tabQ) r.prog w) M r.prog w os).map (fun s => (looksF r.prog (boot_heap w.params) s.abs, seenQ q loose (importedModules r.prog.main.body) (fun s => xlAt q [] s && recOk r.toRowW.records s) s.abs)) = some (true, openGood q loose))
    (e1 : ∀ p ∈ ps, ∀ os : OsState, (HandSHeadRun.endF (stepQ (denQ tabQ) r.prog w) M r.prog w os).map (fun s => p.ob (getT s) (He.frT (getT s) (as (getT s)))) = some p.val) : RunEq r q (hookZ as ps) (obZ as ps) M loose w := by
  intro os
  obtain ⟨s, hs, hv⟩ := Option.map_eq_some_iff.mp (e0 os)
  obtain ⟨v1, v2⟩ := Prod.mk.inj hv
  refine Option.map_eq_some_iff.mpr ⟨s, hs, Prod.ext v1 (Prod.ext v2 ?_)⟩
  show ps.map _ = ps.map PartZ.val
  refine List.map_congr_left fun p hp => ?_
  have := e1 p hp os
  rw [hs] at this
  exact Option.some.inj this
/-! ### more facts by one Bool each -/
/-- an exception class over ValueError -/
def oexB (K : PySem.W.Frag) (C : Addr) : Bool := (match K.lookup C with
  | some ⟨.type c, _, .cls cd, sl⟩ => (match cd.mro, sl.toList with
    | .ref C' :: bm, [_, _, _, _, some (.builtin n), _] => decide (c = "type") && (decide (C' = C) && (decide (n = "ValueError.__new__") && (!cd.hasDel && (cd.hasDict && PySem.HandSPX.refsVE bm))))
    | _, _ => false)
  | _ => false) && (He.eqO (PySem.W.findIn K (.ref C) "__setattr__") (some (some (.builtin "object.__setattr__"))) && (decide (PySem.W.subIn K (.ref C) (.type "BaseException") = some true) && (decide (PySem.W.typeIn K (.ref C) = some (.type "type")) && PySem.W.keepIn K (.ref C))))
theorem oexB_ok {K : PySem.W.Frag} {C : Addr} (h : oexB K C = true) : OexC K C := by
  obtain ⟨h0, h1⟩ := He.ba h
  obtain ⟨h1, h2⟩ := He.ba h1
  obtain ⟨h2, h3⟩ := He.ba h2
  obtain ⟨h3, h4⟩ := He.ba h3
  refine ⟨?_, He.eqO_ok h1, of_decide_eq_true h2, of_decide_eq_true h3, h4⟩
  cases q : K.lookup C with
  | none => rw [q] at h0; cases h0
  | some o =>
    obtain ⟨oc, od, dt, sl⟩ := o
    rw [q] at h0
    cases oc with
    | type c =>
      cases dt with
      | cls cd =>
        simp only at h0
        split at h0
        · rename_i C' bm k0 k1 k2 k3 n k5 hm hs
          obtain ⟨g1, h0⟩ := He.ba h0
          obtain ⟨g2, h0⟩ := He.ba h0
          obtain ⟨g3, h0⟩ := He.ba h0
          obtain ⟨g4, h0⟩ := He.ba h0
          obtain ⟨g5, g6⟩ := He.ba h0
          obtain ⟨nm, bs, mro, ns, qn, hd, sn, sub, ab, col, del⟩ := cd
          dsimp only at hm g4 g5
          have e1 := of_decide_eq_true g1
          have e2 := of_decide_eq_true g2
          have e3 := of_decide_eq_true g3
          have e4 : del = false := by cases del <;> first | rfl | cases g4
          subst e1 e2 e3 e4 hm
          have e5 : hd = true := g5
          subst e5
          have hsl : sl = #[k0, k1, k2, k3, some (.builtin "ValueError.__new__"), k5] := by
            obtain ⟨l⟩ := sl
            simp only at hs
            rw [hs]
          subst hsl
          exact ⟨nm, qn, ns, bs, bm, sn, sub, ab, col, od, k0, k1, k2, k3, k5, rfl, g6⟩
        · cases h0
      | _ => cases h0
    | _ => cases dt <;> cases h0
/-- isinstance of a class's instances -/
def tyB (K : PySem.W.Frag) (C : Addr) : Bool := He.eqO (PySem.W.findIn K (.ref C) "__class__") (some (some (.builtin "object.__class__"))) && (He.eqO (PySem.W.specialIn K (.builtin "object.__class__") "__get__") (some (some (.builtin "getset_descriptor.__get__"))) && (decide (PySem.W.takesIn K (.builtin "object.__class__") = some true) && (decide (PySem.W.mroIn K C (.type "object") = some true) && (PySem.W.clsIn K C).isSome)))
theorem tyB_ok {K : PySem.W.Frag} {C : Addr} (h : tyB K C = true) : PySem.W.findIn K (.ref C) "__class__" = some (some (.builtin "object.__class__")) ∧ PySem.W.specialIn K (.builtin "object.__class__") "__get__" = some (some (.builtin "getset_descriptor.__get__")) ∧ PySem.W.takesIn K (.builtin "object.__class__") = some true ∧ PySem.W.mroIn K C (.type "object") = some true ∧ (PySem.W.clsIn K C).isSome = true := by
  obtain ⟨h1, h⟩ := He.ba h
  obtain ⟨h2, h⟩ := He.ba h
  obtain ⟨h3, h⟩ := He.ba h
  obtain ⟨h4, h5⟩ := He.ba h
  exact ⟨He.eqO_ok h1, He.eqO_ok h2, of_decide_eq_true h3, of_decide_eq_true h4, h5⟩
def xiB (K : PySem.W.Frag) (C : Addr) : Bool := xfB K C && tyB K C
theorem xiB_ok {K : PySem.W.Frag} {C : Addr} (h : xiB K C = true) : XiC K C := by
  obtain ⟨h1, h2⟩ := He.ba h
  obtain ⟨a1, a2, a3, a4, a5⟩ := tyB_ok h2
  exact ⟨xfB_ok h1, a5, a1, a2, a3, a4⟩
end Z
namespace Z
open PySem PySem.Spec PyProof.Rows L2
/-! ### the row's data; what is known of a text follows from its checks -/
inductive Fz where
  | fa (f : He.Fa) | oex (x : Str) | xi (x : Str) | xf (x : Str) | ty (x : Str) | kit (a b : String ⊕ Str) (r : Bool) | fnn (p : He.Defn) | ndT (ps : List He.Defn)
def sv (K : PySem.W.Frag) : String ⊕ Str → Value
  | .inl n => .type n
  | .inr x => .ref (He.ga K x)
def Fz.ok (K : PySem.W.Frag) : Fz → Bool
  | .fa f => f.ok K
  | .oex x => oexB K (He.ga K x)
  | .xi x => xiB K (He.ga K x)
  | .xf x => xfB K (He.ga K x)
  | .ty x => tyB K (He.ga K x)
  | .kit a b r => decide (PySem.W.kitOne K (sv K a) (sv K b) = some r)
  | .ndT ps => decide ((ps.map fun p => (He.cT K p).2).Nodup)
  | .fnn p => decide (PySem.W.typeIn K (.ref (He.fAd K p)) = some (.type "function"))
structure ExI where
  c : Nat
  qual : Str
  st : Stmt
structure TolI where
  st : Stmt
  fnd : Str
  en : Str
  a : Str
  N : List Str
  jf : Nat
  ie : Nat
  ps : Nat → Pos
  k1 : Nat
  k2 : Nat
structure RowD where
  T : Tab
  defs : List DefS
  ecs : List Nat
  ats : List He.Defn
  pick : Nat
  exi : List ExI
  tols : List TolI
  isaL : List (Tg × Tg × Bool)
  exmL : List (Nat × Nat × Bool)
  ocs : List Nat
  oxs : List Nat
  /-- where there are lambdas -/
  lms : List (He.Defn × Str)
def tgS (T : Tab) : Tg → String ⊕ Str
  | .t n => .inl n
  | .c k => .inr (T.cnm k)
def isaF (l : List (Tg × Tg × Bool)) (a b : Tg) : Option Bool := (l.find? fun p => decide (p.1 = a) && decide (p.2.1 = b)).map (·.2.2)
def exmF (l : List (Nat × Nat × Bool)) (a b : Nat) : Option Bool := (l.find? fun p => Nat.beq p.1 a && Nat.beq p.2.1 b).map (·.2.2)
def lamQ (q : Str) : Str := (q ++ ".<locals>.") ++ ("<lambda>" : Str)
namespace RowD
variable (R : RowD)
def at_ (f : Nat) : He.Defn := R.ats.getD f (Str.empty, none)
def G (K : PySem.W.Frag) : Gx where
  K := K
  cad := fun c => He.ga K (R.T.cnm c)
  fad := fun f => He.fAd K (R.at_ f)
  cfs := R.T.cfs
  r1 := 0
  r2 := 0
  T := R.lms.map fun p => ((He.cT K p.1).2, lamQ p.2)
  isa := isaF R.isaL
  oc := fun c => R.ocs.contains c
  ox := fun c => R.oxs.contains c
  exm := exmF R.exmL
def pr : Prims := fun f => if Nat.beq f R.pick then some (fun _ => pickM) else none
def bis : List Bi := [.len, .list, .tuple, .all, .any, .sum, .abs, .max, .min, .int, .sorted, .isi, .str]
def tys : List Ty := [.list, .tuple, .dict, .int, .str, .bool, .ve, .ke]
def rgs : List Str := ["range", "enumerate", "zip"]
def frees : List Str := (bis.map fun b => Str.ofString b.nm) ++ ((tys.map fun t => Str.ofString t.nm) ++ rgs)
def madeL : List Nat := (List.range R.T.cls.length).filter fun c => ((R.T.made[c]?).join).isSome
def fGlo (xs : List Str) : List Fz := xs.map fun x => .fa (.glo x)
def fMade (c : Nat) : List Fz := .fa (.cls (R.T.cnm c)) :: .fa (.mkr (R.T.cnm c)) :: (R.T.cfs c).map fun f => .fa (.noat (R.T.cnm c) f)
def fMth (m : Nat × Str × Nat) : List Fz := [.fa (.cls (R.T.cnm m.1)), .fa (.meth (R.T.cnm m.1) m.2.1)]
def f0 (c : Nat) : Str := (R.T.cfs c).getD 0 Str.empty
def fEcs (c : Nat) : List Fz := [.oex (R.T.cnm c), .fa (.meth (R.T.cnm c) "__init__"), .fa (.noat (R.T.cnm c) (R.f0 c)), .fnn (R.T.cnm c, some "__init__")]
def fXcs (c : Nat) : List Fz := [.xf (R.T.cnm c), .fa (.noat (R.T.cnm c) (R.f0 c))]
def fCl (r : ClE) : List Fz := [.fa (.glo r.nm), .xf (R.T.cnm r.c), .fa (.noat (R.T.cnm r.c) r.f)]
def fOcs (c : Nat) : List Fz := [.ty (R.T.cnm c), .fa (.cls (R.T.cnm c))]
def fKit (p : Tg × Tg × Bool) : Fz := .kit (tgS R.T p.1) (tgS R.T p.2.1) p.2.2
def fExm (p : Nat × Nat × Bool) : Fz := .fa (.exm (R.T.cnm p.1) (R.T.cnm p.2.1) p.2.2)
def factsL : List (List Fz) := [fGlo ((R.T.fns.take R.T.ng).map (·.1)), fGlo (R.T.cls.map (·.1)), R.T.txs.map (fun p => .fa (.str p.1 p.2)), frees.map (fun x => .fa (.free x)),
  R.madeL.flatMap R.fMade, R.T.mth.flatMap R.fMth, R.ecs.flatMap R.fEcs, R.T.xcs.flatMap R.fXcs, R.T.tol.flatMap (fun t => t.2.2.flatMap R.fCl), fGlo (R.T.tol.map (·.1)), R.ocs.flatMap R.fOcs, R.oxs.map (fun c => .xi (R.T.cnm c)), R.isaL.map R.fKit, R.exmL.map R.fExm, [.ndT (R.lms.map (·.1))]]
def facts : List Fz := R.factsL.flatten
def mkD (p : He.Defn) (name qual : Str) (st : Stmt) : He.DefD := ⟨p, name, qual, defArgs st, defBody st, defScope st, [], []⟩
def fns : List He.DefD := (R.defs.zip R.ats).map (fun p => mkD p.2 p.1.x p.1.qual p.1.st) ++ (R.exi.map (fun e => mkD (R.T.cnm e.c, some "__init__") "__init__" e.qual e.st) ++ ((R.T.tol.zip R.tols).map (fun p => mkD (p.1.1, none) p.1.1 p.1.1 p.2.st)))
/-- a def's statement: where it stands -/
def defnB (a b : He.Defn) : Bool := strB a.1 b.1 && (match a.2, b.2 with | none, none => true | some x, some y => strB x y | _, _ => false)
def excP : List Stmt → Option (Str × Str × Str × Pos × Pos × Pos × Pos)
  | [.Assign [.Attribute (.Name n0 p1) f p2] (.Name n1 p3) p4] => some (n0, n1, f, p1, p2, p3, p4)
  | _ => none
def exB (e : ExI) : Bool := match excP (defBody e.st) with
  | some (n0, n1, f, _) => strB n1 f && (strsB (R.T.cfs e.c) [f] && (argB (defArgs e.st) [n0, n1] 2 && (fscB [n0, n1] [n0, n1] (defScope e.st) && dbgB [n0, n1])))
  | none => false
def cOk (p : Prop) [Decidable p] : Bool := decide p
def okF (f : Nat) : Bool := if Nat.beq f R.pick then Nat.beq (R.T.ar f) 2 && !R.T.fr f else match R.defs[f]? with
  | some d => d.ini.isNone && d.ok R.T R.ecs (R.T.fr f) (R.T.ar f)
  | none => false
def okM (c : Nat) : Bool := !Nat.beq (R.T.mkf c) R.pick && (defnB (R.at_ (R.T.mkf c)) (R.T.cnm c, some "__init__") && (match R.defs[R.T.mkf c]? with
  | some d => (match d.ini with | some c' => Nat.beq c' c | none => false) && d.ok R.T R.ecs false (R.T.mka c)
  | none => false))
def chk1 : Bool := (decide (R.T.ng ≤ R.T.fns.length) && decide (R.T.made.length ≤ R.T.cls.length)) && (decide (R.T.fns.length ≤ R.defs.length) && (decide (R.defs.length = R.ats.length) && (decide (R.pick < R.T.fns.length) && ((List.range R.T.ng).all (fun f => defnB (R.at_ f) (R.T.fnm f, none) && !strB (R.T.fnm f) "__debug__") &&
  ((List.range R.T.cls.length).all (fun c => !strB (R.T.cnm c) "__debug__" && nodupB (R.T.cfs c)) && R.T.txs.all (fun p => sOk p.2 && !strB p.1 "__debug__"))))))
def chk2 : Bool := (List.range R.T.mth.length).all (fun m => decide (R.T.mc m < R.T.cls.length) && (defnB (R.at_ (R.T.mf m)) (R.T.cnm (R.T.mc m), some (R.T.mn m)) && !((R.T.cfs (R.T.mc m)).any (fun x => strB x (R.T.mn m))))) && (R.madeL.all R.okM && (List.range R.T.fns.length).all R.okF)
def chk3 : Bool := (List.range R.T.tol.length).all (fun t => sOk (R.T.tt t) && (!strB (R.T.tn t) "__debug__" && ((R.T.tc t).all fun r => sOk r.a && (sOk r.b && (strsB (R.T.cfs r.c) [r.f] && (strB r.nm (R.T.cnm r.c) && !strB r.nm "__debug__")))))) &&
  (R.T.xcs.all (fun c => R.ecs.contains c && Nat.beq (R.T.cfs c).length 1) && (R.ecs.all (fun q => decide (q < R.T.cls.length) && R.exi.any (fun e => Nat.beq e.c q && R.exB e)) && ((List.range R.T.kws.length).all (fun m => decide (R.T.kf m < R.T.fns.length) && (!Nat.beq (R.T.kf m) R.pick && Nat.beq (R.T.ko m).length (R.T.ar (R.T.kf m)))) &&
  (List.range R.defs.length).all (fun f => match R.defs[f]? with | some d => !d.lm || R.lms.any (fun p => defnB p.1 (R.at_ f) && strB p.2 d.qual) | none => true))))
theorem defnB_ok {a b : He.Defn} (h : defnB a b = true) : a = b := by
  obtain ⟨h1, h2⟩ := ba h
  obtain ⟨a1, a2⟩ := a
  obtain ⟨b1, b2⟩ := b
  have e1 : a1 = b1 := strB_iff.mp h1
  subst e1
  cases a2 with
  | none => cases b2 with
    | none => rfl
    | some y => cases h2
  | some x => cases b2 with
    | none => cases h2
    | some y => rw [show x = y from strB_iff.mp h2]
theorem excP_ok {b : List Stmt} {n0 n1 f : Str} {p1 p2 p3 p4 : Pos} (h : excP b = some (n0, n1, f, p1, p2, p3, p4)) : b = excBody n0 n1 f p1 p2 p3 p4 := by
  unfold excP at h
  split at h
  · cases h; rfl
  · cases h
theorem rangeB {n : Nat} {q : Nat → Bool} (h : (List.range n).all q = true) {i : Nat} (hi : i < n) : q i = true := List.all_eq_true.mp h i (List.mem_range.mpr hi)
end RowD
theorem dbgN {x : Str} (h : (!strB x "__debug__") = true) : (x == ("__debug__" : Str)) = false := by
  have : x ≠ ("__debug__" : Str) := fun z => by rw [strB_iff.mpr z] at h; cases h
  simpa using this
/-- a def by the head's fact -/
theorem fun_of {K : PySem.W.Frag} {p : He.Defn} {name qual : Str} {st : Stmt} {fd : FuncData} (F : FunD K (RowD.mkD p name qual st).name (RowD.mkD p name qual st).qual (RowD.mkD p name qual st).params (RowD.mkD p name qual st).body (RowD.mkD p name qual st).scope ((RowD.mkD p name qual st).dvs K) ((RowD.mkD p name qual st).kws K) (He.fAd K p) fd) : L2.Fun K name qual st (He.fAd K p) fd := by
  obtain ⟨oc, od, dV, kV, doc, pm, an, cdv, ct, osl, h1, h2, h3, h4, h5⟩ := F.ex
  rcases h4 with ⟨_, rfl⟩ | ⟨z, _⟩
  · exact ⟨⟨oc, od, kV, doc, pm, an, cdv, ct, osl, h1, h2, h3⟩, F.kp⟩
  · exact absurd rfl z
end Z
namespace Z
open PySem PySem.Spec PyProof.Rows L2
section
variable {P : Program} {w : World} {mg : Str → Option Value} {base h : Heap} {K : PySem.W.Frag} {R : RowD}
theorem lam_of {d : DefS} {fd : FuncData} {cc : Addr} {p : He.Defn} {r1 r2 : Addr} (hL : ∀ p ∈ R.lms, LamX.TabB base mg (He.cT K p.1).1 (He.cT K p.1).2) (hnd : (Fz.ndT (R.lms.map (·.1))).ok K = true) (F : FunC K d.x d.qual d.st (He.fAd K p) fd cc) (hm : (p, d.qual) ∈ R.lms) :
    LamC ((R.G K).at r1 r2) mg base cc d.qual := by
  obtain ⟨oc, od, kV, doc, pm, an, ct, osl, e1, lk, hcd⟩ := F.ex
  have ec : He.codeOf K p = cc := He.codeOf_eq lk (by rw [e1] <;> rfl)
  have h1 : LamX.TabB base mg (He.codeOf K p) (He.cT K p).2 := hL _ hm
  rw [ec] at h1
  refine ⟨(He.cT K p).2, h1, List.mem_map.mpr ⟨_, hm, rfl⟩, fun q hq he => ?_⟩
  obtain ⟨q', hq', rfl⟩ := List.mem_map.mp hq
  have nd : (R.lms.map fun z => (He.cT K z.1).2).Nodup := by
    have := of_decide_eq_true hnd
    rwa [List.map_map] at this
  have he : (He.cT K q'.1).2 = (He.cT K p).2 := he
  have : q' = (p, d.qual) := by
    obtain ⟨i, hi, ei⟩ := List.getElem_of_mem hq'
    obtain ⟨j, hj, ej⟩ := List.getElem_of_mem hm
    have e3 : (R.lms.map fun z => (He.cT K z.1).2)[i]'(by rw [List.length_map]; exact hi) = (R.lms.map fun z => (He.cT K z.1).2)[j]'(by rw [List.length_map]; exact hj) := by
      rw [List.getElem_map, List.getElem_map, ei, ej]
      exact he
    have e4 := (List.getElem_inj nd).mp e3
    subst e4
    rw [← ei, ej]
  rw [this]
  rfl
theorem fact_in {l : List Fz} {f : Fz} (hf : ∀ f ∈ R.facts, f.ok K = true) (hl : l ∈ R.factsL) (h : f ∈ l) : f.ok K = true := hf f (List.mem_flatten.mpr ⟨l, hl, h⟩)
theorem txt_of (X : K.In h) (N : h.Ns mainGlobals mg) (hf : ∀ f ∈ R.facts, f.ok K = true)
    (hd : ∀ d ∈ R.fns, ∃ fd, FunD K d.name d.qual d.params d.body d.scope (d.dvs K) (d.kws K) (He.fAd K d.at_) fd)
    (c1 : R.chk1 = true) (c2 : R.chk2 = true) (c3 : R.chk3 = true) (hb : ∀ (f : Nat) (d : DefS), R.defs[f]? = some d → defBody d.st = d.body.ex R.T d.N)
    {Ps : Nat → Pos} {ks : Nat → Nat} (hp : ∀ d : DefS, R.defs[R.pick]? = some d → defBody d.st = pickB Ps ks ∧ pickScB (defScope d.st) = true ∧ argB (defArgs d.st) ["state", "many"] 2 = true ∧ ((Ps 25).endLine == (Ps 27).line) = true)
    (hk : ∀ m, m < R.T.kws.length → ∀ d, R.defs[R.T.kf m]? = some d → KwS d.x d.qual d.st (d.N.take d.nps) (R.T.kn m) (R.T.ko m))
    (ht : ∀ t, t < R.T.tol.length → TolS (R.G K) mg (R.T.tn t) (R.T.tt t) (R.T.tc t))
    (hL : ∀ p ∈ R.lms, LamX.TabB base mg (He.cT K p.1).1 (He.cT K p.1).2) (r1 r2 : Addr) : Txt P w mg base ((R.G K).at r1 r2) R.T R.defs R.pr R.ecs := by
  unfold RowD.chk1 at c1
  unfold RowD.chk2 at c2
  unfold RowD.chk3 at c3
  obtain ⟨a1, c1⟩ := ba c1
  obtain ⟨a2, c1⟩ := ba c1
  obtain ⟨a3, c1⟩ := ba c1
  obtain ⟨a4, c1⟩ := ba c1
  obtain ⟨a5, c1⟩ := ba c1
  obtain ⟨a6, a7⟩ := ba c1
  obtain ⟨b1, c2⟩ := ba c2
  obtain ⟨b2, b3⟩ := ba c2
  obtain ⟨d1, c3⟩ := ba c3
  obtain ⟨d2, c3⟩ := ba c3
  obtain ⟨d3, c3⟩ := ba c3
  obtain ⟨d4, d5⟩ := ba c3
  obtain ⟨a1, a8⟩ := ba a1
  have a1 := of_decide_eq_true a1
  have a8 := of_decide_eq_true a8
  have made0 : ∀ c, ((R.T.made[c]?).join).isSome = true → ¬ c < R.T.cls.length → False := fun c hc hl => by
    rw [List.getElem?_eq_none (by omega)] at hc
    cases hc
  have a2 := of_decide_eq_true a2
  have a3 := of_decide_eq_true a3
  have a4 := of_decide_eq_true a4
  have glo : ∀ {x : Str}, (Fz.fa (.glo x)).ok K = true → mg x = some (.ref (He.ga K x)) := fun h => He.glo_ok X N h
  have free : ∀ x ∈ RowD.frees, mg x = none := fun x hx => He.free_ok X N (fact_in (f := .fa (.free x)) hf (l := RowD.frees.map fun x => .fa (.free x)) (by simp [RowD.factsL]) (List.mem_map.mpr ⟨x, hx, rfl⟩))
  have cnmg : ∀ c, c < R.T.cls.length → mg (R.T.cnm c) = some (.ref (He.ga K (R.T.cnm c))) := fun c hc => by
    refine glo (fact_in hf (l := RowD.fGlo (R.T.cls.map (·.1))) (by simp [RowD.factsL]) (List.mem_map.mpr ⟨R.T.cnm c, List.mem_map.mpr ⟨R.T.cls[c], List.getElem_mem hc, ?_⟩, rfl⟩))
    unfold Tab.cnm
    rw [List.getElem?_eq_getElem hc]; rfl
  have fnmg : ∀ f, f < R.T.ng → mg (R.T.fnm f) = some (.ref (He.ga K (R.T.fnm f))) := fun f hfl => by
    have hl : f < R.T.fns.length := Nat.lt_of_lt_of_le hfl a1
    refine glo (fact_in hf (l := RowD.fGlo ((R.T.fns.take R.T.ng).map (·.1))) (by simp [RowD.factsL]) (List.mem_map.mpr ⟨R.T.fnm f, List.mem_map.mpr ⟨R.T.fns[f], List.mem_take_iff_getElem.mpr ⟨f, by omega, rfl⟩, ?_⟩, rfl⟩))
    unfold Tab.fnm
    rw [List.getElem?_eq_getElem hl]; rfl
  have fadAt : ∀ f, ((R.G K).at r1 r2).fad f = He.fAd K (R.at_ f) := fun _ => rfl
  have cadAt : ∀ c, ((R.G K).at r1 r2).cad c = He.ga K (R.T.cnm c) := fun _ => rfl
  have f0at : ∀ c f, R.T.cfs c = [f] → R.f0 c = f := fun c f e => by unfold RowD.f0; rw [e]; rfl
  have funAt : ∀ f d, R.defs[f]? = some d → ∃ fd, L2.Fun K d.x d.qual d.st (He.fAd K (R.at_ f)) fd := fun f d e => by
    have hl := (List.getElem?_eq_some_iff.mp e).1
    have hl2 : f < R.ats.length := by omega
    have hm : RowD.mkD (R.at_ f) d.x d.qual d.st ∈ R.fns := by
      unfold RowD.fns
      refine List.mem_append_left _ (List.mem_map.mpr ⟨(d, R.at_ f), ?_, rfl⟩)
      refine List.mem_of_getElem? (i := f) ?_
      rw [List.getElem?_zip_eq_some]
      refine ⟨e, ?_⟩
      unfold RowD.at_
      rw [List.getD_eq_getElem?_getD, List.getElem?_eq_getElem hl2]; rfl
    obtain ⟨fd, F⟩ := hd _ hm
    exact ⟨fd, fun_of F⟩
  have prN : ∀ f, f ≠ R.pick → R.pr f = none := fun f hne => by
    unfold RowD.pr
    rw [if_neg]
    intro z
    exact hne (Nat.eq_of_beq_eq_true z)
  have prP : R.pr R.pick = some fun _ => pickM := by
    unfold RowD.pr
    rw [if_pos (Nat.beq_refl _)]
  have prI : ∀ {f m}, R.pr f = some m → f = R.pick := fun {f m} e => by
    by_cases z : f = R.pick
    · exact z
    · rw [prN f z] at e; cases e
  have bne : ∀ {a b : Nat}, (!Nat.beq a b) = true → a ≠ b := fun {a b} h z => by
    subst z
    rw [Nat.beq_refl] at h
    cases h
  have hlen : R.pick < R.defs.length := Nat.lt_of_lt_of_le a4 a2
  have pd : R.defs[R.pick]? = some R.defs[R.pick] := List.getElem?_eq_getElem hlen
  obtain ⟨p1, p2, p3, p4⟩ := hp _ pd
  obtain ⟨pfd, pF⟩ := funAt _ _ pd
  have pk2 := RowD.rangeB b3 a4
  unfold RowD.okF at pk2
  rw [if_pos (Nat.beq_refl _)] at pk2
  obtain ⟨pk3, pk4⟩ := ba pk2
  have par : R.T.ar R.pick = 2 := Nat.eq_of_beq_eq_true pk3
  have pfr : R.T.fr R.pick = false := nb pk4
  have frn : ∀ b : Bi, Str.ofString b.nm ∈ RowD.frees := fun b => List.mem_append_left _ (List.mem_map.mpr ⟨b, by cases b <;> simp [RowD.bis], rfl⟩)
  have frt : ∀ t : Ty, Str.ofString t.nm ∈ RowD.frees := fun t => List.mem_append_right _ (List.mem_append_left _ (List.mem_map.mpr ⟨t, by cases t <;> simp [RowD.tys], rfl⟩))
  have frr : ∀ x ∈ RowD.rgs, x ∈ RowD.frees := fun x hx => List.mem_append_right _ (List.mem_append_right _ hx)
  have madeM : ∀ c, ((R.T.made[c]?).join).isSome = true → c < R.T.cls.length → c ∈ R.madeL := fun c hc hl => List.mem_filter.mpr ⟨List.mem_range.mpr hl, hc⟩
  refine { isa := ⟨fun a b r e => ?_, fun a b r e => ?_, fun c hc H a dx fs hH => ?_, fun c hc => ?_⟩, mgf := fun f hfl => ⟨?_, Nat.lt_of_lt_of_le hfl a1, ?_⟩, mgc := fun c hc => ⟨cnmg c hc, ?_⟩, mgs := fun s hs => ?_, mgb := fun b => free _ (frn b), mgt := fun t => free _ (frt t), mgr := ⟨free _ (frr _ (by simp [RowD.rgs])), free _ (frr _ (by simp [RowD.rgs])), free _ (frr _ (by simp [RowD.rgs]))⟩, cfs := fun c => rfl, nd := fun c => ?_, cls := fun c hc => ?_, mth := fun m hm => ?_, tol := fun t htl => ?_, exc := fun q hq => ?_, xcs := fun c hc => ?_, «fun_» := fun f d e => ?_, body := hb, all := fun f hfl => ?_, prim0 := fun f m e hfl => ?_, prim := fun f m n e hfl L => ?_, made := fun c hc => ?_, kws := fun m hm => ?_ }
  · -- exm
    have e : exmF R.exmL a b = some r := e
    unfold exmF at e
    cases q : R.exmL.find? fun p => Nat.beq p.1 a && Nat.beq p.2.1 b with
    | none => rw [q] at e; cases e
    | some p =>
      rw [q] at e
      cases e
      have q1 := List.find?_some q
      obtain ⟨q2, q3⟩ := ba q1
      have q2 := Nat.eq_of_beq_eq_true q2
      have q3 := Nat.eq_of_beq_eq_true q3
      subst q2 q3
      exact He.exm_ok (fact_in (f := R.fExm p) hf (l := R.exmL.map R.fExm) (by simp [RowD.factsL]) (List.mem_map.mpr ⟨p, List.mem_of_find?_eq_some q, rfl⟩))
  · -- isa
    have e : isaF R.isaL a b = some r := e
    unfold isaF at e
    cases q : R.isaL.find? fun p => decide (p.1 = a) && decide (p.2.1 = b) with
    | none => rw [q] at e; cases e
    | some p =>
      rw [q] at e
      cases e
      have q1 := List.find?_some q
      obtain ⟨q2, q3⟩ := ba q1
      have q2 := of_decide_eq_true q2
      have q3 := of_decide_eq_true q3
      subst q2 q3
      have z : decide (PySem.W.kitOne K (sv K (tgS R.T p.1)) (sv K (tgS R.T p.2.1)) = some p.2.2) = true := fact_in (f := R.fKit p) hf (l := R.isaL.map R.fKit) (by simp [RowD.factsL]) (List.mem_map.mpr ⟨p, List.mem_of_find?_eq_some q, rfl⟩)
      have z := of_decide_eq_true z
      have ev : ∀ t : Tg, sv K (tgS R.T t) = tgV ((R.G K).at r1 r2) t := fun t => by cases t <;> rfl
      rw [ev, ev] at z
      exact z
  · -- oc
    have hc : R.ocs.contains c = true := hc
    have hm := List.contains_iff_mem.mp hc
    obtain ⟨t1, t2, t3, t4, _⟩ := tyB_ok (show tyB K (He.ga K (R.T.cnm c)) = true from fact_in (f := .ty (R.T.cnm c)) hf (l := R.ocs.flatMap R.fOcs) (by simp [RowD.factsL]) (List.mem_flatMap.mpr ⟨c, hm, by simp [RowD.fOcs]⟩))
    have cl := He.cls_ok (K := K) (x := R.T.cnm c) (fact_in (f := .fa (.cls (R.T.cnm c))) hf (l := R.ocs.flatMap R.fOcs) (by simp [RowD.factsL]) (List.mem_flatMap.mpr ⟨c, hm, by simp [RowD.fOcs]⟩))
    exact .base (.ins hH cl t1 t2 t3 t4)
  · have hc : R.oxs.contains c = true := hc
    exact xiB_ok (show xiB K (He.ga K (R.T.cnm c)) = true from fact_in (f := .xi (R.T.cnm c)) hf (l := R.oxs.map fun c => .xi (R.T.cnm c)) (by simp [RowD.factsL]) (List.mem_map.mpr ⟨c, List.contains_iff_mem.mp hc, rfl⟩))
  · obtain ⟨z, _⟩ := ba (RowD.rangeB a5 hfl)
    rw [fadAt, RowD.defnB_ok z]
    exact fnmg f hfl
  · exact dbgN (ba (RowD.rangeB a5 hfl)).2
  · exact dbgN (ba (RowD.rangeB a6 hc)).1
  · have hm : R.T.txs[s] ∈ R.T.txs := List.getElem_mem hs
    have e1 : R.T.snm s = (R.T.txs[s]).1 := by unfold Tab.snm; rw [List.getElem?_eq_getElem hs]; rfl
    have e2 : R.T.sval s = (R.T.txs[s]).2 := by unfold Tab.sval; rw [List.getElem?_eq_getElem hs]; rfl
    obtain ⟨z1, z2⟩ := ba (List.all_eq_true.mp a7 _ hm)
    rw [e1, e2]
    exact ⟨He.str_ok X N (fact_in (f := .fa (.str (R.T.txs[s]).1 (R.T.txs[s]).2)) hf (l := R.T.txs.map fun p => .fa (.str p.1 p.2)) (by simp [RowD.factsL]) (List.mem_map.mpr ⟨_, hm, rfl⟩)), z1, dbgN z2⟩
  · by_cases hc : c < R.T.cls.length
    · exact nodupB_ok (ba (RowD.rangeB a6 hc)).2
    · have : R.T.cfs c = [] := by unfold Tab.cfs; rw [List.getElem?_eq_none (by omega)]; rfl
      rw [this]
      exact List.nodup_nil
  · by_cases hl : c < R.T.cls.length
    · have hm := madeM c hc hl
      refine ⟨He.cls_ok (K := K) (x := R.T.cnm c) (fact_in (f := .fa (.cls (R.T.cnm c))) hf (l := R.madeL.flatMap R.fMade) (by simp [RowD.factsL]) (List.mem_flatMap.mpr ⟨c, hm, by simp [RowD.fMade]⟩)), fun f hfm => ?_⟩
      exact He.noat_ok (K := K) (x := R.T.cnm c) (f := f) (fact_in (f := .fa (.noat (R.T.cnm c) f)) hf (l := R.madeL.flatMap R.fMade) (by simp [RowD.factsL]) (List.mem_flatMap.mpr ⟨c, hm, by
        simp only [RowD.fMade, List.mem_cons, List.mem_map]
        exact .inr (.inr ⟨f, hfm, rfl⟩)⟩))
    · exact (made0 c hc hl).elim
  · obtain ⟨z0, z⟩ := ba (RowD.rangeB b1 hm)
    obtain ⟨z1, z2⟩ := ba z
    have hmm : (R.T.mth[m]) ∈ R.T.mth := List.getElem_mem hm
    have e1 : R.T.mc m = (R.T.mth[m]).1 := by unfold Tab.mc; rw [List.getElem?_eq_getElem hm]; rfl
    have e2 : R.T.mn m = (R.T.mth[m]).2.1 := by unfold Tab.mn; rw [List.getElem?_eq_getElem hm]; rfl
    have cl := He.cls_ok (K := K) (x := R.T.cnm (R.T.mc m)) (by
      rw [e1]
      exact fact_in (f := .fa (.cls (R.T.cnm (R.T.mth[m]).1))) hf (l := R.T.mth.flatMap R.fMth) (by simp [RowD.factsL]) (List.mem_flatMap.mpr ⟨_, hmm, by simp [RowD.fMth]⟩))
    have me := He.meth_ok (K := K) (x := R.T.cnm (R.T.mc m)) (m := R.T.mn m) (by
      rw [e1, e2]
      exact fact_in (f := .fa (.meth (R.T.cnm (R.T.mth[m]).1) (R.T.mth[m]).2.1)) hf (l := R.T.mth.flatMap R.fMth) (by simp [RowD.factsL]) (List.mem_flatMap.mpr ⟨_, hmm, by simp [RowD.fMth]⟩))
    refine ⟨cl, ?_, fun hin => ?_⟩
    · rw [fadAt, RowD.defnB_ok z1]
      exact me
    · have := nb z2
      rw [List.any_eq_false] at this
      exact this _ hin (strB_iff.mpr rfl)
  · obtain ⟨z1, z⟩ := ba (RowD.rangeB d1 htl)
    obtain ⟨z2, z3⟩ := ba z
    have each := List.all_eq_true.mp z3
    refine ⟨?_, fun r hr => ?_, z1, fun r hr => ?_, dbgN z2⟩
    · obtain ⟨ex⟩ := ht t htl
      exact ⟨ex⟩
    · obtain ⟨y1, y⟩ := ba (each r hr)
      exact ⟨y1, (ba y).1⟩
    · obtain ⟨y1, y⟩ := ba (each r hr)
      obtain ⟨y2, y⟩ := ba y
      exact strsB_ok (ba y).1
  · -- exceptions
    obtain ⟨z1, z2⟩ := ba (List.all_eq_true.mp d3 q hq)
    obtain ⟨e, he, ze⟩ := List.any_eq_true.mp z2
    obtain ⟨y1, y2⟩ := ba ze
    have y1 := Nat.eq_of_beq_eq_true y1
    subst y1
    unfold RowD.exB at y2
    cases ep : RowD.excP (defBody e.st) with
    | none => rw [ep] at y2; cases y2
    | some v =>
      obtain ⟨n0, n1, f, q1, q2, q3, q4⟩ := v
      rw [ep] at y2
      obtain ⟨x1, y2⟩ := ba y2
      obtain ⟨x2, y2⟩ := ba y2
      obtain ⟨x3, y2⟩ := ba y2
      obtain ⟨x4, x5⟩ := ba y2
      have ecf : R.T.cfs e.c = [f] := strsB_ok x2
      have fl : ∀ g ∈ R.fEcs e.c, g.ok K = true := fun g hg => fact_in hf (l := R.ecs.flatMap R.fEcs) (by simp [RowD.factsL]) (List.mem_flatMap.mpr ⟨_, hq, hg⟩)
      have o1 := oexB_ok (show oexB K (He.ga K (R.T.cnm e.c)) = true from fl (.oex (R.T.cnm e.c)) (by simp [RowD.fEcs]))
      have o2 := He.meth_ok (K := K) (x := R.T.cnm e.c) (m := "__init__") (fl (.fa (.meth (R.T.cnm e.c) "__init__")) (by simp [RowD.fEcs]))
      have o3 := He.noat_ok (K := K) (x := R.T.cnm e.c) (f := R.f0 e.c) (fl (.fa (.noat (R.T.cnm e.c) (R.f0 e.c))) (by simp [RowD.fEcs]))
      have o4 : PySem.W.typeIn K (.ref (He.fAd K (R.T.cnm e.c, some "__init__"))) = some (.type "function") := of_decide_eq_true (fl (.fnn (R.T.cnm e.c, some "__init__")) (by simp [RowD.fEcs]))
      rw [f0at _ _ ecf] at o3
      have hm : RowD.mkD (R.T.cnm e.c, some "__init__") "__init__" e.qual e.st ∈ R.fns := by
        unfold RowD.fns
        exact List.mem_append_right _ (List.mem_append_left _ (List.mem_map.mpr ⟨e, he, rfl⟩))
      obtain ⟨fd, F⟩ := hd _ hm
      exact exF_of (G := (R.G K).at r1 r2) (fun_of F) o1 o2.at_ o4 ecf o3 (RowD.excP_ok ep) x3 x4 x5 (strB_iff.mp x1)
  · obtain ⟨z1, z2⟩ := ba (List.all_eq_true.mp d2 c hc)
    have fl : ∀ g ∈ R.fXcs c, g.ok K = true := fun g hg => fact_in hf (l := R.T.xcs.flatMap R.fXcs) (by simp [RowD.factsL]) (List.mem_flatMap.mpr ⟨_, hc, hg⟩)
    refine ⟨List.contains_iff_mem.mp z1, xfB_ok (show xfB K (He.ga K (R.T.cnm c)) = true from fl (.xf (R.T.cnm c)) (by simp [RowD.fXcs])), fun f ef => ?_⟩
    have o3 := He.noat_ok (K := K) (x := R.T.cnm c) (f := R.f0 c) (fl (.fa (.noat (R.T.cnm c) (R.f0 c))) (by simp [RowD.fXcs]))
    rw [f0at c f ef] at o3
    exact o3
  · obtain ⟨fd, F⟩ := funAt f d e
    obtain ⟨cc, F⟩ := FunC.of F
    refine ⟨fd, cc, F, fun hlm => ?_⟩
    have hl := (List.getElem?_eq_some_iff.mp e).1
    have z := RowD.rangeB d5 hl
    rw [e] at z
    simp only [hlm, Bool.not_true, Bool.false_or] at z
    obtain ⟨p, hpm, zp⟩ := List.any_eq_true.mp z
    obtain ⟨y1, y2⟩ := ba zp
    have ep : p = (R.at_ f, d.qual) := Prod.ext (RowD.defnB_ok y1) (strB_iff.mp y2)
    rw [ep] at hpm
    exact lam_of hL (fact_in (f := .ndT (R.lms.map (·.1))) hf (l := [.ndT (R.lms.map (·.1))]) (by simp [RowD.factsL]) (List.mem_singleton.mpr rfl)) F hpm
  · by_cases z : f = R.pick
    · exact .inl ⟨_, by rw [z]; exact prP⟩
    · refine .inr ⟨prN f z, ?_⟩
      have y := RowD.rangeB b3 hfl
      unfold RowD.okF at y
      rw [if_neg (fun q => z (Nat.eq_of_beq_eq_true q))] at y
      cases ed : R.defs[f]? with
      | none => rw [ed] at y; cases y
      | some d =>
        rw [ed] at y
        obtain ⟨y1, y2⟩ := ba y
        refine ⟨d, rfl, ?_, y2⟩
        cases ei : d.ini with
        | none => rfl
        | some c => rw [ei] at y1; cases y1
  · cases prI e
    rw [par]
    exact pick_prim0 (G := (R.G K).at r1 r2) pF p3
  · have z := prI e
    subst z
    rw [prP] at e
    rw [par, pfr]
    exact pick_prim (G := (R.G K).at r1 r2) pF p1 p2 p3 (free _ (frn .abs)) (free _ (frn .int)) p4 prP
  · by_cases hl : c < R.T.cls.length
    · have y := List.all_eq_true.mp b2 c (madeM c hc hl)
      unfold RowD.okM at y
      obtain ⟨y1, y⟩ := ba y
      obtain ⟨y2, y3⟩ := ba y
      have mk := He.mkr_ok (K := K) (x := R.T.cnm c) (fact_in (f := .fa (.mkr (R.T.cnm c))) hf (l := R.madeL.flatMap R.fMade) (by simp [RowD.factsL]) (List.mem_flatMap.mpr ⟨c, madeM c hc hl, by simp [RowD.fMade]⟩))
      refine ⟨prN _ (bne y1), by rw [fadAt, RowD.defnB_ok y2]; exact mk, ?_⟩
      cases ed : R.defs[R.T.mkf c]? with
      | none => rw [ed] at y3; cases y3
      | some d =>
        rw [ed] at y3
        obtain ⟨y4, y5⟩ := ba y3
        refine ⟨d, rfl, ?_, y5⟩
        cases ei : d.ini with
        | none => rw [ei] at y4; cases y4
        | some c' => rw [ei] at y4; rw [Nat.eq_of_beq_eq_true y4]
    · exact (made0 c hc hl).elim
  · obtain ⟨z1, z⟩ := ba (RowD.rangeB d4 hm)
    obtain ⟨z2, z3⟩ := ba z
    exact ⟨of_decide_eq_true z1, prN _ (bne z2), Nat.eq_of_beq_eq_true z3, hk m hm⟩
end
end Z
namespace Z
open PySem PySem.Spec PyProof.Rows L2
/-! ### the row's end -/
def cutE : List Nat → List Fz → List PartZ
  | [], l => [⟨[], [], fun K => l.all fun f => f.ok K, []⟩]
  | n :: ns, l => ⟨[], [], fun K => (l.take n).all fun f => f.ok K, []⟩ :: cutE ns (l.drop n)
theorem cutE_ok {h : Heap} {K : PySem.W.Frag} : ∀ {ns : List Nat} {l : List Fz}, (∀ p ∈ cutE ns l, p.Says h K) → ∀ f ∈ l, f.ok K = true
  | [], l, H, f, hf => List.all_eq_true.mp (H _ (List.mem_singleton.mpr rfl)).more f hf
  | n :: ns, l, H, f, hf => by
    rw [← List.take_append_drop n l] at hf
    rcases List.mem_append.mp hf with hf | hf
    · exact List.all_eq_true.mp (H _ List.mem_cons_self).more f hf
    · exact cutE_ok (fun p hp => H p (List.mem_cons_of_mem _ hp)) f hf
structure LawD extends RowD where
  dl : DefS
  sst : Stmt
  sx : Str
namespace LawD
variable (L : LawD)
def dL : He.DefD := RowD.mkD (L.dl.x, none) L.dl.x L.dl.qual L.dl.st
def dS : He.DefD := RowD.mkD (L.sx, none) L.sx L.sx L.sst
def parts (cuts : List Nat) : List PartZ := cutE cuts (.fa (.glo L.dl.x) :: .fa (.glo L.sx) :: L.facts) ++ [⟨[], L.dL :: L.dS :: L.fns, fun _ => true, L.lms.map (·.1)⟩]
end LawD
open PySem.W PySem.Calls HandSHeadRun in
def RunP (r : OpenRow) (M : Nat) (as : (Addr → Option Obj) → List Addr) (w : World) (p : PartZ) : Prop := ∀ os : OsState, (HandSHeadRun.endF (stepQ (denQ tabQ) r.prog w) M r.prog w os).map (fun s => p.ob (getT s) (He.frT (getT s) (as (getT s)))) = some p.val
def AllP (r : PySem.W.OpenRow) (M : Nat) (as : (Addr → Option Obj) → List Addr) (w : World) : List PartZ → Prop
  | [] => True
  | p :: l => RunP r M as w p ∧ AllP r M as w l
theorem AllP.mem {r : PySem.W.OpenRow} {M : Nat} {as : (Addr → Option Obj) → List Addr} {w : World} : ∀ {l : List PartZ}, AllP r M as w l → ∀ p ∈ l, RunP r M as w p
  | [], _, p, hp => by cases hp
  | q :: l, ⟨h1, h2⟩, p, hp => by
    rcases List.mem_cons.mp hp with e | e
    · rw [e]; exact h1
    · exact AllP.mem h2 p e
/-- the told def, by its facts -/
def tolB (cl : List ClE) (t : TolI) : Bool := argB (defArgs t.st) [t.a] 1 && (fscB t.N [t.a] (defScope t.st) && (dbgB t.N && ((match t.N[0]? with | some x => strB x t.a | none => false) && ((match t.N[t.jf]? with | some x => strB x t.fnd | none => false) && ((match t.N[t.ie]? with | some x => strB x t.en | none => false) && (!Nat.beq t.jf t.ie &&
  ((match lookB (defScope t.st).names t.fnd with | some .local => true | _ => false) && ((match lookB (defScope t.st).names t.en with | some .local => true | _ => false) && (!cl.isEmpty && cl.all fun r => gloK (lookB (defScope t.st).names r.nm))))))))))
section
variable {P : Program} {w : World} {mg : Str → Option Value} {base h : Heap} {K : PySem.W.Frag}
theorem locK {l : List (Str × NameKind)} {x : Str} (h : (match lookB l x with | some .local => true | _ => false) = true) : l.lookup x = some .local := by
  rw [lookB_eq] at h
  cases q : l.lookup x with
  | none => rw [q] at h; cases h
  | some k => rw [q] at h; cases k <;> first | rfl | cases h
theorem nthK {N : List Str} {i : Nat} {x : Str} (h : (match N[i]? with | some y => strB y x | none => false) = true) : N[i]? = some x := by
  cases q : N[i]? with
  | none => rw [q] at h; cases h
  | some y => rw [q] at h; rw [strB_iff.mp h]
theorem tolS_of {G : Gx} {x tw : Str} {cl : List ClE} {t : TolI} {fd : FuncData} (F : L2.Fun G.K x x t.st (He.fAd G.K (x, none)) fd) (gx : mg x = some (.ref (He.fAd G.K (x, none)))) (hb : defBody t.st = tolBody t.fnd t.en t.a tw cl (t.ps 1) (t.ps 2) (t.ps 3) (t.ps 4) (t.ps 5) (t.ps 6) (t.ps 7) (t.ps 8) (t.ps 9) t.k1 t.k2) (hB : tolB cl t = true)
    (hc : ∀ r ∈ cl, mg r.nm = some (.ref (G.cad r.c)) ∧ (r.nm == ("__debug__" : Str)) = false ∧ XfC G.K (G.cad r.c) ∧ PySem.W.findIn G.K (.ref (G.cad r.c)) r.f = some none) : TolS G mg x tw cl := by
  unfold tolB at hB
  obtain ⟨h1, hB⟩ := ba hB
  obtain ⟨h2, hB⟩ := ba hB
  obtain ⟨h3, hB⟩ := ba hB
  obtain ⟨h4, hB⟩ := ba hB
  obtain ⟨h5, hB⟩ := ba hB
  obtain ⟨h6, hB⟩ := ba hB
  obtain ⟨h7, hB⟩ := ba hB
  obtain ⟨h8, hB⟩ := ba hB
  obtain ⟨h9, hB⟩ := ba hB
  obtain ⟨h10, h11⟩ := ba hB
  have S := fscB_ok h2
  obtain ⟨as, e1, e2, e3⟩ := argB_ok h1
  have e2 : as.map (·.arg) = [t.a] := e2
  have bd : L2.Binds G.K fd [t.a] [] := F.binds fun kV doc pm an cdv ct us hl => by
    rw [e1, ← e2]
    exact binds_gen (by rw [e2]; exact List.nodup_cons.mpr ⟨by simp, List.nodup_nil⟩) (by rw [hl, ← e2, List.length_map])
  have vis : Vis (defScope t.st) t.a := by
    rcases S.par t.a (by simp) with z | z
    · exact .inl z
    · exact .inr (.inl z)
  have kp := F.kp
  obtain ⟨oc, od, kV, doc, pm, an, cdv, ct, osl, rfl, lk, hcd⟩ := F.ex
  rw [hb] at lk bd
  refine ⟨⟨He.fAd G.K (x, none), defArgs t.st, defScope t.st, .none, kV, doc, pm, cdv, ct, oc, an, od, osl, t.N, t.a, t.en, t.fnd, t.jf, t.ie, t.ps 1, t.ps 2, t.ps 3, t.ps 4, t.ps 5, t.ps 6, t.ps 7, t.ps 8, t.ps 9, t.k1, t.k2, gx, kp, lk, hcd, bd, S, nthK h4, vis, nthK h5, nthK h6, ?_, locK h8, locK h9, dbgB_ok h3, ?_, fun r hr => ?_⟩⟩
  · intro z
    rw [z, Nat.beq_refl] at h7
    cases h7
  · intro z
    rw [z] at h10
    cases h10
  · obtain ⟨g1, g2, g3, g4⟩ := hc r hr
    have := List.all_eq_true.mp h11 r hr
    rw [lookB_eq] at this
    refine ⟨?_, g1, g2, g3, g4⟩
    cases q : (defScope t.st).names.lookup r.nm with
    | none => rw [q] at this; cases this
    | some k => rw [q] at this; cases k <;> first | rfl | cases this
end
/-- what is to be shown of a law's text, once -/
structure LawD.Ok (L : LawD) (P : Program) (n most j : Nat) : Prop where
  c1 : L.chk1 = true
  c2 : L.chk2 = true
  c3 : L.chk3 = true
  body : ∀ (f : Nat) (d : DefS), L.defs[f]? = some d → defBody d.st = d.body.ex L.T d.N
  pick : ∃ (Ps : Nat → Pos) (ks : Nat → Nat), ∀ d : DefS, L.defs[L.pick]? = some d → defBody d.st = pickB Ps ks ∧ pickScB (defScope d.st) = true ∧ argB (defArgs d.st) ["state", "many"] 2 = true ∧ ((Ps 25).endLine == (Ps 27).line) = true
  kws : ∀ m, m < L.T.kws.length → ∀ d, L.defs[L.T.kf m]? = some d → KwS d.x d.qual d.st (d.N.take d.nps) (L.T.kn m) (L.T.ko m)
  tol : ∀ t, t < L.T.tol.length → ∃ ti, L.tols[t]? = some ti ∧ tolB (L.T.tc t) ti = true ∧ defBody ti.st = tolBody ti.fnd ti.en ti.a (L.T.tt t) (L.T.tc t) (ti.ps 1) (ti.ps 2) (ti.ps 3) (ti.ps 4) (ti.ps 5) (ti.ps 6) (ti.ps 7) (ti.ps 8) (ti.ps 9) ti.k1 ti.k2
  start : ∃ (Ps : Nat → Pos) (ks : Nat → Nat), defBody L.sst = startB Ps ks ∧ startScB (defScope L.sst) = true ∧ argB (defArgs L.sst) ["script"] 1 = true
  law : ∃ q0 q1 q2 q3 q4, defBody L.dl.st = .Assign [nmE L.dl.N j q0] (.Call (.Name L.sx q1) [nmE L.dl.N 0 q2] [] q3) q4 :: L.dl.body.ex L.T L.dl.N ∧ (Pat.nm j q0).ok L.dl.ct.sc L.dl.ct.N L.dl.ct.fn = true
  lawB : (Nat.beq L.dl.nps 1 && (argB (defArgs L.dl.st) L.dl.N 1 && (fscB L.dl.N (L.dl.N.take L.dl.nps) (defScope L.dl.st) && (dbgB L.dl.N && (L.dl.ct.vis 0 && (L.dl.ct.glo L.sx && (!strB L.sx "__debug__" && (L.dl.body.wf L.T L.ecs L.dl.ct false && (decide (j < L.dl.N.length) && (!L.dl.lm || L.lms.any (fun p => RowD.defnB p.1 (L.dl.x, none) && strB p.2 L.dl.qual))))))))))) = true
  mostOk : most ≤ sizeLine
  plain : ∀ (K : PySem.W.Frag) (r1 r2 : Addr) (ns : List Int), ns.length ≤ most → ∃ p', restD ((L.G K).at r1 r2) L.T (Phi ((L.G K).at r1 r2) L.T L.defs L.pr n) L.dl.N j L.dl.body .reg ⟨ns, 0, 0, 29⟩ = .ok (.bl true) p'
theorem law_at {L : LawD} {l : PySem.W.OpenLaw} {n most j : Nat} (ok : L.Ok l.prog n most j) {cuts : List Nat} {as : (Addr → Option Obj) → List Addr} (hx : (L.dl.N.take L.dl.nps) = (["script"] : List Str)) {w : World} {mg : Str → Option Value} {fa : Addr} {h : Heap}
    (Y : (hookZ as (L.parts cuts)).says w h) (N : h.Ns mainGlobals mg) (hfa : mg L.dl.x = some (.ref fa)) : ∃ K : PySem.W.Frag, K.In h ∧ LamX.LawAtS l w K (L2.CX l.prog w) (4 * n + 5) most "script" mg fa h := by
  obtain ⟨K, X, says⟩ := Y
  refine ⟨K, X, ?_⟩
  have hf0 : ∀ f ∈ (Fz.fa (.glo L.dl.x) :: Fz.fa (.glo L.sx) :: L.facts : List Fz), f.ok K = true := cutE_ok (ns := cuts) fun p hp => says p (List.mem_append_left _ hp)
  have hf : ∀ f ∈ L.facts, f.ok K = true := fun f hf => hf0 f (List.mem_cons_of_mem _ (List.mem_cons_of_mem _ hf))
  have last := says _ (List.mem_append_right _ (List.mem_singleton.mpr rfl))
  have hd0 : ∀ d ∈ L.dL :: L.dS :: L.fns, ∃ fd, FunD K d.name d.qual d.params d.body d.scope (d.dvs K) (d.kws K) (He.fAd K d.at_) fd := fun d hd => last.d.defs hd
  have hd : ∀ d ∈ L.fns, ∃ fd, FunD K d.name d.qual d.params d.body d.scope (d.dvs K) (d.kws K) (He.fAd K d.at_) fd := fun d hd => hd0 d (List.mem_cons_of_mem _ (List.mem_cons_of_mem _ hd))
  have gl : mg L.dl.x = some (.ref (He.ga K L.dl.x)) := He.glo_ok X N (hf0 _ List.mem_cons_self)
  have gs : mg L.sx = some (.ref (He.ga K L.sx)) := He.glo_ok X N (hf0 _ (List.mem_cons_of_mem _ List.mem_cons_self))
  have efa : fa = He.ga K L.dl.x := by
    rw [gl] at hfa
    cases hfa
    rfl
  subst efa
  obtain ⟨fd, FL⟩ := hd0 L.dL List.mem_cons_self
  have FL := fun_of FL
  obtain ⟨fs, FS⟩ := hd0 L.dS (List.mem_cons_of_mem _ List.mem_cons_self)
  have FS := fun_of FS
  obtain ⟨cc, FC⟩ := FunC.of FL
  obtain ⟨b1, bb⟩ := ba ok.lawB
  obtain ⟨b2, bb⟩ := ba bb
  obtain ⟨b3, bb⟩ := ba bb
  obtain ⟨b4, bb⟩ := ba bb
  obtain ⟨b5, bb⟩ := ba bb
  obtain ⟨b6, bb⟩ := ba bb
  obtain ⟨b7, bb⟩ := ba bb
  obtain ⟨b8, bb⟩ := ba bb
  obtain ⟨b9, b10⟩ := ba bb
  have b1 := Nat.eq_of_beq_eq_true b1
  have frl : mg (Str.ofString Ty.list.nm) = none := He.free_ok X N (fact_in (f := .fa (.free (Str.ofString Ty.list.nm))) hf (l := RowD.frees.map fun x => .fa (.free x)) (by simp [RowD.factsL]) (List.mem_map.mpr ⟨_, List.mem_append_right _ (List.mem_append_left _ (List.mem_map.mpr ⟨.list, by simp [RowD.tys], rfl⟩)), rfl⟩))
  obtain ⟨sP, sk, s1, s2, s3⟩ := ok.start
  obtain ⟨sas, t1, t2, t3⟩ := argB_ok s3
  have t2 : sas.map (·.arg) = (["script"] : List Str) := t2
  have bS : L2.Binds K fs ["script"] [] := FS.binds fun kV doc pm an cdv ct us hl => by
    rw [t1, ← t2]
    exact binds_gen (by rw [t2]; decide +kernel) (by rw [hl, ← t2, List.length_map])
  obtain ⟨las, u1, u2, u3⟩ := argB_ok b2
  have bL : ∀ (s : Shared) (u : Value), BindsTo s fd ⟨[u], []⟩ [("script", u)] := fun s u => by
    obtain ⟨oc, od, kV, doc, pm, an, cdv, ct, osl, rfl, lk, hcd⟩ := FL.ex
    have e : las.map (·.arg) = (["script"] : List Str) := by rw [u2, ← b1, hx]
    have z : ([("script", u)] : List (Str × Value)) = (las.map (·.arg)).zip [u] := by rw [e]; rfl
    rw [z, u1]
    exact .of_eq (binds_gen (by rw [e]; decide +kernel) (by rw [List.length_singleton, u3]))
  obtain ⟨pP, pk, pick⟩ := ok.pick
  refine ⟨fd, L.lms.map (fun p => He.cT K p.1), spLaw (L.G K) most, fun p hp => ?_, fun p hp => ?_, fun p hp => ?_, bL, fun H a ns hl _ hT hS => ⟨a, ns, rfl, hl, hS, fun p hp => ?_, fun _ => rfl⟩, fun base hb hN hT => ?_⟩
  · obtain ⟨q, hq, rfl⟩ := List.mem_map.mp hp
    exact last.empty _ (List.mem_map.mpr ⟨q, hq, rfl⟩)
  · obtain ⟨q, hq, rfl⟩ := List.mem_map.mp hp
    exact last.out _ (List.mem_map.mpr ⟨q, hq, rfl⟩)
  · obtain ⟨q, hq, rfl⟩ := List.mem_map.mp hp
    exact PySem.W.codeHd_of_K X (last.hd _ (List.mem_map.mpr ⟨q, hq, rfl⟩))
  · obtain ⟨q, hq, rfl⟩ := List.mem_map.mp hp
    exact LamX.TabS.nil (hT _ (List.mem_map.mpr ⟨q, hq, rfl⟩))
  · have hL : ∀ p ∈ L.lms, LamX.TabB base mg (He.cT K p.1).1 (He.cT K p.1).2 := fun p hp => hT _ (List.mem_map.mpr ⟨p, hp, rfl⟩)
    have cm := fun (l : List Fz) (hl : l ∈ L.factsL) (f : Fz) (h : f ∈ l) => fact_in hf hl h
    have ht : ∀ t, t < L.T.tol.length → TolS (L.G K) mg (L.T.tn t) (L.T.tt t) (L.T.tc t) := fun t htl => by
      obtain ⟨ti, z1, z2, z3⟩ := ok.tol t htl
      have hm : (L.T.tol[t]) ∈ L.T.tol := List.getElem_mem htl
      have e1 : L.T.tn t = (L.T.tol[t]).1 := by unfold Tab.tn; rw [List.getElem?_eq_getElem htl]; rfl
      have e2 : L.T.tc t = (L.T.tol[t]).2.2 := by unfold Tab.tc; rw [List.getElem?_eq_getElem htl]; rfl
      have hz : ((L.T.tol[t]), ti) ∈ L.T.tol.zip L.tols := by
        refine List.mem_of_getElem? (i := t) ?_
        rw [List.getElem?_zip_eq_some]
        exact ⟨List.getElem?_eq_getElem htl, z1⟩
      have hfn : RowD.mkD ((L.T.tol[t]).1, none) (L.T.tol[t]).1 (L.T.tol[t]).1 ti.st ∈ L.fns := by
        unfold RowD.fns
        exact List.mem_append_right _ (List.mem_append_right _ (List.mem_map.mpr ⟨_, hz, rfl⟩))
      obtain ⟨ft, FT⟩ := hd _ hfn
      have FT := fun_of FT
      rw [← e1] at FT
      have gt : mg (L.T.tn t) = some (.ref (He.ga K (L.T.tn t))) := He.glo_ok X N (cm (RowD.fGlo (L.T.tol.map (·.1))) (by simp [RowD.factsL]) (.fa (.glo (L.T.tn t))) (List.mem_map.mpr ⟨_, List.mem_map.mpr ⟨_, hm, e1.symm⟩, rfl⟩))
      have c3 := ok.c3
      unfold RowD.chk3 at c3
      obtain ⟨d1, _⟩ := ba c3
      obtain ⟨_, y⟩ := ba (RowD.rangeB d1 htl)
      obtain ⟨_, each⟩ := ba y
      refine tolS_of (G := L.G K) FT gt z3 z2 fun r hr => ?_
      obtain ⟨_, v⟩ := ba (List.all_eq_true.mp each r hr)
      obtain ⟨_, v⟩ := ba v
      obtain ⟨_, v⟩ := ba v
      obtain ⟨v1, v2⟩ := ba v
      have v1 : r.nm = L.T.cnm r.c := strB_iff.mp v1
      have fl : ∀ g ∈ L.fCl r, g.ok K = true := fun g hg => cm (L.T.tol.flatMap (fun t => t.2.2.flatMap L.fCl)) (by simp [RowD.factsL]) g (List.mem_flatMap.mpr ⟨_, hm, List.mem_flatMap.mpr ⟨r, by rw [← e2]; exact hr, hg⟩⟩)
      have g1 : mg r.nm = some (.ref (He.ga K r.nm)) := He.glo_ok X N (fl (.fa (.glo r.nm)) (by simp [RowD.fCl]))
      exact ⟨by rw [g1, v1]; rfl, dbgN v2, xfB_ok (show xfB K (He.ga K (L.T.cnm r.c)) = true from fl (.xf (L.T.cnm r.c)) (by simp [RowD.fCl])), He.noat_ok (K := K) (x := L.T.cnm r.c) (f := r.f) (fl (.fa (.noat (L.T.cnm r.c) r.f)) (by simp [RowD.fCl]))⟩
    have T := fun r1 r2 => txt_of (P := l.prog) (w := w) (base := base) (R := L.toRowD) X N hf hd ok.c1 ok.c2 ok.c3 ok.body (Ps := pP) (ks := pk) pick ok.kws ht hL r1 r2
    obtain ⟨q0, q1, q2, q3, q4, lb, lp⟩ := ok.law
    have hlm : L.dl.lm = true → LamC (L.G K) mg base cc L.dl.qual := fun hl => by
      rw [hl] at b10
      simp only [Bool.not_true, Bool.false_or] at b10
      obtain ⟨p, hpm, zp⟩ := List.any_eq_true.mp b10
      obtain ⟨y1, y2⟩ := ba zp
      have ep : p = ((L.dl.x, none), L.dl.qual) := Prod.ext (RowD.defnB_ok y1) (strB_iff.mp y2)
      rw [ep] at hpm
      exact lam_of (r1 := 0) (r2 := 0) hL (fact_in (f := .ndT (L.lms.map (·.1))) hf (l := [.ndT (L.lms.map (·.1))]) (by simp [RowD.factsL]) (List.mem_singleton.mpr rfl)) FC hpm
    have res := law_ok (P := l.prog) (w := w) (mg := mg) (base := base) (G := L.G K) (most := most) T FC hlm lb b1 b3 b4 lp b5 b6 (dbgN b7) b8 b9 gs (start_ok FS s1 s2 frl) FS.kp bS ok.mostOk (ok.plain K)
    rw [hx] at res
    exact res
theorem cx_none (P : Program) (w : World) (H : Hp) (s : Shared) (e : Value) (s' : Shared) : L2.CX P w [] H s (fun _ _ _ => False) e s' → False := fun ⟨_, _, _, _, _, _, _, _, _, _, _, _, z⟩ => z
def noSs : List Stmt → Ss
  | [] => .nil
  | s :: r => .cons (.no s) (noSs r)
theorem noSs_ex (T : Tab) (N : List Str) : ∀ l : List Stmt, (noSs l).ex T N = l
  | [] => rfl
  | s :: r => by
    show s :: (noSs r).ex T N = s :: r
    rw [noSs_ex T N r]
def AllB (T : Tab) : List DefS → Prop
  | [] => True
  | d :: r => defBody d.st = d.body.ex T d.N ∧ AllB T r
theorem AllB.at {T : Tab} : ∀ {l : List DefS}, AllB T l → ∀ (f : Nat) (d : DefS), l[f]? = some d → defBody d.st = d.body.ex T d.N
  | [], _, f, d, h => by simp at h
  | e :: r, ⟨h1, h2⟩, 0, d, h => by
    simp at h
    subst h
    exact h1
  | e :: r, ⟨h1, h2⟩, f + 1, d, h => AllB.at h2 f d (by simpa using h)
end Z
namespace Z
open PySem PySem.Spec PyProof.Rows L2
/-! ### reckoning with meanings -/
def M.raise {α : Type} (c : Nat) (fs : List D) : M α := fun p => .exc c fs p
def M.bad {α : Type} : M α := fun _ => .bad
def retM (m : MS) : M D := fun p => retR (m p)
def MS.nx (ρ : Env) : MS := fun p => .nx ρ p
def MS.rt (d : D) : MS := fun p => .rt d p
def MS.ex (c : Nat) (fs : List D) : MS := fun p => .exc c fs p
def MS.bad : MS := fun _ => .bad
theorem runD_none {G : Gx} {T : Tab} {φ : Fns} {d : DefS} {args : List D} (h : d.ini = none) : runD G T φ d args = retM (d.body.den G T φ (startE d.N args)) := by
  unfold runD
  rw [h]
  rfl
section
variable {α β : Type}
@[simp] theorem M.bind_pure (a : α) (k : α → M β) : M.bind (M.pure a) k = k a := (rfl)
@[simp] theorem M.bind_raise (c : Nat) (fs : List D) (k : α → M β) : M.bind (M.raise c fs) k = M.raise c fs := (rfl)
@[simp] theorem M.bind_bad (k : α → M β) : M.bind M.bad k = M.bad := (rfl)
@[simp] theorem M.bind_bind {γ : Type} (m : M α) (f : α → M β) (g : β → M γ) : M.bind (M.bind m f) g = M.bind m fun a => M.bind (f a) g := by
  funext p
  simp only [M.bind]
  cases m p <;> rfl
@[simp] theorem M.bind_ite (c : Prop) [Decidable c] (a b : M α) (k : α → M β) : M.bind (if c then a else b) k = if c then M.bind a k else M.bind b k := by split <;> rfl
@[simp] theorem M.of_some (a : α) : M.of (some a) = M.pure a := (rfl)
@[simp] theorem M.of_none : (M.of none : M α) = M.bad := (rfl)
@[simp] theorem M.noexc_pure (a : α) : M.noexc (M.pure a) = M.pure a := (rfl)
@[simp] theorem M.noexc_bad : M.noexc (M.bad : M α) = M.bad := (rfl)
@[simp] theorem MS.let_pure (a : α) (k : α → MS) : MS.let (M.pure a) k = k a := (rfl)
@[simp] theorem MS.let_raise (c : Nat) (fs : List D) (k : α → MS) : MS.let (M.raise c fs) k = MS.ex c fs := (rfl)
@[simp] theorem MS.let_bad (k : α → MS) : MS.let M.bad k = MS.bad := (rfl)
@[simp] theorem MS.let_bind (m : M α) (f : α → M β) (k : β → MS) : MS.let (M.bind m f) k = MS.let m fun a => MS.let (f a) k := by
  funext p
  simp only [MS.let, M.bind]
  cases m p <;> rfl
@[simp] theorem MS.let_ite (c : Prop) [Decidable c] (a b : M α) (k : α → MS) : MS.let (if c then a else b) k = if c then MS.let a k else MS.let b k := by split <;> rfl
@[simp] theorem MS.seq_nx (ρ : Env) (k : Env → MS) : MS.seq (MS.nx ρ) k = k ρ := (rfl)
@[simp] theorem MS.seq_rt (d : D) (k : Env → MS) : MS.seq (MS.rt d) k = MS.rt d := (rfl)
@[simp] theorem MS.seq_ex (c : Nat) (fs : List D) (k : Env → MS) : MS.seq (MS.ex c fs) k = MS.ex c fs := (rfl)
@[simp] theorem MS.seq_bad (k : Env → MS) : MS.seq MS.bad k = MS.bad := (rfl)
@[simp] theorem MS.seq_let (m : M α) (f : α → MS) (k : Env → MS) : MS.seq (MS.let m f) k = MS.let m fun a => MS.seq (f a) k := by
  funext p
  simp only [MS.let, MS.seq]
  cases m p <;> rfl
@[simp] theorem MS.seq_seq (m : MS) (f g : Env → MS) : MS.seq (MS.seq m f) g = MS.seq m fun a => MS.seq (f a) g := by
  funext p
  simp only [MS.seq]
  cases m p <;> rfl
@[simp] theorem MS.seq_ite (c : Prop) [Decidable c] (a b : MS) (k : Env → MS) : MS.seq (if c then a else b) k = if c then MS.seq a k else MS.seq b k := by split <;> rfl
@[simp] theorem retM_rt (d : D) : retM (MS.rt d) = M.pure d := (rfl)
@[simp] theorem retM_nx (ρ : Env) : retM (MS.nx ρ) = M.pure .non := (rfl)
@[simp] theorem retM_ex (c : Nat) (fs : List D) : retM (MS.ex c fs) = M.raise c fs := (rfl)
@[simp] theorem retM_bad : retM MS.bad = M.bad := (rfl)
@[simp] theorem retM_let (m : M α) (k : α → MS) : retM (MS.let m k) = M.bind m fun a => retM (k a) := by
  funext p
  simp only [retM, MS.let, M.bind]
  cases m p <;> rfl
@[simp] theorem retM_ite (c : Prop) [Decidable c] (a b : MS) : retM (if c then a else b) = if c then retM a else retM b := by split <;> rfl
theorem M.bind_pure_right (m : M α) : M.bind m M.pure = m := by
  funext p
  simp only [M.bind, M.pure]
  cases m p <;> rfl
end
/-! the combinators, unfolded to these -/
section
variable {φ : Fns} {ρ : Env}
@[simp] theorem u_cons (a b : DS) : dsCons a b φ ρ = MS.seq (a φ ρ) fun ρ' => b φ ρ' := (rfl)
@[simp] theorem u_nil : dsNil φ ρ = MS.nx ρ := (rfl)
@[simp] theorem u_frz0 (a : DS) : dsFrz [] a φ ρ = a φ ρ := (rfl)
@[simp] theorem u_frz (l : List Nat) (a : DS) : dsFrz l a φ ρ = a φ (frz ρ l) := (rfl)
@[simp] theorem u_ret (a : DE) : dsRet a φ ρ = MS.let (a φ ρ) MS.rt := (rfl)
@[simp] theorem u_retN : dsRetN φ ρ = MS.rt .non := (rfl)
@[simp] theorem u_if (c : DT) (a b : DS) : dsIf c a b φ ρ = MS.let (c φ ρ) fun x => if x = true then a φ ρ else b φ ρ := (rfl)
@[simp] theorem u_asg (pt : Pat) (a : DE) : dsAsg pt a φ ρ = MS.let (a φ ρ) fun d => match pt.bind d ρ with
  | some ρ' => MS.nx ρ'
  | none => MS.bad := (rfl)
@[simp] theorem u_own (i : Nat) (a : DE) : dsOwn i a φ ρ = MS.let (a φ ρ) fun d => MS.nx (ρ.set i (slOf d)) := (rfl)
@[simp] theorem u_drop (a : DE) : dsDrop a φ ρ = MS.let (a φ ρ) fun _ => MS.nx ρ := (rfl)
@[simp] theorem u_raise (c : Nat) (a : DE) : dsRaise c a φ ρ = MS.let (a φ ρ) fun d => MS.ex c [d] := (rfl)
@[simp] theorem u_bad : dsBad φ ρ = MS.bad := (rfl)
@[simp] theorem u_C (d : D) : dC d φ ρ = M.pure d := (rfl)
@[simp] theorem u_2 (f : D → D → Option D) (a b : DE) : d2 f a b φ ρ = M.bind (a φ ρ) fun x => M.bind (b φ ρ) fun y => M.of (f x y) := (rfl)
@[simp] theorem u_call (f : Nat) (a : DA) : dCall f a φ ρ = M.bind (a φ ρ) fun ds => φ f ds := (rfl)
@[simp] theorem u_aN : daNil φ ρ = M.pure [] := (rfl)
@[simp] theorem u_aC (a : DE) (r : DA) : daCons a r φ ρ = M.bind (a φ ρ) fun x => M.bind (r φ ρ) fun xs => M.pure (x :: xs) := (rfl)
@[simp] theorem u_blt (f : List D → Option D) (a : DA) : dBlt f a φ ρ = M.bind (a φ ρ) fun ds => M.of (f ds) := (rfl)
@[simp] theorem u_and (a b : DE) : dAnd a b φ ρ = M.bind (a φ ρ) fun x => M.bind (M.of (asB x)) fun c => if c = true then b φ ρ else M.pure (.bl false) := (rfl)
@[simp] theorem u_or (a b : DE) : dOr a b φ ρ = M.bind (a φ ρ) fun x => M.bind (M.of (asB x)) fun c => if c = true then M.pure (.bl true) else b φ ρ := (rfl)
@[simp] theorem u_not (a : DE) : dNot a φ ρ = M.bind (a φ ρ) fun x => M.bind (M.of (asB x)) fun c => M.pure (.bl (!c)) := (rfl)
@[simp] theorem u_tTB (a : DE) : dTB a φ ρ = M.bind (a φ ρ) fun x => M.of (asB x) := (rfl)
@[simp] theorem u_dT (a : DE) : dT a φ ρ = M.bind (a φ ρ) fun x => M.of (asB x) := (rfl)
@[simp] theorem u_tAnd (a b : DT) : tbAnd a b φ ρ = M.bind (a φ ρ) fun c => if c = true then b φ ρ else M.pure false := (rfl)
@[simp] theorem u_tOr (a b : DT) : tbOr a b φ ρ = M.bind (a φ ρ) fun c => if c = true then M.pure true else b φ ρ := (rfl)
@[simp] theorem u_tNot (a : DT) : tbNot a φ ρ = M.bind (a φ ρ) fun c => M.pure (!c) := (rfl)
@[simp] theorem u_ifT (c : DT) (a b : DE) : dIfT c a b φ ρ = M.bind (c φ ρ) fun x => if x = true then a φ ρ else b φ ρ := (rfl)
@[simp] theorem u_lst (a : DA) : dLst a φ ρ = M.bind (a φ ρ) fun xs => M.of (if xs.length ≤ 16777216 then some (.lst xs) else none) := (rfl)
@[simp] theorem u_tup (a : DA) : dTup a φ ρ = M.bind (a φ ρ) fun xs => M.of (if xs.length ≤ 16777216 then some (.tup xs) else none) := (rfl)
@[simp] theorem u_dk : dDk φ ρ = M.pure (.dk [] []) := (rfl)
@[simp] theorem u_dt : dDt φ ρ = M.pure (.dt [] []) := (rfl)
@[simp] theorem u_diE (a : DE) : diE a φ ρ = M.bind (a φ ρ) fun d => M.of (iterF d) := (rfl)
@[simp] theorem u_diA (f : List D → Option (List D)) (a : DA) : diA f a φ ρ = M.bind (a φ ρ) fun ds => M.of (f ds) := (rfl)
@[simp] theorem u_for (it : DI) (pt : Pat) (b : DS) : dsFor it pt b φ ρ = MS.let (it φ ρ) fun items => forD pt (b φ) items ρ := (rfl)
@[simp] theorem u_lc (it : DI) (pt : Pat) (own : List Nat) (tst : DT) (elt : DE) : dLc it pt own tst elt φ ρ = M.bind (it φ ρ) fun items => if items.length ≤ 16777216 then M.bind (lcA (bdy pt (wipeE ρ own) (tst φ) (elt φ)) [] items) fun xs => M.pure (.lst xs) else M.bad := (rfl)
@[simp] theorem u_yes : dYes φ ρ = M.pure true := (rfl)
@[simp] theorem u_sl (a : DE) (lo hi : DO) : dSl a lo hi φ ρ = M.bind (a φ ρ) fun x => M.bind (lo φ ρ) fun l => M.bind (hi φ ρ) fun h => M.of (slF x l h) := (rfl)
@[simp] theorem u_oN : doNo φ ρ = M.pure none := (rfl)
@[simp] theorem u_oE (a : DE) : doE a φ ρ = M.bind (a φ ρ) fun x => M.bind (M.of (intD x)) fun i => M.pure (some i) := (rfl)
@[simp] theorem u_m1 (f : Str → D → Option D) (a b : DE) : dM1 f a b φ ρ = M.bind (a φ ρ) fun x => match x with
  | .str s => M.bind (b φ ρ) fun y => M.of (f s y)
  | _ => M.bad := (rfl)
@[simp] theorem u_meth (c f : Nat) (o : DE) (a : DA) : dMeth c f o a φ ρ = M.bind (o φ ρ) fun x => match x with
  | .obj c' fs => if c' = c then M.bind (a φ ρ) fun ds => φ f (.obj c' fs :: ds) else M.bad
  | _ => M.bad := (rfl)
@[simp] theorem u_fld (c i : Nat) (a : DE) : dFld c i a φ ρ = M.bind (a φ ρ) fun x => match x with
  | .obj c' fs => if c' = c then M.of fs[i]? else M.bad
  | _ => M.bad := (rfl)
@[simp] theorem u_ext (i : Nat) (a : DE) : dsExt i a φ ρ = match owL ρ i with
  | some xs => MS.let (a φ ρ) fun d => match d with
    | .lst ys => if xs.length + ys.length ≤ 16777216 then MS.nx (ρ.set i (.ow (.lst (xs ++ ys)))) else MS.bad
    | _ => MS.bad
  | _ => MS.bad := (rfl)
@[simp] theorem u_fldS (i c k : Nat) (a : DE) : dsFld i c k a φ ρ = match owD ρ i with
  | some (.obj c' fs) => if c' = c ∧ k = fs.length then MS.let (a φ ρ) fun d => MS.nx (ρ.set i (.ow (.obj c (fs ++ [d])))) else MS.bad
  | _ => MS.bad := (rfl)
@[simp] theorem u_par2 (i j : Nat) (b1 b2 : Bool) (a : DA) : dsPar2 i j b1 b2 a φ ρ = MS.let (a φ ρ) fun ds => match ds with
  | [x, y] => MS.nx ((ρ.set i (slB b1 x)).set j (slB b2 y))
  | _ => MS.bad := (rfl)
@[simp] theorem u_mkx (c : Nat) (a : DE) : dMkx c a φ ρ = M.bind (a φ ρ) fun d => M.pure (.exc c [d]) := (rfl)
@[simp] theorem u_xfl (cf : Nat → List Str) (xs : List Nat) (n : Str) (o : DE) : dXfl cf xs n o φ ρ = M.bind (o φ ρ) fun d => M.of (xfF cf xs n d) := (rfl)
@[simp] theorem u_callk (f : Nat) (o : List Nat) (a : DA) : dCallK f o a φ ρ = M.bind (a φ ρ) fun ds => match ordL o ds with
  | some es => φ f es
  | none => M.bad := (rfl)
@[simp] theorem u_lend (f : Nat) (a : DA) : dLend f a φ ρ = M.bind (a φ ρ) fun ds => if ds.all noObj = true then M.bind (M.noexc (φ f ds)) fun d => if atm d = true then M.pure d else M.bad else M.bad := (rfl)
@[simp] theorem noObj_non : noObj .non = true := (rfl)
@[simp] theorem noObj_bl (b) : noObj (.bl b) = true := (rfl)
@[simp] theorem noObj_int (b) : noObj (.int b) = true := (rfl)
@[simp] theorem noObj_str (b) : noObj (.str b) = true := (rfl)
@[simp] theorem noObj_lst (b) : noObj (.lst b) = true := (rfl)
@[simp] theorem noObj_tup (b) : noObj (.tup b) = true := (rfl)
@[simp] theorem noObj_reg : noObj .reg = true := (rfl)
@[simp] theorem atm_non : atm .non = true := (rfl)
@[simp] theorem atm_bl (b) : atm (.bl b) = true := (rfl)
@[simp] theorem atm_int (b) : atm (.int b) = true := (rfl)
@[simp] theorem atm_str (b) : atm (.str b) = true := (rfl)
@[simp] theorem u_dc (it : DI) (pt : Pat) (own : List Nat) (tst : DT) (kx vx : DE) : dDc it pt own tst kx vx φ ρ = M.bind (it φ ρ) fun items => if items.length ≤ 16777216 then dcA (bdyD pt (wipeE ρ own) (tst φ) (kx φ) (vx φ)) [] [] items else M.bad := (rfl)
@[simp] theorem u_app (i : Nat) (a : DE) : dsApp i a φ ρ = match owL ρ i with
  | some xs => MS.let (a φ ρ) fun d => if xs.length < 16777216 then MS.nx (ρ.set i (.ow (.lst (xs ++ [d])))) else MS.bad
  | _ => MS.bad := (rfl)
end
def iniM (G : Gx) (c : Nat) (m : MS) : M D := fun p => iniR G c (m p)
theorem runD_some {G : Gx} {T : Tab} {φ : Fns} {d : DefS} {args : List D} {c : Nat} (h : d.ini = some c) : runD G T φ d args = iniM G c (d.body.den G T φ (startI d.N c args)) := by
  unfold runD
  rw [h]
  rfl
@[simp] theorem iniM_ex (G : Gx) (c c' : Nat) (fs : List D) : iniM G c (MS.ex c' fs) = M.raise c' fs := (rfl)
@[simp] theorem iniM_bad (G : Gx) (c : Nat) : iniM G c MS.bad = M.bad := (rfl)
@[simp] theorem iniM_nx (G : Gx) (c : Nat) (fs : List D) (r : Env) : iniM G c (MS.nx (.ow (.obj c fs) :: r)) = if fs.length = (G.cfs c).length then M.pure (.obj c fs) else M.bad := by
  funext p
  show (if c = c ∧ fs.length = (G.cfs c).length then Res.ok (D.obj c fs) p else .bad) = _
  by_cases h : fs.length = (G.cfs c).length
  · rw [if_pos ⟨rfl, h⟩, if_pos h]; rfl
  · rw [if_neg (fun z => h z.2), if_neg h]; rfl
@[simp] theorem iniM_let {α : Type} (G : Gx) (c : Nat) (m : M α) (k : α → MS) : iniM G c (MS.let m k) = M.bind m fun a => iniM G c (k a) := by
  funext p
  simp only [iniM, MS.let, M.bind]
  cases m p <;> rfl
@[simp] theorem iniM_ite (G : Gx) (x : Nat) (c : Prop) [Decidable c] (a b : MS) : iniM G x (if c then a else b) = if c then iniM G x a else iniM G x b := by split <;> rfl
/-! meanings of the syntax, one row each -/
section
variable {G : Gx} {T : Tab}
@[simp] theorem w_nil : Ss.den G T .nil = dsNil := (rfl)
@[simp] theorem w_cons (a : S) (r : Ss) : Ss.den G T (.cons a r) = dsCons (a.den G T) (r.den G T) := (rfl)
@[simp] theorem w_asg (fz pt e p) : S.den G T (.asg fz pt e p) = dsFrz fz (dsAsg pt (e.den G T false)) := (rfl)
@[simp] theorem w_asgN (fz i q e p) : S.den G T (.asgN fz i q e p) = dsFrz fz (dsAsg (.nm i q) (e.den G T false)) := (rfl)
@[simp] theorem w_own (fz i q e p) : S.den G T (.own fz i q e p) = dsFrz fz (dsOwn i (e.den G T false)) := (rfl)
@[simp] theorem w_par2 (fz i j b1 b2 q1 q2 k1 t1 e1 e2 k2 t2 p) : S.den G T (.par2 fz i j b1 b2 q1 q2 k1 t1 e1 e2 k2 t2 p) = dsFrz fz (dsPar2 i j b1 b2 (daCons (e1.den G T false) (daCons (e2.den G T false) daNil))) := (rfl)
@[simp] theorem w_app (fz i e q1 q2 q3 p) : S.den G T (.app fz i e q1 q2 q3 p) = dsFrz fz (dsApp i (e.den G T false)) := (rfl)
@[simp] theorem w_ext (fz i e q1 q2 q3 p) : S.den G T (.ext fz i e q1 q2 q3 p) = dsFrz fz (dsExt i (e.den G T true)) := (rfl)
@[simp] theorem w_pop (pt j q1 q2 q3 p) : S.den G T (.pop pt j q1 q2 q3 p) = dsPop pt j := (rfl)
@[simp] theorem w_popAt (fz pt j e q1 q2 q3 p) : S.den G T (.popAt fz pt j e q1 q2 q3 p) = dsFrz fz (dsPopAt pt j (e.den G T false)) := (rfl)
@[simp] theorem w_appPop (fz i j e q1 q2 q3 q4 q5 q6 p) : S.den G T (.appPop fz i j e q1 q2 q3 q4 q5 q6 p) = dsFrz fz (dsAppPop i j (e.den G T false)) := (rfl)
@[simp] theorem w_put (fz j ix e q1 q2 p) : S.den G T (.put fz j ix e q1 q2 p) = dsFrz fz (dsPut j (ix.den G T false) (e.den G T false)) := (rfl)
@[simp] theorem w_ife (fz c a b p) : S.den G T (.ife fz c a b p) = dsFrz fz (dsIf (c.denT G T) (a.den G T) (b.den G T)) := (rfl)
@[simp] theorem w_ret (fz e p) : S.den G T (.ret fz e p) = dsFrz fz (dsRet (e.den G T false)) := (rfl)
@[simp] theorem w_retN (p) : S.den G T (.retN p) = dsRetN := (rfl)
@[simp] theorem w_forr (fz pt it b p) : S.den G T (.forr fz pt it b p) = dsFrz fz (dsFor (it.den G T false) pt (b.den G T)) := (rfl)
@[simp] theorem w_whl (n c b p) : S.den G T (.whl n c b p) = dsWhile n (c.denT G T) (b.den G T) := (rfl)
@[simp] theorem w_drop (fz e p) : S.den G T (.drop fz e p) = dsFrz fz (dsDrop (e.den G T false)) := (rfl)
@[simp] theorem w_pass (p) : S.den G T (.pass p) = dsNil := (rfl)
@[simp] theorem w_raise (fz c e q1 q2 p) : S.den G T (.raise fz c e q1 q2 p) = dsFrz fz (dsRaise c (e.den G T false)) := (rfl)
@[simp] theorem w_fldI (fz i c k e q1 q2 p) : S.den G T (.fldI fz i c k e q1 q2 p) = dsFrz fz (dsFld i c k (e.den G T false)) := (rfl)
@[simp] theorem w_no (st) : S.den G T (.no st) = dsBad := (rfl)
@[simp] theorem x_varT (i p) : E.den G T true (.var i p) = dB i := (rfl)
@[simp] theorem x_varF (i p) : E.den G T false (.var i p) = dV i := (rfl)
@[simp] theorem x_int (lk i k p) : E.den G T lk (.int i k p) = dC (.int i) := (rfl)
@[simp] theorem x_str (lk x k p) : E.den G T lk (.str x k p) = dC (.str x) := (rfl)
@[simp] theorem x_bl (lk x k p) : E.den G T lk (.bl x k p) = dC (.bl x) := (rfl)
@[simp] theorem x_non (lk k p) : E.den G T lk (.non k p) = dC .non := (rfl)
@[simp] theorem x_gfn (lk f p) : E.den G T lk (.gfn f p) = dC (.fn f) := (rfl)
@[simp] theorem x_gcl (lk f p) : E.den G T lk (.gcl f p) = dC (.cl f) := (rfl)
@[simp] theorem x_gstr (lk f p) : E.den G T lk (.gstr f p) = dC (.str (T.sval f)) := (rfl)
@[simp] theorem x_ty (lk t p) : E.den G T lk (.ty t p) = dC (.ty t.nm) := (rfl)
@[simp] theorem x_bin (lk op a b p) : E.den G T lk (.bin op a b p) = d2 (binF op) (a.den G T true) (b.den G T true) := (rfl)
@[simp] theorem x_neg (lk a p) : E.den G T lk (.neg a p) = fun φ ρ => M.bind (a.den G T false φ ρ) fun x => M.of (negF x) := (rfl)
@[simp] theorem x_cmp (lk op a b p) : E.den G T lk (.cmp op a b p) = d2 (cmpF op) (a.den G T true) (b.den G T true) := (rfl)
@[simp] theorem x_cmp2 (lk op op' a b c p) : E.den G T lk (.cmp2 op op' a b c p) = dCmp2 (cmpF op) (cmpF op') (a.den G T true) (b.den G T true) (c.den G T true) := (rfl)
@[simp] theorem x_bop (lk op a r p) : E.den G T lk (.bop op a r p) = r.denB G T op (a.den G T false) := (rfl)
@[simp] theorem x_not (lk a p) : E.den G T lk (.not a p) = dNot (a.den G T false) := (rfl)
@[simp] theorem x_ife (lk c a b p) : E.den G T lk (.ife c a b p) = dIfT (c.denT G T) (a.den G T false) (b.den G T false) := (rfl)
@[simp] theorem x_call (lk f es q p) : E.den G T lk (.call f es q p) = dCall f (es.den G T false) := (rfl)
@[simp] theorem x_lend (lk f es q p) : E.den G T lk (.lend f es q p) = dLend f (es.den G T true) := (rfl)
@[simp] theorem x_make (lk c es q p) : E.den G T lk (.make c es q p) = dCall (T.mkf c) (es.den G T false) := (rfl)
@[simp] theorem x_meth (lk m o es q p) : E.den G T lk (.meth m o es q p) = dMeth (T.mc m) (T.mf m) (o.den G T false) (es.den G T false) := (rfl)
@[simp] theorem x_fld (lk c k o p) : E.den G T lk (.fld c k o p) = dFld c k (o.den G T true) := (rfl)
@[simp] theorem x_blt (lk b es q p) : E.den G T lk (.blt b es q p) = dBlt (biF G b) (es.den G T true) := (rfl)
@[simp] theorem x_sub (lk a b p) : E.den G T lk (.sub a b p) = d2 sbF (a.den G T true) (b.den G T true) := (rfl)
@[simp] theorem x_sl (lk a lo hi q p) : E.den G T lk (.sl a lo hi q p) = dSl (a.den G T true) (lo.den G T) (hi.den G T) := (rfl)
@[simp] theorem x_lst (lk es p) : E.den G T lk (.lst es p) = dLst (es.den G T false) := (rfl)
@[simp] theorem x_tup (lk es k p) : E.den G T lk (.tup es k p) = dTup (es.den G T false) := (rfl)
@[simp] theorem x_dk (lk p) : E.den G T lk (.dk p) = dDk := (rfl)
@[simp] theorem x_dt (lk p) : E.den G T lk (.dt p) = dDt := (rfl)
@[simp] theorem x_spl (lk a b q p) : E.den G T lk (.spl a b q p) = dM1 splitF (a.den G T true) (b.den G T true) := (rfl)
@[simp] theorem x_joi (lk a b q p) : E.den G T lk (.joi a b q p) = dM1 joinF (a.den G T true) (b.den G T true) := (rfl)
@[simp] theorem x_ends (lk a b q p) : E.den G T lk (.ends a b q p) = dM1 endF (a.den G T true) (b.den G T true) := (rfl)
@[simp] theorem x_lc (lk own pt it ifs elt sc p) : E.den G T lk (.lc own pt it ifs elt sc p) = dLc (it.den G T true) pt own (ifs.denI G T) (elt.den G T false) := (rfl)
@[simp] theorem x_callv (lk fs i es q p) : E.den G T lk (.callv fs i es q p) = dCallV fs i (es.den G T false) := (rfl)
@[simp] theorem x_callk (lk m ks q p) : E.den G T lk (.callk m ks q p) = dCallK (T.kf m) (T.ko m) (ks.den G T) := (rfl)
@[simp] theorem x_told (lk t bd sc q lp p) : E.den G T lk (.told t bd sc q lp p) = dTold G (T.tt t) (T.tc t) (bd.den G T false) := (rfl)
@[simp] theorem x_mkx (lk c a q p) : E.den G T lk (.mkx c a q p) = dMkx c (a.den G T false) := (rfl)
@[simp] theorem x_mkk (lk c a kp q p) : E.den G T lk (.mkk c a kp q p) = dMkx c (a.den G T false) := (rfl)
@[simp] theorem x_xfl (lk n o p) : E.den G T lk (.xfl n o p) = dXfl T.cfs T.xcs (T.xn n) (o.den G T false) := (rfl)
@[simp] theorem x_dc (lk own pt it ifs kx vx sc p) : E.den G T lk (.dc own pt it ifs kx vx sc p) = dDc (it.den G T true) pt own (ifs.denI G T) (kx.den G T false) (vx.den G T false) := (rfl)
@[simp] theorem y_not (a p) : E.denT G T (.not a p) = tbNot (a.denT G T) := (rfl)
@[simp] theorem y_bop (op a r p) : E.denT G T (.bop op a r p) = r.denBT G T op (a.denT G T) := (rfl)
@[simp] theorem y_cmp (op a b p) : E.denT G T (.cmp op a b p) = dT (d2 (cmpF op) (a.den G T true) (b.den G T true)) := (rfl)
@[simp] theorem y_var (i p) : E.denT G T (.var i p) = dTB (dV i) := (rfl)
@[simp] theorem y_bl (x k p) : E.denT G T (.bl x k p) = dTB (dC (.bl x)) := (rfl)
@[simp] theorem y_call (f es q p) : E.denT G T (.call f es q p) = dTB (dCall f (es.den G T false)) := (rfl)
@[simp] theorem y_lend (f es q p) : E.denT G T (.lend f es q p) = dTB (dLend f (es.den G T true)) := (rfl)
@[simp] theorem y_meth (m o es q p) : E.denT G T (.meth m o es q p) = dTB (dMeth (T.mc m) (T.mf m) (o.den G T false) (es.den G T false)) := (rfl)
@[simp] theorem y_blt (b es q p) : E.denT G T (.blt b es q p) = dTB (dBlt (biF G b) (es.den G T true)) := (rfl)
@[simp] theorem y_sub (a b p) : E.denT G T (.sub a b p) = dTB (d2 sbF (a.den G T true) (b.den G T true)) := (rfl)
@[simp] theorem y_callk (m ks q p) : E.denT G T (.callk m ks q p) = dTB (dCallK (T.kf m) (T.ko m) (ks.den G T)) := (rfl)
@[simp] theorem y_fld (c k o p) : E.denT G T (.fld c k o p) = dTB (dFld c k (o.den G T true)) := (rfl)
@[simp] theorem y_ends (a b q p) : E.denT G T (.ends a b q p) = dTB (dM1 endF (a.den G T true) (b.den G T true)) := (rfl)
@[simp] theorem z_nil (lk) : Es.den G T lk .nil = daNil := by cases lk <;> rfl
@[simp] theorem z_cons (lk a r) : Es.den G T lk (.cons a r) = daCons (a.den G T lk) (r.den G T lk) := by cases lk <;> rfl
@[simp] theorem z_knil : Ks.den G T .nil = daNil := (rfl)
@[simp] theorem z_kcons (n a p r) : Ks.den G T (.cons n a p r) = daCons (a.den G T false) (r.den G T) := (rfl)
@[simp] theorem z_bnil (op d) : Es.denB G T op .nil d = d := by cases op <;> rfl
@[simp] theorem z_band (a r d) : Es.denB G T .And (.cons a r) d = dAnd d (r.denB G T .And (a.den G T false)) := (rfl)
@[simp] theorem z_bor (a r d) : Es.denB G T .Or (.cons a r) d = dOr d (r.denB G T .Or (a.den G T false)) := (rfl)
@[simp] theorem z_tnil (op d) : Es.denBT G T op .nil d = d := by cases op <;> rfl
@[simp] theorem z_tand (a r d) : Es.denBT G T .And (.cons a r) d = tbAnd d (r.denBT G T .And (a.denT G T)) := (rfl)
@[simp] theorem z_tor (a r d) : Es.denBT G T .Or (.cons a r) d = tbOr d (r.denBT G T .Or (a.denT G T)) := (rfl)
@[simp] theorem z_inil : Es.denI G T .nil = dYes := (rfl)
@[simp] theorem z_icons (a r) : Es.denI G T (.cons a r) = a.denT G T := (rfl)
@[simp] theorem z_ono : Oe.den G T .no = doNo := (rfl)
@[simp] theorem z_oso (a) : Oe.den G T (.so a) = doE (a.den G T false) := (rfl)
@[simp] theorem i_e (lk a) : Ie.den G T lk (.e a) = diE (a.den G T lk) := by cases lk <;> rfl
@[simp] theorem i_rng1 (lk a q p) : Ie.den G T lk (.rng1 a q p) = diA rngF1 (daCons (a.den G T true) daNil) := by cases lk <;> rfl
@[simp] theorem i_rng2 (lk a b q p) : Ie.den G T lk (.rng2 a b q p) = diA rngF2 (daCons (a.den G T true) (daCons (b.den G T true) daNil)) := by cases lk <;> rfl
@[simp] theorem i_enum (lk a q p) : Ie.den G T lk (.enum a q p) = diA enumF (daCons (a.den G T lk) daNil) := by cases lk <;> rfl
@[simp] theorem i_zip (lk a b q p) : Ie.den G T lk (.zip a b q p) = diA zipF (daCons (a.den G T lk) (daCons (b.den G T lk) daNil)) := by cases lk <;> rfl
end
/-! names -/
section
variable {φ : Fns}
@[simp] theorem dV_0 (d : D) (r : Env) : dV 0 φ (.fz d :: r) = M.pure d := (rfl)
@[simp] theorem dV_S (i : Nat) (s : Sl) (r : Env) : dV (i + 1) φ (s :: r) = dV i φ r := (rfl)
@[simp] theorem dB_0 (d : D) (r : Env) : dB 0 φ (.fz d :: r) = M.pure d := (rfl)
@[simp] theorem dB_0o (d : D) (r : Env) : dB 0 φ (.ow d :: r) = M.pure d := (rfl)
@[simp] theorem dB_S (i : Nat) (s : Sl) (r : Env) : dB (i + 1) φ (s :: r) = dB i φ r := (rfl)
@[simp] theorem owL_0 (d : List D) (r : Env) : owL (.ow (.lst d) :: r) 0 = some d := (rfl)
@[simp] theorem owL_S (i : Nat) (s : Sl) (r : Env) : owL (s :: r) (i + 1) = owL r i := (rfl)
@[simp] theorem owD_0 (d : D) (r : Env) : owD (.ow d :: r) 0 = some d := (rfl)
@[simp] theorem owD_S (i : Nat) (s : Sl) (r : Env) : owD (s :: r) (i + 1) = owD r i := (rfl)
@[simp] theorem bind_nm (i p d ρ) : Pat.bind (.nm i p) d ρ = some (ρ.set i (.fz d)) := (rfl)
@[simp] theorem bind_tup (ps k p ds ρ) : Pat.bind (.tup ps k p) (.tup ds) ρ = ps.bind ds ρ := (rfl)
@[simp] theorem bindS_nil (ρ) : Pats.bind .nil [] ρ = some ρ := (rfl)
@[simp] theorem bindS_cons (a r d ds ρ) : Pats.bind (.cons a r) (d :: ds) ρ = match a.bind d ρ with
  | some ρ' => r.bind ds ρ'
  | none => none := (rfl)
@[simp] theorem wipe_nil (ρ) : wipeE ρ [] = ρ := (rfl)
@[simp] theorem wipe_cons (ρ v vs) : wipeE ρ (v :: vs) = (wipeE ρ vs).set v .no := (rfl)
@[simp] theorem startE_def (N : List Str) (ds : List D) : startE N ds = ds.map Sl.fz ++ List.replicate (N.length - ds.length) Sl.no := (rfl)
@[simp] theorem startI_def (N : List Str) (c : Nat) (ds : List D) : startI N c ds = Sl.ow (.obj c []) :: (ds.map Sl.fz ++ List.replicate (N.length - (ds.length + 1)) Sl.no) := (rfl)
@[simp] theorem slOf_lst (d) : slOf (.lst d) = .ow (.lst d) := (rfl)
@[simp] theorem slOf_dk (k d) : slOf (.dk k d) = .ow (.dk k d) := (rfl)
@[simp] theorem slOf_int (d) : slOf (.int d) = .fz (.int d) := (rfl)
@[simp] theorem slOf_str (d) : slOf (.str d) = .fz (.str d) := (rfl)
@[simp] theorem slOf_bl (d) : slOf (.bl d) = .fz (.bl d) := (rfl)
@[simp] theorem slOf_non : slOf .non = .fz .non := (rfl)
@[simp] theorem slB_t (d) : slB true d = slOf d := (rfl)
@[simp] theorem slB_f (d) : slB false d = .fz d := (rfl)
@[simp] theorem asB_bl (b : Bool) : asB (.bl b) = some b := (rfl)
@[simp] theorem frz_nil (ρ : Env) : frz ρ [] = ρ := (rfl)
end
end Z
namespace Z
open PySem PySem.Spec PyProof.Rows L2
/-! ### plain rows: operators on data -/
@[simp] theorem M.bind_pureE {α : Type} (m : M α) : (M.bind m fun a => M.pure a) = m := M.bind_pure_right m
@[simp] theorem retM_letrt (m : M D) : retM (MS.let m MS.rt) = m := by
  rw [retM_let]
  exact M.bind_pure_right m
/-- texts as data -/
def sD (xs : List Str) : List D := xs.map D.str
@[simp] theorem sD_nil : sD [] = [] := (rfl)
@[simp] theorem sD_cons (x : Str) (xs : List Str) : sD (x :: xs) = .str x :: sD xs := (rfl)
@[simp] theorem sD_len (xs : List Str) : (sD xs).length = xs.length := List.length_map ..
@[simp] theorem sD_take (xs : List Str) (i : Nat) : (sD xs).take i = sD (xs.take i) := List.map_take.symm
@[simp] theorem sD_drop (xs : List Str) (i : Nat) : (sD xs).drop i = sD (xs.drop i) := List.map_drop.symm
@[simp] theorem sD_app (xs ys : List Str) : sD xs ++ sD ys = sD (xs ++ ys) := List.map_append.symm
@[simp] theorem sD_app1 (xs : List Str) (y : Str) : sD xs ++ [D.str y] = sD (xs ++ [y]) := (List.map_append (l₂ := [y])).symm
@[simp] theorem sD_dl (xs : List Str) : (sD xs).dropLast = sD xs.dropLast := List.map_dropLast.symm
@[simp] theorem sD_get (xs : List Str) (i : Nat) : (sD xs)[i]? = (xs[i]?).map D.str := List.getElem?_map ..
@[simp] theorem sD_e (xs : List Str) : (sD xs = []) = (xs = []) := by
  cases xs <;> simp
theorem mem_sD {xs : List Str} {d : D} : d ∈ sD xs ↔ ∃ x ∈ xs, D.str x = d := List.mem_map
@[simp] theorem pl_non : pl .non = true := (rfl)
@[simp] theorem pl_bl (b : Bool) : pl (.bl b) = true := (rfl)
@[simp] theorem pl_int (b : Int) : pl (.int b) = true := (rfl)
@[simp] theorem pl_str (b : Str) : pl (.str b) = true := (rfl)
@[simp] theorem pl_lst (b : List D) : pl (.lst b) = pls b := (rfl)
@[simp] theorem pl_tup (b : List D) : pl (.tup b) = pls b := (rfl)
@[simp] theorem pls_nil : pls [] = true := (rfl)
@[simp] theorem pls_cons (d : D) (b : List D) : pls (d :: b) = (pl d && pls b) := (rfl)
@[simp] theorem dep_non : dep .non = 0 := (rfl)
@[simp] theorem dep_bl (b : Bool) : dep (.bl b) = 0 := (rfl)
@[simp] theorem dep_int (b : Int) : dep (.int b) = 0 := (rfl)
@[simp] theorem dep_str (b : Str) : dep (.str b) = 0 := (rfl)
@[simp] theorem dep_lst (b : List D) : dep (.lst b) = deps b + 1 := (rfl)
@[simp] theorem dep_tup (b : List D) : dep (.tup b) = deps b + 1 := (rfl)
@[simp] theorem deps_nil : deps [] = 0 := (rfl)
@[simp] theorem deps_cons (d : D) (b : List D) : deps (d :: b) = max (dep d) (deps b) := (rfl)
@[simp] theorem pls_app : ∀ (a b : List D), pls (a ++ b) = (pls a && pls b)
  | [], b => by simp
  | d :: a, b => by simp [pls_app a b, Bool.and_assoc]
theorem pls_all : ∀ {a : List D}, pls a = true ↔ ∀ d ∈ a, pl d = true
  | [] => by simp
  | d :: a => by simp [pls_all (a := a)]
@[simp] theorem pls_sD (xs : List Str) : pls (sD xs) = true := by
  rw [pls_all]
  intro d hd
  obtain ⟨x, _, rfl⟩ := List.mem_map.mp hd
  rfl
theorem deps_le : ∀ {a : List D} {k : Nat}, (∀ d ∈ a, dep d ≤ k) → deps a ≤ k
  | [], _, _ => Nat.zero_le _
  | d :: a, k, h => by
    simp only [deps_cons]
    exact Nat.max_le.mpr ⟨h d List.mem_cons_self, deps_le fun x hx => h x (List.mem_cons_of_mem _ hx)⟩
@[simp] theorem deps_sD (xs : List Str) : deps (sD xs) = 0 := by
  refine Nat.le_zero.mp (deps_le fun d hd => ?_)
  obtain ⟨x, _, rfl⟩ := List.mem_map.mp hd
  exact Nat.le_refl _
@[simp] theorem dq_str (x y : Str) : dq (.str x) (.str y) = (x == y) := (rfl)
@[simp] theorem dq_int (x y : Int) : dq (.int x) (.int y) = (x == y) := (rfl)
@[simp] theorem dq_lst (x y : List D) : dq (.lst x) (.lst y) = dqs x y := (rfl)
@[simp] theorem dq_tup (x y : List D) : dq (.tup x) (.tup y) = dqs x y := (rfl)
@[simp] theorem dq_lt (x y : List D) : dq (.lst x) (.tup y) = false := (rfl)
@[simp] theorem dq_tl (x y : List D) : dq (.tup x) (.lst y) = false := (rfl)
@[simp] theorem dqs_nn : dqs [] [] = true := (rfl)
@[simp] theorem dqs_nc (a : D) (x : List D) : dqs [] (a :: x) = false := (rfl)
@[simp] theorem dqs_cn (a : D) (x : List D) : dqs (a :: x) [] = false := (rfl)
@[simp] theorem dqs_cc (a b : D) (x y : List D) : dqs (a :: x) (b :: y) = (dq a b && dqs x y) := (rfl)
theorem dIn_sD (x : Str) (xs : List Str) : dIn (.str x) (sD xs) = decide (x ∈ xs) := by
  unfold dIn sD
  rw [List.any_map]
  induction xs with
  | nil => simp
  | cons y r ih =>
    rw [List.any_cons, ih]
    show ((y == x) || _) = _
    rw [show (y == x) = decide (x = y) from by rw [Bool.beq_eq_decide_eq]; exact decide_eq_decide.mpr eq_comm]
    rw [← Bool.decide_or]
    exact decide_eq_decide.mpr List.mem_cons.symm
@[simp] theorem c_eqI (a b : Int) : cmpF .Eq (.int a) (.int b) = some (.bl (decide (a = b))) := by
  show eqF false _ _ = _
  simp [eqF, bneg]
  exact (Bool.beq_eq_decide_eq a b)
@[simp] theorem c_neI (a b : Int) : cmpF .NotEq (.int a) (.int b) = some (.bl (decide (a ≠ b))) := by
  show eqF true _ _ = _
  simp [eqF, bneg, bne]
  exact (Bool.beq_eq_decide_eq a b)
@[simp] theorem c_eqS (a b : Str) : cmpF .Eq (.str a) (.str b) = some (.bl (decide (a = b))) := by
  show eqF false _ _ = _
  simp [eqF, bneg]
  exact (Bool.beq_eq_decide_eq a b)
@[simp] theorem c_neS (a b : Str) : cmpF .NotEq (.str a) (.str b) = some (.bl (decide (a ≠ b))) := by
  show eqF true _ _ = _
  simp [eqF, bneg, bne]
  exact (Bool.beq_eq_decide_eq a b)
@[simp] theorem c_lt (a b : Int) : cmpF .Lt (.int a) (.int b) = some (.bl (decide (a < b))) := (rfl)
@[simp] theorem c_le (a b : Int) : cmpF .LtE (.int a) (.int b) = some (.bl (decide (a ≤ b))) := (rfl)
@[simp] theorem c_gt (a b : Int) : cmpF .Gt (.int a) (.int b) = some (.bl (decide (b < a))) := (rfl)
@[simp] theorem c_ge (a b : Int) : cmpF .GtE (.int a) (.int b) = some (.bl (decide (b ≤ a))) := (rfl)
@[simp] theorem c_isN (d : D) : cmpF .Is d .non = some (.bl (isNon d)) := by cases d <;> rfl
@[simp] theorem c_isnN (d : D) : cmpF .IsNot d .non = some (.bl (!isNon d)) := by cases d <;> rfl
@[simp] theorem isNon_non : isNon .non = true := (rfl)
@[simp] theorem isNon_int (i : Int) : isNon (.int i) = false := (rfl)
@[simp] theorem isNon_str (i : Str) : isNon (.str i) = false := (rfl)
@[simp] theorem isNon_bl (i : Bool) : isNon (.bl i) = false := (rfl)
@[simp] theorem isNon_lst (i : List D) : isNon (.lst i) = false := (rfl)
@[simp] theorem isNon_tup (i : List D) : isNon (.tup i) = false := (rfl)
theorem in_seq {a b : D} {xs : List D} (h : itemsOf b = some xs) (ha : pl a = true) (hx : pls xs = true) (hd : min (deps xs) (dep a) ≤ 63) : cmpF .In a b = some (.bl (dIn a xs)) := by
  show (inF false a b).or _ = _
  simp [inF, h, ha, hx, hd, bneg]
theorem nin_seq {a b : D} {xs : List D} (h : itemsOf b = some xs) (ha : pl a = true) (hx : pls xs = true) (hd : min (deps xs) (dep a) ≤ 63) : cmpF .NotIn a b = some (.bl (!dIn a xs)) := by
  show (inF true a b).or _ = _
  simp [inF, h, ha, hx, hd, bneg]
@[simp] theorem c_inL (x : Str) (xs : List Str) : cmpF .In (.str x) (.lst (sD xs)) = some (.bl (decide (x ∈ xs))) := by rw [in_seq rfl rfl (pls_sD _) (by simp), dIn_sD]
@[simp] theorem c_ninL (x : Str) (xs : List Str) : cmpF .NotIn (.str x) (.lst (sD xs)) = some (.bl (!decide (x ∈ xs))) := by rw [nin_seq rfl rfl (pls_sD _) (by simp), dIn_sD]
@[simp] theorem c_inT (x : Str) (xs : List Str) : cmpF .In (.str x) (.tup (sD xs)) = some (.bl (decide (x ∈ xs))) := by rw [in_seq rfl rfl (pls_sD _) (by simp), dIn_sD]
@[simp] theorem c_ninT (x : Str) (xs : List Str) : cmpF .NotIn (.str x) (.tup (sD xs)) = some (.bl (!decide (x ∈ xs))) := by rw [nin_seq rfl rfl (pls_sD _) (by simp), dIn_sD]
@[simp] theorem c_inSign (c : Nat) (z : Str) : cmpF .In (.str ⟨#[c]⟩) (.str z) = some (.bl (decide (c ∈ z.cps.toList))) := (rfl)
theorem eq_pl {a b : D} (ha : pl a = true) (hb : pl b = true) (hd : min (dep a) (dep b) ≤ 64) : cmpF .Eq a b = some (.bl (dq a b)) := by
  show eqF false _ _ = _
  simp [eqF, ha, hb, hd, bneg]
theorem ne_pl {a b : D} (ha : pl a = true) (hb : pl b = true) (hd : min (dep a) (dep b) ≤ 64) : cmpF .NotEq a b = some (.bl (!dq a b)) := by
  show eqF true _ _ = _
  simp [eqF, ha, hb, hd, bneg]
section
variable {G : Gx}
@[simp] theorem b_lenL (xs : List D) : biF G .len [.lst xs] = some (.int xs.length) := (rfl)
@[simp] theorem b_lenT (xs : List D) : biF G .len [.tup xs] = some (.int xs.length) := (rfl)
@[simp] theorem b_lenS (xs : Str) : biF G .len [.str xs] = some (.int xs.length) := (rfl)
@[simp] theorem b_lenD (ks : List Key) (xs : List D) : biF G .len [.dk ks xs] = some (.int ks.length) := (rfl)
@[simp] theorem b_listL (xs : List D) : biF G .list [.lst xs] = some (.lst xs) := (rfl)
@[simp] theorem b_listT (xs : List D) : biF G .list [.tup xs] = some (.lst xs) := (rfl)
@[simp] theorem b_tupL (xs : List D) : biF G .tuple [.lst xs] = some (.tup xs) := (rfl)
@[simp] theorem b_tupT (xs : List D) : biF G .tuple [.tup xs] = some (.tup xs) := (rfl)
theorem blsD_map {α : Type} (f : α → Bool) : ∀ xs : List α, blsD (xs.map fun x => D.bl (f x)) = some (xs.map f)
  | [] => rfl
  | x :: r => by simp [blsD, blsD_map f r]
@[simp] theorem b_all {α : Type} (f : α → Bool) (xs : List α) : biF G .all [.lst (xs.map fun x => D.bl (f x))] = some (.bl (xs.all f)) := by
  rw [show biF G .all = allF from rfl]
  simp [allF, blsD_map]
@[simp] theorem b_max (a b : Int) : biF G .max [.int a, .int b] = some (.int (if b > a then b else a)) := (rfl)
@[simp] theorem b_min (a b : Int) : biF G .min [.int a, .int b] = some (.int (if b < a then b else a)) := (rfl)
theorem b_isi {d : D} {t u : Tg} {c : D} {r : Bool} (h : tgOf G d = some t) (hc : clsOf c = some u) (e : G.isa t u = some r) : biF G .isi [d, c] = some (.bl r) := by
  rw [show biF G .isi = isiF G from rfl]
  simp [isiF, h, hc, e]
@[simp] theorem tg_non : tgOf G .non = some (.t "NoneType") := (rfl)
@[simp] theorem tg_bl (b : Bool) : tgOf G (.bl b) = some (.t "bool") := (rfl)
@[simp] theorem tg_int (b : Int) : tgOf G (.int b) = some (.t "int") := (rfl)
@[simp] theorem tg_str (b : Str) : tgOf G (.str b) = some (.t "str") := (rfl)
@[simp] theorem tg_lst (b : List D) : tgOf G (.lst b) = some (.t "list") := (rfl)
@[simp] theorem tg_tup (b : List D) : tgOf G (.tup b) = some (.t "tuple") := (rfl)
@[simp] theorem tg_dk (k : List Key) (b : List D) : tgOf G (.dk k b) = some (.t "dict") := (rfl)
@[simp] theorem tg_obj (c : Nat) (b : List D) : tgOf G (.obj c b) = if G.oc c = true then some (.c c) else none := (rfl)
@[simp] theorem tg_exc (c : Nat) (b : List D) : tgOf G (.exc c b) = if G.ox c = true then some (.c c) else none := (rfl)
@[simp] theorem b_isiT (d : D) (n : String) : biF G .isi [d, .ty n] = (tgOf G d).bind fun t => (G.isa t (.t n)).map .bl := by
  rw [show biF G .isi = isiF G from rfl]
  simp only [isiF, clsOf]
  cases tgOf G d <;> rfl
@[simp] theorem b_isiC (d : D) (n : Nat) : biF G .isi [d, .cl n] = (tgOf G d).bind fun t => (G.isa t (.c n)).map .bl := by
  rw [show biF G .isi = isiF G from rfl]
  simp only [isiF, clsOf]
  cases tgOf G d <;> rfl
@[simp] theorem b_isiS (d : D) (cs : List D) : biF G .isi [d, .tup cs] = (tgOf G d).bind fun t => (clssOf cs).bind fun us => (anyIsa G t us).map .bl := by
  rw [show biF G .isi = isiF G from rfl]
  simp only [isiF, clsOf]
  cases tgOf G d with
  | none => rfl
  | some t => cases clssOf cs <;> rfl
@[simp] theorem clss_nil : clssOf [] = some [] := (rfl)
@[simp] theorem clss_ty (n : String) (r : List D) : clssOf (.ty n :: r) = (clssOf r).map (.t n :: ·) := by
  simp only [clssOf, clsOf]
  cases clssOf r <;> rfl
@[simp] theorem clss_cl (n : Nat) (r : List D) : clssOf (.cl n :: r) = (clssOf r).map (.c n :: ·) := by
  simp only [clssOf, clsOf]
  cases clssOf r <;> rfl
@[simp] theorem any_nil (t : Tg) : anyIsa G t [] = some false := (rfl)
@[simp] theorem any_cons (t c : Tg) (r : List Tg) : anyIsa G t (c :: r) = (G.isa t c).bind fun b => if b = true then some true else anyIsa G t r := by
  rw [anyIsa]
  cases G.isa t c with
  | none => rfl
  | some b => cases b <;> rfl
end
@[simp] theorem ty_list : Ty.nm .list = "list" := (rfl)
@[simp] theorem ty_tuple : Ty.nm .tuple = "tuple" := (rfl)
@[simp] theorem ty_dict : Ty.nm .dict = "dict" := (rfl)
@[simp] theorem ty_int : Ty.nm .int = "int" := (rfl)
@[simp] theorem ty_str : Ty.nm .str = "str" := (rfl)
@[simp] theorem ty_bool : Ty.nm .bool = "bool" := (rfl)
@[simp] theorem ty_ve : Ty.nm .ve = "ValueError" := (rfl)
@[simp] theorem ty_ke : Ty.nm .ke = "KeyError" := (rfl)
@[simp] theorem a_addI (a b : Int) : binF .Add (.int a) (.int b) = some (.int (a + b)) := (rfl)
@[simp] theorem a_subI (a b : Int) : binF .Sub (.int a) (.int b) = some (.int (a - b)) := (rfl)
@[simp] theorem a_mod (a b : Int) (h : 0 < b) : binF .Mod (.int a) (.int b) = some (.int (a % b)) := by
  rw [show binF .Mod = modF from rfl]
  simp [modF, iOp, h]
@[simp] theorem a_fdiv (a b : Int) (h : 0 < b) (h2 : b < 1073741824) : binF .FloorDiv (.int a) (.int b) = some (.int (a / b)) := by
  rw [show binF .FloorDiv = fdivF from rfl]
  simp [fdivF, iOp, h, h2]
theorem a_addS {x y : Str} (h : x.length + y.length ≤ 16777216) : binF .Add (.str x) (.str y) = some (.str (x ++ y)) := by
  rw [show binF .Add = addF from rfl]
  simp [addF, iOp, addS, h]
theorem a_addL {x y : List D} (h : x.length + y.length ≤ 16777216) : binF .Add (.lst x) (.lst y) = some (.lst (x ++ y)) := by
  rw [show binF .Add = addF from rfl]
  simp [addF, iOp, addS, addL, h]
theorem sb_nat {xs : List D} {d : D} {i : Nat} (h : xs[i]? = some d) : sbF (.lst xs) (.int (i : Int)) = some d := by
  have hi := (List.getElem?_eq_some_iff.mp h).1
  show (atI xs (i : Int)).or _ = _
  have e : atI xs (i : Int) = some d := by
    unfold atI ixN
    rw [if_pos (by omega), if_pos (by omega)]
    simpa using h
  rw [e]
  rfl
theorem sbT_nat {xs : List D} {d : D} {i : Nat} (h : xs[i]? = some d) : sbF (.tup xs) (.int (i : Int)) = some d := by
  have hi := (List.getElem?_eq_some_iff.mp h).1
  show (atI xs (i : Int)).or _ = _
  have e : atI xs (i : Int) = some d := by
    unfold atI ixN
    rw [if_pos (by omega), if_pos (by omega)]
    simpa using h
  rw [e]
  rfl
@[simp] theorem sb_0 (d : D) (xs : List D) : sbF (.lst (d :: xs)) (.int 0) = some d := sb_nat (i := 0) rfl
@[simp] theorem sb_1 (a d : D) (xs : List D) : sbF (.lst (a :: d :: xs)) (.int 1) = some d := sb_nat (i := 1) rfl
@[simp] theorem sb_2 (a b d : D) (xs : List D) : sbF (.lst (a :: b :: d :: xs)) (.int 2) = some d := sb_nat (i := 2) rfl
@[simp] theorem sb_3 (a b c d : D) (xs : List D) : sbF (.lst (a :: b :: c :: d :: xs)) (.int 3) = some d := sb_nat (i := 3) rfl
@[simp] theorem sbT_0 (d : D) (xs : List D) : sbF (.tup (d :: xs)) (.int 0) = some d := sbT_nat (i := 0) rfl
@[simp] theorem sbT_1 (a d : D) (xs : List D) : sbF (.tup (a :: d :: xs)) (.int 1) = some d := sbT_nat (i := 1) rfl
@[simp] theorem sbT_2 (a b d : D) (xs : List D) : sbF (.tup (a :: b :: d :: xs)) (.int 2) = some d := sbT_nat (i := 2) rfl
@[simp] theorem sbT_3 (a b c d : D) (xs : List D) : sbF (.tup (a :: b :: c :: d :: xs)) (.int 3) = some d := sbT_nat (i := 3) rfl
theorem cut_to (xs : List D) (k : Nat) : cutD xs none (some (k : Int)) = xs.take k := by
  unfold cutD
  rw [HT.sIx_none, HT.sIx_nat, List.drop_zero, Nat.sub_zero]
  rw [List.take_eq_take_iff]
  omega
theorem cut_from (xs : List D) (k : Nat) : cutD xs (some (k : Int)) none = xs.drop k := by
  unfold cutD
  rw [HT.sIx_none, HT.sIx_nat]
  by_cases h : k ≤ xs.length
  · rw [Nat.min_eq_left h]
    exact List.take_of_length_le (by rw [List.length_drop]; exact Nat.le_refl _)
  · rw [Nat.min_eq_right (by omega), List.drop_of_length_le (Nat.le_refl _), List.drop_of_length_le (by omega)]
    simp
theorem cut_last (xs : List D) : cutD xs none (some (-1)) = xs.dropLast := by
  unfold cutD
  have : HT.sIx xs.length xs.length (some (-1)) = xs.length - 1 := by
    show (if (-1 : Int) < 0 then ((-1 : Int) + (xs.length : Int)).toNat else min (-1 : Int).toNat xs.length) = _
    rw [if_pos (by decide)]
    omega
  rw [HT.sIx_none, this, List.drop_zero, Nat.sub_zero, List.dropLast_eq_take]
@[simp] theorem s_toI (xs : List D) (k : Nat) : slF (.lst xs) none (some (k : Int)) = some (.lst (xs.take k)) := by rw [slF, cut_to]
@[simp] theorem s_toT (xs : List D) (k : Nat) : slF (.tup xs) none (some (k : Int)) = some (.tup (xs.take k)) := by rw [slF, cut_to]
@[simp] theorem s_from1 (xs : List D) : slF (.lst xs) (some 1) none = some (.lst (xs.drop 1)) := by
  show some (D.lst (cutD xs (some ((1 : Nat) : Int)) none)) = _
  rw [cut_from]
@[simp] theorem s_last (xs : List D) : slF (.lst xs) none (some (-1)) = some (.lst xs.dropLast) := by rw [slF, cut_last]
@[simp] theorem negF_int (i : Int) : negF (.int i) = some (.int (-i)) := (rfl)
@[simp] theorem intD_int (i : Int) : intD (.int i) = some i := (rfl)
@[simp] theorem it_lst (xs : List D) : iterF (.lst xs) = some xs := (rfl)
@[simp] theorem it_tup (xs : List D) : iterF (.tup xs) = some xs := (rfl)
@[simp] theorem it_str (x : Str) : iterF (.str x) = some (signsD x) := (rfl)
@[simp] theorem en_lst (xs : List D) : enumF [.lst xs] = some (enumD 0 xs) := (rfl)
@[simp] theorem en_tup (xs : List D) : enumF [.tup xs] = some (enumD 0 xs) := (rfl)
@[simp] theorem zi_lst (xs ys : List D) : zipF [.lst xs, .lst ys] = some (zipD xs ys) := (rfl)
@[simp] theorem fz_ow (d : D) (h : ato d = false := by rfl) : frz [.ow d] [0] = [.fz d] := by simp [frz, h]
/-! comprehensions and loops -/
section
variable {φ : Fns}
@[simp] theorem bdy_nm (i p) (ρ : Env) (tst : Env → M Bool) (elt : Env → M D) (d : D) : bdy (.nm i p) ρ tst elt d = M.bind (M.noexc (tst (ρ.set i (.fz d)))) fun b => if b = true then M.bind (M.noexc (elt (ρ.set i (.fz d)))) fun y => M.pure (some y) else M.pure none := (rfl)
@[simp] theorem bdy_tupS (ps k p) (ρ : Env) (tst : Env → M Bool) (elt : Env → M D) (ds : List D) : bdy (.tup ps k p) ρ tst elt (.tup ds) = match ps.bind ds ρ with
  | some ρ' => M.bind (M.noexc (tst ρ')) fun b => if b = true then M.bind (M.noexc (elt ρ')) fun y => M.pure (some y) else M.pure none
  | none => M.bad := by
  unfold bdy
  rw [bind_tup]
  cases ps.bind ds ρ <;> rfl
theorem bdy_tup (ps k p) (ρ : Env) (tst : Env → M Bool) (elt : Env → M D) (ds : List D) {ρ' : Env} (h : ps.bind ds ρ = some ρ') : bdy (.tup ps k p) ρ tst elt (.tup ds) = M.bind (M.noexc (tst ρ')) fun b => if b = true then M.bind (M.noexc (elt ρ')) fun y => M.pure (some y) else M.pure none := by
  unfold bdy
  rw [bind_tup, h]
theorem lc_some {bd : D → M (Option D)} {f : D → D} : ∀ {items acc : List D}, (∀ d ∈ items, bd d = M.pure (some (f d))) → lcA bd acc items = M.pure (acc ++ items.map f)
  | [], acc, _ => by simp [lcA]
  | d :: r, acc, h => by
    rw [lcA, h d List.mem_cons_self, M.bind_pure, lc_some fun x hx => h x (List.mem_cons_of_mem _ hx)]
    simp
theorem lc_opt {bd : D → M (Option D)} {f : D → Option D} : ∀ {items acc : List D}, (∀ d ∈ items, bd d = M.pure (f d)) → lcA bd acc items = M.pure (acc ++ items.filterMap f)
  | [], acc, _ => by simp [lcA]
  | d :: r, acc, h => by
    rw [lcA, h d List.mem_cons_self, M.bind_pure, lc_opt fun x hx => h x (List.mem_cons_of_mem _ hx)]
    cases e : f d <;> simp [List.filterMap_cons, e]
/-- over things of any kind -/
theorem lc_map {α : Type} {bd : D → M (Option D)} {g : α → D} {f : α → D} {items : List α} (h : ∀ a ∈ items, bd (g a) = M.pure (some (f a))) (acc : List D) : lcA bd acc (items.map g) = M.pure (acc ++ items.map f) := by
  induction items generalizing acc with
  | nil => simp [lcA]
  | cons a r ih =>
    rw [List.map_cons, lcA, h a List.mem_cons_self, M.bind_pure, ih (fun x hx => h x (List.mem_cons_of_mem _ hx))]
    simp
theorem lc_sD {bd : D → M (Option D)} {f : Str → D} {xs : List Str} (h : ∀ x ∈ xs, bd (.str x) = M.pure (some (f x))) (acc : List D) : lcA bd acc (sD xs) = M.pure (acc ++ xs.map f) := lc_map (g := D.str) h acc
theorem signs_map (x : Str) : signsD x = x.cps.toList.map fun c => D.str ⟨#[c]⟩ := (rfl)
theorem enumD_eq : ∀ (i : Nat) (xs : List D), enumD i xs = xs.mapIdx fun j d => D.tup [.int ((i + j : Nat) : Int), d]
  | _, [] => rfl
  | i, d :: r => by
    rw [enumD, enumD_eq (i + 1) r, List.mapIdx_cons]
    congr 1
    apply List.ext_getElem?
    intro j
    simp only [List.getElem?_mapIdx]
    congr 1
    funext d
    have : i + 1 + j = i + (j + 1) := by omega
    rw [this]
@[simp] theorem for_nil (pt : Pat) (bd : Env → MS) (ρ : Env) : forD pt bd [] ρ = MS.nx ρ := (rfl)
@[simp] theorem for_nm (i p) (bd : Env → MS) (d : D) (ds : List D) (ρ : Env) : forD (.nm i p) bd (d :: ds) ρ = MS.seq (bd (ρ.set i (.fz d))) (forD (.nm i p) bd ds) := (rfl)
theorem for_tup (ps k p) (bd : Env → MS) (xs ds : List D) (ρ : Env) {ρ' : Env} (h : ps.bind xs ρ = some ρ') : forD (.tup ps k p) bd (.tup xs :: ds) ρ = MS.seq (bd ρ') (forD (.tup ps k p) bd ds) := by
  rw [forD, bind_tup, h]
end
end Z
namespace Z
open PySem PySem.Spec PyProof.Rows L2
/-! ### loops that draw nothing -/
/-- a loop as a run over its items: on with s', or out with v -/
def runL {σ : Type} (step : σ → D → σ ⊕ D) : σ → List D → σ ⊕ D
  | s, [] => .inl s
  | s, d :: r => match step s d with
    | .inl s' => runL step s' r
    | .inr v => .inr v
theorem for_run {σ : Type} {pt : Pat} {bd : Z.Env → MS} {k : Z.Env → MS} {r : σ → MS} (R : σ → Z.Env → Prop) (step : σ → D → σ ⊕ D) (hk : ∀ s ρ, R s ρ → k ρ = r s) :
    ∀ (items : List D) (s : σ) (ρ : Z.Env), (∀ s ρ, ∀ d ∈ items, R s ρ → ∃ ρ', pt.bind d ρ = some ρ' ∧ (match step s d with | .inl s' => ∃ ρ'', bd ρ' = MS.nx ρ'' ∧ R s' ρ'' | .inr v => bd ρ' = MS.rt v)) → R s ρ →
      MS.seq (forD pt bd items ρ) k = (match runL step s items with | .inl s' => r s' | .inr v => MS.rt v)
  | [], s, ρ, _, h => by rw [for_nil, MS.seq_nx, hk s ρ h]; rfl
  | d :: ds, s, ρ, hs, h => by
    obtain ⟨ρ', e1, e2⟩ := hs s ρ d List.mem_cons_self h
    rw [forD, e1]
    show MS.seq (MS.seq (bd ρ') _) k = _
    rw [runL]
    cases e3 : step s d with
    | inl s' =>
      rw [e3] at e2
      obtain ⟨ρ'', e4, e5⟩ := e2
      rw [e4, MS.seq_nx]
      exact for_run R step hk ds s' ρ'' (fun s ρ x hx => hs s ρ x (List.mem_cons_of_mem _ hx)) e5
    | inr v =>
      rw [e3] at e2
      rw [show bd ρ' = MS.rt v from e2]
      rfl
/-- a loop that goes on to its end -/
theorem for_all {pt : Pat} {bd : Z.Env → MS} {k : Z.Env → MS} {r : MS} (Inv : Nat → Z.Env → Prop) : ∀ (items : List D) (i : Nat) (ρ : Z.Env), (∀ j d ρ, items[j]? = some d → Inv (i + j) ρ → ∃ ρ' ρ'', pt.bind d ρ = some ρ' ∧ bd ρ' = MS.nx ρ'' ∧ Inv (i + j + 1) ρ'') → (∀ ρ, Inv (i + items.length) ρ → k ρ = r) → Inv i ρ → MS.seq (forD pt bd items ρ) k = r
  | [], i, ρ, _, hk, h => by
    rw [for_nil, MS.seq_nx]
    exact hk ρ h
  | d :: ds, i, ρ, hs, hk, h => by
    obtain ⟨ρ', ρ'', e1, e2, e3⟩ := hs 0 d ρ rfl h
    rw [forD, e1]
    show MS.seq (MS.seq (bd ρ') _) k = _
    rw [e2, MS.seq_nx]
    refine for_all Inv ds (i + 1) ρ'' (fun j x ρ hj hi => ?_) (fun ρ hp => hk ρ (by rw [List.length_cons, show i + (ds.length + 1) = i + 1 + ds.length by omega]; exact hp)) e3
    have := hs (j + 1) x ρ (by simpa using hj) (by rw [show i + (j + 1) = i + 1 + j by omega]; exact hi)
    rw [show i + (j + 1) + 1 = i + 1 + j + 1 by omega] at this
    exact this
theorem for_all0 {pt : Pat} {bd : Z.Env → MS} {k : Z.Env → MS} {r : MS} (Inv : Nat → Z.Env → Prop) (items : List D) (ρ : Z.Env) (hs : ∀ j d ρ, items[j]? = some d → Inv j ρ → ∃ ρ' ρ'', pt.bind d ρ = some ρ' ∧ bd ρ' = MS.nx ρ'' ∧ Inv (j + 1) ρ'') (hk : ∀ ρ, Inv items.length ρ → k ρ = r) (h : Inv 0 ρ) : MS.seq (forD pt bd items ρ) k = r :=
  for_all Inv items 0 ρ (fun j d ρ hj hi => by
    rw [Nat.zero_add] at hi ⊢
    exact hs j d ρ hj hi) (fun ρ hp => hk ρ (by rw [Nat.zero_add] at hp; exact hp)) h
/-! ### what draws: it ends, within a budget of draws -/
def PSok (p : PS) : Prop := 0 ≤ p.cnt ∧ 0 ≤ p.mix ∧ p.mix < 2147483648
def Gv {α : Type} (k : Nat) (m : M α) (Q : α → Prop) : Prop := ∀ p, PSok p → p.cnt + (k : Int) ≤ 1000000000000 → ∃ a p', m p = .ok a p' ∧ PSok p' ∧ p'.cnt ≤ p.cnt + (k : Int) ∧ Q a
def GvS (k : Nat) (m : MS) (QN : Z.Env → Prop) (QR : D → Prop) : Prop := ∀ p, PSok p → p.cnt + (k : Int) ≤ 1000000000000 → ∃ p', PSok p' ∧ p'.cnt ≤ p.cnt + (k : Int) ∧ ((∃ ρ, m p = .nx ρ p' ∧ QN ρ) ∨ ∃ d, m p = .rt d p' ∧ QR d)
section
variable {α β : Type}
theorem Gv.pure {k : Nat} {a : α} {Q : α → Prop} (h : Q a) : Gv k (M.pure a) Q := fun p hp _ => ⟨a, p, rfl, hp, by omega, h⟩
theorem Gv.bind {k1 k2 k : Nat} {m : M α} {f : α → M β} {Q : α → Prop} {Q' : β → Prop} (h : Gv k1 m Q) (hk : k1 + k2 ≤ k) (h2 : ∀ a, Q a → Gv k2 (f a) Q') : Gv k (M.bind m f) Q' := fun p hp hc => by
  obtain ⟨a, p1, e1, hp1, c1, q1⟩ := h p hp (by omega)
  obtain ⟨b, p2, e2, hp2, c2, q2⟩ := h2 a q1 p1 hp1 (by omega)
  refine ⟨b, p2, ?_, hp2, by omega, q2⟩
  simp only [M.bind, e1, e2]
theorem Gv.mono {k k' : Nat} {m : M α} {Q Q' : α → Prop} (h : Gv k m Q) (hk : k ≤ k') (hq : ∀ a, Q a → Q' a) : Gv k' m Q' := fun p hp hc => by
  obtain ⟨a, p1, e1, hp1, c1, q1⟩ := h p hp (by omega)
  exact ⟨a, p1, e1, hp1, by omega, hq a q1⟩
theorem Gv.noexc {k : Nat} {m : M α} {Q : α → Prop} (h : Gv k m Q) : Gv k (M.noexc m) Q := fun p hp hc => by
  obtain ⟨a, p1, e1, hp1, c1, q1⟩ := h p hp hc
  exact ⟨a, p1, by simp only [M.noexc, e1], hp1, c1, q1⟩
theorem GvS.nx {k : Nat} {ρ : Z.Env} {QN : Z.Env → Prop} {QR : D → Prop} (h : QN ρ) : GvS k (MS.nx ρ) QN QR := fun p hp _ => ⟨p, hp, by omega, .inl ⟨ρ, rfl, h⟩⟩
theorem GvS.rt {k : Nat} {d : D} {QN : Z.Env → Prop} {QR : D → Prop} (h : QR d) : GvS k (MS.rt d) QN QR := fun p hp _ => ⟨p, hp, by omega, .inr ⟨d, rfl, h⟩⟩
theorem GvS.let {k1 k2 k : Nat} {m : M α} {f : α → MS} {Q : α → Prop} {QN : Z.Env → Prop} {QR : D → Prop} (h : Gv k1 m Q) (hk : k1 + k2 ≤ k) (h2 : ∀ a, Q a → GvS k2 (f a) QN QR) : GvS k (MS.let m f) QN QR := fun p hp hc => by
  obtain ⟨a, p1, e1, hp1, c1, q1⟩ := h p hp (by omega)
  obtain ⟨p2, hp2, c2, q2⟩ := h2 a q1 p1 hp1 (by omega)
  refine ⟨p2, hp2, by omega, ?_⟩
  simp only [MS.let, e1]
  exact q2
theorem GvS.seq {k1 k2 k : Nat} {m : MS} {f : Z.Env → MS} {Q QN : Z.Env → Prop} {QR : D → Prop} (h : GvS k1 m Q QR) (hk : k1 + k2 ≤ k) (h2 : ∀ a, Q a → GvS k2 (f a) QN QR) : GvS k (MS.seq m f) QN QR := fun p hp hc => by
  obtain ⟨p1, hp1, c1, q1⟩ := h p hp (by omega)
  rcases q1 with ⟨ρ, e1, q1⟩ | ⟨d, e1, q1⟩
  · obtain ⟨p2, hp2, c2, q2⟩ := h2 ρ q1 p1 hp1 (by omega)
    refine ⟨p2, hp2, by omega, ?_⟩
    simp only [MS.seq, e1]
    exact q2
  · refine ⟨p1, hp1, by omega, .inr ⟨d, ?_, q1⟩⟩
    simp only [MS.seq, e1]
theorem GvS.mono {k k' : Nat} {m : MS} {Q Q' : Z.Env → Prop} {R R' : D → Prop} (h : GvS k m Q R) (hk : k ≤ k') (hq : ∀ a, Q a → Q' a) (hr : ∀ a, R a → R' a) : GvS k' m Q' R' := fun p hp hc => by
  obtain ⟨p1, hp1, c1, q1⟩ := h p hp (by omega)
  refine ⟨p1, hp1, by omega, ?_⟩
  rcases q1 with ⟨ρ, e1, q1⟩ | ⟨d, e1, q1⟩
  · exact .inl ⟨ρ, e1, hq _ q1⟩
  · exact .inr ⟨d, e1, hr _ q1⟩
/-- a body's answer -/
theorem Gv.ret {k : Nat} {m : MS} {QN : Z.Env → Prop} {Q : D → Prop} (h : GvS k m QN Q) (hn : ∀ ρ, QN ρ → Q .non) : Gv k (retM m) Q := fun p hp hc => by
  obtain ⟨p1, hp1, c1, q1⟩ := h p hp hc
  rcases q1 with ⟨ρ, e1, q1⟩ | ⟨d, e1, q1⟩
  · exact ⟨.non, p1, by simp only [retM, retR, e1], hp1, c1, hn ρ q1⟩
  · exact ⟨d, p1, by simp only [retM, retR, e1], hp1, c1, q1⟩
/-- a loop, its end -/
theorem Gv.retSeq {k1 k2 k : Nat} {m : MS} {f : Z.Env → MS} {QN : Z.Env → Prop} {Q : D → Prop} (h : GvS k1 m QN Q) (hk : k1 + k2 ≤ k) (h2 : ∀ ρ, QN ρ → Gv k2 (retM (f ρ)) Q) : Gv k (retM (MS.seq m f)) Q := fun p hp hc => by
  obtain ⟨p1, hp1, c1, q1⟩ := h p hp (by omega)
  rcases q1 with ⟨ρ, e1, q1⟩ | ⟨d, e1, q1⟩
  · obtain ⟨a, p2, e2, hp2, c2, q2⟩ := h2 ρ q1 p1 hp1 (by omega)
    refine ⟨a, p2, ?_, hp2, by omega, q2⟩
    simp only [retM, MS.seq, e1]
    exact e2
  · exact ⟨d, p1, by simp only [retM, retR, MS.seq, e1], hp1, by omega, q1⟩
/-- a for loop that draws -/
theorem GvS.for {k : Nat} {pt : Pat} {bd : Z.Env → MS} {QR : D → Prop} (Inv : Nat → Z.Env → Prop) : ∀ (items : List D) (i : Nat) (ρ : Z.Env), Inv i ρ → (∀ j d ρ, items[j]? = some d → Inv (i + j) ρ → ∃ ρ', pt.bind d ρ = some ρ' ∧ GvS k (bd ρ') (Inv (i + j + 1)) QR) →
    GvS (k * items.length) (forD pt bd items ρ) (Inv (i + items.length)) QR
  | [], i, ρ, h, _ => GvS.nx h
  | d :: ds, i, ρ, h, hs => by
    obtain ⟨ρ', e1, e2⟩ := hs 0 d ρ rfl h
    rw [forD, e1]
    refine GvS.seq (k2 := k * ds.length) e2 (by rw [List.length_cons, Nat.mul_succ]; omega) fun ρ2 h2 => ?_
    have := GvS.for (k := k) (pt := pt) (bd := bd) (QR := QR) Inv ds (i + 1) ρ2 h2 (fun j x ρ hj hi => by
      have := hs (j + 1) x ρ (by simpa using hj) (by rw [show i + (j + 1) = i + 1 + j by omega]; exact hi)
      rw [show i + (j + 1) + 1 = i + 1 + j + 1 by omega] at this
      exact this)
    rw [List.length_cons, show i + (ds.length + 1) = i + 1 + ds.length by omega]
    exact this
/-- a comprehension that draws -/
theorem Gv.lc {k : Nat} {bd : D → M (Option D)} {Q : D → Prop} : ∀ (items acc : List D), (∀ d ∈ items, Gv k (bd d) fun o => ∃ y, o = some y ∧ Q y) → (∀ d ∈ acc, Q d) → Gv (k * items.length) (lcA bd acc items) fun ys => ys.length = acc.length + items.length ∧ ∀ y ∈ ys, Q y
  | [], acc, _, ha => Gv.pure ⟨by simp, ha⟩
  | d :: ds, acc, h, ha => by
    rw [lcA]
    refine Gv.bind (k2 := k * ds.length) (h d List.mem_cons_self) (by rw [List.length_cons, Nat.mul_succ]; omega) fun o ⟨y, e, hy⟩ => ?_
    subst e
    refine (Gv.lc ds (acc ++ [y]) (fun x hx => h x (List.mem_cons_of_mem _ hx)) fun x hx => ?_).mono (Nat.le_refl _) fun ys ⟨h1, h2⟩ => ⟨?_, h2⟩
    · rcases List.mem_append.mp hx with hx | hx
      · exact ha x hx
      · rw [List.mem_singleton.mp hx]; exact hy
    · rw [h1]; simp; omega
end
/-! the draws -/
theorem pickLoop_ok : ∀ (cs : List Int) (dig mix : Int), 0 ≤ mix ∧ mix < 2147483648 → 0 ≤ (pickLoop cs dig mix).2.2 ∧ (pickLoop cs dig mix).2.2 < 2147483648
  | [], _, _, h => h
  | c :: cs, dig, mix, h => by
    rw [pickLoop]
    split
    · refine pickLoop_ok cs _ _ ⟨Int.emod_nonneg _ (by decide), ?_⟩
      have := Int.emod_lt_of_pos (mix * 6151 + ab c + 5) (show (0 : Int) < 2147483647 by decide)
      omega
    · exact h
theorem pick_gv {many : Int} (h : 0 < many) (h2 : many < 1073741824) : Gv 1 (pickM [.reg, .int many]) fun d => ∃ i : Int, d = .int i ∧ 0 ≤ i ∧ i < many := fun p hp hc => by
  obtain ⟨c1, c2, c3⟩ := hp
  have ok : pOk p = true := by
    simp only [pOk, Bool.and_eq_true, decide_eq_true_eq]
    refine ⟨c1, by omega, c2, c3⟩
  have e : pickM [.reg, .int many] p = .ok (.int (pickD many p).1) (pickD many p).2 := by
    show (if (decide (0 < many) && (decide (many < 1073741824) && pOk p)) = true then _ else _) = _
    rw [if_pos (by simp [h, h2, ok])]
  have hm := pickLoop_ok p.cells p.dig p.mix ⟨c2, c3⟩
  refine ⟨_, _, e, ?_, ?_, _, rfl, ?_, ?_⟩
  · unfold pickD
    dsimp only
    split
    · exact ⟨by show 0 ≤ p.cnt + 1; omega, hm.1, hm.2⟩
    · exact ⟨by show 0 ≤ p.cnt + 1; omega, hm.1, hm.2⟩
  · unfold pickD
    dsimp only
    split
    · show p.cnt + 1 ≤ p.cnt + ((1 : Nat) : Int); omega
    · show p.cnt + 1 ≤ p.cnt + ((1 : Nat) : Int); omega
  · unfold pickD
    dsimp only
    split
    · exact Int.emod_nonneg _ (by omega)
    · exact Int.emod_nonneg _ (by omega)
  · unfold pickD
    dsimp only
    split
    · exact Int.emod_lt_of_pos _ h
    · exact Int.emod_lt_of_pos _ h
end Z
namespace Z
open PySem PySem.Spec PyProof.Rows L2
/-! ### texts cut at one sign -/
theorem pre1 (c x : Nat) (r : List Nat) : TL.pre [c] (x :: r) = (x == c) := by
  show ([x] == [c]) = _
  simp
theorem spl1_hit {c : Nat} {acc r : List Nat} : TL.spl [c] 0 acc (c :: r) = acc :: TL.spl [c] 0 [] r := TL.spl_hit (by rw [pre1]; simp)
theorem spl1_miss {c x : Nat} {acc r : List Nat} (h : x ≠ c) : TL.spl [c] 0 acc (x :: r) = TL.spl [c] 0 (acc ++ [x]) r := TL.spl_miss (by rw [pre1]; simpa using h)
theorem spl1_ne (c : Nat) : ∀ (l acc : List Nat), TL.spl [c] 0 acc l ≠ []
  | [], acc => by rw [TL.spl_nil]; simp
  | x :: r, acc => by
    by_cases h : x = c
    · subst h
      rw [spl1_hit]
      simp
    · rw [spl1_miss h]
      exact spl1_ne c r _
theorem spl1_last (c : Nat) : ∀ (l acc : List Nat), (TL.spl [c] 0 acc l).getLast? = some [] ↔ (l = [] ∧ acc = []) ∨ l.getLast? = some c
  | [], acc => by
    rw [TL.spl_nil]
    simp
  | x :: r, acc => by
    by_cases h : x = c
    · subst h
      rw [spl1_hit, List.getLast?_cons]
      have ne := spl1_ne x r []
      cases e : TL.spl [x] 0 [] r with
      | nil => exact absurd e ne
      | cons p q =>
        have ih := spl1_last x r []
        rw [e] at ih
        rw [show (some (((p :: q).getLast?).getD acc) = some ([] : List Nat)) = ((p :: q).getLast? = some []) from by
          rw [List.getLast?_eq_some_getLast (List.cons_ne_nil _ _)]; simp]
        rw [ih, List.getLast?_cons]
        cases r with
        | nil => simp
        | cons y s => simp [List.getLast?_cons]
    · rw [spl1_miss h, spl1_last c r (acc ++ [x])]
      cases r with
      | nil => simp [h]
      | cons y s => simp [List.getLast?_cons]
theorem spl1_len (c : Nat) : ∀ (l acc : List Nat), (TL.spl [c] 0 acc l).length = l.count c + 1
  | [], acc => by rw [TL.spl_nil]; simp
  | x :: r, acc => by
    by_cases h : x = c
    · subst h
      rw [spl1_hit, List.length_cons, spl1_len x r []]
      simp
    · rw [spl1_miss h, spl1_len c r _, List.count_cons_of_ne h]
end Z
namespace Z
open PySem PySem.Spec PyProof.Rows L2
def parts (c : Nat) (x : Str) : List Str := (TL.spl [c] 0 [] x.cps.toList).map fun l => ⟨l.toArray⟩
theorem parts_ne (c : Nat) (x : Str) : parts c x ≠ [] := fun h => spl1_ne c _ _ (List.map_eq_nil_iff.mp h)
theorem parts_len {c : Nat} {x y : Str} (h : y ∈ parts c x) : y.length ≤ x.length := by
  obtain ⟨l, hl, rfl⟩ := List.mem_map.mp h
  have := (spl_sub [c] x.cps.toList 0 [] l hl).2
  simp only [List.length_nil, Nat.zero_add] at this
  show l.toArray.size ≤ x.cps.size
  simpa using this
def lastIs (c : Nat) (x : Str) : Bool := decide (x.cps.toList.getLast? = some c)
theorem ends_one (x : Str) (c : Nat) : Txt.endswith x ⟨#[c]⟩ = lastIs c x := by
  unfold Txt.endswith lastIs
  obtain ⟨⟨l⟩⟩ := x
  show (decide (0 + 1 ≤ l.length) && _) = _
  rcases List.eq_nil_or_concat l with h | ⟨r, d, h⟩
  · subst h; simp
  · rw [List.concat_eq_append] at h
    subst h
    have e : Builtin.Str.subAt ⟨⟨r ++ [d]⟩⟩ ⟨#[c]⟩ ((r ++ [d]).length - 1) = decide (d = c) := by
      unfold Builtin.Str.subAt
      show ((⟨r ++ [d]⟩ : Array Nat).extract ((r ++ [d]).length - 1) ((r ++ [d]).length - 1 + 1) == #[c]) = _
      have e1 : (r ++ [d]).length - 1 = r.length := by simp
      rw [e1]
      have e2 : (⟨r ++ [d]⟩ : Array Nat).extract r.length (r.length + 1) = #[d] := by
        apply Array.toList_inj.mp
        simp
      rw [e2]
      simp [Bool.beq_eq_decide_eq]
    have e0 : (⟨⟨r ++ [d]⟩⟩ : Str).length - (⟨#[c]⟩ : Str).length = (r ++ [d]).length - 1 := rfl
    rw [e0, e]
    simp
@[simp] theorem nl_eq : Str.ofString "\n" = ⟨#[10]⟩ := by decide +kernel
@[simp] theorem sp_eq : Str.ofString " " = ⟨#[32]⟩ := by decide +kernel
@[simp] theorem endF_one (x : Str) (c : Nat) : endF x (.str ⟨#[c]⟩) = some (.bl (lastIs c x)) := by
  show some (D.bl (Txt.endswith x ⟨#[c]⟩)) = _
  rw [ends_one]
theorem split_one {x : Str} {c : Nat} (hc : c < 256) (h : x.length ≤ 1000000) : splitF x (.str ⟨#[c]⟩) = some (.lst (sD (parts c x))) := by
  show (if _ then _ else _) = _
  rw [if_pos ⟨by simp, by simpa using hc, by omega⟩]
  rfl
/-- the last part is empty: the text ends with the sign (or is empty) -/
theorem parts_last (c : Nat) (x : Str) : (parts c x).getLast? = some ⟨#[]⟩ ↔ x.cps.toList = [] ∨ lastIs c x = true := by
  unfold parts lastIs
  rw [List.getLast?_map, decide_eq_true_eq]
  have := spl1_last c x.cps.toList []
  simp only [and_true] at this
  rw [← this]
  cases (TL.spl [c] 0 [] x.cps.toList).getLast? with
  | none => simp
  | some l => simp [Str.mk.injEq]
theorem strsD_sD : ∀ xs : List Str, strsD (sD xs) = some xs
  | [] => rfl
  | x :: r => by
    show (strsD (sD r)).map _ = _
    rw [strsD_sD r]
    rfl
theorem join_L {y : Str} {xs : List Str} (h : (xs.map (·.length)).sum + xs.length * y.length ≤ 16777216) : joinF y (.lst (sD xs)) = some (.str (joinD y xs)) := by
  unfold joinF
  simp only [itemsOf, strsD_sD, if_pos h]
def mid (c : Nat) (x : Str) : List Str := (parts c x).dropLast
theorem parts_mid (c : Nat) (x : Str) : ∃ l, parts c x = mid c x ++ [l] ∧ (parts c x).getLast? = some l := by
  have h := parts_ne c x
  exact ⟨_, (List.dropLast_concat_getLast h).symm, List.getLast?_eq_some_getLast h⟩
theorem parts_size (c : Nat) (x : Str) : (parts c x).length ≤ x.length + 1 := by
  unfold parts
  rw [List.length_map, spl1_len]
  have := List.count_le_length (a := c) (l := x.cps.toList)
  have e : x.cps.toList.length = x.length := rfl
  omega
theorem mid_len {c : Nat} {x y : Str} (h : y ∈ mid c x) : y.length ≤ x.length := parts_len (List.dropLast_subset _ h)
theorem mid_size (c : Nat) (x : Str) : (mid c x).length ≤ x.length := by
  obtain ⟨l, e, _⟩ := parts_mid c x
  have := parts_size c x
  rw [e, List.length_append, List.length_singleton] at this
  omega
end Z
namespace Z
open PySem PySem.Spec PyProof.Rows L2
/-! ### texts at a place, slices of texts; more rows -/
theorem sbS_nat {x : Str} {c : Nat} {i : Nat} (h : x.cps.toList[i]? = some c) : sbF (.str x) (.int (i : Int)) = some (.str ⟨#[c]⟩) := by
  have hi := (List.getElem?_eq_some_iff.mp h).1
  show ((atI x.cps.toList (i : Int)).map _).or _ = _
  have e : atI x.cps.toList (i : Int) = some c := by
    unfold atI ixN
    rw [if_pos (by omega), if_pos (by omega)]
    simpa using h
  rw [e]
  rfl
section
variable {φ : Fns} {ρ : Env} {G : Gx}
@[simp] theorem u_appPop (i j : Nat) (a : DE) : dsAppPop i j a φ ρ = if i = j then MS.bad else match owL ρ i with
  | some xs => match owL ρ j with
    | some ys => MS.let (a φ ρ) fun d => match popAt ys d with
      | some (y, zs) => if xs.length < 16777216 then MS.nx ((ρ.set j (.ow (.lst zs))).set i (.ow (.lst (xs ++ [y])))) else MS.bad
      | none => MS.bad
    | _ => MS.bad
  | _ => MS.bad := (rfl)
@[simp] theorem u_cmp2 (f f' : D → D → Option D) (a b c : DE) : dCmp2 f f' a b c φ ρ = M.bind (a φ ρ) fun x => M.bind (b φ ρ) fun y => M.bind (M.of (f x y)) fun z => M.bind (M.of (asB z)) fun k => if k = true then M.bind (c φ ρ) fun w => M.of (f' y w) else M.pure (.bl false) := (rfl)
def told (G : Gx) (tw : Str) (cl : List ClE) (m : M D) : M D := fun p => tolR G tw cl (m p)
@[simp] theorem u_told (tw : Str) (cl : List ClE) (bd : DE) : dTold G tw cl bd φ ρ = told G tw cl (bd φ ρ) := (rfl)
@[simp] theorem told_pure (tw : Str) (cl : List ClE) (d : D) : told G tw cl (M.pure d) = M.pure (.tup [.str tw, d]) := (rfl)
theorem told_raise {tw : Str} {cl : List ClE} {c : Nat} {x d : D} (h : tolF G c x cl = some d) : told G tw cl (M.raise c [x]) = M.pure d := by
  funext p
  show tolR G tw cl (.exc c [x] p) = _
  simp only [tolR, h]
  rfl
@[simp] theorem u_callv (fs : List Nat) (i : Nat) (a : DA) : dCallV fs i a φ ρ = match fnV ρ i with
  | some f => if fs.contains f = true then M.bind (a φ ρ) fun ds => φ f ds else M.bad
  | none => M.bad := by
  rw [dCallV_eq]
  rfl
end
theorem popAt_nat {xs : List D} {y : D} {i : Nat} (h : xs[i]? = some y) (hl : xs.length < 2 ^ 62) : popAt xs (.int (i : Int)) = some (y, xs.eraseIdx i) := by
  have hi := (List.getElem?_eq_some_iff.mp h).1
  have e : seqIndex? (i : Int) xs.length = some i := by
    unfold seqIndex?
    simp
    omega
  unfold popAt
  dsimp only
  rw [if_pos (by omega), e]
  simp [h]
theorem erase_perm {α : Type} : ∀ {xs : List α} {i : Nat} {y : α}, xs[i]? = some y → (y :: xs.eraseIdx i).Perm xs
  | x :: r, 0, y, h => by
    simp at h
    subst h
    exact List.Perm.refl _
  | x :: r, i + 1, y, h => by
    have h : r[i]? = some y := by simpa using h
    rw [List.eraseIdx_cons_succ]
    exact (List.Perm.swap x y _).trans ((erase_perm h).cons x)
theorem rng_at {n j : Nat} {d : D} (h : (rngD 0 n)[j]? = some d) : d = .int (j : Nat) ∧ j < n := by
  unfold rngD at h
  rw [List.getElem?_map] at h
  cases e : (List.range n)[j]? with
  | none => rw [e] at h; cases h
  | some k =>
    rw [e] at h
    obtain ⟨h1, h2⟩ := List.getElem?_eq_some_iff.mp e
    simp at h2 h1
    subst h2
    simp at h
    exact ⟨h.symm, h1⟩
@[simp] theorem rngD_len (lo : Int) (n : Nat) : (rngD lo n).length = n := by unfold rngD; simp
theorem rng1_nat (n : Nat) (h : n ≤ 16777216) : rngF1 [.int (n : Int)] = some (rngD 0 n) := by
  unfold rngF1
  dsimp only
  rw [if_pos (by omega)]
  simp
theorem zipD_self : ∀ xs : List D, zipD xs xs = xs.map fun x => .tup [x, x]
  | [] => rfl
  | x :: r => by rw [zipD, zipD_self r]; rfl
theorem cutS_len (x : Str) (lo hi : Option Int) : (cutS x lo hi).length ≤ x.length := by
  unfold cutS
  simp [Str.length]
  omega
@[simp] theorem s_str (x : Str) (lo hi : Option Int) : slF (.str x) lo hi = some (.str (cutS x lo hi)) := (rfl)
theorem last_of {xs : List D} {d : D} (h : xs.getLast? = some d) : sbF (.lst xs) (.int (-1)) = some d := by
  have hn : xs ≠ [] := by rintro rfl; cases h
  have hl : 0 < xs.length := List.length_pos_iff.mpr hn
  show (atI xs (-1)).or _ = _
  have e : atI xs (-1) = some d := by
    have e2 : ixN xs.length (-1) = some (xs.length - 1) := by
      unfold ixN
      rw [if_neg (by decide), if_pos (by omega)]
      congr 1
      omega
    unfold atI
    rw [e2]
    rw [List.getLast?_eq_getElem?] at h
    exact h
  rw [e]
  rfl
@[simp] theorem dq_bl (x y : Bool) : dq (.bl x) (.bl y) = (x == y) := (rfl)
@[simp] theorem c_eqB (a b : Bool) : cmpF .Eq (.bl a) (.bl b) = some (.bl (a == b)) := by
  show eqF false _ _ = _
  simp [eqF, bneg]
@[simp] theorem c_neB (a b : Bool) : cmpF .NotEq (.bl a) (.bl b) = some (.bl (a != b)) := by
  show eqF true _ _ = _
  simp [eqF, bneg, bne]
theorem GvS.rng {k n : Nat} {pt : Pat} {bd : Z.Env → MS} {QR : D → Prop} (Inv : Nat → Z.Env → Prop) {ρ : Z.Env} (h0 : Inv 0 ρ) (hs : ∀ j, j < n → ∀ ρ, Inv j ρ → ∀ Q : Z.Env → Prop, (∀ ρ, Inv (j + 1) ρ → Q ρ) → ∃ ρ', pt.bind (.int (j : Nat)) ρ = some ρ' ∧ GvS k (bd ρ') Q QR) : GvS (k * n) (forD pt bd (rngD 0 n) ρ) (Inv n) QR := by
  have := GvS.for (k := k) (pt := pt) (bd := bd) (QR := QR) Inv (rngD 0 n) 0 ρ h0 (fun j d ρ hj hi => by
    obtain ⟨rfl, hlt⟩ := rng_at hj
    rw [Nat.zero_add] at hi ⊢
    exact hs j hlt ρ hi _ fun _ h => h)
  rw [rngD_len, Nat.zero_add] at this
  exact this
theorem GvS.items {k : Nat} {pt : Pat} {bd : Z.Env → MS} {QR : D → Prop} (Inv : Nat → Z.Env → Prop) {items : List D} {ρ : Z.Env} (h0 : Inv 0 ρ) (hs : ∀ (j : Nat) (d : D), items[j]? = some d → ∀ ρ, Inv j ρ → ∀ Q : Z.Env → Prop, (∀ ρ, Inv (j + 1) ρ → Q ρ) → ∃ ρ', pt.bind d ρ = some ρ' ∧ GvS k (bd ρ') Q QR) : GvS (k * items.length) (forD pt bd items ρ) (Inv items.length) QR := by
  have := GvS.for (k := k) (pt := pt) (bd := bd) (QR := QR) Inv items 0 ρ h0 (fun j d ρ hj hi => by
    rw [Nat.zero_add] at hi ⊢
    exact hs j d hj ρ hi _ fun _ h => h)
  rw [Nat.zero_add] at this
  exact this
@[simp] theorem ato_lst (xs : List D) : ato (.lst xs) = false := (rfl)
@[simp] theorem frz_cons (ρ : Env) (i : Nat) (r : List Nat) : frz ρ (i :: r) = (match ρ[i]? with
  | some (.ow d) => if ato d = true then frz ρ r else frz (ρ.set i (.fz d)) r
  | _ => frz ρ r) := by first | rfl | (rw [frz]; done) | (rw [frz]; rfl)
@[simp] theorem all_tt {α : Type} (xs : List α) : (xs.all fun _ => true) = true := by induction xs <;> simp
/-- plain things of a depth -/
inductive Pn : Nat → D → Prop
  | non {k} : Pn k .non
  | bl {k b} : Pn k (.bl b)
  | int {k b} : Pn k (.int b)
  | str {k b} : Pn k (.str b)
  | lst {k xs} : (∀ x ∈ xs, Pn k x) → xs.length ≤ 16777216 → Pn (k + 1) (.lst xs)
  | tup {k xs} : (∀ x ∈ xs, Pn k x) → xs.length ≤ 16777216 → Pn (k + 1) (.tup xs)
theorem Pn.up {k : Nat} {d : D} (h : Pn k d) : ∀ m, k ≤ m → Pn m d := by
  induction h with
  | non => exact fun _ _ => .non
  | bl => exact fun _ _ => .bl
  | int => exact fun _ _ => .int
  | str => exact fun _ _ => .str
  | lst _ hl ih =>
    intro m hm
    cases m with
    | zero => omega
    | succ m => exact .lst (fun x hx => ih x hx m (by omega)) hl
  | tup _ hl ih =>
    intro m hm
    cases m with
    | zero => omega
    | succ m => exact .tup (fun x hx => ih x hx m (by omega)) hl
theorem Pn.sD {xs : List Str} {k : Nat} (h : xs.length ≤ 16777216) : Pn (k + 1) (.lst (sD xs)) := .lst (fun x hx => by
  obtain ⟨y, _, rfl⟩ := mem_sD.mp hx
  exact .str) (by rw [sD_len]; exact h)
theorem Pn.l {d : D} {xs : List D} {k : Nat} (h : Pn (k + 1) (.lst xs)) (hd : d ∈ xs) : Pn k d := by
  cases h with
  | lst h1 _ => exact h1 d hd
theorem Pn.pl {k : Nat} {d : D} (h : Pn k d) : pl d = true := by
  induction h with
  | non | bl | int | str => rfl
  | lst _ _ ih => rw [pl_lst, pls_all]; exact ih
  | tup _ _ ih => rw [pl_tup, pls_all]; exact ih
theorem Pn.dep {k : Nat} {d : D} (h : Pn k d) : dep d ≤ k := by
  induction h with
  | non | bl | int | str => exact Nat.zero_le _
  | lst _ _ ih => rw [dep_lst]; exact Nat.succ_le_succ (deps_le ih)
  | tup _ _ ih => rw [dep_tup]; exact Nat.succ_le_succ (deps_le ih)
end Z
namespace K99
open PySem PySem.Spec PyProof.Rows L2 Z
def top (i : Nat) : Stmt := PySem.Challenge.pw_siftlevels_k99_whole_texts_of_settings_a.main.body.getD i (.Pass ⟨0, 0, 0, 0⟩)
def inClass (s : Stmt) (j : Nat) : Stmt := match s with
  | .ClassDef _ _ _ b _ _ _ _ _ _ _ => b.getD j (.Pass ⟨0, 0, 0, 0⟩)
  | _ => .Pass ⟨0, 0, 0, 0⟩
def f_is_list : Nat := 0
def f_is_row : Nat := 1
def f_is_pair : Nat := 2
def f_is_text : Nat := 3
def f_is_letters : Nat := 4
def f_is_word : Nat := 5
def f_wrong_words : Nat := 6
def f_is_one_of : Nat := 7
def f_is_ring_of : Nat := 8
def f_are_rings : Nat := 9
def f_is_turn : Nat := 10
def f_wrong_turns : Nat := 11
def f_need_puzzle : Nat := 12
def f_names_of : Nat := 13
def f_is_walk : Nat := 14
def f_check_walk : Nat := 15
def f_is_setting_of : Nat := 16
def f_setting_of : Nat := 17
def f_setting_text : Nat := 18
def f_words_of : Nat := 19
def f_read_setting : Nat := 20
def f_walk_text : Nat := 21
def f_read_walk : Nat := 22
def f__law_pick : Nat := 23
def f__law_between : Nat := 24
def f__law_one : Nat := 25
def f__law_mixed : Nat := 26
def f__law_same : Nat := 27
def f__law_copy : Nat := 28
def f__law_loose : Nat := 29
def f__law_free_word : Nat := 30
def f__law_words : Nat := 31
def f__law_puzzle_of : Nat := 32
def f__law_some_rings : Nat := 33
def f__law_make_puzzle : Nat := 34
def f__law_any_setting : Nat := 35
def f__law_is_one : Nat := 36
def f__law_setting_right : Nat := 37
def f__law_is_walk : Nat := 38
def f__law_read_setting : Nat := 39
def f__law_read_walk : Nat := 40
def f__law_bent : Nat := 41
def f__law_errors_asked : Nat := 42
def f_Puzzle_places : Nat := 43
def f_Puzzle_nodes : Nat := 44
def f_Puzzle_turns : Nat := 45
def f_Puzzle___init__ : Nat := 46
def c_PuzzleError : Nat := 0
def c_BadPlaces : Nat := 1
def c_BadNodes : Nat := 2
def c_BadTurns : Nat := 3
def c_BadPuzzle : Nat := 4
def c_BadPuzzleText : Nat := 5
def c_BadWalk : Nat := 6
def c_BadSetting : Nat := 7
def c_BadSettingText : Nat := 8
def c_BadWalkText : Nat := 9
def c_Puzzle : Nat := 10
def b_is_list : Ss :=
  (.cons (.ret [] (.blt .isi (.cons (.var 0 ⟨7,22,7,27⟩) (.cons (.tup (.cons (.ty .list ⟨7,30,7,34⟩) (.cons (.ty .tuple ⟨7,36,7,41⟩) .nil)) 0 ⟨7,29,7,42⟩) .nil)) ⟨7,11,7,21⟩ ⟨7,11,7,43⟩) ⟨7,4,7,43⟩) .nil)
def d_is_list : DefS := ⟨"is_list", "is_list", (top 3), ["thing"], 1, b_is_list, none, false⟩
def b_is_row : Ss :=
  (.cons (.ret [] (.bop .And (.call f_is_list (.cons (.var 0 ⟨9,19,9,24⟩) .nil) ⟨9,11,9,18⟩ ⟨9,11,9,25⟩) (.cons (.cmp .Eq (.blt .len (.cons (.var 0 ⟨9,34,9,39⟩) .nil) ⟨9,30,9,33⟩ ⟨9,30,9,40⟩) (.var 1 ⟨9,44,9,48⟩) ⟨9,30,9,48⟩) .nil) ⟨9,11,9,48⟩) ⟨9,4,9,48⟩) .nil)
def d_is_row : DefS := ⟨"is_row", "is_row", (top 4), ["thing", "many"], 2, b_is_row, none, false⟩
def b_is_pair : Ss :=
  (.cons (.ret [] (.call f_is_row (.cons (.var 0 ⟨11,18,11,23⟩) (.cons (.int 2 0 ⟨11,25,11,26⟩) .nil)) ⟨11,11,11,17⟩ ⟨11,11,11,27⟩) ⟨11,4,11,27⟩) .nil)
def d_is_pair : DefS := ⟨"is_pair", "is_pair", (top 5), ["thing"], 1, b_is_pair, none, false⟩
def b_is_text : Ss :=
  (.cons (.ret [] (.blt .isi (.cons (.var 0 ⟨13,22,13,27⟩) (.cons (.ty .str ⟨13,29,13,32⟩) .nil)) ⟨13,11,13,21⟩ ⟨13,11,13,33⟩) ⟨13,4,13,33⟩) .nil)
def d_is_text : DefS := ⟨"is_text", "is_text", (top 6), ["thing"], 1, b_is_text, none, false⟩
def b_is_letters : Ss :=
  (.cons (.ret [] (.bop .And (.call f_is_text (.cons (.var 0 ⟨15,19,15,24⟩) .nil) ⟨15,11,15,18⟩ ⟨15,11,15,25⟩) (.cons (.cmp .Gt (.blt .len (.cons (.var 0 ⟨15,34,15,39⟩) .nil) ⟨15,30,15,33⟩ ⟨15,30,15,40⟩) (.int 0 0 ⟨15,43,15,44⟩) ⟨15,30,15,44⟩) (.cons (.blt .all (.cons (.lc [1] (.nm 1 ⟨15,74,15,78⟩) (.e (.var 0 ⟨15,82,15,87⟩)) .nil (.cmp .In (.var 1 ⟨15,54,15,58⟩) (.gstr 0 ⟨15,62,15,69⟩) ⟨15,54,15,69⟩) { kind := PySem.ScopeKind.function, names := [((PySem.Str.ofString ".0"), PySem.NameKind.local), ((PySem.Str.ofString "sign"), PySem.NameKind.local), ((PySem.Str.ofString "LETTERS"), PySem.NameKind.globalImplicit)], isGenerator := false, isCoroutine := false, more := [] : PySem.Scope } ⟨15,53,15,88⟩) .nil) ⟨15,49,15,52⟩ ⟨15,49,15,89⟩) .nil)) ⟨15,11,15,89⟩) ⟨15,4,15,89⟩) .nil)
def d_is_letters : DefS := ⟨"is_letters", "is_letters", (top 7), ["thing", "sign"], 1, b_is_letters, none, false⟩
def b_is_word : Ss :=
  (.cons (.ret [] (.bop .And (.call f_is_letters (.cons (.var 0 ⟨17,22,17,27⟩) .nil) ⟨17,11,17,21⟩ ⟨17,11,17,28⟩) (.cons (.cmp .LtE (.blt .len (.cons (.var 0 ⟨17,37,17,42⟩) .nil) ⟨17,33,17,36⟩ ⟨17,33,17,43⟩) (.int 8 0 ⟨17,47,17,48⟩) ⟨17,33,17,48⟩) .nil) ⟨17,11,17,48⟩) ⟨17,4,17,48⟩) .nil)
def d_is_word : DefS := ⟨"is_word", "is_word", (top 8), ["thing"], 1, b_is_word, none, false⟩
def b_wrong_words : Ss :=
  (.cons (.ife [] (.bop .Or (.not (.call f_is_list (.cons (.var 0 ⟨60,19,60,24⟩) .nil) ⟨60,11,60,18⟩ ⟨60,11,60,25⟩) ⟨60,7,60,25⟩) (.cons (.cmp .Eq (.blt .len (.cons (.var 0 ⟨60,33,60,38⟩) .nil) ⟨60,29,60,32⟩ ⟨60,29,60,39⟩) (.int 0 0 ⟨60,43,60,44⟩) ⟨60,29,60,44⟩) .nil) ⟨60,7,60,44⟩) (.cons (.ret [] (.int 0 0 ⟨61,15,61,16⟩) ⟨61,8,61,16⟩) .nil) .nil ⟨60,4,61,16⟩) (.cons (.forr [] (.tup (.cons (.nm 1 ⟨62,8,62,13⟩) (.cons (.nm 2 ⟨62,15,62,19⟩) .nil)) 0 ⟨62,8,62,19⟩) (.enum (.var 0 ⟨62,33,62,38⟩) ⟨62,23,62,32⟩ ⟨62,23,62,39⟩) (.cons (.ife [] (.bop .Or (.not (.call f_is_word (.cons (.var 2 ⟨63,23,63,27⟩) .nil) ⟨63,15,63,22⟩ ⟨63,15,63,28⟩) ⟨63,11,63,28⟩) (.cons (.cmp .In (.var 2 ⟨63,32,63,36⟩) (.blt .list (.cons (.sl (.var 0 ⟨63,45,63,50⟩) .no (.so (.var 1 ⟨63,52,63,57⟩)) ⟨63,51,63,57⟩ ⟨63,45,63,58⟩) .nil) ⟨63,40,63,44⟩ ⟨63,40,63,59⟩) ⟨63,32,63,59⟩) .nil) ⟨63,11,63,59⟩) (.cons (.ret [] (.var 1 ⟨64,19,64,24⟩) ⟨64,12,64,24⟩) .nil) .nil ⟨63,8,64,24⟩) .nil) ⟨62,4,64,24⟩) (.cons (.ret [] (.non 0 ⟨65,11,65,15⟩) ⟨65,4,65,15⟩) .nil)))
def d_wrong_words : DefS := ⟨"wrong_words", "wrong_words", (top 22), ["words", "index", "word"], 1, b_wrong_words, none, false⟩
def b_is_one_of : Ss :=
  (.cons (.ret [] (.bop .And (.call f_is_text (.cons (.var 1 ⟨67,19,67,24⟩) .nil) ⟨67,11,67,18⟩ ⟨67,11,67,25⟩) (.cons (.cmp .In (.var 1 ⟨67,30,67,35⟩) (.var 0 ⟨67,39,67,44⟩) ⟨67,30,67,44⟩) .nil) ⟨67,11,67,44⟩) ⟨67,4,67,44⟩) .nil)
def d_is_one_of : DefS := ⟨"is_one_of", "is_one_of", (top 23), ["words", "thing"], 2, b_is_one_of, none, false⟩
def b_is_ring_of : Ss :=
  (.cons (.ife [] (.bop .Or (.not (.call f_is_list (.cons (.var 1 ⟨69,19,69,24⟩) .nil) ⟨69,11,69,18⟩ ⟨69,11,69,25⟩) ⟨69,7,69,25⟩) (.cons (.cmp .Lt (.blt .len (.cons (.var 1 ⟨69,33,69,38⟩) .nil) ⟨69,29,69,32⟩ ⟨69,29,69,39⟩) (.int 2 0 ⟨69,42,69,43⟩) ⟨69,29,69,43⟩) .nil) ⟨69,7,69,43⟩) (.cons (.ret [] (.bl false 0 ⟨70,15,70,20⟩) ⟨70,8,70,20⟩) .nil) .nil ⟨69,4,70,20⟩) (.cons (.ife [] (.not (.blt .all (.cons (.lc [3] (.nm 3 ⟨71,68,71,73⟩) (.e (.var 1 ⟨71,77,71,82⟩)) .nil (.bop .And (.call f_is_one_of (.cons (.var 0 ⟨71,26,71,32⟩) (.cons (.var 3 ⟨71,34,71,39⟩) .nil)) ⟨71,16,71,25⟩ ⟨71,16,71,40⟩) (.cons (.cmp .NotIn (.var 3 ⟨71,45,71,50⟩) (.var 2 ⟨71,58,71,63⟩) ⟨71,45,71,63⟩) .nil) ⟨71,16,71,63⟩) { kind := PySem.ScopeKind.function, names := [((PySem.Str.ofString ".0"), PySem.NameKind.local), ((PySem.Str.ofString "place"), PySem.NameKind.local), ((PySem.Str.ofString "is_one_of"), PySem.NameKind.globalImplicit), ((PySem.Str.ofString "places"), PySem.NameKind.free), ((PySem.Str.ofString "taken"), PySem.NameKind.free)], isGenerator := false, isCoroutine := false, more := [] : PySem.Scope } ⟨71,15,71,83⟩) .nil) ⟨71,11,71,14⟩ ⟨71,11,71,84⟩) ⟨71,7,71,84⟩) (.cons (.ret [] (.bl false 0 ⟨72,15,72,20⟩) ⟨72,8,72,20⟩) .nil) .nil ⟨71,4,72,20⟩) (.cons (.ret [] (.cmp .Eq (.blt .len (.cons (.dc [3] (.nm 3 ⟨73,32,73,37⟩) (.e (.var 1 ⟨73,41,73,46⟩)) .nil (.var 3 ⟨73,16,73,21⟩) (.bl true 0 ⟨73,23,73,27⟩) { kind := PySem.ScopeKind.function, names := [((PySem.Str.ofString ".0"), PySem.NameKind.local), ((PySem.Str.ofString "place"), PySem.NameKind.local)], isGenerator := false, isCoroutine := false, more := [] : PySem.Scope } ⟨73,15,73,47⟩) .nil) ⟨73,11,73,14⟩ ⟨73,11,73,48⟩) (.blt .len (.cons (.var 1 ⟨73,56,73,61⟩) .nil) ⟨73,52,73,55⟩ ⟨73,52,73,62⟩) ⟨73,11,73,62⟩) ⟨73,4,73,62⟩) .nil)))
def d_is_ring_of : DefS := ⟨"is_ring_of", "is_ring_of", (top 24), ["places", "thing", "taken", "place"], 3, b_is_ring_of, none, false⟩
def b_are_rings : Ss :=
  (.cons (.ife [] (.not (.call f_is_list (.cons (.var 1 ⟨75,19,75,24⟩) .nil) ⟨75,11,75,18⟩ ⟨75,11,75,25⟩) ⟨75,7,75,25⟩) (.cons (.ret [] (.bl false 0 ⟨76,15,76,20⟩) ⟨76,8,76,20⟩) .nil) .nil ⟨75,4,76,20⟩) (.cons (.asg [] (.nm 2 ⟨77,4,77,9⟩) (.lst .nil ⟨77,12,77,14⟩) ⟨77,4,77,14⟩) (.cons (.forr [] (.nm 3 ⟨78,8,78,12⟩) (.e (.var 1 ⟨78,16,78,21⟩)) (.cons (.ife [] (.not (.call f_is_ring_of (.cons (.var 0 ⟨79,26,79,32⟩) (.cons (.var 3 ⟨79,34,79,38⟩) (.cons (.var 2 ⟨79,40,79,45⟩) .nil))) ⟨79,15,79,25⟩ ⟨79,15,79,46⟩) ⟨79,11,79,46⟩) (.cons (.ret [] (.bl false 0 ⟨80,19,80,24⟩) ⟨80,12,80,24⟩) .nil) .nil ⟨79,8,80,24⟩) (.cons (.asg [] (.nm 2 ⟨81,8,81,13⟩) (.bin .Add (.var 2 ⟨81,16,81,21⟩) (.blt .list (.cons (.var 3 ⟨81,29,81,33⟩) .nil) ⟨81,24,81,28⟩ ⟨81,24,81,34⟩) ⟨81,16,81,34⟩) ⟨81,8,81,34⟩) .nil)) ⟨78,4,81,34⟩) (.cons (.ret [] (.bl true 0 ⟨82,11,82,15⟩) ⟨82,4,82,15⟩) .nil))))
def d_are_rings : DefS := ⟨"are_rings", "are_rings", (top 25), ["places", "thing", "taken", "ring"], 2, b_are_rings, none, false⟩
def b_is_turn : Ss :=
  (.cons (.ife [] (.bop .Or (.not (.call f_is_row (.cons (.var 3 ⟨84,18,84,23⟩) (.cons (.int 4 0 ⟨84,25,84,26⟩) .nil)) ⟨84,11,84,17⟩ ⟨84,11,84,27⟩) ⟨84,7,84,27⟩) (.cons (.not (.call f_is_word (.cons (.sub (.var 3 ⟨84,43,84,48⟩) (.int 0 0 ⟨84,49,84,50⟩) ⟨84,43,84,51⟩) .nil) ⟨84,35,84,42⟩ ⟨84,35,84,52⟩) ⟨84,31,84,52⟩) (.cons (.cmp .In (.sub (.var 3 ⟨84,56,84,61⟩) (.int 0 0 ⟨84,62,84,63⟩) ⟨84,56,84,64⟩) (.var 2 ⟨84,68,84,73⟩) ⟨84,56,84,73⟩) .nil)) ⟨84,7,84,73⟩) (.cons (.ret [] (.bl false 0 ⟨85,15,85,20⟩) ⟨85,8,85,20⟩) .nil) .nil ⟨84,4,85,20⟩) (.cons (.ret [] (.bop .And (.call f_is_one_of (.cons (.var 1 ⟨86,21,86,26⟩) (.cons (.sub (.var 3 ⟨86,28,86,33⟩) (.int 1 0 ⟨86,34,86,35⟩) ⟨86,28,86,36⟩) .nil)) ⟨86,11,86,20⟩ ⟨86,11,86,37⟩) (.cons (.call f_is_one_of (.cons (.var 1 ⟨86,52,86,57⟩) (.cons (.sub (.var 3 ⟨86,59,86,64⟩) (.int 2 0 ⟨86,65,86,66⟩) ⟨86,59,86,67⟩) .nil)) ⟨86,42,86,51⟩ ⟨86,42,86,68⟩) (.cons (.call f_are_rings (.cons (.var 0 ⟨86,83,86,89⟩) (.cons (.sub (.var 3 ⟨86,91,86,96⟩) (.int 3 0 ⟨86,97,86,98⟩) ⟨86,91,86,99⟩) .nil)) ⟨86,73,86,82⟩ ⟨86,73,86,100⟩) .nil)) ⟨86,11,86,100⟩) ⟨86,4,86,100⟩) .nil))
def d_is_turn : DefS := ⟨"is_turn", "is_turn", (top 26), ["places", "nodes", "names", "thing"], 4, b_is_turn, none, false⟩
def b_wrong_turns : Ss :=
  (.cons (.ife [] (.not (.call f_is_list (.cons (.var 2 ⟨88,19,88,24⟩) .nil) ⟨88,11,88,18⟩ ⟨88,11,88,25⟩) ⟨88,7,88,25⟩) (.cons (.ret [] (.int 0 0 ⟨89,15,89,16⟩) ⟨89,8,89,16⟩) .nil) .nil ⟨88,4,89,16⟩) (.cons (.own [] 3 ⟨90,4,90,9⟩ (.lst .nil ⟨90,12,90,14⟩) ⟨90,4,90,14⟩) (.cons (.forr [] (.tup (.cons (.nm 4 ⟨91,8,91,13⟩) (.cons (.nm 5 ⟨91,15,91,19⟩) .nil)) 0 ⟨91,8,91,19⟩) (.enum (.var 2 ⟨91,33,91,38⟩) ⟨91,23,91,32⟩ ⟨91,23,91,39⟩) (.cons (.ife [] (.not (.lend f_is_turn (.cons (.var 0 ⟨92,23,92,29⟩) (.cons (.var 1 ⟨92,31,92,36⟩) (.cons (.var 3 ⟨92,38,92,43⟩) (.cons (.var 5 ⟨92,45,92,49⟩) .nil)))) ⟨92,15,92,22⟩ ⟨92,15,92,50⟩) ⟨92,11,92,50⟩) (.cons (.ret [] (.var 4 ⟨93,19,93,24⟩) ⟨93,12,93,24⟩) .nil) .nil ⟨92,8,93,24⟩) (.cons (.app [] 3 (.sub (.var 5 ⟨94,21,94,25⟩) (.int 0 0 ⟨94,26,94,27⟩) ⟨94,21,94,28⟩) ⟨94,8,94,13⟩ ⟨94,8,94,20⟩ ⟨94,8,94,29⟩ ⟨94,8,94,29⟩) .nil)) ⟨91,4,94,29⟩) (.cons (.ret [] (.non 0 ⟨95,11,95,15⟩) ⟨95,4,95,15⟩) .nil))))
def d_wrong_turns : DefS := ⟨"wrong_turns", "wrong_turns", (top 27), ["places", "nodes", "turns", "names", "index", "turn"], 3, b_wrong_turns, none, false⟩
def b_need_puzzle : Ss :=
  (.cons (.ife [] (.not (.blt .isi (.cons (.var 0 ⟨131,22,131,28⟩) (.cons (.gcl c_Puzzle ⟨131,30,131,36⟩) .nil)) ⟨131,11,131,21⟩ ⟨131,11,131,37⟩) ⟨131,7,131,37⟩) (.cons (.raise [] c_BadPuzzle (.var 0 ⟨132,24,132,30⟩) ⟨132,14,132,23⟩ ⟨132,14,132,31⟩ ⟨132,8,132,31⟩) .nil) .nil ⟨131,4,132,31⟩) .nil)
def d_need_puzzle : DefS := ⟨"need_puzzle", "need_puzzle", (top 29), ["puzzle"], 1, b_need_puzzle, none, false⟩
def b_names_of : Ss :=
  (.cons (.ret [] (.lc [1] (.nm 1 ⟨134,24,134,28⟩) (.e (.meth 2 (.var 0 ⟨134,32,134,38⟩) .nil ⟨134,32,134,44⟩ ⟨134,32,134,46⟩)) .nil (.sub (.var 1 ⟨134,12,134,16⟩) (.int 0 0 ⟨134,17,134,18⟩) ⟨134,12,134,19⟩) { kind := PySem.ScopeKind.function, names := [((PySem.Str.ofString ".0"), PySem.NameKind.local), ((PySem.Str.ofString "turn"), PySem.NameKind.local)], isGenerator := false, isCoroutine := false, more := [] : PySem.Scope } ⟨134,11,134,47⟩) ⟨134,4,134,47⟩) .nil)
def d_names_of : DefS := ⟨"names_of", "names_of", (top 30), ["puzzle", "turn"], 1, b_names_of, none, false⟩
def b_is_walk : Ss :=
  (.cons (.asg [] (.nm 2 ⟨137,4,137,9⟩) (.call f_names_of (.cons (.var 0 ⟨137,21,137,27⟩) .nil) ⟨137,12,137,20⟩ ⟨137,12,137,28⟩) ⟨137,4,137,28⟩) (.cons (.ret [] (.bop .And (.call f_is_list (.cons (.var 1 ⟨138,19,138,24⟩) .nil) ⟨138,11,138,18⟩ ⟨138,11,138,25⟩) (.cons (.blt .all (.cons (.lc [3] (.nm 3 ⟨138,62,138,66⟩) (.e (.var 1 ⟨138,70,138,75⟩)) .nil (.call f_is_one_of (.cons (.var 2 ⟨138,45,138,50⟩) (.cons (.var 3 ⟨138,52,138,56⟩) .nil)) ⟨138,35,138,44⟩ ⟨138,35,138,57⟩) { kind := PySem.ScopeKind.function, names := [((PySem.Str.ofString ".0"), PySem.NameKind.local), ((PySem.Str.ofString "name"), PySem.NameKind.local), ((PySem.Str.ofString "is_one_of"), PySem.NameKind.globalImplicit), ((PySem.Str.ofString "names"), PySem.NameKind.free)], isGenerator := false, isCoroutine := false, more := [] : PySem.Scope } ⟨138,34,138,76⟩) .nil) ⟨138,30,138,33⟩ ⟨138,30,138,77⟩) .nil) ⟨138,11,138,77⟩) ⟨138,4,138,77⟩) .nil))
def d_is_walk : DefS := ⟨"is_walk", "is_walk", (top 32), ["puzzle", "thing", "names", "name"], 2, b_is_walk, none, false⟩
def b_check_walk : Ss :=
  (.cons (.ife [] (.not (.call f_is_walk (.cons (.var 0 ⟨140,19,140,25⟩) (.cons (.var 1 ⟨140,27,140,31⟩) .nil)) ⟨140,11,140,18⟩ ⟨140,11,140,32⟩) ⟨140,7,140,32⟩) (.cons (.raise [] c_BadWalk (.var 1 ⟨141,22,141,26⟩) ⟨141,14,141,21⟩ ⟨141,14,141,27⟩ ⟨141,8,141,27⟩) .nil) .nil ⟨140,4,141,27⟩) .nil)
def d_check_walk : DefS := ⟨"check_walk", "check_walk", (top 33), ["puzzle", "walk"], 2, b_check_walk, none, false⟩
def b_is_setting_of : Ss :=
  (.cons (.ife [] (.bop .Or (.not (.call f_is_pair (.cons (.var 1 ⟨143,19,143,24⟩) .nil) ⟨143,11,143,18⟩ ⟨143,11,143,25⟩) ⟨143,7,143,25⟩) (.cons (.not (.call f_is_one_of (.cons (.meth 1 (.var 0 ⟨143,43,143,49⟩) .nil ⟨143,43,143,55⟩ ⟨143,43,143,57⟩) (.cons (.sub (.var 1 ⟨143,59,143,64⟩) (.int 0 0 ⟨143,65,143,66⟩) ⟨143,59,143,67⟩) .nil)) ⟨143,33,143,42⟩ ⟨143,33,143,68⟩) ⟨143,29,143,68⟩) .nil) ⟨143,7,143,68⟩) (.cons (.ret [] (.bl false 0 ⟨144,15,144,20⟩) ⟨144,8,144,20⟩) .nil) .nil ⟨143,4,144,20⟩) (.cons (.ret [] (.bop .And (.cmp .Is (.call f_wrong_words (.cons (.sub (.var 1 ⟨145,23,145,28⟩) (.int 1 0 ⟨145,29,145,30⟩) ⟨145,23,145,31⟩) .nil) ⟨145,11,145,22⟩ ⟨145,11,145,32⟩) (.non 0 ⟨145,36,145,40⟩) ⟨145,11,145,40⟩) (.cons (.cmp .Eq (.blt .len (.cons (.sub (.var 1 ⟨145,49,145,54⟩) (.int 1 0 ⟨145,55,145,56⟩) ⟨145,49,145,57⟩) .nil) ⟨145,45,145,48⟩ ⟨145,45,145,58⟩) (.blt .len (.cons (.meth 0 (.var 0 ⟨145,66,145,72⟩) .nil ⟨145,66,145,79⟩ ⟨145,66,145,81⟩) .nil) ⟨145,62,145,65⟩ ⟨145,62,145,82⟩) ⟨145,45,145,82⟩) .nil) ⟨145,11,145,82⟩) ⟨145,4,145,82⟩) .nil))
def d_is_setting_of : DefS := ⟨"is_setting_of", "is_setting_of", (top 34), ["puzzle", "thing"], 2, b_is_setting_of, none, false⟩
def b_setting_of : Ss :=
  (.cons (.drop [] (.call f_need_puzzle (.cons (.var 0 ⟨147,16,147,22⟩) .nil) ⟨147,4,147,15⟩ ⟨147,4,147,23⟩) ⟨147,4,147,23⟩) (.cons (.ife [] (.not (.call f_is_setting_of (.cons (.var 0 ⟨148,25,148,31⟩) (.cons (.var 1 ⟨148,33,148,40⟩) .nil)) ⟨148,11,148,24⟩ ⟨148,11,148,41⟩) ⟨148,7,148,41⟩) (.cons (.raise [] c_BadSetting (.var 1 ⟨149,25,149,32⟩) ⟨149,14,149,24⟩ ⟨149,14,149,33⟩ ⟨149,8,149,33⟩) .nil) .nil ⟨148,4,149,33⟩) (.cons (.ret [] (.tup (.cons (.sub (.var 1 ⟨150,12,150,19⟩) (.int 0 0 ⟨150,20,150,21⟩) ⟨150,12,150,22⟩) (.cons (.blt .list (.cons (.sub (.var 1 ⟨150,29,150,36⟩) (.int 1 0 ⟨150,37,150,38⟩) ⟨150,29,150,39⟩) .nil) ⟨150,24,150,28⟩ ⟨150,24,150,40⟩) .nil)) 0 ⟨150,11,150,41⟩) ⟨150,4,150,41⟩) .nil)))
def d_setting_of : DefS := ⟨"setting_of", "setting_of", (top 35), ["puzzle", "setting"], 2, b_setting_of, none, false⟩
def b_setting_text : Ss :=
  (.cons (.asg [] (.tup (.cons (.nm 2 ⟨153,4,153,8⟩) (.cons (.nm 3 ⟨153,10,153,16⟩) .nil)) 0 ⟨153,4,153,16⟩) (.call f_setting_of (.cons (.var 0 ⟨153,30,153,36⟩) (.cons (.var 1 ⟨153,38,153,45⟩) .nil)) ⟨153,19,153,29⟩ ⟨153,19,153,46⟩) ⟨153,4,153,46⟩) (.cons (.ret [] (.bin .Add (.bin .Add (.bin .Add (.bin .Add (.bin .Add (.str "at " 0 ⟨154,11,154,16⟩) (.var 2 ⟨154,19,154,23⟩) ⟨154,11,154,23⟩) (.str "\n" 0 ⟨154,26,154,30⟩) ⟨154,11,154,30⟩) (.str "lie " 0 ⟨154,33,154,39⟩) ⟨154,11,154,39⟩) (.joi (.str " " 0 ⟨154,42,154,45⟩) (.var 3 ⟨154,51,154,57⟩) ⟨154,42,154,50⟩ ⟨154,42,154,58⟩) ⟨154,11,154,58⟩) (.str "\n" 0 ⟨154,61,154,65⟩) ⟨154,11,154,65⟩) ⟨154,4,154,65⟩) .nil))
def d_setting_text : DefS := ⟨"setting_text", "setting_text", (top 37), ["puzzle", "setting", "node", "pieces"], 2, b_setting_text, none, false⟩
def b_words_of : Ss :=
  (.cons (.ife [] (.bop .Or (.not (.call f_is_text (.cons (.var 0 ⟨156,19,156,23⟩) .nil) ⟨156,11,156,18⟩ ⟨156,11,156,24⟩) ⟨156,7,156,24⟩) (.cons (.not (.ends (.var 0 ⟨156,32,156,36⟩) (.str "\n" 0 ⟨156,46,156,50⟩) ⟨156,32,156,45⟩ ⟨156,32,156,51⟩) ⟨156,28,156,51⟩) .nil) ⟨156,7,156,51⟩) (.cons (.ret [] (.non 0 ⟨157,15,157,19⟩) ⟨157,8,157,19⟩) .nil) .nil ⟨156,4,157,19⟩) (.cons (.asgN [] 2 ⟨158,4,158,9⟩ (.lc [3] (.nm 3 ⟨158,33,158,37⟩) (.e (.sl (.spl (.var 0 ⟨158,41,158,45⟩) (.str "\n" 0 ⟨158,52,158,56⟩) ⟨158,41,158,51⟩ ⟨158,41,158,57⟩) .no (.so (.neg (.int 1 0 ⟨158,60,158,61⟩) ⟨158,59,158,61⟩)) ⟨158,58,158,61⟩ ⟨158,41,158,62⟩)) .nil (.spl (.var 3 ⟨158,13,158,17⟩) (.str " " 0 ⟨158,24,158,27⟩) ⟨158,13,158,23⟩ ⟨158,13,158,28⟩) { kind := PySem.ScopeKind.function, names := [((PySem.Str.ofString ".0"), PySem.NameKind.local), ((PySem.Str.ofString "line"), PySem.NameKind.local)], isGenerator := false, isCoroutine := false, more := [] : PySem.Scope } ⟨158,12,158,63⟩) ⟨158,4,158,63⟩) (.cons (.ret [] (.ife (.cmp .Eq (.blt .len (.cons (.var 2 ⟨159,24,159,29⟩) .nil) ⟨159,20,159,23⟩ ⟨159,20,159,30⟩) (.var 1 ⟨159,34,159,38⟩) ⟨159,20,159,38⟩) (.var 2 ⟨159,11,159,16⟩) (.non 0 ⟨159,44,159,48⟩) ⟨159,11,159,48⟩) ⟨159,4,159,48⟩) .nil)))
def d_words_of : DefS := ⟨"words_of", "words_of", (top 38), ["text", "many", "lines", "line"], 2, b_words_of, none, false⟩
def b_read_setting : Ss :=
  (.cons (.drop [] (.call f_need_puzzle (.cons (.var 0 ⟨161,16,161,22⟩) .nil) ⟨161,4,161,15⟩ ⟨161,4,161,23⟩) ⟨161,4,161,23⟩) (.cons (.asg [] (.nm 2 ⟨162,4,162,9⟩) (.call f_words_of (.cons (.var 1 ⟨162,21,162,25⟩) (.cons (.int 2 0 ⟨162,27,162,28⟩) .nil)) ⟨162,12,162,20⟩ ⟨162,12,162,29⟩) ⟨162,4,162,29⟩) (.cons (.ife [] (.bop .Or (.cmp .Is (.var 2 ⟨163,7,163,12⟩) (.non 0 ⟨163,16,163,20⟩) ⟨163,7,163,20⟩) (.cons (.cmp .NotEq (.blt .len (.cons (.sub (.var 2 ⟨163,28,163,33⟩) (.int 0 0 ⟨163,34,163,35⟩) ⟨163,28,163,36⟩) .nil) ⟨163,24,163,27⟩ ⟨163,24,163,37⟩) (.int 2 0 ⟨163,41,163,42⟩) ⟨163,24,163,42⟩) (.cons (.cmp .NotEq (.sub (.sub (.var 2 ⟨163,46,163,51⟩) (.int 0 0 ⟨163,52,163,53⟩) ⟨163,46,163,54⟩) (.int 0 0 ⟨163,55,163,56⟩) ⟨163,46,163,57⟩) (.str "at" 0 ⟨163,61,163,65⟩) ⟨163,46,163,65⟩) (.cons (.cmp .NotEq (.sub (.sub (.var 2 ⟨163,70,163,75⟩) (.int 1 0 ⟨163,76,163,77⟩) ⟨163,70,163,78⟩) (.int 0 0 ⟨163,79,163,80⟩) ⟨163,70,163,81⟩) (.str "lie" 0 ⟨163,85,163,90⟩) ⟨163,70,163,90⟩) .nil))) ⟨163,7,163,91⟩) (.cons (.raise [] c_BadSettingText (.var 1 ⟨164,29,164,33⟩) ⟨164,14,164,28⟩ ⟨164,14,164,34⟩ ⟨164,8,164,34⟩) .nil) .nil ⟨163,4,164,34⟩) (.cons (.asg [] (.nm 3 ⟨165,4,165,11⟩) (.tup (.cons (.sub (.sub (.var 2 ⟨165,15,165,20⟩) (.int 0 0 ⟨165,21,165,22⟩) ⟨165,15,165,23⟩) (.int 1 0 ⟨165,24,165,25⟩) ⟨165,15,165,26⟩) (.cons (.sl (.sub (.var 2 ⟨165,28,165,33⟩) (.int 1 0 ⟨165,34,165,35⟩) ⟨165,28,165,36⟩) (.so (.int 1 0 ⟨165,37,165,38⟩)) .no ⟨165,37,165,39⟩ ⟨165,28,165,40⟩) .nil)) 0 ⟨165,14,165,41⟩) ⟨165,4,165,41⟩) (.cons (.ife [] (.not (.call f_is_setting_of (.cons (.var 0 ⟨166,25,166,31⟩) (.cons (.var 3 ⟨166,33,166,40⟩) .nil)) ⟨166,11,166,24⟩ ⟨166,11,166,41⟩) ⟨166,7,166,41⟩) (.cons (.raise [] c_BadSettingText (.var 1 ⟨167,29,167,33⟩) ⟨167,14,167,28⟩ ⟨167,14,167,34⟩ ⟨167,8,167,34⟩) .nil) .nil ⟨166,4,167,34⟩) (.cons (.ret [] (.var 3 ⟨168,11,168,18⟩) ⟨168,4,168,18⟩) .nil))))))
def d_read_setting : DefS := ⟨"read_setting", "read_setting", (top 39), ["puzzle", "text", "lines", "setting"], 2, b_read_setting, none, false⟩
def b_walk_text : Ss :=
  (.cons (.drop [] (.call f_need_puzzle (.cons (.var 0 ⟨170,16,170,22⟩) .nil) ⟨170,4,170,15⟩ ⟨170,4,170,23⟩) ⟨170,4,170,23⟩) (.cons (.drop [] (.call f_check_walk (.cons (.var 0 ⟨171,15,171,21⟩) (.cons (.var 1 ⟨171,23,171,27⟩) .nil)) ⟨171,4,171,14⟩ ⟨171,4,171,28⟩) ⟨171,4,171,28⟩) (.cons (.ret [] (.bin .Add (.joi (.str " " 0 ⟨172,11,172,14⟩) (.bin .Add (.lst (.cons (.str "walk" 0 ⟨172,21,172,27⟩) .nil) ⟨172,20,172,28⟩) (.blt .list (.cons (.var 1 ⟨172,36,172,40⟩) .nil) ⟨172,31,172,35⟩ ⟨172,31,172,41⟩) ⟨172,20,172,41⟩) ⟨172,11,172,19⟩ ⟨172,11,172,42⟩) (.str "\n" 0 ⟨172,45,172,49⟩) ⟨172,11,172,49⟩) ⟨172,4,172,49⟩) .nil)))
def d_walk_text : DefS := ⟨"walk_text", "walk_text", (top 40), ["puzzle", "walk"], 2, b_walk_text, none, false⟩
def b_read_walk : Ss :=
  (.cons (.drop [] (.call f_need_puzzle (.cons (.var 0 ⟨174,16,174,22⟩) .nil) ⟨174,4,174,15⟩ ⟨174,4,174,23⟩) ⟨174,4,174,23⟩) (.cons (.asg [] (.nm 2 ⟨175,4,175,9⟩) (.call f_words_of (.cons (.var 1 ⟨175,21,175,25⟩) (.cons (.int 1 0 ⟨175,27,175,28⟩) .nil)) ⟨175,12,175,20⟩ ⟨175,12,175,29⟩) ⟨175,4,175,29⟩) (.cons (.ife [] (.bop .Or (.cmp .Is (.var 2 ⟨176,7,176,12⟩) (.non 0 ⟨176,16,176,20⟩) ⟨176,7,176,20⟩) (.cons (.cmp .NotEq (.sub (.sub (.var 2 ⟨176,24,176,29⟩) (.int 0 0 ⟨176,30,176,31⟩) ⟨176,24,176,32⟩) (.int 0 0 ⟨176,33,176,34⟩) ⟨176,24,176,35⟩) (.str "walk" 0 ⟨176,39,176,45⟩) ⟨176,24,176,45⟩) (.cons (.not (.call f_is_walk (.cons (.var 0 ⟨176,62,176,68⟩) (.cons (.sl (.sub (.var 2 ⟨176,70,176,75⟩) (.int 0 0 ⟨176,76,176,77⟩) ⟨176,70,176,78⟩) (.so (.int 1 0 ⟨176,79,176,80⟩)) .no ⟨176,79,176,81⟩ ⟨176,70,176,82⟩) .nil)) ⟨176,54,176,61⟩ ⟨176,54,176,83⟩) ⟨176,50,176,83⟩) .nil)) ⟨176,7,176,84⟩) (.cons (.raise [] c_BadWalkText (.var 1 ⟨177,26,177,30⟩) ⟨177,14,177,25⟩ ⟨177,14,177,31⟩ ⟨177,8,177,31⟩) .nil) .nil ⟨176,4,177,31⟩) (.cons (.ret [] (.sl (.sub (.var 2 ⟨178,11,178,16⟩) (.int 0 0 ⟨178,17,178,18⟩) ⟨178,11,178,19⟩) (.so (.int 1 0 ⟨178,20,178,21⟩)) .no ⟨178,20,178,22⟩ ⟨178,11,178,23⟩) ⟨178,4,178,23⟩) .nil))))
def d_read_walk : DefS := ⟨"read_walk", "read_walk", (top 41), ["puzzle", "text", "lines"], 2, b_read_walk, none, false⟩
def b__law_between : Ss :=
  (.cons (.ret [] (.bin .Add (.var 1 ⟨195,11,195,14⟩) (.call f__law_pick (.cons (.var 0 ⟨195,27,195,32⟩) (.cons (.bin .Add (.blt .max (.cons (.bin .Sub (.var 2 ⟨195,38,195,42⟩) (.var 1 ⟨195,45,195,48⟩) ⟨195,38,195,48⟩) (.cons (.int 0 0 ⟨195,50,195,51⟩) .nil)) ⟨195,34,195,37⟩ ⟨195,34,195,52⟩) (.int 1 0 ⟨195,55,195,56⟩) ⟨195,34,195,56⟩) .nil)) ⟨195,17,195,26⟩ ⟨195,17,195,57⟩) ⟨195,11,195,57⟩) ⟨195,4,195,57⟩) .nil)
def d__law_between : DefS := ⟨"_law_between", "_law_between", (top 45), ["state", "low", "high"], 3, b__law_between, none, false⟩
def b__law_one : Ss :=
  (.cons (.ret [] (.sub (.var 1 ⟨197,11,197,17⟩) (.call f__law_pick (.cons (.var 0 ⟨197,28,197,33⟩) (.cons (.blt .len (.cons (.var 1 ⟨197,39,197,45⟩) .nil) ⟨197,35,197,38⟩ ⟨197,35,197,46⟩) .nil)) ⟨197,18,197,27⟩ ⟨197,18,197,47⟩) ⟨197,11,197,48⟩) ⟨197,4,197,48⟩) .nil)
def d__law_one : DefS := ⟨"_law_one", "_law_one", (top 46), ["state", "things"], 2, b__law_one, none, false⟩
def b__law_mixed : Ss :=
  (.cons (.par2 [] 2 3 true true ⟨199,4,199,8⟩ ⟨199,10,199,15⟩ 0 ⟨199,4,199,15⟩ (.blt .list (.cons (.var 1 ⟨199,24,199,30⟩) .nil) ⟨199,19,199,23⟩ ⟨199,19,199,31⟩) (.lst .nil ⟨199,33,199,35⟩) 0 ⟨199,18,199,36⟩ ⟨199,4,199,36⟩) (.cons (.forr [] (.nm 4 ⟨200,8,200,9⟩) (.rng1 (.blt .len (.cons (.var 2 ⟨200,23,200,27⟩) .nil) ⟨200,19,200,22⟩ ⟨200,19,200,28⟩) ⟨200,13,200,18⟩ ⟨200,13,200,29⟩) (.cons (.appPop [] 3 2 (.call f__law_pick (.cons (.var 0 ⟨201,40,201,45⟩) (.cons (.blt .len (.cons (.var 2 ⟨201,51,201,55⟩) .nil) ⟨201,47,201,50⟩ ⟨201,47,201,56⟩) .nil)) ⟨201,30,201,39⟩ ⟨201,30,201,57⟩) ⟨201,8,201,13⟩ ⟨201,8,201,20⟩ ⟨201,8,201,59⟩ ⟨201,21,201,25⟩ ⟨201,21,201,29⟩ ⟨201,21,201,58⟩ ⟨201,8,201,59⟩) .nil) ⟨200,4,201,59⟩) (.cons (.ret [3] (.var 3 ⟨202,11,202,16⟩) ⟨202,4,202,16⟩) .nil)))
def d__law_mixed : DefS := ⟨"_law_mixed", "_law_mixed", (top 47), ["state", "things", "left", "found", "k"], 2, b__law_mixed, none, false⟩
def b__law_same : Ss :=
  (.cons (.ife [] (.blt .isi (.cons (.var 1 ⟨204,18,204,21⟩) (.cons (.tup (.cons (.ty .list ⟨204,24,204,28⟩) (.cons (.ty .tuple ⟨204,30,204,35⟩) .nil)) 0 ⟨204,23,204,36⟩) .nil)) ⟨204,7,204,17⟩ ⟨204,7,204,37⟩) (.cons (.ife [] (.bop .Or (.cmp .NotEq (.blt .isi (.cons (.var 0 ⟨205,22,205,27⟩) (.cons (.ty .list ⟨205,29,205,33⟩) .nil)) ⟨205,11,205,21⟩ ⟨205,11,205,34⟩) (.blt .isi (.cons (.var 1 ⟨205,49,205,52⟩) (.cons (.ty .list ⟨205,54,205,58⟩) .nil)) ⟨205,38,205,48⟩ ⟨205,38,205,59⟩) ⟨205,11,205,59⟩) (.cons (.cmp .NotEq (.blt .isi (.cons (.var 0 ⟨205,74,205,79⟩) (.cons (.ty .tuple ⟨205,81,205,86⟩) .nil)) ⟨205,63,205,73⟩ ⟨205,63,205,87⟩) (.blt .isi (.cons (.var 1 ⟨205,102,205,105⟩) (.cons (.ty .tuple ⟨205,107,205,112⟩) .nil)) ⟨205,91,205,101⟩ ⟨205,91,205,113⟩) ⟨205,63,205,113⟩) .nil) ⟨205,11,205,113⟩) (.cons (.ret [] (.bl false 0 ⟨206,19,206,24⟩) ⟨206,12,206,24⟩) .nil) .nil ⟨205,8,206,24⟩) (.cons (.ret [] (.bop .And (.cmp .Eq (.blt .len (.cons (.var 0 ⟨207,19,207,24⟩) .nil) ⟨207,15,207,18⟩ ⟨207,15,207,25⟩) (.blt .len (.cons (.var 1 ⟨207,33,207,36⟩) .nil) ⟨207,29,207,32⟩ ⟨207,29,207,37⟩) ⟨207,15,207,37⟩) (.cons (.blt .all (.cons (.lc [2, 3] (.tup (.cons (.nm 2 ⟨207,75,207,79⟩) (.cons (.nm 3 ⟨207,81,207,87⟩) .nil)) 0 ⟨207,75,207,87⟩) (.zip (.var 0 ⟨207,95,207,100⟩) (.var 1 ⟨207,102,207,105⟩) ⟨207,91,207,94⟩ ⟨207,91,207,106⟩) .nil (.call f__law_same (.cons (.var 2 ⟨207,57,207,61⟩) (.cons (.var 3 ⟨207,63,207,69⟩) .nil)) ⟨207,47,207,56⟩ ⟨207,47,207,70⟩) { kind := PySem.ScopeKind.function, names := [((PySem.Str.ofString ".0"), PySem.NameKind.local), ((PySem.Str.ofString "mine"), PySem.NameKind.local), ((PySem.Str.ofString "theirs"), PySem.NameKind.local), ((PySem.Str.ofString "_law_same"), PySem.NameKind.globalImplicit)], isGenerator := false, isCoroutine := false, more := [] : PySem.Scope } ⟨207,46,207,107⟩) .nil) ⟨207,42,207,45⟩ ⟨207,42,207,108⟩) .nil) ⟨207,15,207,108⟩) ⟨207,8,207,108⟩) .nil)) .nil ⟨204,4,207,108⟩) (.cons (.ife [] (.blt .isi (.cons (.var 1 ⟨208,18,208,21⟩) (.cons (.ty .dict ⟨208,23,208,27⟩) .nil)) ⟨208,7,208,17⟩ ⟨208,7,208,28⟩) (.cons (.ife [] (.bop .Or (.not (.blt .isi (.cons (.var 0 ⟨209,26,209,31⟩) (.cons (.ty .dict ⟨209,33,209,37⟩) .nil)) ⟨209,15,209,25⟩ ⟨209,15,209,38⟩) ⟨209,11,209,38⟩) (.cons (.not (.call f__law_same (.cons (.blt .list (.cons (.var 0 ⟨209,61,209,66⟩) .nil) ⟨209,56,209,60⟩ ⟨209,56,209,67⟩) (.cons (.blt .list (.cons (.var 1 ⟨209,74,209,77⟩) .nil) ⟨209,69,209,73⟩ ⟨209,69,209,78⟩) .nil)) ⟨209,46,209,55⟩ ⟨209,46,209,79⟩) ⟨209,42,209,79⟩) .nil) ⟨209,11,209,79⟩) (.cons (.ret [] (.bl false 0 ⟨210,19,210,24⟩) ⟨210,12,210,24⟩) .nil) .nil ⟨209,8,210,24⟩) (.cons (.ret [] (.blt .all (.cons (.lc [4] (.nm 4 ⟨211,56,211,59⟩) (.e (.var 1 ⟨211,63,211,66⟩)) .nil (.call f__law_same (.cons (.sub (.var 0 ⟨211,30,211,35⟩) (.var 4 ⟨211,36,211,39⟩) ⟨211,30,211,40⟩) (.cons (.sub (.var 1 ⟨211,42,211,45⟩) (.var 4 ⟨211,46,211,49⟩) ⟨211,42,211,50⟩) .nil)) ⟨211,20,211,29⟩ ⟨211,20,211,51⟩) { kind := PySem.ScopeKind.function, names := [((PySem.Str.ofString ".0"), PySem.NameKind.local), ((PySem.Str.ofString "key"), PySem.NameKind.local), ((PySem.Str.ofString "_law_same"), PySem.NameKind.globalImplicit), ((PySem.Str.ofString "due"), PySem.NameKind.free), ((PySem.Str.ofString "found"), PySem.NameKind.free)], isGenerator := false, isCoroutine := false, more := [] : PySem.Scope } ⟨211,19,211,67⟩) .nil) ⟨211,15,211,18⟩ ⟨211,15,211,68⟩) ⟨211,8,211,68⟩) .nil)) .nil ⟨208,4,211,68⟩) (.cons (.ife [] (.cmp .Is (.var 1 ⟨212,7,212,10⟩) (.non 0 ⟨212,14,212,18⟩) ⟨212,7,212,18⟩) (.cons (.ret [] (.cmp .Is (.var 0 ⟨213,15,213,20⟩) (.non 0 ⟨213,24,213,28⟩) ⟨213,15,213,28⟩) ⟨213,8,213,28⟩) .nil) .nil ⟨212,4,213,28⟩) (.cons (.ife [] (.blt .isi (.cons (.var 1 ⟨214,18,214,21⟩) (.cons (.ty .bool ⟨214,23,214,27⟩) .nil)) ⟨214,7,214,17⟩ ⟨214,7,214,28⟩) (.cons (.ret [] (.bop .And (.blt .isi (.cons (.var 0 ⟨215,26,215,31⟩) (.cons (.ty .bool ⟨215,33,215,37⟩) .nil)) ⟨215,15,215,25⟩ ⟨215,15,215,38⟩) (.cons (.cmp .Eq (.var 0 ⟨215,43,215,48⟩) (.var 1 ⟨215,52,215,55⟩) ⟨215,43,215,55⟩) .nil) ⟨215,15,215,55⟩) ⟨215,8,215,55⟩) .nil) .nil ⟨214,4,215,55⟩) (.cons (.ife [] (.blt .isi (.cons (.var 1 ⟨216,18,216,21⟩) (.cons (.ty .int ⟨216,23,216,26⟩) .nil)) ⟨216,7,216,17⟩ ⟨216,7,216,27⟩) (.cons (.ret [] (.bop .And (.blt .isi (.cons (.var 0 ⟨217,26,217,31⟩) (.cons (.ty .int ⟨217,33,217,36⟩) .nil)) ⟨217,15,217,25⟩ ⟨217,15,217,37⟩) (.cons (.not (.blt .isi (.cons (.var 0 ⟨217,58,217,63⟩) (.cons (.ty .bool ⟨217,65,217,69⟩) .nil)) ⟨217,47,217,57⟩ ⟨217,47,217,70⟩) ⟨217,43,217,70⟩) (.cons (.cmp .Eq (.var 0 ⟨217,77,217,82⟩) (.var 1 ⟨217,86,217,89⟩) ⟨217,77,217,89⟩) .nil)) ⟨217,15,217,90⟩) ⟨217,8,217,90⟩) .nil) .nil ⟨216,4,217,90⟩) (.cons (.ret [] (.bop .And (.blt .isi (.cons (.var 0 ⟨218,22,218,27⟩) (.cons (.ty .str ⟨218,29,218,32⟩) .nil)) ⟨218,11,218,21⟩ ⟨218,11,218,33⟩) (.cons (.cmp .Eq (.var 0 ⟨218,38,218,43⟩) (.var 1 ⟨218,47,218,50⟩) ⟨218,38,218,50⟩) .nil) ⟨218,11,218,50⟩) ⟨218,4,218,50⟩) .nil))))))
def d__law_same : DefS := ⟨"_law_same", "_law_same", (top 48), ["found", "due", "mine", "theirs", "key"], 2, b__law_same, none, false⟩
def b__law_copy : Ss :=
  (.cons (.ife [] (.blt .isi (.cons (.var 0 ⟨220,18,220,23⟩) (.cons (.ty .list ⟨220,25,220,29⟩) .nil)) ⟨220,7,220,17⟩ ⟨220,7,220,30⟩) (.cons (.ret [] (.lc [1] (.nm 1 ⟨221,35,221,38⟩) (.e (.var 0 ⟨221,42,221,47⟩)) .nil (.call f__law_copy (.cons (.var 1 ⟨221,26,221,29⟩) .nil) ⟨221,16,221,25⟩ ⟨221,16,221,30⟩) { kind := PySem.ScopeKind.function, names := [((PySem.Str.ofString ".0"), PySem.NameKind.local), ((PySem.Str.ofString "one"), PySem.NameKind.local), ((PySem.Str.ofString "_law_copy"), PySem.NameKind.globalImplicit)], isGenerator := false, isCoroutine := false, more := [] : PySem.Scope } ⟨221,15,221,48⟩) ⟨221,8,221,48⟩) .nil) .nil ⟨220,4,221,48⟩) (.cons (.ife [] (.blt .isi (.cons (.var 0 ⟨222,18,222,23⟩) (.cons (.ty .tuple ⟨222,25,222,30⟩) .nil)) ⟨222,7,222,17⟩ ⟨222,7,222,31⟩) (.cons (.ret [] (.blt .tuple (.cons (.lc [1] (.nm 1 ⟨223,41,223,44⟩) (.e (.var 0 ⟨223,48,223,53⟩)) .nil (.call f__law_copy (.cons (.var 1 ⟨223,32,223,35⟩) .nil) ⟨223,22,223,31⟩ ⟨223,22,223,36⟩) { kind := PySem.ScopeKind.function, names := [((PySem.Str.ofString ".0"), PySem.NameKind.local), ((PySem.Str.ofString "one"), PySem.NameKind.local), ((PySem.Str.ofString "_law_copy"), PySem.NameKind.globalImplicit)], isGenerator := false, isCoroutine := false, more := [] : PySem.Scope } ⟨223,21,223,54⟩) .nil) ⟨223,15,223,20⟩ ⟨223,15,223,55⟩) ⟨223,8,223,55⟩) .nil) .nil ⟨222,4,223,55⟩) (.cons (.ife [] (.blt .isi (.cons (.var 0 ⟨224,18,224,23⟩) (.cons (.ty .dict ⟨224,25,224,29⟩) .nil)) ⟨224,7,224,17⟩ ⟨224,7,224,30⟩) (.cons (.own [] 2 ⟨225,8,225,13⟩ (.dk ⟨225,16,225,18⟩) ⟨225,8,225,18⟩) (.cons (.forr [] (.nm 3 ⟨226,12,226,15⟩) (.e (.var 0 ⟨226,19,226,24⟩)) (.cons (.put [] 2 (.var 3 ⟨227,18,227,21⟩) (.call f__law_copy (.cons (.sub (.var 0 ⟨227,35,227,40⟩) (.var 3 ⟨227,41,227,44⟩) ⟨227,35,227,45⟩) .nil) ⟨227,25,227,34⟩ ⟨227,25,227,46⟩) ⟨227,12,227,17⟩ ⟨227,12,227,22⟩ ⟨227,12,227,46⟩) .nil) ⟨226,8,227,46⟩) (.cons (.ret [2] (.var 2 ⟨228,15,228,20⟩) ⟨228,8,228,20⟩) .nil))) .nil ⟨224,4,228,20⟩) (.cons (.ret [] (.var 0 ⟨229,11,229,16⟩) ⟨229,4,229,16⟩) .nil))))
def d__law_copy : DefS := ⟨"_law_copy", "_law_copy", (top 49), ["thing", "one", "found", "key"], 1, b__law_copy, none, false⟩
def b__law_loose : Ss :=
  (.cons (.ife [] (.blt .isi (.cons (.var 1 ⟨231,18,231,23⟩) (.cons (.tup (.cons (.ty .list ⟨231,26,231,30⟩) (.cons (.ty .tuple ⟨231,32,231,37⟩) .nil)) 0 ⟨231,25,231,38⟩) .nil)) ⟨231,7,231,17⟩ ⟨231,7,231,39⟩) (.cons (.asgN [] 2 ⟨232,8,232,12⟩ (.lc [3] (.nm 3 ⟨232,43,232,46⟩) (.e (.var 1 ⟨232,50,232,55⟩)) .nil (.call f__law_loose (.cons (.var 0 ⟨232,27,232,32⟩) (.cons (.var 3 ⟨232,34,232,37⟩) .nil)) ⟨232,16,232,26⟩ ⟨232,16,232,38⟩) { kind := PySem.ScopeKind.function, names := [((PySem.Str.ofString ".0"), PySem.NameKind.local), ((PySem.Str.ofString "one"), PySem.NameKind.local), ((PySem.Str.ofString "_law_loose"), PySem.NameKind.globalImplicit), ((PySem.Str.ofString "state"), PySem.NameKind.free)], isGenerator := false, isCoroutine := false, more := [] : PySem.Scope } ⟨232,15,232,56⟩) ⟨232,8,232,56⟩) (.cons (.ret [] (.ife (.cmp .Eq (.call f__law_pick (.cons (.var 0 ⟨233,33,233,38⟩) (.cons (.int 2 0 ⟨233,40,233,41⟩) .nil)) ⟨233,23,233,32⟩ ⟨233,23,233,42⟩) (.int 0 0 ⟨233,46,233,47⟩) ⟨233,23,233,47⟩) (.var 2 ⟨233,15,233,19⟩) (.blt .tuple (.cons (.var 2 ⟨233,59,233,63⟩) .nil) ⟨233,53,233,58⟩ ⟨233,53,233,64⟩) ⟨233,15,233,64⟩) ⟨233,8,233,64⟩) .nil)) .nil ⟨231,4,233,64⟩) (.cons (.ife [] (.blt .isi (.cons (.var 1 ⟨234,18,234,23⟩) (.cons (.ty .dict ⟨234,25,234,29⟩) .nil)) ⟨234,7,234,17⟩ ⟨234,7,234,30⟩) (.cons (.own [] 4 ⟨235,8,235,13⟩ (.dk ⟨235,16,235,18⟩) ⟨235,8,235,18⟩) (.cons (.forr [] (.nm 5 ⟨236,12,236,15⟩) (.e (.call f__law_mixed (.cons (.var 0 ⟨236,30,236,35⟩) (.cons (.blt .list (.cons (.var 1 ⟨236,42,236,47⟩) .nil) ⟨236,37,236,41⟩ ⟨236,37,236,48⟩) .nil)) ⟨236,19,236,29⟩ ⟨236,19,236,49⟩)) (.cons (.put [] 4 (.var 5 ⟨237,18,237,21⟩) (.call f__law_loose (.cons (.var 0 ⟨237,36,237,41⟩) (.cons (.sub (.var 1 ⟨237,43,237,48⟩) (.var 5 ⟨237,49,237,52⟩) ⟨237,43,237,53⟩) .nil)) ⟨237,25,237,35⟩ ⟨237,25,237,54⟩) ⟨237,12,237,17⟩ ⟨237,12,237,22⟩ ⟨237,12,237,54⟩) .nil) ⟨236,8,237,54⟩) (.cons (.ret [4] (.var 4 ⟨238,15,238,20⟩) ⟨238,8,238,20⟩) .nil))) .nil ⟨234,4,238,20⟩) (.cons (.ret [] (.var 1 ⟨239,11,239,16⟩) ⟨239,4,239,16⟩) .nil)))
def d__law_loose : DefS := ⟨"_law_loose", "_law_loose", (top 50), ["state", "thing", "some", "one", "found", "key"], 2, b__law_loose, none, false⟩
def b__law_free_word : Ss :=
  (.cons (.forr [] (.nm 2 ⟨241,8,241,9⟩) (.rng1 (.int 600 0 ⟨241,19,241,22⟩) ⟨241,13,241,18⟩ ⟨241,13,241,23⟩) (.cons (.ife [] (.cmp .NotIn (.var 1 ⟨242,11,242,15⟩) (.var 0 ⟨242,23,242,28⟩) ⟨242,11,242,28⟩) (.cons (.ret [] (.var 1 ⟨243,19,243,23⟩) ⟨243,12,243,23⟩) .nil) .nil ⟨242,8,243,23⟩) (.cons (.asg [] (.nm 1 ⟨244,8,244,12⟩) (.bin .Add (.bin .Add (.sub (.str "qxyz" 0 ⟨244,15,244,21⟩) (.bin .Mod (.var 2 ⟨244,22,244,23⟩) (.int 4 0 ⟨244,26,244,27⟩) ⟨244,22,244,27⟩) ⟨244,15,244,28⟩) (.sub (.str "abcdefghijklmnopqrstuvwxyz" 0 ⟨244,31,244,59⟩) (.bin .Mod (.bin .FloorDiv (.var 2 ⟨244,60,244,61⟩) (.int 4 0 ⟨244,65,244,66⟩) ⟨244,60,244,66⟩) (.int 26 0 ⟨244,69,244,71⟩) ⟨244,60,244,71⟩) ⟨244,31,244,72⟩) ⟨244,15,244,72⟩) (.sub (.str "abcdefghij" 0 ⟨244,75,244,87⟩) (.bin .FloorDiv (.var 2 ⟨244,88,244,89⟩) (.int 104 0 ⟨244,93,244,96⟩) ⟨244,88,244,96⟩) ⟨244,75,244,97⟩) ⟨244,15,244,97⟩) ⟨244,8,244,97⟩) .nil)) ⟨241,4,244,97⟩) (.cons (.ret [] (.var 1 ⟨245,11,245,15⟩) ⟨245,4,245,15⟩) .nil))
def d__law_free_word : DefS := ⟨"_law_free_word", "_law_free_word", (top 51), ["taken", "word", "k"], 2, b__law_free_word, none, false⟩
def b__law_words : Ss :=
  (.cons (.par2 [] 2 3 false true ⟨247,4,247,7⟩ ⟨247,9,247,14⟩ 0 ⟨247,4,247,14⟩ (.cmp .Eq (.call f__law_pick (.cons (.var 0 ⟨247,28,247,33⟩) (.cons (.int 2 0 ⟨247,35,247,36⟩) .nil)) ⟨247,18,247,27⟩ ⟨247,18,247,37⟩) (.int 0 0 ⟨247,41,247,42⟩) ⟨247,18,247,42⟩) (.lst .nil ⟨247,44,247,46⟩) 0 ⟨247,17,247,47⟩ ⟨247,4,247,47⟩) (.cons (.forr [] (.nm 4 ⟨248,8,248,9⟩) (.rng1 (.var 1 ⟨248,19,248,23⟩) ⟨248,13,248,18⟩ ⟨248,13,248,24⟩) (.cons (.asg [] (.nm 5 ⟨249,8,249,12⟩) (.ife (.var 2 ⟨249,44,249,47⟩) (.sub (.str "ab" 0 ⟨249,15,249,19⟩) (.call f__law_pick (.cons (.var 0 ⟨249,30,249,35⟩) (.cons (.int 2 0 ⟨249,37,249,38⟩) .nil)) ⟨249,20,249,29⟩ ⟨249,20,249,39⟩) ⟨249,15,249,40⟩) (.sub (.str "abcdefghijklmnopqrstuvwxyz" 0 ⟨249,53,249,81⟩) (.call f__law_pick (.cons (.var 0 ⟨249,92,249,97⟩) (.cons (.int 26 0 ⟨249,99,249,101⟩) .nil)) ⟨249,82,249,91⟩ ⟨249,82,249,102⟩) ⟨249,53,249,103⟩) ⟨249,15,249,103⟩) ⟨249,8,249,103⟩) (.cons (.forr [] (.nm 6 ⟨250,12,250,16⟩) (.rng1 (.call f__law_pick (.cons (.var 0 ⟨250,36,250,41⟩) (.cons (.ife (.var 2 ⟨250,48,250,51⟩) (.int 3 0 ⟨250,43,250,44⟩) (.int 8 0 ⟨250,57,250,58⟩) ⟨250,43,250,58⟩) .nil)) ⟨250,26,250,35⟩ ⟨250,26,250,59⟩) ⟨250,20,250,25⟩ ⟨250,20,250,60⟩) (.cons (.asg [] (.nm 5 ⟨251,12,251,16⟩) (.bin .Add (.var 5 ⟨251,19,251,23⟩) (.ife (.var 2 ⟨251,57,251,60⟩) (.sub (.str "abc" 0 ⟨251,27,251,32⟩) (.call f__law_pick (.cons (.var 0 ⟨251,43,251,48⟩) (.cons (.int 3 0 ⟨251,50,251,51⟩) .nil)) ⟨251,33,251,42⟩ ⟨251,33,251,52⟩) ⟨251,27,251,53⟩) (.sub (.str "abcdefghijklmnopqrstuvwxyz" 0 ⟨251,66,251,94⟩) (.call f__law_pick (.cons (.var 0 ⟨251,105,251,110⟩) (.cons (.int 26 0 ⟨251,112,251,114⟩) .nil)) ⟨251,95,251,104⟩ ⟨251,95,251,115⟩) ⟨251,66,251,116⟩) ⟨251,27,251,116⟩) ⟨251,19,251,117⟩) ⟨251,12,251,117⟩) .nil) ⟨250,8,251,117⟩) (.cons (.app [] 3 (.lend f__law_free_word (.cons (.var 3 ⟨252,36,252,41⟩) (.cons (.var 5 ⟨252,43,252,47⟩) .nil)) ⟨252,21,252,35⟩ ⟨252,21,252,48⟩) ⟨252,8,252,13⟩ ⟨252,8,252,20⟩ ⟨252,8,252,49⟩ ⟨252,8,252,49⟩) .nil))) ⟨248,4,252,49⟩) (.cons (.ret [3] (.var 3 ⟨253,11,253,16⟩) ⟨253,4,253,16⟩) .nil)))
def d__law_words : DefS := ⟨"_law_words", "_law_words", (top 52), ["state", "many", "few", "words", "k", "word", "more"], 2, b__law_words, none, false⟩
def b__law_puzzle_of : Ss :=
  (.cons (.asg [] (.nm 1 ⟨255,4,255,8⟩) (.call f__law_copy (.cons (.var 0 ⟨255,21,255,24⟩) .nil) ⟨255,11,255,20⟩ ⟨255,11,255,25⟩) ⟨255,4,255,25⟩) (.cons (.ret [] (.make c_Puzzle (.cons (.sub (.var 1 ⟨256,18,256,22⟩) (.int 0 0 ⟨256,23,256,24⟩) ⟨256,18,256,25⟩) (.cons (.sub (.var 1 ⟨256,27,256,31⟩) (.int 1 0 ⟨256,32,256,33⟩) ⟨256,27,256,34⟩) (.cons (.sub (.var 1 ⟨256,36,256,40⟩) (.int 2 0 ⟨256,41,256,42⟩) ⟨256,36,256,43⟩) .nil))) ⟨256,11,256,17⟩ ⟨256,11,256,44⟩) ⟨256,4,256,44⟩) .nil))
def d__law_puzzle_of : DefS := ⟨"_law_puzzle_of", "_law_puzzle_of", (top 53), ["raw", "some"], 1, b__law_puzzle_of, none, false⟩
def b__law_some_rings : Ss :=
  (.cons (.par2 [] 2 3 false true ⟨258,4,258,8⟩ ⟨258,10,258,15⟩ 0 ⟨258,4,258,15⟩ (.call f__law_mixed (.cons (.var 0 ⟨258,30,258,35⟩) (.cons (.var 1 ⟨258,37,258,43⟩) .nil)) ⟨258,19,258,29⟩ ⟨258,19,258,44⟩) (.lst .nil ⟨258,46,258,48⟩) 0 ⟨258,18,258,49⟩ ⟨258,4,258,49⟩) (.cons (.forr [] (.nm 4 ⟨259,8,259,9⟩) (.rng1 (.call f__law_one (.cons (.var 0 ⟨259,28,259,33⟩) (.cons (.lst (.cons (.int 0 0 ⟨259,36,259,37⟩) (.cons (.int 1 0 ⟨259,39,259,40⟩) (.cons (.int 1 0 ⟨259,42,259,43⟩) (.cons (.int 1 0 ⟨259,45,259,46⟩) (.cons (.int 1 0 ⟨259,48,259,49⟩) (.cons (.int 2 0 ⟨259,51,259,52⟩) .nil)))))) ⟨259,35,259,53⟩) .nil)) ⟨259,19,259,27⟩ ⟨259,19,259,54⟩) ⟨259,13,259,18⟩ ⟨259,13,259,55⟩) (.cons (.asg [] (.nm 5 ⟨260,8,260,12⟩) (.bin .Add (.int 2 0 ⟨260,15,260,16⟩) (.call f__law_pick (.cons (.var 0 ⟨260,29,260,34⟩) (.cons (.int 3 0 ⟨260,36,260,37⟩) .nil)) ⟨260,19,260,28⟩ ⟨260,19,260,38⟩) ⟨260,15,260,38⟩) ⟨260,8,260,38⟩) (.cons (.ife [] (.cmp .GtE (.blt .len (.cons (.var 2 ⟨261,15,261,19⟩) .nil) ⟨261,11,261,14⟩ ⟨261,11,261,20⟩) (.int 2 0 ⟨261,24,261,25⟩) ⟨261,11,261,25⟩) (.cons (.app [] 3 (.sl (.var 2 ⟨262,25,262,29⟩) .no (.so (.var 5 ⟨262,31,262,35⟩)) ⟨262,30,262,35⟩ ⟨262,25,262,36⟩) ⟨262,12,262,17⟩ ⟨262,12,262,24⟩ ⟨262,12,262,37⟩ ⟨262,12,262,37⟩) (.cons (.asg [] (.nm 2 ⟨263,12,263,16⟩) (.sl (.var 2 ⟨263,19,263,23⟩) (.so (.var 5 ⟨263,24,263,28⟩)) .no ⟨263,24,263,29⟩ ⟨263,19,263,30⟩) ⟨263,12,263,30⟩) .nil)) .nil ⟨261,8,263,30⟩) .nil)) ⟨259,4,263,30⟩) (.cons (.ret [3] (.var 3 ⟨264,11,264,16⟩) ⟨264,4,264,16⟩) .nil)))
def d__law_some_rings : DefS := ⟨"_law_some_rings", "_law_some_rings", (top 54), ["state", "places", "left", "rings", "k", "size"], 2, b__law_some_rings, none, false⟩
def b__law_make_puzzle : Ss :=
  (.cons (.asg [] (.nm 4 ⟨266,4,266,9⟩) (.call f__law_words (.cons (.var 0 ⟨266,23,266,28⟩) (.cons (.bin .Add (.bin .Add (.bin .Add (.var 1 ⟨266,30,266,34⟩) (.var 2 ⟨266,37,266,42⟩) ⟨266,30,266,42⟩) (.var 3 ⟨266,45,266,50⟩) ⟨266,30,266,50⟩) (.var 2 ⟨266,53,266,58⟩) ⟨266,30,266,58⟩) .nil)) ⟨266,12,266,22⟩ ⟨266,12,266,59⟩) ⟨266,4,266,59⟩) (.cons (.asg [] (.nm 5 ⟨267,4,267,10⟩) (.sl (.var 4 ⟨267,13,267,18⟩) .no (.so (.call f__law_between (.cons (.var 0 ⟨267,33,267,38⟩) (.cons (.int 1 0 ⟨267,40,267,41⟩) (.cons (.var 1 ⟨267,43,267,47⟩) .nil))) ⟨267,20,267,32⟩ ⟨267,20,267,48⟩)) ⟨267,19,267,48⟩ ⟨267,13,267,49⟩) ⟨267,4,267,49⟩) (.cons (.asg [] (.nm 6 ⟨268,4,268,9⟩) (.sl (.var 4 ⟨268,12,268,17⟩) (.so (.var 1 ⟨268,18,268,22⟩)) (.so (.bin .Add (.bin .Add (.var 1 ⟨268,23,268,27⟩) (.int 1 0 ⟨268,30,268,31⟩) ⟨268,23,268,31⟩) (.call f__law_pick (.cons (.var 0 ⟨268,44,268,49⟩) (.cons (.var 2 ⟨268,51,268,56⟩) .nil)) ⟨268,34,268,43⟩ ⟨268,34,268,57⟩) ⟨268,23,268,57⟩)) ⟨268,18,268,57⟩ ⟨268,12,268,58⟩) ⟨268,4,268,58⟩) (.cons (.par2 [] 7 8 false true ⟨269,4,269,9⟩ ⟨269,11,269,15⟩ 0 ⟨269,4,269,15⟩ (.sl (.var 4 ⟨269,19,269,24⟩) (.so (.bin .Add (.var 1 ⟨269,25,269,29⟩) (.var 2 ⟨269,32,269,37⟩) ⟨269,25,269,37⟩)) .no ⟨269,25,269,38⟩ ⟨269,19,269,39⟩) (.lst .nil ⟨269,41,269,43⟩) 0 ⟨269,18,269,44⟩ ⟨269,4,269,44⟩) (.cons (.asg [] (.nm 9 ⟨270,4,270,8⟩) (.call f__law_mixed (.cons (.var 0 ⟨270,22,270,27⟩) (.cons (.var 6 ⟨270,29,270,34⟩) .nil)) ⟨270,11,270,21⟩ ⟨270,11,270,35⟩) ⟨270,4,270,35⟩) (.cons (.ife [] (.bop .And (.cmp .Gt (.blt .len (.cons (.var 9 ⟨271,11,271,15⟩) .nil) ⟨271,7,271,10⟩ ⟨271,7,271,16⟩) (.int 1 0 ⟨271,19,271,20⟩) ⟨271,7,271,20⟩) (.cons (.cmp .Gt (.call f__law_pick (.cons (.var 0 ⟨271,35,271,40⟩) (.cons (.int 8 0 ⟨271,42,271,43⟩) .nil)) ⟨271,25,271,34⟩ ⟨271,25,271,44⟩) (.int 0 0 ⟨271,47,271,48⟩) ⟨271,25,271,48⟩) .nil) ⟨271,7,271,48⟩) (.cons (.forr [] (.nm 10 ⟨272,12,272,14⟩) (.rng1 (.blt .len (.cons (.var 9 ⟨272,28,272,32⟩) .nil) ⟨272,24,272,27⟩ ⟨272,24,272,33⟩) ⟨272,18,272,23⟩ ⟨272,18,272,34⟩) (.cons (.app [] 8 (.tup (.cons (.sub (.var 7 ⟨273,25,273,30⟩) (.blt .len (.cons (.var 8 ⟨273,35,273,39⟩) .nil) ⟨273,31,273,34⟩ ⟨273,31,273,40⟩) ⟨273,25,273,41⟩) (.cons (.sub (.var 9 ⟨273,43,273,47⟩) (.var 10 ⟨273,48,273,50⟩) ⟨273,43,273,51⟩) (.cons (.sub (.var 9 ⟨273,53,273,57⟩) (.bin .Mod (.bin .Add (.var 10 ⟨273,59,273,61⟩) (.int 1 0 ⟨273,64,273,65⟩) ⟨273,59,273,65⟩) (.blt .len (.cons (.var 9 ⟨273,73,273,77⟩) .nil) ⟨273,69,273,72⟩ ⟨273,69,273,78⟩) ⟨273,58,273,78⟩) ⟨273,53,273,79⟩) (.cons (.call f__law_some_rings (.cons (.var 0 ⟨273,97,273,102⟩) (.cons (.var 5 ⟨273,104,273,110⟩) .nil)) ⟨273,81,273,96⟩ ⟨273,81,273,111⟩) .nil)))) 0 ⟨273,24,273,112⟩) ⟨273,12,273,16⟩ ⟨273,12,273,23⟩ ⟨273,12,273,113⟩ ⟨273,12,273,113⟩) .nil) ⟨272,8,273,113⟩) .nil) .nil ⟨271,4,273,113⟩) (.cons (.forr [] (.nm 11 ⟨274,8,274,9⟩) (.rng1 (.call f__law_pick (.cons (.var 0 ⟨274,29,274,34⟩) (.cons (.bin .Add (.var 3 ⟨274,36,274,41⟩) (.int 1 0 ⟨274,44,274,45⟩) ⟨274,36,274,45⟩) .nil)) ⟨274,19,274,28⟩ ⟨274,19,274,46⟩) ⟨274,13,274,18⟩ ⟨274,13,274,47⟩) (.cons (.app [] 8 (.tup (.cons (.sub (.var 7 ⟨275,21,275,26⟩) (.blt .len (.cons (.var 8 ⟨275,31,275,35⟩) .nil) ⟨275,27,275,30⟩ ⟨275,27,275,36⟩) ⟨275,21,275,37⟩) (.cons (.call f__law_one (.cons (.var 0 ⟨275,48,275,53⟩) (.cons (.var 6 ⟨275,55,275,60⟩) .nil)) ⟨275,39,275,47⟩ ⟨275,39,275,61⟩) (.cons (.call f__law_one (.cons (.var 0 ⟨275,72,275,77⟩) (.cons (.var 6 ⟨275,79,275,84⟩) .nil)) ⟨275,63,275,71⟩ ⟨275,63,275,85⟩) (.cons (.call f__law_some_rings (.cons (.var 0 ⟨275,103,275,108⟩) (.cons (.var 5 ⟨275,110,275,116⟩) .nil)) ⟨275,87,275,102⟩ ⟨275,87,275,117⟩) .nil)))) 0 ⟨275,20,275,118⟩) ⟨275,8,275,12⟩ ⟨275,8,275,19⟩ ⟨275,8,275,119⟩ ⟨275,8,275,119⟩) .nil) ⟨274,4,275,119⟩) (.cons (.ret [8] (.lst (.cons (.var 5 ⟨276,12,276,18⟩) (.cons (.var 6 ⟨276,20,276,25⟩) (.cons (.call f__law_mixed (.cons (.var 0 ⟨276,38,276,43⟩) (.cons (.var 8 ⟨276,45,276,49⟩) .nil)) ⟨276,27,276,37⟩ ⟨276,27,276,50⟩) .nil))) ⟨276,11,276,51⟩) ⟨276,4,276,51⟩) .nil))))))))
def d__law_make_puzzle : DefS := ⟨"_law_make_puzzle", "_law_make_puzzle", (top 55), ["state", "most", "nodes", "turns", "words", "places", "marks", "names", "rows", "ring", "at", "k"], 4, b__law_make_puzzle, none, false⟩
def b__law_any_setting : Ss :=
  (.cons (.asg [] (.nm 2 ⟨278,4,278,10⟩) (.ife (.cmp .Eq (.call f__law_pick (.cons (.var 0 ⟨278,33,278,38⟩) (.cons (.int 2 0 ⟨278,40,278,41⟩) .nil)) ⟨278,23,278,32⟩ ⟨278,23,278,42⟩) (.int 0 0 ⟨278,46,278,47⟩) ⟨278,23,278,47⟩) (.sub (.var 1 ⟨278,13,278,16⟩) (.int 0 0 ⟨278,17,278,18⟩) ⟨278,13,278,19⟩) (.call f__law_words (.cons (.var 0 ⟨278,64,278,69⟩) (.cons (.blt .len (.cons (.sub (.var 1 ⟨278,75,278,78⟩) (.int 0 0 ⟨278,79,278,80⟩) ⟨278,75,278,81⟩) .nil) ⟨278,71,278,74⟩ ⟨278,71,278,82⟩) .nil)) ⟨278,53,278,63⟩ ⟨278,53,278,83⟩) ⟨278,13,278,83⟩) ⟨278,4,278,83⟩) (.cons (.ret [] (.tup (.cons (.call f__law_one (.cons (.var 0 ⟨279,21,279,26⟩) (.cons (.sub (.var 1 ⟨279,28,279,31⟩) (.int 1 0 ⟨279,32,279,33⟩) ⟨279,28,279,34⟩) .nil)) ⟨279,12,279,20⟩ ⟨279,12,279,35⟩) (.cons (.call f__law_mixed (.cons (.var 0 ⟨279,48,279,53⟩) (.cons (.var 2 ⟨279,55,279,61⟩) .nil)) ⟨279,37,279,47⟩ ⟨279,37,279,62⟩) .nil)) 0 ⟨279,11,279,63⟩) ⟨279,4,279,63⟩) .nil))
def d__law_any_setting : DefS := ⟨"_law_any_setting", "_law_any_setting", (top 56), ["state", "raw", "pieces"], 2, b__law_any_setting, none, false⟩
def b__law_is_one : Ss :=
  (.cons (.ret [] (.bop .And (.blt .isi (.cons (.var 1 ⟨281,22,281,27⟩) (.cons (.ty .str ⟨281,29,281,32⟩) .nil)) ⟨281,11,281,21⟩ ⟨281,11,281,33⟩) (.cons (.cmp .In (.var 1 ⟨281,38,281,43⟩) (.var 0 ⟨281,47,281,52⟩) ⟨281,38,281,52⟩) .nil) ⟨281,11,281,52⟩) ⟨281,4,281,52⟩) .nil)
def d__law_is_one : DefS := ⟨"_law_is_one", "_law_is_one", (top 57), ["words", "thing"], 2, b__law_is_one, none, false⟩
def b__law_setting_right : Ss :=
  (.cons (.ife [] (.bop .Or (.not (.blt .isi (.cons (.var 1 ⟨283,22,283,27⟩) (.cons (.tup (.cons (.ty .list ⟨283,30,283,34⟩) (.cons (.ty .tuple ⟨283,36,283,41⟩) .nil)) 0 ⟨283,29,283,42⟩) .nil)) ⟨283,11,283,21⟩ ⟨283,11,283,43⟩) ⟨283,7,283,43⟩) (.cons (.cmp .NotEq (.blt .len (.cons (.var 1 ⟨283,51,283,56⟩) .nil) ⟨283,47,283,50⟩ ⟨283,47,283,57⟩) (.int 2 0 ⟨283,61,283,62⟩) ⟨283,47,283,62⟩) (.cons (.not (.call f__law_is_one (.cons (.sub (.var 0 ⟨283,83,283,86⟩) (.int 1 0 ⟨283,87,283,88⟩) ⟨283,83,283,89⟩) (.cons (.sub (.var 1 ⟨283,91,283,96⟩) (.int 0 0 ⟨283,97,283,98⟩) ⟨283,91,283,99⟩) .nil)) ⟨283,71,283,82⟩ ⟨283,71,283,100⟩) ⟨283,67,283,100⟩) .nil)) ⟨283,7,283,101⟩) (.cons (.ret [] (.bl false 0 ⟨284,15,284,20⟩) ⟨284,8,284,20⟩) .nil) .nil ⟨283,4,284,20⟩) (.cons (.ife [] (.bop .Or (.not (.blt .isi (.cons (.sub (.var 1 ⟨285,22,285,27⟩) (.int 1 0 ⟨285,28,285,29⟩) ⟨285,22,285,30⟩) (.cons (.tup (.cons (.ty .list ⟨285,33,285,37⟩) (.cons (.ty .tuple ⟨285,39,285,44⟩) .nil)) 0 ⟨285,32,285,45⟩) .nil)) ⟨285,11,285,21⟩ ⟨285,11,285,46⟩) ⟨285,7,285,46⟩) (.cons (.cmp .NotEq (.blt .len (.cons (.sub (.var 1 ⟨285,54,285,59⟩) (.int 1 0 ⟨285,60,285,61⟩) ⟨285,54,285,62⟩) .nil) ⟨285,50,285,53⟩ ⟨285,50,285,63⟩) (.blt .len (.cons (.sub (.var 0 ⟨285,71,285,74⟩) (.int 0 0 ⟨285,75,285,76⟩) ⟨285,71,285,77⟩) .nil) ⟨285,67,285,70⟩ ⟨285,67,285,78⟩) ⟨285,50,285,78⟩) .nil) ⟨285,7,285,78⟩) (.cons (.ret [] (.bl false 0 ⟨286,15,286,20⟩) ⟨286,8,286,20⟩) .nil) .nil ⟨285,4,286,20⟩) (.cons (.ife [] (.not (.blt .all (.cons (.lc [2] (.nm 2 ⟨287,134,287,139⟩) (.e (.sub (.var 1 ⟨287,143,287,148⟩) (.int 1 0 ⟨287,149,287,150⟩) ⟨287,143,287,151⟩)) .nil (.bop .And (.blt .isi (.cons (.var 2 ⟨287,27,287,32⟩) (.cons (.ty .str ⟨287,34,287,37⟩) .nil)) ⟨287,16,287,26⟩ ⟨287,16,287,38⟩) (.cons (.cmp2 .LtE .LtE (.int 1 0 ⟨287,43,287,44⟩) (.blt .len (.cons (.var 2 ⟨287,52,287,57⟩) .nil) ⟨287,48,287,51⟩ ⟨287,48,287,58⟩) (.int 8 0 ⟨287,62,287,63⟩) ⟨287,43,287,63⟩) (.cons (.blt .all (.cons (.lc [3] (.nm 3 ⟨287,114,287,118⟩) (.e (.var 2 ⟨287,122,287,127⟩)) .nil (.cmp .In (.var 3 ⟨287,73,287,77⟩) (.str "abcdefghijklmnopqrstuvwxyz" 0 ⟨287,81,287,109⟩) ⟨287,73,287,109⟩) { kind := PySem.ScopeKind.function, names := [((PySem.Str.ofString ".0"), PySem.NameKind.local), ((PySem.Str.ofString "sign"), PySem.NameKind.local)], isGenerator := false, isCoroutine := false, more := [] : PySem.Scope } ⟨287,72,287,128⟩) .nil) ⟨287,68,287,71⟩ ⟨287,68,287,129⟩) .nil)) ⟨287,16,287,129⟩) { kind := PySem.ScopeKind.function, names := [((PySem.Str.ofString ".0"), PySem.NameKind.local), ((PySem.Str.ofString "piece"), PySem.NameKind.local), ((PySem.Str.ofString "isinstance"), PySem.NameKind.globalImplicit), ((PySem.Str.ofString "str"), PySem.NameKind.globalImplicit), ((PySem.Str.ofString "len"), PySem.NameKind.globalImplicit), ((PySem.Str.ofString "all"), PySem.NameKind.globalImplicit)], isGenerator := false, isCoroutine := false, more := [] : PySem.Scope } ⟨287,15,287,152⟩) .nil) ⟨287,11,287,14⟩ ⟨287,11,287,153⟩) ⟨287,7,287,153⟩) (.cons (.ret [] (.bl false 0 ⟨288,15,288,20⟩) ⟨288,8,288,20⟩) .nil) .nil ⟨287,4,288,20⟩) (.cons (.ret [] (.blt .all (.cons (.lc [4] (.nm 4 ⟨289,54,289,56⟩) (.rng1 (.blt .len (.cons (.sub (.var 1 ⟨289,70,289,75⟩) (.int 1 0 ⟨289,76,289,77⟩) ⟨289,70,289,78⟩) .nil) ⟨289,66,289,69⟩ ⟨289,66,289,79⟩) ⟨289,60,289,65⟩ ⟨289,60,289,80⟩) .nil (.cmp .NotIn (.sub (.sub (.var 1 ⟨289,16,289,21⟩) (.int 1 0 ⟨289,22,289,23⟩) ⟨289,16,289,24⟩) (.var 4 ⟨289,25,289,27⟩) ⟨289,16,289,28⟩) (.sl (.sub (.var 1 ⟨289,36,289,41⟩) (.int 1 0 ⟨289,42,289,43⟩) ⟨289,36,289,44⟩) .no (.so (.var 4 ⟨289,46,289,48⟩)) ⟨289,45,289,48⟩ ⟨289,36,289,49⟩) ⟨289,16,289,49⟩) { kind := PySem.ScopeKind.function, names := [((PySem.Str.ofString ".0"), PySem.NameKind.local), ((PySem.Str.ofString "at"), PySem.NameKind.local), ((PySem.Str.ofString "thing"), PySem.NameKind.free)], isGenerator := false, isCoroutine := false, more := [] : PySem.Scope } ⟨289,15,289,81⟩) .nil) ⟨289,11,289,14⟩ ⟨289,11,289,82⟩) ⟨289,4,289,82⟩) .nil))))
def d__law_setting_right : DefS := ⟨"_law_setting_right", "_law_setting_right", (top 58), ["raw", "thing", "piece", "sign", "at"], 2, b__law_setting_right, none, false⟩
def b__law_is_walk : Ss :=
  (.cons (.ret [] (.bop .And (.blt .isi (.cons (.var 1 ⟨291,22,291,27⟩) (.cons (.tup (.cons (.ty .list ⟨291,30,291,34⟩) (.cons (.ty .tuple ⟨291,36,291,41⟩) .nil)) 0 ⟨291,29,291,42⟩) .nil)) ⟨291,11,291,21⟩ ⟨291,11,291,43⟩) (.cons (.blt .all (.cons (.lc [2] (.nm 2 ⟨291,105,291,109⟩) (.e (.var 1 ⟨291,113,291,118⟩)) .nil (.call f__law_is_one (.cons (.lc [3] (.nm 3 ⟨291,78,291,82⟩) (.e (.sub (.var 0 ⟨291,86,291,89⟩) (.int 2 0 ⟨291,90,291,91⟩) ⟨291,86,291,92⟩)) .nil (.sub (.var 3 ⟨291,66,291,70⟩) (.int 0 0 ⟨291,71,291,72⟩) ⟨291,66,291,73⟩) { kind := PySem.ScopeKind.function, names := [((PySem.Str.ofString ".0"), PySem.NameKind.local), ((PySem.Str.ofString "turn"), PySem.NameKind.local)], isGenerator := false, isCoroutine := false, more := [] : PySem.Scope } ⟨291,65,291,93⟩) (.cons (.var 2 ⟨291,95,291,99⟩) .nil)) ⟨291,53,291,64⟩ ⟨291,53,291,100⟩) { kind := PySem.ScopeKind.function, names := [((PySem.Str.ofString ".0"), PySem.NameKind.local), ((PySem.Str.ofString "name"), PySem.NameKind.local), ((PySem.Str.ofString "_law_is_one"), PySem.NameKind.globalImplicit), ((PySem.Str.ofString "raw"), PySem.NameKind.free)], isGenerator := false, isCoroutine := false, more := [] : PySem.Scope } ⟨291,52,291,119⟩) .nil) ⟨291,48,291,51⟩ ⟨291,48,291,120⟩) .nil) ⟨291,11,291,120⟩) ⟨291,4,291,120⟩) .nil)
def d__law_is_walk : DefS := ⟨"_law_is_walk", "_law_is_walk", (top 59), ["raw", "thing", "name", "turn"], 2, b__law_is_walk, none, false⟩
def b__law_read_setting : Ss :=
  (.cons (.ife [] (.not (.blt .isi (.cons (.var 1 ⟨307,22,307,26⟩) (.cons (.ty .str ⟨307,28,307,31⟩) .nil)) ⟨307,11,307,21⟩ ⟨307,11,307,32⟩) ⟨307,7,307,32⟩) (.cons (.ret [] (.non 0 ⟨308,15,308,19⟩) ⟨308,8,308,19⟩) .nil) .nil ⟨307,4,308,19⟩) (.cons (.asg [] (.nm 2 ⟨309,4,309,8⟩) (.spl (.var 1 ⟨309,11,309,15⟩) (.str "\n" 0 ⟨309,22,309,26⟩) ⟨309,11,309,21⟩ ⟨309,11,309,27⟩) ⟨309,4,309,27⟩) (.cons (.ife [] (.bop .Or (.cmp .NotEq (.blt .len (.cons (.var 2 ⟨310,11,310,15⟩) .nil) ⟨310,7,310,10⟩ ⟨310,7,310,16⟩) (.int 3 0 ⟨310,20,310,21⟩) ⟨310,7,310,21⟩) (.cons (.cmp .NotEq (.sub (.var 2 ⟨310,25,310,29⟩) (.int 2 0 ⟨310,30,310,31⟩) ⟨310,25,310,32⟩) (.str "" 0 ⟨310,36,310,38⟩) ⟨310,25,310,38⟩) .nil) ⟨310,7,310,38⟩) (.cons (.ret [] (.non 0 ⟨311,15,311,19⟩) ⟨311,8,311,19⟩) .nil) .nil ⟨310,4,311,19⟩) (.cons (.par2 [] 3 4 false false ⟨312,4,312,9⟩ ⟨312,11,312,17⟩ 0 ⟨312,4,312,17⟩ (.spl (.sub (.var 2 ⟨312,21,312,25⟩) (.int 0 0 ⟨312,26,312,27⟩) ⟨312,21,312,28⟩) (.str " " 0 ⟨312,35,312,38⟩) ⟨312,21,312,34⟩ ⟨312,21,312,39⟩) (.spl (.sub (.var 2 ⟨312,41,312,45⟩) (.int 1 0 ⟨312,46,312,47⟩) ⟨312,41,312,48⟩) (.str " " 0 ⟨312,55,312,58⟩) ⟨312,41,312,54⟩ ⟨312,41,312,59⟩) 0 ⟨312,20,312,60⟩ ⟨312,4,312,60⟩) (.cons (.ife [] (.bop .Or (.cmp .NotEq (.blt .len (.cons (.var 3 ⟨313,11,313,16⟩) .nil) ⟨313,7,313,10⟩ ⟨313,7,313,17⟩) (.int 2 0 ⟨313,21,313,22⟩) ⟨313,7,313,22⟩) (.cons (.cmp .NotEq (.sub (.var 3 ⟨313,26,313,31⟩) (.int 0 0 ⟨313,32,313,33⟩) ⟨313,26,313,34⟩) (.str "at" 0 ⟨313,38,313,42⟩) ⟨313,26,313,42⟩) (.cons (.cmp .NotEq (.sub (.var 4 ⟨313,46,313,52⟩) (.int 0 0 ⟨313,53,313,54⟩) ⟨313,46,313,55⟩) (.str "lie" 0 ⟨313,59,313,64⟩) ⟨313,46,313,64⟩) (.cons (.not (.call f__law_setting_right (.cons (.var 0 ⟨313,92,313,95⟩) (.cons (.tup (.cons (.sub (.var 3 ⟨313,98,313,103⟩) (.int 1 0 ⟨313,104,313,105⟩) ⟨313,98,313,106⟩) (.cons (.sl (.var 4 ⟨313,108,313,114⟩) (.so (.int 1 0 ⟨313,115,313,116⟩)) .no ⟨313,115,313,117⟩ ⟨313,108,313,118⟩) .nil)) 0 ⟨313,97,313,119⟩) .nil)) ⟨313,73,313,91⟩ ⟨313,73,313,120⟩) ⟨313,69,313,120⟩) .nil))) ⟨313,7,313,121⟩) (.cons (.ret [] (.non 0 ⟨314,15,314,19⟩) ⟨314,8,314,19⟩) .nil) .nil ⟨313,4,314,19⟩) (.cons (.ret [] (.tup (.cons (.sub (.var 3 ⟨315,12,315,17⟩) (.int 1 0 ⟨315,18,315,19⟩) ⟨315,12,315,20⟩) (.cons (.sl (.var 4 ⟨315,22,315,28⟩) (.so (.int 1 0 ⟨315,29,315,30⟩)) .no ⟨315,29,315,31⟩ ⟨315,22,315,32⟩) .nil)) 0 ⟨315,11,315,33⟩) ⟨315,4,315,33⟩) .nil))))))
def d__law_read_setting : DefS := ⟨"_law_read_setting", "_law_read_setting", (top 61), ["raw", "text", "rows", "first", "second"], 2, b__law_read_setting, none, false⟩
def b__law_read_walk : Ss :=
  (.cons (.ife [] (.not (.blt .isi (.cons (.var 1 ⟨317,22,317,26⟩) (.cons (.ty .str ⟨317,28,317,31⟩) .nil)) ⟨317,11,317,21⟩ ⟨317,11,317,32⟩) ⟨317,7,317,32⟩) (.cons (.ret [] (.non 0 ⟨318,15,318,19⟩) ⟨318,8,318,19⟩) .nil) .nil ⟨317,4,318,19⟩) (.cons (.asg [] (.nm 2 ⟨319,4,319,8⟩) (.spl (.var 1 ⟨319,11,319,15⟩) (.str "\n" 0 ⟨319,22,319,26⟩) ⟨319,11,319,21⟩ ⟨319,11,319,27⟩) ⟨319,4,319,27⟩) (.cons (.ife [] (.bop .Or (.cmp .NotEq (.blt .len (.cons (.var 2 ⟨320,11,320,15⟩) .nil) ⟨320,7,320,10⟩ ⟨320,7,320,16⟩) (.int 2 0 ⟨320,20,320,21⟩) ⟨320,7,320,21⟩) (.cons (.cmp .NotEq (.sub (.var 2 ⟨320,25,320,29⟩) (.int 1 0 ⟨320,30,320,31⟩) ⟨320,25,320,32⟩) (.str "" 0 ⟨320,36,320,38⟩) ⟨320,25,320,38⟩) .nil) ⟨320,7,320,38⟩) (.cons (.ret [] (.non 0 ⟨321,15,321,19⟩) ⟨321,8,321,19⟩) .nil) .nil ⟨320,4,321,19⟩) (.cons (.asg [] (.nm 3 ⟨322,4,322,9⟩) (.spl (.sub (.var 2 ⟨322,12,322,16⟩) (.int 0 0 ⟨322,17,322,18⟩) ⟨322,12,322,19⟩) (.str " " 0 ⟨322,26,322,29⟩) ⟨322,12,322,25⟩ ⟨322,12,322,30⟩) ⟨322,4,322,30⟩) (.cons (.ret [] (.ife (.bop .And (.cmp .Eq (.sub (.var 3 ⟨323,24,323,29⟩) (.int 0 0 ⟨323,30,323,31⟩) ⟨323,24,323,32⟩) (.str "walk" 0 ⟨323,36,323,42⟩) ⟨323,24,323,42⟩) (.cons (.call f__law_is_walk (.cons (.var 0 ⟨323,60,323,63⟩) (.cons (.sl (.var 3 ⟨323,65,323,70⟩) (.so (.int 1 0 ⟨323,71,323,72⟩)) .no ⟨323,71,323,73⟩ ⟨323,65,323,74⟩) .nil)) ⟨323,47,323,59⟩ ⟨323,47,323,75⟩) .nil) ⟨323,24,323,75⟩) (.sl (.var 3 ⟨323,11,323,16⟩) (.so (.int 1 0 ⟨323,17,323,18⟩)) .no ⟨323,17,323,19⟩ ⟨323,11,323,20⟩) (.non 0 ⟨323,81,323,85⟩) ⟨323,11,323,85⟩) ⟨323,4,323,85⟩) .nil)))))
def d__law_read_walk : DefS := ⟨"_law_read_walk", "_law_read_walk", (top 62), ["raw", "text", "rows", "words"], 2, b__law_read_walk, none, false⟩
def b__law_bent : Ss :=
  (.cons (.par2 [] 2 3 false false ⟨325,4,325,6⟩ ⟨325,8,325,11⟩ 0 ⟨325,4,325,11⟩ (.call f__law_pick (.cons (.var 0 ⟨325,25,325,30⟩) (.cons (.blt .len (.cons (.var 1 ⟨325,36,325,40⟩) .nil) ⟨325,32,325,35⟩ ⟨325,32,325,41⟩) .nil)) ⟨325,15,325,24⟩ ⟨325,15,325,42⟩) (.call f__law_pick (.cons (.var 0 ⟨325,54,325,59⟩) (.cons (.int 6 0 ⟨325,61,325,62⟩) .nil)) ⟨325,44,325,53⟩ ⟨325,44,325,63⟩) 0 ⟨325,14,325,64⟩ ⟨325,4,325,64⟩) (.cons (.ife [] (.cmp .Eq (.var 3 ⟨326,7,326,10⟩) (.int 0 0 ⟨326,14,326,15⟩) ⟨326,7,326,15⟩) (.cons (.ret [] (.bin .Add (.bin .Add (.sl (.var 1 ⟨327,15,327,19⟩) .no (.so (.var 2 ⟨327,21,327,23⟩)) ⟨327,20,327,23⟩ ⟨327,15,327,24⟩) (.call f__law_one (.cons (.var 0 ⟨327,36,327,41⟩) (.cons (.lst (.cons (.str "a" 0 ⟨327,44,327,47⟩) (.cons (.str "b" 0 ⟨327,49,327,52⟩) (.cons (.str " " 0 ⟨327,54,327,57⟩) (.cons (.str "\n" 0 ⟨327,59,327,63⟩) (.cons (.str "A" 0 ⟨327,65,327,68⟩) (.cons (.str "" 0 ⟨327,70,327,72⟩) (.cons (.str "0" 0 ⟨327,74,327,77⟩) .nil))))))) ⟨327,43,327,78⟩) .nil)) ⟨327,27,327,35⟩ ⟨327,27,327,79⟩) ⟨327,15,327,79⟩) (.sl (.var 1 ⟨327,82,327,86⟩) (.so (.bin .Add (.var 2 ⟨327,87,327,89⟩) (.int 1 0 ⟨327,92,327,93⟩) ⟨327,87,327,93⟩)) .no ⟨327,87,327,94⟩ ⟨327,82,327,95⟩) ⟨327,15,327,95⟩) ⟨327,8,327,95⟩) .nil) .nil ⟨326,4,327,95⟩) (.cons (.ife [] (.cmp .Eq (.var 3 ⟨328,7,328,10⟩) (.int 1 0 ⟨328,14,328,15⟩) ⟨328,7,328,15⟩) (.cons (.ret [] (.bin .Add (.bin .Add (.sl (.var 1 ⟨329,15,329,19⟩) .no (.so (.var 2 ⟨329,21,329,23⟩)) ⟨329,20,329,23⟩ ⟨329,15,329,24⟩) (.call f__law_one (.cons (.var 0 ⟨329,36,329,41⟩) (.cons (.lst (.cons (.str "a" 0 ⟨329,44,329,47⟩) (.cons (.str " " 0 ⟨329,49,329,52⟩) (.cons (.str "\n" 0 ⟨329,54,329,58⟩) (.cons (.str "z" 0 ⟨329,60,329,63⟩) .nil)))) ⟨329,43,329,64⟩) .nil)) ⟨329,27,329,35⟩ ⟨329,27,329,65⟩) ⟨329,15,329,65⟩) (.sl (.var 1 ⟨329,68,329,72⟩) (.so (.var 2 ⟨329,73,329,75⟩)) .no ⟨329,73,329,76⟩ ⟨329,68,329,77⟩) ⟨329,15,329,77⟩) ⟨329,8,329,77⟩) .nil) .nil ⟨328,4,329,77⟩) (.cons (.ife [] (.cmp .Eq (.var 3 ⟨330,7,330,10⟩) (.int 2 0 ⟨330,14,330,15⟩) ⟨330,7,330,15⟩) (.cons (.ret [] (.sl (.var 1 ⟨331,15,331,19⟩) .no (.so (.var 2 ⟨331,21,331,23⟩)) ⟨331,20,331,23⟩ ⟨331,15,331,24⟩) ⟨331,8,331,24⟩) .nil) .nil ⟨330,4,331,24⟩) (.cons (.ife [] (.cmp .Eq (.var 3 ⟨332,7,332,10⟩) (.int 3 0 ⟨332,14,332,15⟩) ⟨332,7,332,15⟩) (.cons (.asg [] (.nm 4 ⟨333,8,333,13⟩) (.spl (.sl (.var 1 ⟨333,16,333,20⟩) .no (.so (.neg (.int 1 0 ⟨333,23,333,24⟩) ⟨333,22,333,24⟩)) ⟨333,21,333,24⟩ ⟨333,16,333,25⟩) (.str " " 0 ⟨333,32,333,35⟩) ⟨333,16,333,31⟩ ⟨333,16,333,36⟩) ⟨333,8,333,36⟩) (.cons (.ret [] (.bin .Add (.joi (.str " " 0 ⟨334,15,334,18⟩) (.call f__law_mixed (.cons (.var 0 ⟨334,35,334,40⟩) (.cons (.var 4 ⟨334,42,334,47⟩) .nil)) ⟨334,24,334,34⟩ ⟨334,24,334,48⟩) ⟨334,15,334,23⟩ ⟨334,15,334,49⟩) (.str "\n" 0 ⟨334,52,334,56⟩) ⟨334,15,334,56⟩) ⟨334,8,334,56⟩) .nil)) .nil ⟨332,4,334,56⟩) (.cons (.ife [] (.cmp .Eq (.var 3 ⟨335,7,335,10⟩) (.int 4 0 ⟨335,14,335,15⟩) ⟨335,7,335,15⟩) (.cons (.ret [] (.bin .Add (.var 1 ⟨336,15,336,19⟩) (.call f__law_one (.cons (.var 0 ⟨336,31,336,36⟩) (.cons (.lst (.cons (.str "\n" 0 ⟨336,39,336,43⟩) (.cons (.str " " 0 ⟨336,45,336,48⟩) (.cons (.str "walk\n" 0 ⟨336,50,336,58⟩) (.cons (.str "at a\n" 0 ⟨336,60,336,68⟩) (.cons (.str "lie a\n" 0 ⟨336,70,336,79⟩) .nil))))) ⟨336,38,336,80⟩) .nil)) ⟨336,22,336,30⟩ ⟨336,22,336,81⟩) ⟨336,15,336,81⟩) ⟨336,8,336,81⟩) .nil) .nil ⟨335,4,336,81⟩) (.cons (.asg [] (.nm 4 ⟨337,4,337,9⟩) (.spl (.sl (.var 1 ⟨337,12,337,16⟩) .no (.so (.neg (.int 1 0 ⟨337,19,337,20⟩) ⟨337,18,337,20⟩)) ⟨337,17,337,20⟩ ⟨337,12,337,21⟩) (.str " " 0 ⟨337,28,337,31⟩) ⟨337,12,337,27⟩ ⟨337,12,337,32⟩) ⟨337,4,337,32⟩) (.cons (.asg [] (.nm 5 ⟨338,4,338,8⟩) (.call f__law_pick (.cons (.var 0 ⟨338,21,338,26⟩) (.cons (.bin .Add (.blt .len (.cons (.var 4 ⟨338,32,338,37⟩) .nil) ⟨338,28,338,31⟩ ⟨338,28,338,38⟩) (.int 1 0 ⟨338,41,338,42⟩) ⟨338,28,338,42⟩) .nil)) ⟨338,11,338,20⟩ ⟨338,11,338,43⟩) ⟨338,4,338,43⟩) (.cons (.ret [] (.bin .Add (.joi (.str " " 0 ⟨339,11,339,14⟩) (.bin .Add (.bin .Add (.sl (.var 4 ⟨339,20,339,25⟩) .no (.so (.var 5 ⟨339,27,339,31⟩)) ⟨339,26,339,31⟩ ⟨339,20,339,32⟩) (.lst (.cons (.call f__law_one (.cons (.var 0 ⟨339,45,339,50⟩) (.cons (.lst (.cons (.str "a" 0 ⟨339,53,339,56⟩) (.cons (.str "walk" 0 ⟨339,58,339,64⟩) (.cons (.str "" 0 ⟨339,66,339,68⟩) (.cons (.str "lie" 0 ⟨339,70,339,75⟩) (.cons (.sub (.var 4 ⟨339,77,339,82⟩) (.neg (.int 1 0 ⟨339,84,339,85⟩) ⟨339,83,339,85⟩) ⟨339,77,339,86⟩) .nil))))) ⟨339,52,339,87⟩) .nil)) ⟨339,36,339,44⟩ ⟨339,36,339,88⟩) .nil) ⟨339,35,339,89⟩) ⟨339,20,339,89⟩) (.sl (.var 4 ⟨339,92,339,97⟩) (.so (.var 5 ⟨339,98,339,102⟩)) .no ⟨339,98,339,103⟩ ⟨339,92,339,104⟩) ⟨339,20,339,104⟩) ⟨339,11,339,19⟩ ⟨339,11,339,105⟩) (.str "\n" 0 ⟨339,108,339,112⟩) ⟨339,11,339,112⟩) ⟨339,4,339,112⟩) .nil)))))))))
def d__law_bent : DefS := ⟨"_law_bent", "_law_bent", (top 63), ["state", "text", "at", "way", "words", "spot"], 2, b__law_bent, none, false⟩
def b__law_errors_asked : Ss :=
  (.cons (.asg [] (.nm 1 ⟨341,4,341,8⟩) (.lst (.cons (.mkx c_BadSettingText (.var 0 ⟨341,27,341,28⟩) ⟨341,12,341,26⟩ ⟨341,12,341,29⟩) (.cons (.mkk c_BadSettingText (.var 0 ⟨341,51,341,52⟩) ⟨341,46,341,52⟩ ⟨341,31,341,45⟩ ⟨341,31,341,53⟩) (.cons (.mkx c_BadWalkText (.var 0 ⟨341,67,341,68⟩) ⟨341,55,341,66⟩ ⟨341,55,341,69⟩) (.cons (.mkk c_BadWalkText (.var 0 ⟨341,88,341,89⟩) ⟨341,83,341,89⟩ ⟨341,71,341,82⟩ ⟨341,71,341,90⟩) .nil)))) ⟨341,11,341,91⟩) ⟨341,4,341,91⟩) (.cons (.forr [] (.nm 2 ⟨342,8,342,9⟩) (.e (.var 1 ⟨342,13,342,17⟩)) (.cons (.ife [] (.bop .Or (.not (.blt .isi (.cons (.var 2 ⟨343,26,343,27⟩) (.cons (.gcl c_PuzzleError ⟨343,29,343,40⟩) .nil)) ⟨343,15,343,25⟩ ⟨343,15,343,41⟩) ⟨343,11,343,41⟩) (.cons (.blt .isi (.cons (.var 2 ⟨343,56,343,57⟩) (.cons (.tup (.cons (.gcl c_BadPuzzleText ⟨343,60,343,73⟩) (.cons (.gcl c_BadSetting ⟨343,75,343,85⟩) (.cons (.gcl c_BadWalk ⟨343,87,343,94⟩) .nil))) 0 ⟨343,59,343,95⟩) .nil)) ⟨343,45,343,55⟩ ⟨343,45,343,96⟩) (.cons (.not (.call f__law_same (.cons (.xfl 0 (.var 2 ⟨343,115,343,116⟩) ⟨343,115,343,121⟩) (.cons (.var 0 ⟨343,123,343,124⟩) .nil)) ⟨343,105,343,114⟩ ⟨343,105,343,125⟩) ⟨343,101,343,125⟩) .nil)) ⟨343,11,343,126⟩) (.cons (.ret [] (.bl false 0 ⟨344,19,344,24⟩) ⟨344,12,344,24⟩) .nil) .nil ⟨343,8,344,24⟩) .nil) ⟨342,4,344,24⟩) (.cons (.ret [] (.bop .And (.not (.blt .isi (.cons (.sub (.var 1 ⟨345,26,345,30⟩) (.int 0 0 ⟨345,31,345,32⟩) ⟨345,26,345,33⟩) (.cons (.gcl c_BadWalkText ⟨345,35,345,46⟩) .nil)) ⟨345,15,345,25⟩ ⟨345,15,345,47⟩) ⟨345,11,345,47⟩) (.cons (.not (.blt .isi (.cons (.sub (.var 1 ⟨345,68,345,72⟩) (.int 2 0 ⟨345,73,345,74⟩) ⟨345,68,345,75⟩) (.cons (.gcl c_BadSettingText ⟨345,77,345,91⟩) .nil)) ⟨345,57,345,67⟩ ⟨345,57,345,92⟩) ⟨345,53,345,92⟩) .nil) ⟨345,11,345,93⟩) ⟨345,4,345,93⟩) .nil)))
def d__law_errors_asked : DefS := ⟨"_law_errors_asked", "_law_errors_asked", (top 64), ["x", "made", "e"], 1, b__law_errors_asked, none, false⟩
def b_Puzzle_places : Ss :=
  (.cons (.ret [] (.blt .list (.cons (.fld c_Puzzle 0 (.var 0 ⟨113,20,113,24⟩) ⟨113,20,113,32⟩) .nil) ⟨113,15,113,19⟩ ⟨113,15,113,33⟩) ⟨113,8,113,33⟩) .nil)
def d_Puzzle_places : DefS := ⟨"places", "Puzzle.places", (inClass (top 28) 1), ["self"], 1, b_Puzzle_places, none, false⟩
def b_Puzzle_nodes : Ss :=
  (.cons (.ret [] (.blt .list (.cons (.fld c_Puzzle 1 (.var 0 ⟨116,20,116,24⟩) ⟨116,20,116,31⟩) .nil) ⟨116,15,116,19⟩ ⟨116,15,116,32⟩) ⟨116,8,116,32⟩) .nil)
def d_Puzzle_nodes : DefS := ⟨"nodes", "Puzzle.nodes", (inClass (top 28) 2), ["self"], 1, b_Puzzle_nodes, none, false⟩
def b_Puzzle_turns : Ss :=
  (.cons (.ret [] (.lc [1, 2, 3, 4] (.tup (.cons (.nm 1 ⟨119,71,119,75⟩) (.cons (.nm 2 ⟨119,77,119,82⟩) (.cons (.nm 3 ⟨119,84,119,87⟩) (.cons (.nm 4 ⟨119,89,119,94⟩) .nil)))) 0 ⟨119,71,119,94⟩) (.e (.fld c_Puzzle 2 (.var 0 ⟨119,98,119,102⟩) ⟨119,98,119,109⟩)) .nil (.tup (.cons (.var 1 ⟨119,17,119,21⟩) (.cons (.var 2 ⟨119,23,119,28⟩) (.cons (.var 3 ⟨119,30,119,33⟩) (.cons (.lc [5] (.nm 5 ⟨119,51,119,55⟩) (.e (.var 4 ⟨119,59,119,64⟩)) .nil (.blt .list (.cons (.var 5 ⟨119,41,119,45⟩) .nil) ⟨119,36,119,40⟩ ⟨119,36,119,46⟩) { kind := PySem.ScopeKind.function, names := [((PySem.Str.ofString ".0"), PySem.NameKind.local), ((PySem.Str.ofString "ring"), PySem.NameKind.local), ((PySem.Str.ofString "list"), PySem.NameKind.globalImplicit)], isGenerator := false, isCoroutine := false, more := [] : PySem.Scope } ⟨119,35,119,65⟩) .nil)))) 0 ⟨119,16,119,66⟩) { kind := PySem.ScopeKind.function, names := [((PySem.Str.ofString ".0"), PySem.NameKind.local), ((PySem.Str.ofString "name"), PySem.NameKind.local), ((PySem.Str.ofString "start"), PySem.NameKind.local), ((PySem.Str.ofString "end"), PySem.NameKind.local), ((PySem.Str.ofString "rings"), PySem.NameKind.local)], isGenerator := false, isCoroutine := false, more := [] : PySem.Scope } ⟨119,15,119,110⟩) ⟨119,8,119,110⟩) .nil)
def d_Puzzle_turns : DefS := ⟨"turns", "Puzzle.turns", (inClass (top 28) 3), ["self", "name", "start", "end", "rings", "ring"], 1, b_Puzzle_turns, none, false⟩
def b_Puzzle___init__ : Ss :=
  (.cons (.asg [] (.nm 4 ⟨99,8,99,13⟩) (.call f_wrong_words (.cons (.var 1 ⟨99,28,99,34⟩) .nil) ⟨99,16,99,27⟩ ⟨99,16,99,35⟩) ⟨99,8,99,35⟩) (.cons (.ife [] (.cmp .IsNot (.var 4 ⟨100,11,100,16⟩) (.non 0 ⟨100,24,100,28⟩) ⟨100,11,100,28⟩) (.cons (.raise [] c_BadPlaces (.var 4 ⟨101,28,101,33⟩) ⟨101,18,101,27⟩ ⟨101,18,101,34⟩ ⟨101,12,101,34⟩) .nil) .nil ⟨100,8,101,34⟩) (.cons (.asg [] (.nm 4 ⟨102,8,102,13⟩) (.call f_wrong_words (.cons (.var 2 ⟨102,28,102,33⟩) .nil) ⟨102,16,102,27⟩ ⟨102,16,102,34⟩) ⟨102,8,102,34⟩) (.cons (.ife [] (.cmp .IsNot (.var 4 ⟨103,11,103,16⟩) (.non 0 ⟨103,24,103,28⟩) ⟨103,11,103,28⟩) (.cons (.raise [] c_BadNodes (.var 4 ⟨104,27,104,32⟩) ⟨104,18,104,26⟩ ⟨104,18,104,33⟩ ⟨104,12,104,33⟩) .nil) .nil ⟨103,8,104,33⟩) (.cons (.asg [] (.nm 4 ⟨105,8,105,13⟩) (.call f_wrong_turns (.cons (.var 1 ⟨105,28,105,34⟩) (.cons (.var 2 ⟨105,36,105,41⟩) (.cons (.var 3 ⟨105,43,105,48⟩) .nil))) ⟨105,16,105,27⟩ ⟨105,16,105,49⟩) ⟨105,8,105,49⟩) (.cons (.ife [] (.cmp .IsNot (.var 4 ⟨106,11,106,16⟩) (.non 0 ⟨106,24,106,28⟩) ⟨106,11,106,28⟩) (.cons (.raise [] c_BadTurns (.var 4 ⟨107,27,107,32⟩) ⟨107,18,107,26⟩ ⟨107,18,107,33⟩ ⟨107,12,107,33⟩) .nil) .nil ⟨106,8,107,33⟩) (.cons (.fldI [] 0 c_Puzzle 0 (.blt .list (.cons (.var 1 ⟨108,28,108,34⟩) .nil) ⟨108,23,108,27⟩ ⟨108,23,108,35⟩) ⟨108,8,108,12⟩ ⟨108,8,108,20⟩ ⟨108,8,108,35⟩) (.cons (.fldI [] 0 c_Puzzle 1 (.blt .list (.cons (.var 2 ⟨109,27,109,32⟩) .nil) ⟨109,22,109,26⟩ ⟨109,22,109,33⟩) ⟨109,8,109,12⟩ ⟨109,8,109,19⟩ ⟨109,8,109,33⟩) (.cons (.fldI [] 0 c_Puzzle 2 (.lc [5, 6, 7, 8] (.tup (.cons (.nm 5 ⟨110,78,110,82⟩) (.cons (.nm 6 ⟨110,84,110,89⟩) (.cons (.nm 7 ⟨110,91,110,94⟩) (.cons (.nm 8 ⟨110,96,110,101⟩) .nil)))) 0 ⟨110,78,110,101⟩) (.e (.var 3 ⟨110,105,110,110⟩)) .nil (.tup (.cons (.var 5 ⟨110,24,110,28⟩) (.cons (.var 6 ⟨110,30,110,35⟩) (.cons (.var 7 ⟨110,37,110,40⟩) (.cons (.lc [9] (.nm 9 ⟨110,58,110,62⟩) (.e (.var 8 ⟨110,66,110,71⟩)) .nil (.blt .list (.cons (.var 9 ⟨110,48,110,52⟩) .nil) ⟨110,43,110,47⟩ ⟨110,43,110,53⟩) { kind := PySem.ScopeKind.function, names := [((PySem.Str.ofString ".0"), PySem.NameKind.local), ((PySem.Str.ofString "ring"), PySem.NameKind.local), ((PySem.Str.ofString "list"), PySem.NameKind.globalImplicit)], isGenerator := false, isCoroutine := false, more := [] : PySem.Scope } ⟨110,42,110,72⟩) .nil)))) 0 ⟨110,23,110,73⟩) { kind := PySem.ScopeKind.function, names := [((PySem.Str.ofString ".0"), PySem.NameKind.local), ((PySem.Str.ofString "name"), PySem.NameKind.local), ((PySem.Str.ofString "start"), PySem.NameKind.local), ((PySem.Str.ofString "end"), PySem.NameKind.local), ((PySem.Str.ofString "rings"), PySem.NameKind.local)], isGenerator := false, isCoroutine := false, more := [] : PySem.Scope } ⟨110,22,110,111⟩) ⟨110,8,110,12⟩ ⟨110,8,110,19⟩ ⟨110,8,110,111⟩) .nil)))))))))
def d_Puzzle___init__ : DefS := ⟨"__init__", "Puzzle.__init__", (inClass (top 28) 0), ["self", "places", "nodes", "turns", "index", "name", "start", "end", "rings", "ring"], 4, b_Puzzle___init__, (some 10), false⟩
def blaw : Ss :=
  (.cons (.forr [] (.nm 2 ⟨348,8,348,12⟩) (.rng1 (.int 3 0 ⟨348,22,348,23⟩) ⟨348,16,348,21⟩ ⟨348,16,348,24⟩) (.cons (.asg [] (.nm 3 ⟨349,8,349,11⟩) (.call f__law_make_puzzle (.cons (.var 1 ⟨349,31,349,36⟩) (.cons (.call f__law_one (.cons (.var 1 ⟨349,47,349,52⟩) (.cons (.lst (.cons (.int 2 0 ⟨349,55,349,56⟩) (.cons (.int 4 0 ⟨349,58,349,59⟩) (.cons (.int 5 0 ⟨349,61,349,62⟩) .nil))) ⟨349,54,349,63⟩) .nil)) ⟨349,38,349,46⟩ ⟨349,38,349,64⟩) (.cons (.int 3 0 ⟨349,66,349,67⟩) (.cons (.int 4 0 ⟨349,69,349,70⟩) .nil)))) ⟨349,14,349,30⟩ ⟨349,14,349,71⟩) ⟨349,8,349,71⟩) (.cons (.asg [] (.tup (.cons (.nm 4 ⟨350,8,350,14⟩) (.cons (.nm 5 ⟨350,16,350,21⟩) .nil)) 0 ⟨350,8,350,21⟩) (.tup (.cons (.call f__law_puzzle_of (.cons (.var 3 ⟨350,40,350,43⟩) .nil) ⟨350,25,350,39⟩ ⟨350,25,350,44⟩) (.cons (.lc [6] (.nm 6 ⟨350,58,350,61⟩) (.e (.sub (.var 3 ⟨350,65,350,68⟩) (.int 2 0 ⟨350,69,350,70⟩) ⟨350,65,350,71⟩)) .nil (.sub (.var 6 ⟨350,47,350,50⟩) (.int 0 0 ⟨350,51,350,52⟩) ⟨350,47,350,53⟩) { kind := PySem.ScopeKind.function, names := [((PySem.Str.ofString ".0"), PySem.NameKind.local), ((PySem.Str.ofString "one"), PySem.NameKind.local)], isGenerator := false, isCoroutine := false, more := [] : PySem.Scope } ⟨350,46,350,72⟩) .nil)) 0 ⟨350,24,350,73⟩) ⟨350,8,350,73⟩) (.cons (.asg [] (.nm 7 ⟨351,8,351,15⟩) (.call f__law_any_setting (.cons (.var 1 ⟨351,35,351,40⟩) (.cons (.var 3 ⟨351,42,351,45⟩) .nil)) ⟨351,18,351,34⟩ ⟨351,18,351,46⟩) ⟨351,8,351,46⟩) (.cons (.asg [] (.nm 8 ⟨352,8,352,12⟩) (.ife (.cmp .NotEq (.var 5 ⟨352,80,352,85⟩) (.lst .nil ⟨352,89,352,91⟩) ⟨352,80,352,91⟩) (.lc [9] (.nm 9 ⟨352,43,352,44⟩) (.rng1 (.call f__law_pick (.cons (.var 1 ⟨352,64,352,69⟩) (.cons (.int 10 0 ⟨352,71,352,73⟩) .nil)) ⟨352,54,352,63⟩ ⟨352,54,352,74⟩) ⟨352,48,352,53⟩ ⟨352,48,352,75⟩) .nil (.call f__law_one (.cons (.var 1 ⟨352,25,352,30⟩) (.cons (.var 5 ⟨352,32,352,37⟩) .nil)) ⟨352,16,352,24⟩ ⟨352,16,352,38⟩) { kind := PySem.ScopeKind.function, names := [((PySem.Str.ofString ".0"), PySem.NameKind.local), ((PySem.Str.ofString "k"), PySem.NameKind.local), ((PySem.Str.ofString "_law_one"), PySem.NameKind.globalImplicit), ((PySem.Str.ofString "names"), PySem.NameKind.free), ((PySem.Str.ofString "state"), PySem.NameKind.free)], isGenerator := false, isCoroutine := false, more := [] : PySem.Scope } ⟨352,15,352,76⟩) (.lst .nil ⟨352,97,352,99⟩) ⟨352,15,352,99⟩) ⟨352,8,352,99⟩) (.cons (.par2 [] 10 11 false false ⟨353,8,353,12⟩ ⟨353,14,353,19⟩ 0 ⟨353,8,353,19⟩ (.bin .Add (.bin .Add (.bin .Add (.bin .Add (.str "at " 0 ⟨353,23,353,28⟩) (.sub (.var 7 ⟨353,31,353,38⟩) (.int 0 0 ⟨353,39,353,40⟩) ⟨353,31,353,41⟩) ⟨353,23,353,41⟩) (.str "\nlie " 0 ⟨353,44,353,52⟩) ⟨353,23,353,52⟩) (.joi (.str " " 0 ⟨353,55,353,58⟩) (.sub (.var 7 ⟨353,64,353,71⟩) (.int 1 0 ⟨353,72,353,73⟩) ⟨353,64,353,74⟩) ⟨353,55,353,63⟩ ⟨353,55,353,75⟩) ⟨353,23,353,75⟩) (.str "\n" 0 ⟨353,78,353,82⟩) ⟨353,23,353,82⟩) (.bin .Add (.joi (.str " " 0 ⟨353,84,353,87⟩) (.bin .Add (.lst (.cons (.str "walk" 0 ⟨353,94,353,100⟩) .nil) ⟨353,93,353,101⟩) (.var 8 ⟨353,104,353,108⟩) ⟨353,93,353,108⟩) ⟨353,84,353,92⟩ ⟨353,84,353,109⟩) (.str "\n" 0 ⟨353,112,353,116⟩) ⟨353,84,353,116⟩) 0 ⟨353,22,353,117⟩ ⟨353,8,353,117⟩) (.cons (.asg [] (.nm 12 ⟨354,8,354,12⟩) (.lst (.cons (.call f_setting_text (.cons (.var 4 ⟨354,29,354,35⟩) (.cons (.call f__law_loose (.cons (.var 1 ⟨354,48,354,53⟩) (.cons (.var 7 ⟨354,55,354,62⟩) .nil)) ⟨354,37,354,47⟩ ⟨354,37,354,63⟩) .nil)) ⟨354,16,354,28⟩ ⟨354,16,354,64⟩) (.cons (.call f_walk_text (.cons (.var 4 ⟨354,76,354,82⟩) (.cons (.call f__law_loose (.cons (.var 1 ⟨354,95,354,100⟩) (.cons (.var 8 ⟨354,102,354,106⟩) .nil)) ⟨354,84,354,94⟩ ⟨354,84,354,107⟩) .nil)) ⟨354,66,354,75⟩ ⟨354,66,354,108⟩) .nil)) ⟨354,15,354,109⟩) ⟨354,8,354,109⟩) (.cons (.ife [] (.bop .Or (.not (.call f__law_same (.cons (.var 12 ⟨355,25,355,29⟩) (.cons (.lst (.cons (.var 10 ⟨355,32,355,36⟩) (.cons (.var 11 ⟨355,38,355,43⟩) .nil)) ⟨355,31,355,44⟩) .nil)) ⟨355,15,355,24⟩ ⟨355,15,355,45⟩) ⟨355,11,355,45⟩) (.cons (.not (.call f__law_same (.cons (.lst (.cons (.callk 0 (.cons "setting" (.var 7 ⟨355,85,355,92⟩) ⟨355,77,355,92⟩ (.cons "puzzle" (.var 4 ⟨355,101,355,107⟩) ⟨355,94,355,107⟩ .nil)) ⟨355,64,355,76⟩ ⟨355,64,355,108⟩) (.cons (.callk 1 (.cons "walk" (.var 8 ⟨355,125,355,129⟩) ⟨355,120,355,129⟩ (.cons "puzzle" (.var 4 ⟨355,138,355,144⟩) ⟨355,131,355,144⟩ .nil)) ⟨355,110,355,119⟩ ⟨355,110,355,145⟩) .nil)) ⟨355,63,355,146⟩) (.cons (.var 12 ⟨355,148,355,152⟩) .nil)) ⟨355,53,355,62⟩ ⟨355,53,355,153⟩) ⟨355,49,355,153⟩) .nil) ⟨355,11,355,153⟩) (.cons (.ret [] (.bl false 0 ⟨356,19,356,24⟩) ⟨356,12,356,24⟩) .nil) .nil ⟨355,8,356,24⟩) (.cons (.own [] 13 ⟨357,8,357,12⟩ (.lst (.cons (.var 10 ⟨357,16,357,20⟩) (.cons (.var 11 ⟨357,22,357,27⟩) (.cons (.str "" 0 ⟨357,29,357,31⟩) (.cons (.str "\n" 0 ⟨357,33,357,37⟩) (.cons (.non 0 ⟨357,39,357,43⟩) (.cons (.int 5 0 ⟨357,45,357,46⟩) (.cons (.lst (.cons (.var 10 ⟨357,49,357,53⟩) .nil) ⟨357,48,357,54⟩) (.cons (.bl true 0 ⟨357,56,357,60⟩) (.cons (.bin .Add (.var 10 ⟨357,62,357,66⟩) (.var 11 ⟨357,69,357,74⟩) ⟨357,62,357,74⟩) (.cons (.sl (.var 10 ⟨357,76,357,80⟩) .no (.so (.neg (.int 1 0 ⟨357,83,357,84⟩) ⟨357,82,357,84⟩)) ⟨357,81,357,84⟩ ⟨357,76,357,85⟩) (.cons (.sl (.var 11 ⟨357,87,357,92⟩) .no (.so (.neg (.int 1 0 ⟨357,95,357,96⟩) ⟨357,94,357,96⟩)) ⟨357,93,357,96⟩ ⟨357,87,357,97⟩) .nil))))))))))) ⟨357,15,357,98⟩) ⟨357,8,357,98⟩) (.cons (.forr [] (.nm 9 ⟨358,12,358,13⟩) (.rng1 (.int 12 0 ⟨358,23,358,25⟩) ⟨358,17,358,22⟩ ⟨358,17,358,26⟩) (.cons (.app [] 13 (.call f__law_bent (.cons (.var 1 ⟨359,34,359,39⟩) (.cons (.ife (.cmp .Eq (.bin .Mod (.var 9 ⟨359,49,359,50⟩) (.int 2 0 ⟨359,53,359,54⟩) ⟨359,49,359,54⟩) (.int 0 0 ⟨359,58,359,59⟩) ⟨359,49,359,59⟩) (.var 10 ⟨359,41,359,45⟩) (.var 11 ⟨359,65,359,70⟩) ⟨359,41,359,70⟩) .nil)) ⟨359,24,359,33⟩ ⟨359,24,359,71⟩) ⟨359,12,359,16⟩ ⟨359,12,359,23⟩ ⟨359,12,359,72⟩ ⟨359,12,359,72⟩) .nil) ⟨358,8,359,72⟩) (.cons (.forr [13] (.nm 14 ⟨360,12,360,17⟩) (.e (.var 13 ⟨360,21,360,25⟩)) (.cons (.par2 [] 15 16 false false ⟨361,12,361,16⟩ ⟨361,18,361,24⟩ 0 ⟨361,12,361,24⟩ (.call f__law_read_setting (.cons (.var 3 ⟨361,46,361,49⟩) (.cons (.var 14 ⟨361,51,361,56⟩) .nil)) ⟨361,28,361,45⟩ ⟨361,28,361,57⟩) (.call f__law_read_walk (.cons (.var 3 ⟨361,74,361,77⟩) (.cons (.var 14 ⟨361,79,361,84⟩) .nil)) ⟨361,59,361,73⟩ ⟨361,59,361,85⟩) 0 ⟨361,27,361,86⟩ ⟨361,12,361,86⟩) (.cons (.asg [] (.nm 17 ⟨362,12,362,17⟩) (.lst (.cons (.told 0 (.call f_read_setting (.cons (.var 4 ⟨362,52,362,58⟩) (.cons (.var 14 ⟨362,60,362,65⟩) .nil)) ⟨362,39,362,51⟩ ⟨362,39,362,66⟩) { kind := PySem.ScopeKind.function, names := [((PySem.Str.ofString "puzzle"), PySem.NameKind.free), ((PySem.Str.ofString "thing"), PySem.NameKind.free), ((PySem.Str.ofString "read_setting"), PySem.NameKind.globalImplicit)], isGenerator := false, isCoroutine := false, more := [] : PySem.Scope } ⟨362,21,362,30⟩ ⟨362,31,362,66⟩ ⟨362,21,362,67⟩) (.cons (.ife (.cmp .IsNot (.var 15 ⟨362,87,362,91⟩) (.non 0 ⟨362,99,362,103⟩) ⟨362,87,362,103⟩) (.tup (.cons (.str "told" 0 ⟨362,70,362,76⟩) (.cons (.var 15 ⟨362,78,362,82⟩) .nil)) 0 ⟨362,69,362,83⟩) (.tup (.cons (.str "bad" 0 ⟨362,110,362,115⟩) (.cons (.str "setting text" 0 ⟨362,117,362,131⟩) (.cons (.var 14 ⟨362,133,362,138⟩) .nil))) 0 ⟨362,109,362,139⟩) ⟨362,69,362,139⟩) .nil)) ⟨362,20,362,140⟩) ⟨362,12,362,140⟩) (.cons (.asg [] (.nm 18 ⟨363,12,363,16⟩) (.lst (.cons (.told 0 (.callk 2 (.cons "text" (.var 14 ⟨363,53,363,58⟩) ⟨363,48,363,58⟩ (.cons "puzzle" (.var 4 ⟨363,67,363,73⟩) ⟨363,60,363,73⟩ .nil)) ⟨363,38,363,47⟩ ⟨363,38,363,74⟩) { kind := PySem.ScopeKind.function, names := [((PySem.Str.ofString "puzzle"), PySem.NameKind.free), ((PySem.Str.ofString "thing"), PySem.NameKind.free), ((PySem.Str.ofString "read_walk"), PySem.NameKind.globalImplicit)], isGenerator := false, isCoroutine := false, more := [] : PySem.Scope } ⟨363,20,363,29⟩ ⟨363,30,363,74⟩ ⟨363,20,363,75⟩) (.cons (.ife (.cmp .IsNot (.var 16 ⟨363,97,363,103⟩) (.non 0 ⟨363,111,363,115⟩) ⟨363,97,363,115⟩) (.tup (.cons (.str "told" 0 ⟨363,78,363,84⟩) (.cons (.var 16 ⟨363,86,363,92⟩) .nil)) 0 ⟨363,77,363,93⟩) (.tup (.cons (.str "bad" 0 ⟨363,122,363,127⟩) (.cons (.str "walk text" 0 ⟨363,129,363,140⟩) (.cons (.var 14 ⟨363,142,363,147⟩) .nil))) 0 ⟨363,121,363,148⟩) ⟨363,77,363,148⟩) .nil)) ⟨363,19,363,149⟩) ⟨363,12,363,149⟩) (.cons (.ife [] (.bop .Or (.not (.call f__law_same (.cons (.sub (.var 17 ⟨364,29,364,34⟩) (.int 0 0 ⟨364,35,364,36⟩) ⟨364,29,364,37⟩) (.cons (.sub (.var 17 ⟨364,39,364,44⟩) (.int 1 0 ⟨364,45,364,46⟩) ⟨364,39,364,47⟩) .nil)) ⟨364,19,364,28⟩ ⟨364,19,364,48⟩) ⟨364,15,364,48⟩) (.cons (.not (.call f__law_same (.cons (.sub (.var 18 ⟨364,66,364,70⟩) (.int 0 0 ⟨364,71,364,72⟩) ⟨364,66,364,73⟩) (.cons (.sub (.var 18 ⟨364,75,364,79⟩) (.int 1 0 ⟨364,80,364,81⟩) ⟨364,75,364,82⟩) .nil)) ⟨364,56,364,65⟩ ⟨364,56,364,83⟩) ⟨364,52,364,83⟩) (.cons (.not (.call f__law_errors_asked (.cons (.var 14 ⟨364,110,364,115⟩) .nil) ⟨364,92,364,109⟩ ⟨364,92,364,116⟩) ⟨364,88,364,116⟩) .nil)) ⟨364,15,364,117⟩) (.cons (.ret [] (.bl false 0 ⟨365,23,365,28⟩) ⟨365,16,365,28⟩) .nil) .nil ⟨364,12,365,28⟩) .nil)))) ⟨360,8,365,28⟩) (.cons (.forr [] (.nm 19 ⟨366,12,366,15⟩) (.e (.tup (.cons (.non 0 ⟨366,20,366,24⟩) (.cons (.int 5 0 ⟨366,26,366,27⟩) (.cons (.tup (.cons (.str "Z9" 0 ⟨366,30,366,34⟩) (.cons (.sub (.var 3 ⟨366,36,366,39⟩) (.int 0 0 ⟨366,40,366,41⟩) ⟨366,36,366,42⟩) .nil)) 0 ⟨366,29,366,43⟩) (.cons (.lst (.cons (.non 0 ⟨366,46,366,50⟩) .nil) ⟨366,45,366,51⟩) .nil)))) 0 ⟨366,19,366,52⟩)) (.cons (.ife [] (.not (.call f__law_same (.cons (.told 0 (.call f_setting_text (.cons (.var 4 ⟨367,60,367,66⟩) (.cons (.var 19 ⟨367,68,367,71⟩) .nil)) ⟨367,47,367,59⟩ ⟨367,47,367,72⟩) { kind := PySem.ScopeKind.function, names := [((PySem.Str.ofString "odd"), PySem.NameKind.free), ((PySem.Str.ofString "puzzle"), PySem.NameKind.free), ((PySem.Str.ofString "setting_text"), PySem.NameKind.globalImplicit)], isGenerator := false, isCoroutine := false, more := [] : PySem.Scope } ⟨367,29,367,38⟩ ⟨367,39,367,72⟩ ⟨367,29,367,73⟩) (.cons (.tup (.cons (.str "bad" 0 ⟨367,76,367,81⟩) (.cons (.str "setting" 0 ⟨367,83,367,92⟩) (.cons (.var 19 ⟨367,94,367,97⟩) .nil))) 0 ⟨367,75,367,98⟩) .nil)) ⟨367,19,367,28⟩ ⟨367,19,367,99⟩) ⟨367,15,367,99⟩) (.cons (.ret [] (.bl false 0 ⟨368,23,368,28⟩) ⟨368,16,368,28⟩) .nil) .nil ⟨367,12,368,28⟩) (.cons (.ife [] (.not (.call f__law_same (.cons (.told 0 (.call f_walk_text (.cons (.var 4 ⟨369,57,369,63⟩) (.cons (.lst (.cons (.var 19 ⟨369,66,369,69⟩) .nil) ⟨369,65,369,70⟩) .nil)) ⟨369,47,369,56⟩ ⟨369,47,369,71⟩) { kind := PySem.ScopeKind.function, names := [((PySem.Str.ofString "odd"), PySem.NameKind.free), ((PySem.Str.ofString "puzzle"), PySem.NameKind.free), ((PySem.Str.ofString "walk_text"), PySem.NameKind.globalImplicit)], isGenerator := false, isCoroutine := false, more := [] : PySem.Scope } ⟨369,29,369,38⟩ ⟨369,39,369,71⟩ ⟨369,29,369,72⟩) (.cons (.tup (.cons (.str "bad" 0 ⟨369,75,369,80⟩) (.cons (.str "walk" 0 ⟨369,82,369,88⟩) (.cons (.lst (.cons (.var 19 ⟨369,91,369,94⟩) .nil) ⟨369,90,369,95⟩) .nil))) 0 ⟨369,74,369,96⟩) .nil)) ⟨369,19,369,28⟩ ⟨369,19,369,97⟩) ⟨369,15,369,97⟩) (.cons (.ret [] (.bl false 0 ⟨370,23,370,28⟩) ⟨370,16,370,28⟩) .nil) .nil ⟨369,12,370,28⟩) (.cons (.forr [] (.nm 20 ⟨371,16,371,19⟩) (.e (.tup (.cons (.gfn f_setting_text ⟨371,24,371,36⟩) (.cons (.gfn f_walk_text ⟨371,38,371,47⟩) (.cons (.gfn f_read_setting ⟨371,49,371,61⟩) (.cons (.gfn f_read_walk ⟨371,63,371,72⟩) .nil)))) 0 ⟨371,23,371,73⟩)) (.cons (.ife [] (.not (.call f__law_same (.cons (.told 0 (.callv [f_setting_text, f_walk_text, f_read_setting, f_read_walk] 20 (.cons (.lst (.cons (.var 19 ⟨372,56,372,59⟩) .nil) ⟨372,55,372,60⟩) (.cons (.non 0 ⟨372,62,372,66⟩) .nil)) ⟨372,51,372,54⟩ ⟨372,51,372,67⟩) { kind := PySem.ScopeKind.function, names := [((PySem.Str.ofString "ask"), PySem.NameKind.free), ((PySem.Str.ofString "odd"), PySem.NameKind.free)], isGenerator := false, isCoroutine := false, more := [] : PySem.Scope } ⟨372,33,372,42⟩ ⟨372,43,372,67⟩ ⟨372,33,372,68⟩) (.cons (.tup (.cons (.str "bad" 0 ⟨372,71,372,76⟩) (.cons (.str "puzzle" 0 ⟨372,78,372,86⟩) (.cons (.lst (.cons (.var 19 ⟨372,89,372,92⟩) .nil) ⟨372,88,372,93⟩) .nil))) 0 ⟨372,70,372,94⟩) .nil)) ⟨372,23,372,32⟩ ⟨372,23,372,95⟩) ⟨372,19,372,95⟩) (.cons (.ret [] (.bl false 0 ⟨373,27,373,32⟩) ⟨373,20,373,32⟩) .nil) .nil ⟨372,16,373,32⟩) .nil) ⟨371,12,373,32⟩) .nil))) ⟨366,8,373,32⟩) .nil))))))))))) ⟨348,4,373,32⟩) (.cons (.ret [] (.bl true 0 ⟨374,11,374,15⟩) ⟨374,4,374,15⟩) .nil))
def dlaw : DefS := ⟨"law", "law", (top 65), ["script", "state", "turn", "raw", "puzzle", "names", "one", "setting", "walk", "k", "text", "other", "told", "some", "thing", "mine", "theirs", "found", "more", "odd", "ask"], 1, blaw, none, true⟩
def cl__law_told : List ClE := [⟨"BadSettingText", "bad", "setting text", "text", 8, ⟨295,11,295,25⟩, ⟨296,8,296,13⟩, ⟨296,17,296,22⟩, ⟨296,24,296,38⟩, ⟨296,40,296,41⟩, ⟨296,40,296,46⟩, ⟨296,16,296,47⟩, ⟨296,8,296,47⟩, ⟨295,4,296,47⟩, 0, 0, 0⟩,
  ⟨"BadWalkText", "bad", "walk text", "text", 9, ⟨297,11,297,22⟩, ⟨298,8,298,13⟩, ⟨298,17,298,22⟩, ⟨298,24,298,35⟩, ⟨298,37,298,38⟩, ⟨298,37,298,43⟩, ⟨298,16,298,44⟩, ⟨298,8,298,44⟩, ⟨297,4,298,44⟩, 0, 0, 0⟩,
  ⟨"BadSetting", "bad", "setting", "setting", 7, ⟨299,11,299,21⟩, ⟨300,8,300,13⟩, ⟨300,17,300,22⟩, ⟨300,24,300,33⟩, ⟨300,35,300,36⟩, ⟨300,35,300,44⟩, ⟨300,16,300,45⟩, ⟨300,8,300,45⟩, ⟨299,4,300,45⟩, 0, 0, 0⟩,
  ⟨"BadWalk", "bad", "walk", "walk", 6, ⟨301,11,301,18⟩, ⟨302,8,302,13⟩, ⟨302,17,302,22⟩, ⟨302,24,302,30⟩, ⟨302,32,302,33⟩, ⟨302,32,302,38⟩, ⟨302,16,302,39⟩, ⟨302,8,302,39⟩, ⟨301,4,302,39⟩, 0, 0, 0⟩,
  ⟨"BadPuzzle", "bad", "puzzle", "puzzle", 4, ⟨303,11,303,20⟩, ⟨304,8,304,13⟩, ⟨304,17,304,22⟩, ⟨304,24,304,32⟩, ⟨304,34,304,35⟩, ⟨304,34,304,42⟩, ⟨304,16,304,43⟩, ⟨304,8,304,43⟩, ⟨303,4,304,43⟩, 0, 0, 0⟩]
def T : Tab where
  ng := 43
  fns := [(Str.ofString "is_list", 1, true), (Str.ofString "is_row", 2, false), (Str.ofString "is_pair", 1, false), (Str.ofString "is_text", 1, true), (Str.ofString "is_letters", 1, false), (Str.ofString "is_word", 1, false), (Str.ofString "wrong_words", 1, false), (Str.ofString "is_one_of", 2, false), (Str.ofString "is_ring_of", 3, false), (Str.ofString "are_rings", 2, true), (Str.ofString "is_turn", 4, false), (Str.ofString "wrong_turns", 3, false), (Str.ofString "need_puzzle", 1, true), (Str.ofString "names_of", 1, true), (Str.ofString "is_walk", 2, false), (Str.ofString "check_walk", 2, true), (Str.ofString "is_setting_of", 2, false), (Str.ofString "setting_of", 2, true), (Str.ofString "setting_text", 2, true), (Str.ofString "words_of", 2, false), (Str.ofString "read_setting", 2, false), (Str.ofString "walk_text", 2, true), (Str.ofString "read_walk", 2, true), (Str.ofString "_law_pick", 2, false), (Str.ofString "_law_between", 3, true), (Str.ofString "_law_one", 2, false), (Str.ofString "_law_mixed", 2, false), (Str.ofString "_law_same", 2, false), (Str.ofString "_law_copy", 1, false), (Str.ofString "_law_loose", 2, false), (Str.ofString "_law_free_word", 2, false), (Str.ofString "_law_words", 2, false), (Str.ofString "_law_puzzle_of", 1, false), (Str.ofString "_law_some_rings", 2, false), (Str.ofString "_law_make_puzzle", 4, true), (Str.ofString "_law_any_setting", 2, true), (Str.ofString "_law_is_one", 2, false), (Str.ofString "_law_setting_right", 2, true), (Str.ofString "_law_is_walk", 2, false), (Str.ofString "_law_read_setting", 2, true), (Str.ofString "_law_read_walk", 2, true), (Str.ofString "_law_bent", 2, true), (Str.ofString "_law_errors_asked", 1, false), (Str.ofString "places", 1, true), (Str.ofString "nodes", 1, true), (Str.ofString "turns", 1, true)]
  cls := [(Str.ofString "PuzzleError", []), (Str.ofString "BadPlaces", ["index"]), (Str.ofString "BadNodes", ["index"]), (Str.ofString "BadTurns", ["index"]), (Str.ofString "BadPuzzle", ["puzzle"]), (Str.ofString "BadPuzzleText", ["line"]), (Str.ofString "BadWalk", ["walk"]), (Str.ofString "BadSetting", ["setting"]), (Str.ofString "BadSettingText", ["text"]), (Str.ofString "BadWalkText", ["text"]), (Str.ofString "Puzzle", ["_places", "_nodes", "_turns"])]
  made := [none, none, none, none, none, none, none, none, none, none, some (46, 3)]
  mth := [(10, Str.ofString "places", 43), (10, Str.ofString "nodes", 44), (10, Str.ofString "turns", 45)]
  txs := [(Str.ofString "LETTERS", Str.ofString "abcdefghijklmnopqrstuvwxyz")]
  kws := [(18, ["setting", "puzzle"], [1, 0]), (21, ["walk", "puzzle"], [1, 0]), (22, ["text", "puzzle"], [1, 0])]
  tol := [(Str.ofString "_law_told", Str.ofString "told", cl__law_told)]
  xcs := [8, 9]
  xfs := ["text"]
def defs : List DefS := [
  d_is_list,
  d_is_row,
  d_is_pair,
  d_is_text,
  d_is_letters,
  d_is_word,
  d_wrong_words,
  d_is_one_of,
  d_is_ring_of,
  d_are_rings,
  d_is_turn,
  d_wrong_turns,
  d_need_puzzle,
  d_names_of,
  d_is_walk,
  d_check_walk,
  d_is_setting_of,
  d_setting_of,
  d_setting_text,
  d_words_of,
  d_read_setting,
  d_walk_text,
  d_read_walk,
  ⟨"_law_pick", "_law_pick", (top 44), [], 2, noSs (defBody (top 44)), none, false⟩,
  d__law_between,
  d__law_one,
  d__law_mixed,
  d__law_same,
  d__law_copy,
  d__law_loose,
  d__law_free_word,
  d__law_words,
  d__law_puzzle_of,
  d__law_some_rings,
  d__law_make_puzzle,
  d__law_any_setting,
  d__law_is_one,
  d__law_setting_right,
  d__law_is_walk,
  d__law_read_setting,
  d__law_read_walk,
  d__law_bent,
  d__law_errors_asked,
  d_Puzzle_places,
  d_Puzzle_nodes,
  d_Puzzle_turns,
  d_Puzzle___init__]
def ecs : List Nat := [1, 2, 3, 4, 6, 7, 8, 9]
def ats : List He.Defn := [((Str.ofString "is_list", none) : He.Defn), ((Str.ofString "is_row", none) : He.Defn), ((Str.ofString "is_pair", none) : He.Defn), ((Str.ofString "is_text", none) : He.Defn), ((Str.ofString "is_letters", none) : He.Defn), ((Str.ofString "is_word", none) : He.Defn), ((Str.ofString "wrong_words", none) : He.Defn), ((Str.ofString "is_one_of", none) : He.Defn), ((Str.ofString "is_ring_of", none) : He.Defn), ((Str.ofString "are_rings", none) : He.Defn), ((Str.ofString "is_turn", none) : He.Defn), ((Str.ofString "wrong_turns", none) : He.Defn), ((Str.ofString "need_puzzle", none) : He.Defn), ((Str.ofString "names_of", none) : He.Defn), ((Str.ofString "is_walk", none) : He.Defn), ((Str.ofString "check_walk", none) : He.Defn), ((Str.ofString "is_setting_of", none) : He.Defn), ((Str.ofString "setting_of", none) : He.Defn), ((Str.ofString "setting_text", none) : He.Defn), ((Str.ofString "words_of", none) : He.Defn), ((Str.ofString "read_setting", none) : He.Defn), ((Str.ofString "walk_text", none) : He.Defn), ((Str.ofString "read_walk", none) : He.Defn), ((Str.ofString "_law_pick", none) : He.Defn), ((Str.ofString "_law_between", none) : He.Defn), ((Str.ofString "_law_one", none) : He.Defn), ((Str.ofString "_law_mixed", none) : He.Defn), ((Str.ofString "_law_same", none) : He.Defn), ((Str.ofString "_law_copy", none) : He.Defn), ((Str.ofString "_law_loose", none) : He.Defn), ((Str.ofString "_law_free_word", none) : He.Defn), ((Str.ofString "_law_words", none) : He.Defn), ((Str.ofString "_law_puzzle_of", none) : He.Defn), ((Str.ofString "_law_some_rings", none) : He.Defn), ((Str.ofString "_law_make_puzzle", none) : He.Defn), ((Str.ofString "_law_any_setting", none) : He.Defn), ((Str.ofString "_law_is_one", none) : He.Defn), ((Str.ofString "_law_setting_right", none) : He.Defn), ((Str.ofString "_law_is_walk", none) : He.Defn), ((Str.ofString "_law_read_setting", none) : He.Defn), ((Str.ofString "_law_read_walk", none) : He.Defn), ((Str.ofString "_law_bent", none) : He.Defn), ((Str.ofString "_law_errors_asked", none) : He.Defn), ((Str.ofString "Puzzle", some (Str.ofString "places")) : He.Defn), ((Str.ofString "Puzzle", some (Str.ofString "nodes")) : He.Defn), ((Str.ofString "Puzzle", some (Str.ofString "turns")) : He.Defn), ((Str.ofString "Puzzle", some (Str.ofString "__init__")) : He.Defn)]
def exi : List ExI := [⟨1, "BadPlaces.__init__", (inClass (top 12) 0)⟩, ⟨2, "BadNodes.__init__", (inClass (top 13) 0)⟩, ⟨3, "BadTurns.__init__", (inClass (top 14) 0)⟩, ⟨4, "BadPuzzle.__init__", (inClass (top 15) 0)⟩, ⟨6, "BadWalk.__init__", (inClass (top 17) 0)⟩, ⟨7, "BadSetting.__init__", (inClass (top 18) 0)⟩, ⟨8, "BadSettingText.__init__", (inClass (top 19) 0)⟩, ⟨9, "BadWalkText.__init__", (inClass (top 20) 0)⟩]
def tols : List TolI := [⟨(top 60), "found", "e", "ask", ["ask", "found", "e"], 1, 2, fun i => [(⟨0, 0, 0, 0⟩ : Pos), ⟨294,8,294,13⟩, ⟨294,17,294,23⟩, ⟨294,25,294,28⟩, ⟨294,25,294,30⟩, ⟨294,16,294,31⟩, ⟨294,8,294,31⟩, ⟨293,4,304,43⟩, ⟨305,11,305,16⟩, ⟨305,4,305,16⟩].getD i ⟨0, 0, 0, 0⟩, 0, 0⟩]
def isaL : List (Tg × Tg × Bool) := [(.t "NoneType", .c 5, false), (.t "NoneType", .c 7, false), (.t "NoneType", .c 8, false), (.t "NoneType", .c 6, false), (.t "NoneType", .c 9, false), (.t "NoneType", .c 10, false), (.t "NoneType", .c 0, false), (.t "NoneType", .t "bool", false), (.t "NoneType", .t "dict", false), (.t "NoneType", .t "int", false), (.t "NoneType", .t "list", false), (.t "NoneType", .t "str", false), (.t "NoneType", .t "tuple", false), (.t "bool", .c 5, false), (.t "bool", .c 7, false), (.t "bool", .c 8, false), (.t "bool", .c 6, false), (.t "bool", .c 9, false), (.t "bool", .c 10, false), (.t "bool", .c 0, false), (.t "bool", .t "bool", true), (.t "bool", .t "dict", false), (.t "bool", .t "int", true), (.t "bool", .t "list", false), (.t "bool", .t "str", false), (.t "bool", .t "tuple", false), (.t "int", .c 5, false), (.t "int", .c 7, false), (.t "int", .c 8, false), (.t "int", .c 6, false), (.t "int", .c 9, false), (.t "int", .c 10, false), (.t "int", .c 0, false), (.t "int", .t "bool", false), (.t "int", .t "dict", false), (.t "int", .t "int", true), (.t "int", .t "list", false), (.t "int", .t "str", false), (.t "int", .t "tuple", false), (.t "str", .c 5, false), (.t "str", .c 7, false), (.t "str", .c 8, false), (.t "str", .c 6, false), (.t "str", .c 9, false), (.t "str", .c 10, false), (.t "str", .c 0, false), (.t "str", .t "bool", false), (.t "str", .t "dict", false), (.t "str", .t "int", false), (.t "str", .t "list", false), (.t "str", .t "str", true), (.t "str", .t "tuple", false), (.t "list", .c 5, false), (.t "list", .c 7, false), (.t "list", .c 8, false), (.t "list", .c 6, false), (.t "list", .c 9, false), (.t "list", .c 10, false), (.t "list", .c 0, false), (.t "list", .t "bool", false), (.t "list", .t "dict", false), (.t "list", .t "int", false), (.t "list", .t "list", true), (.t "list", .t "str", false), (.t "list", .t "tuple", false), (.t "tuple", .c 5, false), (.t "tuple", .c 7, false), (.t "tuple", .c 8, false), (.t "tuple", .c 6, false), (.t "tuple", .c 9, false), (.t "tuple", .c 10, false), (.t "tuple", .c 0, false), (.t "tuple", .t "bool", false), (.t "tuple", .t "dict", false), (.t "tuple", .t "int", false), (.t "tuple", .t "list", false), (.t "tuple", .t "str", false), (.t "tuple", .t "tuple", true), (.t "dict", .c 5, false), (.t "dict", .c 7, false), (.t "dict", .c 8, false), (.t "dict", .c 6, false), (.t "dict", .c 9, false), (.t "dict", .c 10, false), (.t "dict", .c 0, false), (.t "dict", .t "bool", false), (.t "dict", .t "dict", true), (.t "dict", .t "int", false), (.t "dict", .t "list", false), (.t "dict", .t "str", false), (.t "dict", .t "tuple", false), (.c 10, .c 5, false), (.c 10, .c 7, false), (.c 10, .c 8, false), (.c 10, .c 6, false), (.c 10, .c 9, false), (.c 10, .c 10, true), (.c 10, .c 0, false), (.c 10, .t "bool", false), (.c 10, .t "dict", false), (.c 10, .t "int", false), (.c 10, .t "list", false), (.c 10, .t "str", false), (.c 10, .t "tuple", false), (.c 8, .c 5, false), (.c 8, .c 7, false), (.c 8, .c 8, true), (.c 8, .c 6, false), (.c 8, .c 9, false), (.c 8, .c 10, false), (.c 8, .c 0, true), (.c 8, .t "bool", false), (.c 8, .t "dict", false), (.c 8, .t "int", false), (.c 8, .t "list", false), (.c 8, .t "str", false), (.c 8, .t "tuple", false), (.c 9, .c 5, false), (.c 9, .c 7, false), (.c 9, .c 8, false), (.c 9, .c 6, false), (.c 9, .c 9, true), (.c 9, .c 10, false), (.c 9, .c 0, true), (.c 9, .t "bool", false), (.c 9, .t "dict", false), (.c 9, .t "int", false), (.c 9, .t "list", false), (.c 9, .t "str", false), (.c 9, .t "tuple", false)]
def exmL : List (Nat × Nat × Bool) := [(1, 4, false), (1, 7, false), (1, 8, false), (1, 6, false), (1, 9, false), (2, 4, false), (2, 7, false), (2, 8, false), (2, 6, false), (2, 9, false), (3, 4, false), (3, 7, false), (3, 8, false), (3, 6, false), (3, 9, false), (4, 4, true), (4, 7, false), (4, 8, false), (4, 6, false), (4, 9, false), (6, 4, false), (6, 7, false), (6, 8, false), (6, 6, true), (6, 9, false), (7, 4, false), (7, 7, true), (7, 8, false), (7, 6, false), (7, 9, false), (8, 4, false), (8, 7, false), (8, 8, true), (8, 6, false), (8, 9, false), (9, 4, false), (9, 7, false), (9, 8, false), (9, 6, false), (9, 9, true)]
def lms : List (He.Defn × Str) := [(((Str.ofString "law", none) : He.Defn), Str.ofString "law")]
def LD : LawD where
  T := T
  defs := defs
  ecs := ecs
  ats := ats
  pick := f__law_pick
  exi := exi
  tols := tols
  isaL := isaL
  exmL := exmL
  ocs := [10]
  oxs := [8, 9]
  lms := lms
  dl := dlaw
  sst := (top 43)
  sx := "_law_start"
def pickP : List Pos := [⟨183,4,183,9⟩, ⟨183,10,183,11⟩, ⟨183,4,183,12⟩, ⟨183,15,183,20⟩, ⟨183,21,183,22⟩, ⟨183,15,183,23⟩, ⟨183,26,183,27⟩, ⟨183,15,183,27⟩, ⟨183,4,183,27⟩, ⟨184,10,184,15⟩, ⟨184,16,184,17⟩, ⟨184,10,184,18⟩, ⟨184,22,184,23⟩, ⟨184,10,184,23⟩, ⟨184,28,184,33⟩, ⟨184,34,184,35⟩, ⟨184,28,184,36⟩, ⟨184,40,184,42⟩, ⟨184,28,184,42⟩, ⟨184,10,184,42⟩, ⟨185,8,185,12⟩, ⟨185,15,185,18⟩, ⟨185,19,185,24⟩, ⟨185,25,185,26⟩, ⟨185,19,185,27⟩, ⟨185,19,185,31⟩, ⟨185,32,185,33⟩, ⟨185,19,185,34⟩, ⟨185,15,185,35⟩, ⟨185,8,185,35⟩, ⟨186,8,186,13⟩, ⟨186,14,186,15⟩, ⟨186,8,186,16⟩, ⟨186,19,186,22⟩, ⟨186,23,186,28⟩, ⟨186,29,186,30⟩, ⟨186,23,186,31⟩, ⟨186,34,186,38⟩, ⟨186,23,186,38⟩, ⟨186,41,186,45⟩, ⟨186,23,186,45⟩, ⟨186,48,186,49⟩, ⟨186,23,186,49⟩, ⟨186,19,186,50⟩, ⟨186,53,186,63⟩, ⟨186,19,186,63⟩, ⟨186,8,186,63⟩, ⟨187,8,187,13⟩, ⟨187,14,187,15⟩, ⟨187,8,187,16⟩, ⟨187,27,187,31⟩, ⟨187,35,187,37⟩, ⟨187,41,187,43⟩, ⟨187,35,187,43⟩, ⟨187,27,187,43⟩, ⟨187,19,187,23⟩, ⟨187,49,187,50⟩, ⟨187,19,187,50⟩, ⟨187,8,187,50⟩, ⟨184,4,187,50⟩, ⟨188,7,188,12⟩, ⟨188,13,188,14⟩, ⟨188,7,188,15⟩, ⟨188,18,188,19⟩, ⟨188,7,188,19⟩, ⟨189,8,189,13⟩, ⟨189,16,189,19⟩, ⟨189,20,189,25⟩, ⟨189,26,189,27⟩, ⟨189,20,189,28⟩, ⟨189,16,189,29⟩, ⟨189,32,189,36⟩, ⟨189,16,189,36⟩, ⟨189,8,189,36⟩, ⟨190,8,190,13⟩, ⟨190,14,190,15⟩, ⟨190,8,190,16⟩, ⟨190,19,190,24⟩, ⟨190,25,190,26⟩, ⟨190,19,190,27⟩, ⟨190,31,190,35⟩, ⟨190,19,190,35⟩, ⟨190,8,190,35⟩, ⟨191,15,191,20⟩, ⟨191,8,191,20⟩, ⟨188,4,191,20⟩, ⟨192,4,192,9⟩, ⟨192,12,192,15⟩, ⟨192,17,192,22⟩, ⟨192,23,192,24⟩, ⟨192,17,192,25⟩, ⟨192,28,192,32⟩, ⟨192,35,192,40⟩, ⟨192,41,192,42⟩, ⟨192,35,192,43⟩, ⟨192,28,192,43⟩, ⟨192,17,192,43⟩, ⟨192,46,192,52⟩, ⟨192,17,192,52⟩, ⟨192,57,192,58⟩, ⟨192,16,192,58⟩, ⟨192,12,192,59⟩, ⟨192,62,192,72⟩, ⟨192,12,192,72⟩, ⟨192,4,192,72⟩, ⟨193,11,193,14⟩, ⟨193,16,193,21⟩, ⟨193,24,193,29⟩, ⟨193,16,193,29⟩, ⟨193,32,193,37⟩, ⟨193,40,193,45⟩, ⟨193,46,193,47⟩, ⟨193,40,193,48⟩, ⟨193,32,193,48⟩, ⟨193,16,193,48⟩, ⟨193,51,193,53⟩, ⟨193,16,193,53⟩, ⟨193,58,193,59⟩, ⟨193,15,193,59⟩, ⟨193,11,193,60⟩, ⟨193,63,193,73⟩, ⟨193,11,193,73⟩, ⟨193,76,193,80⟩, ⟨193,11,193,80⟩, ⟨193,4,193,80⟩]
def startP : List Pos := [⟨181,12,181,16⟩, ⟨181,17,181,23⟩, ⟨181,12,181,24⟩, ⟨181,26,181,27⟩, ⟨181,29,181,30⟩, ⟨181,32,181,34⟩, ⟨181,11,181,35⟩, ⟨181,4,181,35⟩]
end K99
namespace K99
open PySem PySem.Spec PyProof.Rows L2 Z
theorem c1 : LD.chk1 = true := by decide +kernel
theorem c2 : LD.chk2 = true := by decide +kernel
theorem c3 : LD.chk3 = true := by decide +kernel
theorem e_is_list : defBody (top 3) = (b_is_list).ex T ["thing"] := by rfl
theorem e_is_row : defBody (top 4) = (b_is_row).ex T ["thing", "many"] := by rfl
theorem e_is_pair : defBody (top 5) = (b_is_pair).ex T ["thing"] := by rfl
theorem e_is_text : defBody (top 6) = (b_is_text).ex T ["thing"] := by rfl
theorem e_is_letters : defBody (top 7) = (b_is_letters).ex T ["thing", "sign"] := by rfl
theorem e_is_word : defBody (top 8) = (b_is_word).ex T ["thing"] := by rfl
theorem e_wrong_words : defBody (top 22) = (b_wrong_words).ex T ["words", "index", "word"] := by rfl
theorem e_is_one_of : defBody (top 23) = (b_is_one_of).ex T ["words", "thing"] := by rfl
theorem e_is_ring_of : defBody (top 24) = (b_is_ring_of).ex T ["places", "thing", "taken", "place"] := by rfl
theorem e_are_rings : defBody (top 25) = (b_are_rings).ex T ["places", "thing", "taken", "ring"] := by rfl
theorem e_is_turn : defBody (top 26) = (b_is_turn).ex T ["places", "nodes", "names", "thing"] := by rfl
theorem e_wrong_turns : defBody (top 27) = (b_wrong_turns).ex T ["places", "nodes", "turns", "names", "index", "turn"] := by rfl
theorem e_need_puzzle : defBody (top 29) = (b_need_puzzle).ex T ["puzzle"] := by rfl
theorem e_names_of : defBody (top 30) = (b_names_of).ex T ["puzzle", "turn"] := by rfl
theorem e_is_walk : defBody (top 32) = (b_is_walk).ex T ["puzzle", "thing", "names", "name"] := by rfl
theorem e_check_walk : defBody (top 33) = (b_check_walk).ex T ["puzzle", "walk"] := by rfl
theorem e_is_setting_of : defBody (top 34) = (b_is_setting_of).ex T ["puzzle", "thing"] := by rfl
theorem e_setting_of : defBody (top 35) = (b_setting_of).ex T ["puzzle", "setting"] := by rfl
theorem e_setting_text : defBody (top 37) = (b_setting_text).ex T ["puzzle", "setting", "node", "pieces"] := by rfl
theorem e_words_of : defBody (top 38) = (b_words_of).ex T ["text", "many", "lines", "line"] := by rfl
theorem e_read_setting : defBody (top 39) = (b_read_setting).ex T ["puzzle", "text", "lines", "setting"] := by rfl
theorem e_walk_text : defBody (top 40) = (b_walk_text).ex T ["puzzle", "walk"] := by rfl
theorem e_read_walk : defBody (top 41) = (b_read_walk).ex T ["puzzle", "text", "lines"] := by rfl
theorem e__law_pick : defBody (top 44) = (noSs (defBody (top 44))).ex T [] := (noSs_ex _ _ _).symm
theorem e__law_between : defBody (top 45) = (b__law_between).ex T ["state", "low", "high"] := by rfl
theorem e__law_one : defBody (top 46) = (b__law_one).ex T ["state", "things"] := by rfl
theorem e__law_mixed : defBody (top 47) = (b__law_mixed).ex T ["state", "things", "left", "found", "k"] := by rfl
theorem e__law_same : defBody (top 48) = (b__law_same).ex T ["found", "due", "mine", "theirs", "key"] := by rfl
theorem e__law_copy : defBody (top 49) = (b__law_copy).ex T ["thing", "one", "found", "key"] := by rfl
theorem e__law_loose : defBody (top 50) = (b__law_loose).ex T ["state", "thing", "some", "one", "found", "key"] := by rfl
theorem e__law_free_word : defBody (top 51) = (b__law_free_word).ex T ["taken", "word", "k"] := by rfl
theorem e__law_words : defBody (top 52) = (b__law_words).ex T ["state", "many", "few", "words", "k", "word", "more"] := by rfl
theorem e__law_puzzle_of : defBody (top 53) = (b__law_puzzle_of).ex T ["raw", "some"] := by rfl
theorem e__law_some_rings : defBody (top 54) = (b__law_some_rings).ex T ["state", "places", "left", "rings", "k", "size"] := by rfl
theorem e__law_make_puzzle : defBody (top 55) = (b__law_make_puzzle).ex T ["state", "most", "nodes", "turns", "words", "places", "marks", "names", "rows", "ring", "at", "k"] := by rfl
theorem e__law_any_setting : defBody (top 56) = (b__law_any_setting).ex T ["state", "raw", "pieces"] := by rfl
theorem e__law_is_one : defBody (top 57) = (b__law_is_one).ex T ["words", "thing"] := by rfl
theorem e__law_setting_right : defBody (top 58) = (b__law_setting_right).ex T ["raw", "thing", "piece", "sign", "at"] := by rfl
theorem e__law_is_walk : defBody (top 59) = (b__law_is_walk).ex T ["raw", "thing", "name", "turn"] := by rfl
theorem e__law_read_setting : defBody (top 61) = (b__law_read_setting).ex T ["raw", "text", "rows", "first", "second"] := by rfl
theorem e__law_read_walk : defBody (top 62) = (b__law_read_walk).ex T ["raw", "text", "rows", "words"] := by rfl
theorem e__law_bent : defBody (top 63) = (b__law_bent).ex T ["state", "text", "at", "way", "words", "spot"] := by rfl
theorem e__law_errors_asked : defBody (top 64) = (b__law_errors_asked).ex T ["x", "made", "e"] := by rfl
theorem e_Puzzle_places : defBody (inClass (top 28) 1) = (b_Puzzle_places).ex T ["self"] := by rfl
theorem e_Puzzle_nodes : defBody (inClass (top 28) 2) = (b_Puzzle_nodes).ex T ["self"] := by rfl
theorem e_Puzzle_turns : defBody (inClass (top 28) 3) = (b_Puzzle_turns).ex T ["self", "name", "start", "end", "rings", "ring"] := by rfl
theorem e_Puzzle___init__ : defBody (inClass (top 28) 0) = (b_Puzzle___init__).ex T ["self", "places", "nodes", "turns", "index", "name", "start", "end", "rings", "ring"] := by rfl
theorem bodies : AllB T defs := ⟨e_is_list, e_is_row, e_is_pair, e_is_text, e_is_letters, e_is_word, e_wrong_words, e_is_one_of, e_is_ring_of, e_are_rings, e_is_turn, e_wrong_turns, e_need_puzzle, e_names_of, e_is_walk, e_check_walk, e_is_setting_of, e_setting_of, e_setting_text, e_words_of, e_read_setting, e_walk_text, e_read_walk, e__law_pick, e__law_between, e__law_one, e__law_mixed, e__law_same, e__law_copy, e__law_loose, e__law_free_word, e__law_words, e__law_puzzle_of, e__law_some_rings, e__law_make_puzzle, e__law_any_setting, e__law_is_one, e__law_setting_right, e__law_is_walk, e__law_read_setting, e__law_read_walk, e__law_bent, e__law_errors_asked, e_Puzzle_places, e_Puzzle_nodes, e_Puzzle_turns, e_Puzzle___init__, trivial⟩
theorem pickOk : ∃ (Ps : Nat → Pos) (ks : Nat → Nat), ∀ d : DefS, LD.defs[LD.pick]? = some d → defBody d.st = pickB Ps ks ∧ pickScB (defScope d.st) = true ∧ argB (defArgs d.st) ["state", "many"] 2 = true ∧ ((Ps 25).endLine == (Ps 27).line) = true :=
  ⟨fun i => pickP.getD i ⟨0, 0, 0, 0⟩, fun _ => 0, fun d h => by
    have e : LD.defs[LD.pick]? = some ⟨"_law_pick", "_law_pick", (top 44), [], 2, noSs (defBody (top 44)), none, false⟩ := by rfl
    rw [e] at h
    cases h
    exact ⟨by rfl, by decide +kernel, by decide +kernel, by decide +kernel⟩⟩
theorem startOk : ∃ (Ps : Nat → Pos) (ks : Nat → Nat), defBody LD.sst = startB Ps ks ∧ startScB (defScope LD.sst) = true ∧ argB (defArgs LD.sst) ["script"] 1 = true :=
  ⟨fun i => startP.getD i ⟨0, 0, 0, 0⟩, fun _ => 0, by rfl, by decide +kernel, by decide +kernel⟩
theorem kw0 : ∀ d, LD.defs[LD.T.kf 0]? = some d → KwS d.x d.qual d.st (d.N.take d.nps) (LD.T.kn 0) (LD.T.ko 0) := fun d h => by
  have e : LD.defs[LD.T.kf 0]? = some d_setting_text := by rfl
  rw [e] at h
  cases h
  intro kV doc pm an cdv ct ws xs hl ho
  match ws, hl with
  | [a0, a1], _ =>
    cases ho
    rfl
theorem kw1 : ∀ d, LD.defs[LD.T.kf 1]? = some d → KwS d.x d.qual d.st (d.N.take d.nps) (LD.T.kn 1) (LD.T.ko 1) := fun d h => by
  have e : LD.defs[LD.T.kf 1]? = some d_walk_text := by rfl
  rw [e] at h
  cases h
  intro kV doc pm an cdv ct ws xs hl ho
  match ws, hl with
  | [a0, a1], _ =>
    cases ho
    rfl
theorem kw2 : ∀ d, LD.defs[LD.T.kf 2]? = some d → KwS d.x d.qual d.st (d.N.take d.nps) (LD.T.kn 2) (LD.T.ko 2) := fun d h => by
  have e : LD.defs[LD.T.kf 2]? = some d_read_walk := by rfl
  rw [e] at h
  cases h
  intro kV doc pm an cdv ct ws xs hl ho
  match ws, hl with
  | [a0, a1], _ =>
    cases ho
    rfl
theorem kwsOk : ∀ m, m < LD.T.kws.length → ∀ d, LD.defs[LD.T.kf m]? = some d → KwS d.x d.qual d.st (d.N.take d.nps) (LD.T.kn m) (LD.T.ko m)
  | 0, _ => kw0
  | 1, _ => kw1
  | 2, _ => kw2
  | m + 3, h => by
    have h : m + 3 < 3 := h
    omega
theorem tolOk : ∀ t, t < LD.T.tol.length → ∃ ti, LD.tols[t]? = some ti ∧ tolB (LD.T.tc t) ti = true ∧ defBody ti.st = tolBody ti.fnd ti.en ti.a (LD.T.tt t) (LD.T.tc t) (ti.ps 1) (ti.ps 2) (ti.ps 3) (ti.ps 4) (ti.ps 5) (ti.ps 6) (ti.ps 7) (ti.ps 8) (ti.ps 9) ti.k1 ti.k2
  | 0, _ => ⟨_, rfl, by decide +kernel, by rfl⟩
  | m + 1, h => by
    have h : m + 1 < 1 := h
    omega
theorem lawOk : ∃ q0 q1 q2 q3 q4, defBody LD.dl.st = .Assign [nmE LD.dl.N 1 q0] (.Call (.Name LD.sx q1) [nmE LD.dl.N 0 q2] [] q3) q4 :: LD.dl.body.ex LD.T LD.dl.N ∧ (Pat.nm 1 q0).ok LD.dl.ct.sc LD.dl.ct.N LD.dl.ct.fn = true := ⟨⟨347,4,347,9⟩, ⟨347,12,347,22⟩, ⟨347,23,347,29⟩, ⟨347,12,347,30⟩, ⟨347,4,347,30⟩, by rfl, by decide +kernel⟩
theorem ok (plain : ∀ (K : PySem.W.Frag) (r1 r2 : Addr) (ns : List Int), ns.length ≤ 63 → ∃ p', restD ((LD.G K).at r1 r2) LD.T (Phi ((LD.G K).at r1 r2) LD.T LD.defs LD.pr 30) LD.dl.N 1 LD.dl.body .reg ⟨ns, 0, 0, 29⟩ = .ok (.bl true) p') : LD.Ok PySem.Challenge.pw_siftlevels_k99_whole_texts_of_settings_a 30 63 1 where
  c1 := c1
  c2 := c2
  c3 := c3
  body := bodies.at
  pick := pickOk
  kws := kwsOk
  tol := tolOk
  start := startOk
  law := lawOk
  lawB := by decide +kernel
  mostOk := by decide
  plain := plain
end K99
namespace K99
open PySem PySem.Spec PyProof.Rows L2 Z
def ns0 : List PySem.Str := ["_wall", "LETTERS", "is_list", "is_row", "is_pair", "is_text", "is_letters", "is_word", "PuzzleError", "BadPlaces", "BadNodes", "BadTurns", "BadPuzzle", "BadPuzzleText", "BadWalk", "BadSetting", "BadSettingText", "BadWalkText", "wrong_words", "is_one_of", "is_ring_of", "are_rings", "is_turn", "wrong_turns", "Puzzle", "need_puzzle", "names_of", "is_walk", "check_walk", "is_setting_of"]
def ns1 : List PySem.Str := ["setting_of", "setting_text", "words_of", "read_setting", "walk_text", "read_walk", "_law_start", "_law_pick", "_law_between", "_law_one", "_law_mixed", "_law_same", "_law_copy", "_law_loose", "_law_free_word", "_law_words", "_law_puzzle_of", "_law_some_rings", "_law_make_puzzle", "_law_any_setting", "_law_is_one", "_law_setting_right", "_law_is_walk", "_law_told", "_law_read_setting", "_law_read_walk", "_law_bent", "_law_errors_asked"]
def names : List PySem.Str := ns0 ++ ns1
abbrev R : PySem.W.OpenRow := PySem.W.OpenLaw.row PySem.Challenge.rw_siftlevels_k99_whole_texts_of_settings_a
def asZ (g : Addr → Option Obj) : List Addr := He.asD g 5
def cuts : List Nat := []
set_option maxHeartbeats 0
open PySem.W PySem.Calls HandSHeadRun in
theorem run0 (w : World) (os : OsState) : (HandSHeadRun.endF (stepQ (denQ tabQ) R.prog w) 20000 R.prog w os).map (fun s => (looksF R.prog (boot_heap w.params) s.abs, seenQ (view R.prog [65]) names (importedModules R.prog.main.body) (fun s => xlAt (view R.prog [65]) [] s && recOk R.toRowW.records s) s.abs)) = some (true, openGood (view R.prog [65]) names) := by
  kernel_rfl
def part (i : Nat) : PartZ := (LD.parts cuts).getD i ⟨[], [], fun _ => true, []⟩
theorem run1 (w : World) : RunP R 20000 asZ w (part 0) := fun os => by kernel_rfl
theorem run2 (w : World) : RunP R 20000 asZ w (part 1) := fun os => by kernel_rfl
theorem runs (w : World) : AllP R 20000 asZ w (LD.parts cuts) := ⟨run1 w, run2 w, trivial⟩
end K99
namespace K99
open PySem PySem.Spec PyProof.Rows L2 Z
section
variable {G : Gx}
abbrev F (G : Gx) (n : Nat) : Fns := Phi G T defs LD.pr n
theorem p_is_list (n : Nat) (args : List D) : F G (n + 1) f_is_list args = retM (b_is_list.den G T (F G n) (startE ["thing"] args)) := (phi_def (d := d_is_list) rfl rfl args).trans (runD_none rfl)
theorem p_is_row (n : Nat) (args : List D) : F G (n + 1) f_is_row args = retM (b_is_row.den G T (F G n) (startE ["thing", "many"] args)) := (phi_def (d := d_is_row) rfl rfl args).trans (runD_none rfl)
theorem p_is_pair (n : Nat) (args : List D) : F G (n + 1) f_is_pair args = retM (b_is_pair.den G T (F G n) (startE ["thing"] args)) := (phi_def (d := d_is_pair) rfl rfl args).trans (runD_none rfl)
theorem p_is_text (n : Nat) (args : List D) : F G (n + 1) f_is_text args = retM (b_is_text.den G T (F G n) (startE ["thing"] args)) := (phi_def (d := d_is_text) rfl rfl args).trans (runD_none rfl)
theorem p_is_letters (n : Nat) (args : List D) : F G (n + 1) f_is_letters args = retM (b_is_letters.den G T (F G n) (startE ["thing", "sign"] args)) := (phi_def (d := d_is_letters) rfl rfl args).trans (runD_none rfl)
theorem p_is_word (n : Nat) (args : List D) : F G (n + 1) f_is_word args = retM (b_is_word.den G T (F G n) (startE ["thing"] args)) := (phi_def (d := d_is_word) rfl rfl args).trans (runD_none rfl)
theorem p_wrong_words (n : Nat) (args : List D) : F G (n + 1) f_wrong_words args = retM (b_wrong_words.den G T (F G n) (startE ["words", "index", "word"] args)) := (phi_def (d := d_wrong_words) rfl rfl args).trans (runD_none rfl)
theorem p_is_one_of (n : Nat) (args : List D) : F G (n + 1) f_is_one_of args = retM (b_is_one_of.den G T (F G n) (startE ["words", "thing"] args)) := (phi_def (d := d_is_one_of) rfl rfl args).trans (runD_none rfl)
theorem p_is_ring_of (n : Nat) (args : List D) : F G (n + 1) f_is_ring_of args = retM (b_is_ring_of.den G T (F G n) (startE ["places", "thing", "taken", "place"] args)) := (phi_def (d := d_is_ring_of) rfl rfl args).trans (runD_none rfl)
theorem p_are_rings (n : Nat) (args : List D) : F G (n + 1) f_are_rings args = retM (b_are_rings.den G T (F G n) (startE ["places", "thing", "taken", "ring"] args)) := (phi_def (d := d_are_rings) rfl rfl args).trans (runD_none rfl)
theorem p_is_turn (n : Nat) (args : List D) : F G (n + 1) f_is_turn args = retM (b_is_turn.den G T (F G n) (startE ["places", "nodes", "names", "thing"] args)) := (phi_def (d := d_is_turn) rfl rfl args).trans (runD_none rfl)
theorem p_wrong_turns (n : Nat) (args : List D) : F G (n + 1) f_wrong_turns args = retM (b_wrong_turns.den G T (F G n) (startE ["places", "nodes", "turns", "names", "index", "turn"] args)) := (phi_def (d := d_wrong_turns) rfl rfl args).trans (runD_none rfl)
theorem p_need_puzzle (n : Nat) (args : List D) : F G (n + 1) f_need_puzzle args = retM (b_need_puzzle.den G T (F G n) (startE ["puzzle"] args)) := (phi_def (d := d_need_puzzle) rfl rfl args).trans (runD_none rfl)
theorem p_names_of (n : Nat) (args : List D) : F G (n + 1) f_names_of args = retM (b_names_of.den G T (F G n) (startE ["puzzle", "turn"] args)) := (phi_def (d := d_names_of) rfl rfl args).trans (runD_none rfl)
theorem p_is_walk (n : Nat) (args : List D) : F G (n + 1) f_is_walk args = retM (b_is_walk.den G T (F G n) (startE ["puzzle", "thing", "names", "name"] args)) := (phi_def (d := d_is_walk) rfl rfl args).trans (runD_none rfl)
theorem p_check_walk (n : Nat) (args : List D) : F G (n + 1) f_check_walk args = retM (b_check_walk.den G T (F G n) (startE ["puzzle", "walk"] args)) := (phi_def (d := d_check_walk) rfl rfl args).trans (runD_none rfl)
theorem p_is_setting_of (n : Nat) (args : List D) : F G (n + 1) f_is_setting_of args = retM (b_is_setting_of.den G T (F G n) (startE ["puzzle", "thing"] args)) := (phi_def (d := d_is_setting_of) rfl rfl args).trans (runD_none rfl)
theorem p_setting_of (n : Nat) (args : List D) : F G (n + 1) f_setting_of args = retM (b_setting_of.den G T (F G n) (startE ["puzzle", "setting"] args)) := (phi_def (d := d_setting_of) rfl rfl args).trans (runD_none rfl)
theorem p_setting_text (n : Nat) (args : List D) : F G (n + 1) f_setting_text args = retM (b_setting_text.den G T (F G n) (startE ["puzzle", "setting", "node", "pieces"] args)) := (phi_def (d := d_setting_text) rfl rfl args).trans (runD_none rfl)
theorem p_words_of (n : Nat) (args : List D) : F G (n + 1) f_words_of args = retM (b_words_of.den G T (F G n) (startE ["text", "many", "lines", "line"] args)) := (phi_def (d := d_words_of) rfl rfl args).trans (runD_none rfl)
theorem p_read_setting (n : Nat) (args : List D) : F G (n + 1) f_read_setting args = retM (b_read_setting.den G T (F G n) (startE ["puzzle", "text", "lines", "setting"] args)) := (phi_def (d := d_read_setting) rfl rfl args).trans (runD_none rfl)
theorem p_walk_text (n : Nat) (args : List D) : F G (n + 1) f_walk_text args = retM (b_walk_text.den G T (F G n) (startE ["puzzle", "walk"] args)) := (phi_def (d := d_walk_text) rfl rfl args).trans (runD_none rfl)
theorem p_read_walk (n : Nat) (args : List D) : F G (n + 1) f_read_walk args = retM (b_read_walk.den G T (F G n) (startE ["puzzle", "text", "lines"] args)) := (phi_def (d := d_read_walk) rfl rfl args).trans (runD_none rfl)
theorem p__law_pick (n : Nat) (args : List D) : F G (n + 1) f__law_pick args = pickM args := rfl
theorem p__law_between (n : Nat) (args : List D) : F G (n + 1) f__law_between args = retM (b__law_between.den G T (F G n) (startE ["state", "low", "high"] args)) := (phi_def (d := d__law_between) rfl rfl args).trans (runD_none rfl)
theorem p__law_one (n : Nat) (args : List D) : F G (n + 1) f__law_one args = retM (b__law_one.den G T (F G n) (startE ["state", "things"] args)) := (phi_def (d := d__law_one) rfl rfl args).trans (runD_none rfl)
theorem p__law_mixed (n : Nat) (args : List D) : F G (n + 1) f__law_mixed args = retM (b__law_mixed.den G T (F G n) (startE ["state", "things", "left", "found", "k"] args)) := (phi_def (d := d__law_mixed) rfl rfl args).trans (runD_none rfl)
theorem p__law_same (n : Nat) (args : List D) : F G (n + 1) f__law_same args = retM (b__law_same.den G T (F G n) (startE ["found", "due", "mine", "theirs", "key"] args)) := (phi_def (d := d__law_same) rfl rfl args).trans (runD_none rfl)
theorem p__law_copy (n : Nat) (args : List D) : F G (n + 1) f__law_copy args = retM (b__law_copy.den G T (F G n) (startE ["thing", "one", "found", "key"] args)) := (phi_def (d := d__law_copy) rfl rfl args).trans (runD_none rfl)
theorem p__law_loose (n : Nat) (args : List D) : F G (n + 1) f__law_loose args = retM (b__law_loose.den G T (F G n) (startE ["state", "thing", "some", "one", "found", "key"] args)) := (phi_def (d := d__law_loose) rfl rfl args).trans (runD_none rfl)
theorem p__law_free_word (n : Nat) (args : List D) : F G (n + 1) f__law_free_word args = retM (b__law_free_word.den G T (F G n) (startE ["taken", "word", "k"] args)) := (phi_def (d := d__law_free_word) rfl rfl args).trans (runD_none rfl)
theorem p__law_words (n : Nat) (args : List D) : F G (n + 1) f__law_words args = retM (b__law_words.den G T (F G n) (startE ["state", "many", "few", "words", "k", "word", "more"] args)) := (phi_def (d := d__law_words) rfl rfl args).trans (runD_none rfl)
theorem p__law_puzzle_of (n : Nat) (args : List D) : F G (n + 1) f__law_puzzle_of args = retM (b__law_puzzle_of.den G T (F G n) (startE ["raw", "some"] args)) := (phi_def (d := d__law_puzzle_of) rfl rfl args).trans (runD_none rfl)
theorem p__law_some_rings (n : Nat) (args : List D) : F G (n + 1) f__law_some_rings args = retM (b__law_some_rings.den G T (F G n) (startE ["state", "places", "left", "rings", "k", "size"] args)) := (phi_def (d := d__law_some_rings) rfl rfl args).trans (runD_none rfl)
theorem p__law_make_puzzle (n : Nat) (args : List D) : F G (n + 1) f__law_make_puzzle args = retM (b__law_make_puzzle.den G T (F G n) (startE ["state", "most", "nodes", "turns", "words", "places", "marks", "names", "rows", "ring", "at", "k"] args)) := (phi_def (d := d__law_make_puzzle) rfl rfl args).trans (runD_none rfl)
theorem p__law_any_setting (n : Nat) (args : List D) : F G (n + 1) f__law_any_setting args = retM (b__law_any_setting.den G T (F G n) (startE ["state", "raw", "pieces"] args)) := (phi_def (d := d__law_any_setting) rfl rfl args).trans (runD_none rfl)
theorem p__law_is_one (n : Nat) (args : List D) : F G (n + 1) f__law_is_one args = retM (b__law_is_one.den G T (F G n) (startE ["words", "thing"] args)) := (phi_def (d := d__law_is_one) rfl rfl args).trans (runD_none rfl)
theorem p__law_setting_right (n : Nat) (args : List D) : F G (n + 1) f__law_setting_right args = retM (b__law_setting_right.den G T (F G n) (startE ["raw", "thing", "piece", "sign", "at"] args)) := (phi_def (d := d__law_setting_right) rfl rfl args).trans (runD_none rfl)
theorem p__law_is_walk (n : Nat) (args : List D) : F G (n + 1) f__law_is_walk args = retM (b__law_is_walk.den G T (F G n) (startE ["raw", "thing", "name", "turn"] args)) := (phi_def (d := d__law_is_walk) rfl rfl args).trans (runD_none rfl)
theorem p__law_read_setting (n : Nat) (args : List D) : F G (n + 1) f__law_read_setting args = retM (b__law_read_setting.den G T (F G n) (startE ["raw", "text", "rows", "first", "second"] args)) := (phi_def (d := d__law_read_setting) rfl rfl args).trans (runD_none rfl)
theorem p__law_read_walk (n : Nat) (args : List D) : F G (n + 1) f__law_read_walk args = retM (b__law_read_walk.den G T (F G n) (startE ["raw", "text", "rows", "words"] args)) := (phi_def (d := d__law_read_walk) rfl rfl args).trans (runD_none rfl)
theorem p__law_bent (n : Nat) (args : List D) : F G (n + 1) f__law_bent args = retM (b__law_bent.den G T (F G n) (startE ["state", "text", "at", "way", "words", "spot"] args)) := (phi_def (d := d__law_bent) rfl rfl args).trans (runD_none rfl)
theorem p__law_errors_asked (n : Nat) (args : List D) : F G (n + 1) f__law_errors_asked args = retM (b__law_errors_asked.den G T (F G n) (startE ["x", "made", "e"] args)) := (phi_def (d := d__law_errors_asked) rfl rfl args).trans (runD_none rfl)
theorem p_Puzzle_places (n : Nat) (args : List D) : F G (n + 1) f_Puzzle_places args = retM (b_Puzzle_places.den G T (F G n) (startE ["self"] args)) := (phi_def (d := d_Puzzle_places) rfl rfl args).trans (runD_none rfl)
theorem p_Puzzle_nodes (n : Nat) (args : List D) : F G (n + 1) f_Puzzle_nodes args = retM (b_Puzzle_nodes.den G T (F G n) (startE ["self"] args)) := (phi_def (d := d_Puzzle_nodes) rfl rfl args).trans (runD_none rfl)
theorem p_Puzzle_turns (n : Nat) (args : List D) : F G (n + 1) f_Puzzle_turns args = retM (b_Puzzle_turns.den G T (F G n) (startE ["self", "name", "start", "end", "rings", "ring"] args)) := (phi_def (d := d_Puzzle_turns) rfl rfl args).trans (runD_none rfl)
theorem p_Puzzle___init__ (n : Nat) (args : List D) : F G (n + 1) f_Puzzle___init__ args = iniM G c_Puzzle (b_Puzzle___init__.den G T (F G n) (startI ["self", "places", "nodes", "turns", "index", "name", "start", "end", "rings", "ring"] c_Puzzle args)) := (phi_def (d := d_Puzzle___init__) rfl rfl args).trans (runD_some rfl)
end
@[simp] theorem sval_0 : T.sval 0 = Str.ofString "abcdefghijklmnopqrstuvwxyz" := (rfl)
@[simp] theorem mc_0 : T.mc 0 = c_Puzzle := (rfl)
@[simp] theorem mf_0 : T.mf 0 = f_Puzzle_places := (rfl)
@[simp] theorem mc_1 : T.mc 1 = c_Puzzle := (rfl)
@[simp] theorem mf_1 : T.mf 1 = f_Puzzle_nodes := (rfl)
@[simp] theorem mc_2 : T.mc 2 = c_Puzzle := (rfl)
@[simp] theorem mf_2 : T.mf 2 = f_Puzzle_turns := (rfl)
@[simp] theorem mkf_Puzzle : T.mkf c_Puzzle = f_Puzzle___init__ := (rfl)
@[simp] theorem kf_0 : T.kf 0 = f_setting_text := (rfl)
@[simp] theorem ko_0 : T.ko 0 = [1, 0] := (rfl)
@[simp] theorem kf_1 : T.kf 1 = f_walk_text := (rfl)
@[simp] theorem ko_1 : T.ko 1 = [1, 0] := (rfl)
@[simp] theorem kf_2 : T.kf 2 = f_read_walk := (rfl)
@[simp] theorem ko_2 : T.ko 2 = [1, 0] := (rfl)
@[simp] theorem tt_0 : T.tt 0 = Str.ofString "told" := (rfl)
@[simp] theorem tc_0 : T.tc 0 = cl__law_told := (rfl)
@[simp] theorem cfs_PuzzleError : T.cfs c_PuzzleError = [] := (rfl)
@[simp] theorem cfs_BadPlaces : T.cfs c_BadPlaces = [Str.ofString "index"] := (rfl)
@[simp] theorem cfs_BadNodes : T.cfs c_BadNodes = [Str.ofString "index"] := (rfl)
@[simp] theorem cfs_BadTurns : T.cfs c_BadTurns = [Str.ofString "index"] := (rfl)
@[simp] theorem cfs_BadPuzzle : T.cfs c_BadPuzzle = [Str.ofString "puzzle"] := (rfl)
@[simp] theorem cfs_BadPuzzleText : T.cfs c_BadPuzzleText = [Str.ofString "line"] := (rfl)
@[simp] theorem cfs_BadWalk : T.cfs c_BadWalk = [Str.ofString "walk"] := (rfl)
@[simp] theorem cfs_BadSetting : T.cfs c_BadSetting = [Str.ofString "setting"] := (rfl)
@[simp] theorem cfs_BadSettingText : T.cfs c_BadSettingText = [Str.ofString "text"] := (rfl)
@[simp] theorem cfs_BadWalkText : T.cfs c_BadWalkText = [Str.ofString "text"] := (rfl)
@[simp] theorem cfs_Puzzle : T.cfs c_Puzzle = [Str.ofString "_places", Str.ofString "_nodes", Str.ofString "_turns"] := (rfl)
structure GK (G : Gx) : Prop where
  isa : G.isa = isaF isaL
  exm : G.exm = exmF exmL
  oc : G.oc = fun c => LD.ocs.contains c
  ox : G.ox = fun c => LD.oxs.contains c
  cfs : G.cfs = T.cfs
theorem gk_at (K : PySem.W.Frag) (r1 r2 : Addr) : GK ((LD.G K).at r1 r2) := ⟨rfl, rfl, rfl, rfl, rfl⟩
@[simp] theorem isa_NoneType_BadPuzzleText : isaF isaL (.t "NoneType") (.c c_BadPuzzleText) = some false := by decide +kernel
@[simp] theorem isa_NoneType_BadSetting : isaF isaL (.t "NoneType") (.c c_BadSetting) = some false := by decide +kernel
@[simp] theorem isa_NoneType_BadSettingText : isaF isaL (.t "NoneType") (.c c_BadSettingText) = some false := by decide +kernel
@[simp] theorem isa_NoneType_BadWalk : isaF isaL (.t "NoneType") (.c c_BadWalk) = some false := by decide +kernel
@[simp] theorem isa_NoneType_BadWalkText : isaF isaL (.t "NoneType") (.c c_BadWalkText) = some false := by decide +kernel
@[simp] theorem isa_NoneType_Puzzle : isaF isaL (.t "NoneType") (.c c_Puzzle) = some false := by decide +kernel
@[simp] theorem isa_NoneType_PuzzleError : isaF isaL (.t "NoneType") (.c c_PuzzleError) = some false := by decide +kernel
@[simp] theorem isa_NoneType_bool : isaF isaL (.t "NoneType") (.t "bool") = some false := by decide +kernel
@[simp] theorem isa_NoneType_dict : isaF isaL (.t "NoneType") (.t "dict") = some false := by decide +kernel
@[simp] theorem isa_NoneType_int : isaF isaL (.t "NoneType") (.t "int") = some false := by decide +kernel
@[simp] theorem isa_NoneType_list : isaF isaL (.t "NoneType") (.t "list") = some false := by decide +kernel
@[simp] theorem isa_NoneType_str : isaF isaL (.t "NoneType") (.t "str") = some false := by decide +kernel
@[simp] theorem isa_NoneType_tuple : isaF isaL (.t "NoneType") (.t "tuple") = some false := by decide +kernel
@[simp] theorem isa_bool_BadPuzzleText : isaF isaL (.t "bool") (.c c_BadPuzzleText) = some false := by decide +kernel
@[simp] theorem isa_bool_BadSetting : isaF isaL (.t "bool") (.c c_BadSetting) = some false := by decide +kernel
@[simp] theorem isa_bool_BadSettingText : isaF isaL (.t "bool") (.c c_BadSettingText) = some false := by decide +kernel
@[simp] theorem isa_bool_BadWalk : isaF isaL (.t "bool") (.c c_BadWalk) = some false := by decide +kernel
@[simp] theorem isa_bool_BadWalkText : isaF isaL (.t "bool") (.c c_BadWalkText) = some false := by decide +kernel
@[simp] theorem isa_bool_Puzzle : isaF isaL (.t "bool") (.c c_Puzzle) = some false := by decide +kernel
@[simp] theorem isa_bool_PuzzleError : isaF isaL (.t "bool") (.c c_PuzzleError) = some false := by decide +kernel
@[simp] theorem isa_bool_bool : isaF isaL (.t "bool") (.t "bool") = some true := by decide +kernel
@[simp] theorem isa_bool_dict : isaF isaL (.t "bool") (.t "dict") = some false := by decide +kernel
@[simp] theorem isa_bool_int : isaF isaL (.t "bool") (.t "int") = some true := by decide +kernel
@[simp] theorem isa_bool_list : isaF isaL (.t "bool") (.t "list") = some false := by decide +kernel
@[simp] theorem isa_bool_str : isaF isaL (.t "bool") (.t "str") = some false := by decide +kernel
@[simp] theorem isa_bool_tuple : isaF isaL (.t "bool") (.t "tuple") = some false := by decide +kernel
@[simp] theorem isa_int_BadPuzzleText : isaF isaL (.t "int") (.c c_BadPuzzleText) = some false := by decide +kernel
@[simp] theorem isa_int_BadSetting : isaF isaL (.t "int") (.c c_BadSetting) = some false := by decide +kernel
@[simp] theorem isa_int_BadSettingText : isaF isaL (.t "int") (.c c_BadSettingText) = some false := by decide +kernel
@[simp] theorem isa_int_BadWalk : isaF isaL (.t "int") (.c c_BadWalk) = some false := by decide +kernel
@[simp] theorem isa_int_BadWalkText : isaF isaL (.t "int") (.c c_BadWalkText) = some false := by decide +kernel
@[simp] theorem isa_int_Puzzle : isaF isaL (.t "int") (.c c_Puzzle) = some false := by decide +kernel
@[simp] theorem isa_int_PuzzleError : isaF isaL (.t "int") (.c c_PuzzleError) = some false := by decide +kernel
@[simp] theorem isa_int_bool : isaF isaL (.t "int") (.t "bool") = some false := by decide +kernel
@[simp] theorem isa_int_dict : isaF isaL (.t "int") (.t "dict") = some false := by decide +kernel
@[simp] theorem isa_int_int : isaF isaL (.t "int") (.t "int") = some true := by decide +kernel
@[simp] theorem isa_int_list : isaF isaL (.t "int") (.t "list") = some false := by decide +kernel
@[simp] theorem isa_int_str : isaF isaL (.t "int") (.t "str") = some false := by decide +kernel
@[simp] theorem isa_int_tuple : isaF isaL (.t "int") (.t "tuple") = some false := by decide +kernel
@[simp] theorem isa_str_BadPuzzleText : isaF isaL (.t "str") (.c c_BadPuzzleText) = some false := by decide +kernel
@[simp] theorem isa_str_BadSetting : isaF isaL (.t "str") (.c c_BadSetting) = some false := by decide +kernel
@[simp] theorem isa_str_BadSettingText : isaF isaL (.t "str") (.c c_BadSettingText) = some false := by decide +kernel
@[simp] theorem isa_str_BadWalk : isaF isaL (.t "str") (.c c_BadWalk) = some false := by decide +kernel
@[simp] theorem isa_str_BadWalkText : isaF isaL (.t "str") (.c c_BadWalkText) = some false := by decide +kernel
@[simp] theorem isa_str_Puzzle : isaF isaL (.t "str") (.c c_Puzzle) = some false := by decide +kernel
@[simp] theorem isa_str_PuzzleError : isaF isaL (.t "str") (.c c_PuzzleError) = some false := by decide +kernel
@[simp] theorem isa_str_bool : isaF isaL (.t "str") (.t "bool") = some false := by decide +kernel
@[simp] theorem isa_str_dict : isaF isaL (.t "str") (.t "dict") = some false := by decide +kernel
@[simp] theorem isa_str_int : isaF isaL (.t "str") (.t "int") = some false := by decide +kernel
@[simp] theorem isa_str_list : isaF isaL (.t "str") (.t "list") = some false := by decide +kernel
@[simp] theorem isa_str_str : isaF isaL (.t "str") (.t "str") = some true := by decide +kernel
@[simp] theorem isa_str_tuple : isaF isaL (.t "str") (.t "tuple") = some false := by decide +kernel
@[simp] theorem isa_list_BadPuzzleText : isaF isaL (.t "list") (.c c_BadPuzzleText) = some false := by decide +kernel
@[simp] theorem isa_list_BadSetting : isaF isaL (.t "list") (.c c_BadSetting) = some false := by decide +kernel
@[simp] theorem isa_list_BadSettingText : isaF isaL (.t "list") (.c c_BadSettingText) = some false := by decide +kernel
@[simp] theorem isa_list_BadWalk : isaF isaL (.t "list") (.c c_BadWalk) = some false := by decide +kernel
@[simp] theorem isa_list_BadWalkText : isaF isaL (.t "list") (.c c_BadWalkText) = some false := by decide +kernel
@[simp] theorem isa_list_Puzzle : isaF isaL (.t "list") (.c c_Puzzle) = some false := by decide +kernel
@[simp] theorem isa_list_PuzzleError : isaF isaL (.t "list") (.c c_PuzzleError) = some false := by decide +kernel
@[simp] theorem isa_list_bool : isaF isaL (.t "list") (.t "bool") = some false := by decide +kernel
@[simp] theorem isa_list_dict : isaF isaL (.t "list") (.t "dict") = some false := by decide +kernel
@[simp] theorem isa_list_int : isaF isaL (.t "list") (.t "int") = some false := by decide +kernel
@[simp] theorem isa_list_list : isaF isaL (.t "list") (.t "list") = some true := by decide +kernel
@[simp] theorem isa_list_str : isaF isaL (.t "list") (.t "str") = some false := by decide +kernel
@[simp] theorem isa_list_tuple : isaF isaL (.t "list") (.t "tuple") = some false := by decide +kernel
@[simp] theorem isa_tuple_BadPuzzleText : isaF isaL (.t "tuple") (.c c_BadPuzzleText) = some false := by decide +kernel
@[simp] theorem isa_tuple_BadSetting : isaF isaL (.t "tuple") (.c c_BadSetting) = some false := by decide +kernel
@[simp] theorem isa_tuple_BadSettingText : isaF isaL (.t "tuple") (.c c_BadSettingText) = some false := by decide +kernel
@[simp] theorem isa_tuple_BadWalk : isaF isaL (.t "tuple") (.c c_BadWalk) = some false := by decide +kernel
@[simp] theorem isa_tuple_BadWalkText : isaF isaL (.t "tuple") (.c c_BadWalkText) = some false := by decide +kernel
@[simp] theorem isa_tuple_Puzzle : isaF isaL (.t "tuple") (.c c_Puzzle) = some false := by decide +kernel
@[simp] theorem isa_tuple_PuzzleError : isaF isaL (.t "tuple") (.c c_PuzzleError) = some false := by decide +kernel
@[simp] theorem isa_tuple_bool : isaF isaL (.t "tuple") (.t "bool") = some false := by decide +kernel
@[simp] theorem isa_tuple_dict : isaF isaL (.t "tuple") (.t "dict") = some false := by decide +kernel
@[simp] theorem isa_tuple_int : isaF isaL (.t "tuple") (.t "int") = some false := by decide +kernel
@[simp] theorem isa_tuple_list : isaF isaL (.t "tuple") (.t "list") = some false := by decide +kernel
@[simp] theorem isa_tuple_str : isaF isaL (.t "tuple") (.t "str") = some false := by decide +kernel
@[simp] theorem isa_tuple_tuple : isaF isaL (.t "tuple") (.t "tuple") = some true := by decide +kernel
@[simp] theorem isa_dict_BadPuzzleText : isaF isaL (.t "dict") (.c c_BadPuzzleText) = some false := by decide +kernel
@[simp] theorem isa_dict_BadSetting : isaF isaL (.t "dict") (.c c_BadSetting) = some false := by decide +kernel
@[simp] theorem isa_dict_BadSettingText : isaF isaL (.t "dict") (.c c_BadSettingText) = some false := by decide +kernel
@[simp] theorem isa_dict_BadWalk : isaF isaL (.t "dict") (.c c_BadWalk) = some false := by decide +kernel
@[simp] theorem isa_dict_BadWalkText : isaF isaL (.t "dict") (.c c_BadWalkText) = some false := by decide +kernel
@[simp] theorem isa_dict_Puzzle : isaF isaL (.t "dict") (.c c_Puzzle) = some false := by decide +kernel
@[simp] theorem isa_dict_PuzzleError : isaF isaL (.t "dict") (.c c_PuzzleError) = some false := by decide +kernel
@[simp] theorem isa_dict_bool : isaF isaL (.t "dict") (.t "bool") = some false := by decide +kernel
@[simp] theorem isa_dict_dict : isaF isaL (.t "dict") (.t "dict") = some true := by decide +kernel
@[simp] theorem isa_dict_int : isaF isaL (.t "dict") (.t "int") = some false := by decide +kernel
@[simp] theorem isa_dict_list : isaF isaL (.t "dict") (.t "list") = some false := by decide +kernel
@[simp] theorem isa_dict_str : isaF isaL (.t "dict") (.t "str") = some false := by decide +kernel
@[simp] theorem isa_dict_tuple : isaF isaL (.t "dict") (.t "tuple") = some false := by decide +kernel
@[simp] theorem isa_Puzzle_BadPuzzleText : isaF isaL (.c c_Puzzle) (.c c_BadPuzzleText) = some false := by decide +kernel
@[simp] theorem isa_Puzzle_BadSetting : isaF isaL (.c c_Puzzle) (.c c_BadSetting) = some false := by decide +kernel
@[simp] theorem isa_Puzzle_BadSettingText : isaF isaL (.c c_Puzzle) (.c c_BadSettingText) = some false := by decide +kernel
@[simp] theorem isa_Puzzle_BadWalk : isaF isaL (.c c_Puzzle) (.c c_BadWalk) = some false := by decide +kernel
@[simp] theorem isa_Puzzle_BadWalkText : isaF isaL (.c c_Puzzle) (.c c_BadWalkText) = some false := by decide +kernel
@[simp] theorem isa_Puzzle_Puzzle : isaF isaL (.c c_Puzzle) (.c c_Puzzle) = some true := by decide +kernel
@[simp] theorem isa_Puzzle_PuzzleError : isaF isaL (.c c_Puzzle) (.c c_PuzzleError) = some false := by decide +kernel
@[simp] theorem isa_Puzzle_bool : isaF isaL (.c c_Puzzle) (.t "bool") = some false := by decide +kernel
@[simp] theorem isa_Puzzle_dict : isaF isaL (.c c_Puzzle) (.t "dict") = some false := by decide +kernel
@[simp] theorem isa_Puzzle_int : isaF isaL (.c c_Puzzle) (.t "int") = some false := by decide +kernel
@[simp] theorem isa_Puzzle_list : isaF isaL (.c c_Puzzle) (.t "list") = some false := by decide +kernel
@[simp] theorem isa_Puzzle_str : isaF isaL (.c c_Puzzle) (.t "str") = some false := by decide +kernel
@[simp] theorem isa_Puzzle_tuple : isaF isaL (.c c_Puzzle) (.t "tuple") = some false := by decide +kernel
@[simp] theorem isa_BadSettingText_BadPuzzleText : isaF isaL (.c c_BadSettingText) (.c c_BadPuzzleText) = some false := by decide +kernel
@[simp] theorem isa_BadSettingText_BadSetting : isaF isaL (.c c_BadSettingText) (.c c_BadSetting) = some false := by decide +kernel
@[simp] theorem isa_BadSettingText_BadSettingText : isaF isaL (.c c_BadSettingText) (.c c_BadSettingText) = some true := by decide +kernel
@[simp] theorem isa_BadSettingText_BadWalk : isaF isaL (.c c_BadSettingText) (.c c_BadWalk) = some false := by decide +kernel
@[simp] theorem isa_BadSettingText_BadWalkText : isaF isaL (.c c_BadSettingText) (.c c_BadWalkText) = some false := by decide +kernel
@[simp] theorem isa_BadSettingText_Puzzle : isaF isaL (.c c_BadSettingText) (.c c_Puzzle) = some false := by decide +kernel
@[simp] theorem isa_BadSettingText_PuzzleError : isaF isaL (.c c_BadSettingText) (.c c_PuzzleError) = some true := by decide +kernel
@[simp] theorem isa_BadSettingText_bool : isaF isaL (.c c_BadSettingText) (.t "bool") = some false := by decide +kernel
@[simp] theorem isa_BadSettingText_dict : isaF isaL (.c c_BadSettingText) (.t "dict") = some false := by decide +kernel
@[simp] theorem isa_BadSettingText_int : isaF isaL (.c c_BadSettingText) (.t "int") = some false := by decide +kernel
@[simp] theorem isa_BadSettingText_list : isaF isaL (.c c_BadSettingText) (.t "list") = some false := by decide +kernel
@[simp] theorem isa_BadSettingText_str : isaF isaL (.c c_BadSettingText) (.t "str") = some false := by decide +kernel
@[simp] theorem isa_BadSettingText_tuple : isaF isaL (.c c_BadSettingText) (.t "tuple") = some false := by decide +kernel
@[simp] theorem isa_BadWalkText_BadPuzzleText : isaF isaL (.c c_BadWalkText) (.c c_BadPuzzleText) = some false := by decide +kernel
@[simp] theorem isa_BadWalkText_BadSetting : isaF isaL (.c c_BadWalkText) (.c c_BadSetting) = some false := by decide +kernel
@[simp] theorem isa_BadWalkText_BadSettingText : isaF isaL (.c c_BadWalkText) (.c c_BadSettingText) = some false := by decide +kernel
@[simp] theorem isa_BadWalkText_BadWalk : isaF isaL (.c c_BadWalkText) (.c c_BadWalk) = some false := by decide +kernel
@[simp] theorem isa_BadWalkText_BadWalkText : isaF isaL (.c c_BadWalkText) (.c c_BadWalkText) = some true := by decide +kernel
@[simp] theorem isa_BadWalkText_Puzzle : isaF isaL (.c c_BadWalkText) (.c c_Puzzle) = some false := by decide +kernel
@[simp] theorem isa_BadWalkText_PuzzleError : isaF isaL (.c c_BadWalkText) (.c c_PuzzleError) = some true := by decide +kernel
@[simp] theorem isa_BadWalkText_bool : isaF isaL (.c c_BadWalkText) (.t "bool") = some false := by decide +kernel
@[simp] theorem isa_BadWalkText_dict : isaF isaL (.c c_BadWalkText) (.t "dict") = some false := by decide +kernel
@[simp] theorem isa_BadWalkText_int : isaF isaL (.c c_BadWalkText) (.t "int") = some false := by decide +kernel
@[simp] theorem isa_BadWalkText_list : isaF isaL (.c c_BadWalkText) (.t "list") = some false := by decide +kernel
@[simp] theorem isa_BadWalkText_str : isaF isaL (.c c_BadWalkText) (.t "str") = some false := by decide +kernel
@[simp] theorem isa_BadWalkText_tuple : isaF isaL (.c c_BadWalkText) (.t "tuple") = some false := by decide +kernel
@[simp] theorem exm_BadPlaces_BadPuzzle : exmF exmL c_BadPlaces c_BadPuzzle = some false := by decide +kernel
@[simp] theorem exm_BadPlaces_BadSetting : exmF exmL c_BadPlaces c_BadSetting = some false := by decide +kernel
@[simp] theorem exm_BadPlaces_BadSettingText : exmF exmL c_BadPlaces c_BadSettingText = some false := by decide +kernel
@[simp] theorem exm_BadPlaces_BadWalk : exmF exmL c_BadPlaces c_BadWalk = some false := by decide +kernel
@[simp] theorem exm_BadPlaces_BadWalkText : exmF exmL c_BadPlaces c_BadWalkText = some false := by decide +kernel
@[simp] theorem exm_BadNodes_BadPuzzle : exmF exmL c_BadNodes c_BadPuzzle = some false := by decide +kernel
@[simp] theorem exm_BadNodes_BadSetting : exmF exmL c_BadNodes c_BadSetting = some false := by decide +kernel
@[simp] theorem exm_BadNodes_BadSettingText : exmF exmL c_BadNodes c_BadSettingText = some false := by decide +kernel
@[simp] theorem exm_BadNodes_BadWalk : exmF exmL c_BadNodes c_BadWalk = some false := by decide +kernel
@[simp] theorem exm_BadNodes_BadWalkText : exmF exmL c_BadNodes c_BadWalkText = some false := by decide +kernel
@[simp] theorem exm_BadTurns_BadPuzzle : exmF exmL c_BadTurns c_BadPuzzle = some false := by decide +kernel
@[simp] theorem exm_BadTurns_BadSetting : exmF exmL c_BadTurns c_BadSetting = some false := by decide +kernel
@[simp] theorem exm_BadTurns_BadSettingText : exmF exmL c_BadTurns c_BadSettingText = some false := by decide +kernel
@[simp] theorem exm_BadTurns_BadWalk : exmF exmL c_BadTurns c_BadWalk = some false := by decide +kernel
@[simp] theorem exm_BadTurns_BadWalkText : exmF exmL c_BadTurns c_BadWalkText = some false := by decide +kernel
@[simp] theorem exm_BadPuzzle_BadPuzzle : exmF exmL c_BadPuzzle c_BadPuzzle = some true := by decide +kernel
@[simp] theorem exm_BadPuzzle_BadSetting : exmF exmL c_BadPuzzle c_BadSetting = some false := by decide +kernel
@[simp] theorem exm_BadPuzzle_BadSettingText : exmF exmL c_BadPuzzle c_BadSettingText = some false := by decide +kernel
@[simp] theorem exm_BadPuzzle_BadWalk : exmF exmL c_BadPuzzle c_BadWalk = some false := by decide +kernel
@[simp] theorem exm_BadPuzzle_BadWalkText : exmF exmL c_BadPuzzle c_BadWalkText = some false := by decide +kernel
@[simp] theorem exm_BadWalk_BadPuzzle : exmF exmL c_BadWalk c_BadPuzzle = some false := by decide +kernel
@[simp] theorem exm_BadWalk_BadSetting : exmF exmL c_BadWalk c_BadSetting = some false := by decide +kernel
@[simp] theorem exm_BadWalk_BadSettingText : exmF exmL c_BadWalk c_BadSettingText = some false := by decide +kernel
@[simp] theorem exm_BadWalk_BadWalk : exmF exmL c_BadWalk c_BadWalk = some true := by decide +kernel
@[simp] theorem exm_BadWalk_BadWalkText : exmF exmL c_BadWalk c_BadWalkText = some false := by decide +kernel
@[simp] theorem exm_BadSetting_BadPuzzle : exmF exmL c_BadSetting c_BadPuzzle = some false := by decide +kernel
@[simp] theorem exm_BadSetting_BadSetting : exmF exmL c_BadSetting c_BadSetting = some true := by decide +kernel
@[simp] theorem exm_BadSetting_BadSettingText : exmF exmL c_BadSetting c_BadSettingText = some false := by decide +kernel
@[simp] theorem exm_BadSetting_BadWalk : exmF exmL c_BadSetting c_BadWalk = some false := by decide +kernel
@[simp] theorem exm_BadSetting_BadWalkText : exmF exmL c_BadSetting c_BadWalkText = some false := by decide +kernel
@[simp] theorem exm_BadSettingText_BadPuzzle : exmF exmL c_BadSettingText c_BadPuzzle = some false := by decide +kernel
@[simp] theorem exm_BadSettingText_BadSetting : exmF exmL c_BadSettingText c_BadSetting = some false := by decide +kernel
@[simp] theorem exm_BadSettingText_BadSettingText : exmF exmL c_BadSettingText c_BadSettingText = some true := by decide +kernel
@[simp] theorem exm_BadSettingText_BadWalk : exmF exmL c_BadSettingText c_BadWalk = some false := by decide +kernel
@[simp] theorem exm_BadSettingText_BadWalkText : exmF exmL c_BadSettingText c_BadWalkText = some false := by decide +kernel
@[simp] theorem exm_BadWalkText_BadPuzzle : exmF exmL c_BadWalkText c_BadPuzzle = some false := by decide +kernel
@[simp] theorem exm_BadWalkText_BadSetting : exmF exmL c_BadWalkText c_BadSetting = some false := by decide +kernel
@[simp] theorem exm_BadWalkText_BadSettingText : exmF exmL c_BadWalkText c_BadSettingText = some false := by decide +kernel
@[simp] theorem exm_BadWalkText_BadWalk : exmF exmL c_BadWalkText c_BadWalk = some false := by decide +kernel
@[simp] theorem exm_BadWalkText_BadWalkText : exmF exmL c_BadWalkText c_BadWalkText = some true := by decide +kernel
end K99
namespace K99
open PySem PySem.Spec PyProof.Rows L2 Z
def seqB : D → Bool
  | .lst _ => true
  | .tup _ => true
  | _ => false
def strDB : D → Bool
  | .str _ => true
  | _ => false
@[simp] theorem seqB_lst (xs : List Z.D) : seqB (.lst xs) = true := (rfl)
@[simp] theorem seqB_tup (xs : List Z.D) : seqB (.tup xs) = true := (rfl)
@[simp] theorem seqB_non : seqB .non = false := (rfl)
@[simp] theorem seqB_bl (b) : seqB (.bl b) = false := (rfl)
@[simp] theorem seqB_int (b) : seqB (.int b) = false := (rfl)
@[simp] theorem seqB_str (b) : seqB (.str b) = false := (rfl)
@[simp] theorem strDB_lst (xs : List Z.D) : strDB (.lst xs) = false := (rfl)
@[simp] theorem strDB_tup (xs : List Z.D) : strDB (.tup xs) = false := (rfl)
@[simp] theorem strDB_non : strDB .non = false := (rfl)
@[simp] theorem strDB_bl (b) : strDB (.bl b) = false := (rfl)
@[simp] theorem strDB_int (b) : strDB (.int b) = false := (rfl)
@[simp] theorem strDB_str (b) : strDB (.str b) = true := (rfl)
def isLet (c : Nat) : Bool := decide (c ∈ (Str.ofString "abcdefghijklmnopqrstuvwxyz").cps)
def letB (x : Str) : Bool := x.cps.toList.all isLet
def wordB (x : Str) : Bool := decide (0 < x.length) && letB x && decide (x.length ≤ 8)
section
variable {G : Gx} (g : GK G) (n : Nat)
include g
theorem q_is_list (d : D) (h : pl d = true) : F G (n + 1) f_is_list [d] = M.pure (.bl (seqB d)) := by
  cases d <;> first | (cases h; done) | simp [p_is_list, b_is_list, g.isa]
theorem q_is_text (d : D) (h : pl d = true) : F G (n + 1) f_is_text [d] = M.pure (.bl (strDB d)) := by
  cases d <;> first | (cases h; done) | simp [p_is_text, b_is_text, g.isa]
theorem q_row_no (d : D) (m : Int) (h : pl d = true) (hs : seqB d = false) : F G (n + 2) f_is_row [d, .int m] = M.pure (.bl false) := by
  simp [p_is_row, b_is_row, q_is_list g, h, hs]
theorem q_rowL (xs : List D) (m : Int) (h : pls xs = true) : F G (n + 2) f_is_row [.lst xs, .int m] = M.pure (.bl (decide ((xs.length : Int) = m))) := by
  simp [p_is_row, b_is_row, q_is_list g, h]
theorem q_rowT (xs : List D) (m : Int) (h : pls xs = true) : F G (n + 2) f_is_row [.tup xs, .int m] = M.pure (.bl (decide ((xs.length : Int) = m))) := by
  simp [p_is_row, b_is_row, q_is_list g, h]
theorem q_pair_no (d : D) (h : pl d = true) (hs : seqB d = false) : F G (n + 3) f_is_pair [d] = M.pure (.bl false) := by
  simp [p_is_pair, b_is_pair, q_row_no g, h, hs]
theorem q_pairL (xs : List D) (h : pls xs = true) : F G (n + 3) f_is_pair [.lst xs] = M.pure (.bl (decide ((xs.length : Int) = 2))) := by
  simp [p_is_pair, b_is_pair, q_rowL g, h]
theorem q_pairT (xs : List D) (h : pls xs = true) : F G (n + 3) f_is_pair [.tup xs] = M.pure (.bl (decide ((xs.length : Int) = 2))) := by
  simp [p_is_pair, b_is_pair, q_rowT g, h]
theorem q_letters (x : Str) (h : x.length ≤ 16777216) : F G (n + 2) f_is_letters [.str x] = M.pure (.bl (decide (0 < x.length) && letB x)) := by
  have hl : x.cps.toList.length ≤ 16777216 := h
  by_cases h0 : 0 < x.length
  · have h0' : (0 : Int) < x.length := by omega
    simp only [p_is_letters, b_is_letters]
    simp [q_is_text g, h0, signs_map]
    rw [if_pos (by simpa using hl)]
    rw [lc_map (f := fun c => D.bl (isLet c)) (fun c _ => by simp [isLet])]
    simp [letB]
  · have h0' : ¬ (0 : Int) < x.length := by omega
    simp [p_is_letters, b_is_letters, q_is_text g, h0]
theorem q_word (x : Str) (h : x.length ≤ 16777216) : F G (n + 3) f_is_word [.str x] = M.pure (.bl (wordB x)) := by
  have e : decide ((x.length : Int) ≤ 8) = decide (x.length ≤ 8) := decide_eq_decide.mpr (by omega)
  cases hq : (decide (0 < x.length) && letB x) <;> simp [p_is_word, b_is_word, q_letters g, h, hq, wordB, e]
end
end K99
namespace K99
open PySem PySem.Spec PyProof.Rows L2 Z
def badAt : List Str → List Str → Nat → Option Nat
  | _, [], _ => none
  | pre, w :: r, i => if (!wordB w || decide (w ∈ pre)) = true then some i else badAt (pre ++ [w]) r (i + 1)
def goodB (ws : List Str) : Bool := decide (ws ≠ []) && (badAt [] ws 0).isNone
theorem badAt_iff : ∀ (ws pre : List Str) (i : Nat), badAt pre ws i = none ↔ (∀ w ∈ ws, wordB w = true) ∧ ws.Nodup ∧ ∀ w ∈ ws, w ∉ pre
  | [], pre, i => by simp [badAt]
  | w :: r, pre, i => by
    rw [badAt]
    by_cases h : (!wordB w || decide (w ∈ pre)) = true
    · rw [if_pos h]
      refine ⟨fun z => (by cases z), fun ⟨h1, h2, h3⟩ => ?_⟩
      rw [h1 w List.mem_cons_self] at h
      have := h3 w List.mem_cons_self
      simp [this] at h
    · rw [if_neg h, badAt_iff r (pre ++ [w]) (i + 1)]
      simp only [Bool.not_eq_true, Bool.or_eq_false_iff, Bool.not_eq_false', decide_eq_false_iff_not] at h
      obtain ⟨hw, hp⟩ := h
      constructor
      · rintro ⟨h1, h2, h3⟩
        refine ⟨fun x hx => ?_, List.nodup_cons.mpr ⟨fun z => ?_, h2⟩, fun x hx => ?_⟩
        · rcases List.mem_cons.mp hx with e | e
          · rw [e]; exact hw
          · exact h1 x e
        · exact h3 w z (List.mem_append_right _ (List.mem_singleton.mpr rfl))
        · rcases List.mem_cons.mp hx with e | e
          · rw [e]; exact hp
          · exact fun z => h3 x e (List.mem_append_left _ z)
      · rintro ⟨h1, h2, h3⟩
        obtain ⟨n1, n2⟩ := List.nodup_cons.mp h2
        refine ⟨fun x hx => h1 x (List.mem_cons_of_mem _ hx), n2, fun x hx z => ?_⟩
        rcases List.mem_append.mp z with z | z
        · exact h3 x (List.mem_cons_of_mem _ hx) z
        · rw [List.mem_singleton.mp z] at hx
          exact n1 hx
theorem goodB_iff {ws : List Str} : goodB ws = true ↔ ws ≠ [] ∧ (∀ w ∈ ws, wordB w = true) ∧ ws.Nodup := by
  unfold goodB
  rw [Bool.and_eq_true, decide_eq_true_eq, Option.isNone_iff_eq_none, badAt_iff]
  simp
def stW (ws : List Str) : Unit → Z.D → Unit ⊕ Z.D := fun _ d => match d with
  | .tup [.int i, .str w] => if (!wordB w || decide (w ∈ ws.take i.toNat)) = true then .inr (.int i) else .inl ()
  | _ => .inl ()
theorem runW : ∀ (rest pre : List Str), runL (stW (pre ++ rest)) () (enumD pre.length (sD rest)) = (match badAt pre rest pre.length with
    | some i => .inr (.int (i : Nat))
    | none => .inl ())
  | [], pre => rfl
  | w :: r, pre => by
    have e : (pre ++ w :: r).take pre.length = pre := by simp
    show runL _ () (Z.D.tup [.int (pre.length : Nat), .str w] :: enumD (pre.length + 1) (sD r)) = _
    rw [runL, badAt]
    have e2 : stW (pre ++ w :: r) () (.tup [.int (pre.length : Nat), .str w]) = if (!wordB w || decide (w ∈ pre)) = true then .inr (.int (pre.length : Nat)) else .inl () := by
      show (if (!wordB w || decide (w ∈ (pre ++ w :: r).take (((pre.length : Nat) : Int)).toNat)) = true then _ else _) = _
      rw [Int.toNat_natCast, e]
    rw [e2]
    by_cases h : (!wordB w || decide (w ∈ pre)) = true
    · rw [if_pos h, if_pos h]
    · rw [if_neg h, if_neg h]
      have := runW r (pre ++ [w])
      rw [List.append_assoc, List.length_append] at this
      exact this
theorem enum_mem {xs : List Str} : ∀ {k : Nat} {d : Z.D}, d ∈ enumD k (sD xs) → ∃ (i : Nat) (w : Str), d = .tup [.int (i : Nat), .str w] ∧ w ∈ xs := by
  induction xs with
  | nil => intro k d h; cases h
  | cons x r ih =>
    intro k d h
    have h : d ∈ Z.D.tup [.int (k : Nat), .str x] :: enumD (k + 1) (sD r) := h
    rcases List.mem_cons.mp h with e | e
    · exact ⟨k, x, e, List.mem_cons_self⟩
    · obtain ⟨i, w, e1, e2⟩ := ih e
      exact ⟨i, w, e1, List.mem_cons_of_mem _ e2⟩
theorem word_len {x : Str} (h : wordB x = true) : x.length ≤ 16777216 := by
  unfold wordB at h
  simp only [Bool.and_eq_true, decide_eq_true_eq] at h
  omega
section
variable {G : Gx} (g : GK G) (n : Nat)
include g
theorem q_one_of (ws : List Str) (x : Str) : F G (n + 2) f_is_one_of [.lst (sD ws), .str x] = M.pure (.bl (decide (x ∈ ws))) := by
  simp [p_is_one_of, b_is_one_of, q_is_text g]
theorem q_one_no (ws : D) (d : D) (h : pl d = true) (hs : strDB d = false) : F G (n + 2) f_is_one_of [ws, d] = M.pure (.bl false) := by
  simp [p_is_one_of, b_is_one_of, q_is_text g, h, hs]
theorem q_wrong (W : Z.D) (ws : List Str) (hW : W = .lst (sD ws) ∨ W = .tup (sD ws)) (hs : ∀ w ∈ ws, w.length ≤ 16777216) : F G (n + 4) f_wrong_words [W] = M.pure (if ws = [] then .int 0 else match badAt [] ws 0 with | some i => .int (i : Nat) | none => .non) := by
  rcases hW with rfl | rfl
  · simp only [p_wrong_words, b_wrong_words]
    simp [q_is_list g]
    by_cases h0 : ws = []
    · rw [if_pos h0, if_pos h0]
    · rw [if_neg h0, if_neg h0, for_run (R := fun _ ρ => ∃ s1 s2, ρ = [.fz (.lst (sD ws)), s1, s2]) (stW ws) (r := fun _ => MS.rt .non) (fun _ _ _ => rfl) _ () _ ?_ ⟨_, _, rfl⟩]
      · have := runW ws []
        simp only [List.nil_append, List.length_nil] at this
        rw [this]
        cases badAt [] ws 0 <;> rfl
      · rintro _ ρ d hd ⟨s1, s2, rfl⟩
        obtain ⟨i, w, rfl, hw⟩ := enum_mem hd
        refine ⟨_, rfl, ?_⟩
        have e2 : stW ws () (.tup [.int (i : Nat), .str w]) = if (!wordB w || decide (w ∈ ws.take i)) = true then .inr (.int (i : Nat)) else .inl () := by
          show (if (!wordB w || decide (w ∈ ws.take (((i : Nat) : Int)).toNat)) = true then _ else _) = _
          rw [Int.toNat_natCast]
        rw [e2]
        by_cases h1 : wordB w = true
        · by_cases h2 : w ∈ ws.take i
          · simp [q_word g, hs w hw, h1, h2]
          · simp [q_word g, hs w hw, h1, h2]
            exact ⟨_, rfl, _, _, rfl⟩
        · simp [q_word g, hs w hw, h1]
  · simp only [p_wrong_words, b_wrong_words]
    simp [q_is_list g]
    by_cases h0 : ws = []
    · rw [if_pos h0, if_pos h0]
    · rw [if_neg h0, if_neg h0, for_run (R := fun _ ρ => ∃ s1 s2, ρ = [.fz (.tup (sD ws)), s1, s2]) (stW ws) (r := fun _ => MS.rt .non) (fun _ _ _ => rfl) _ () _ ?_ ⟨_, _, rfl⟩]
      · have := runW ws []
        simp only [List.nil_append, List.length_nil] at this
        rw [this]
        cases badAt [] ws 0 <;> rfl
      · rintro _ ρ d hd ⟨s1, s2, rfl⟩
        obtain ⟨i, w, rfl, hw⟩ := enum_mem hd
        refine ⟨_, rfl, ?_⟩
        have e2 : stW ws () (.tup [.int (i : Nat), .str w]) = if (!wordB w || decide (w ∈ ws.take i)) = true then .inr (.int (i : Nat)) else .inl () := by
          show (if (!wordB w || decide (w ∈ ws.take (((i : Nat) : Int)).toNat)) = true then _ else _) = _
          rw [Int.toNat_natCast]
        rw [e2]
        by_cases h1 : wordB w = true
        · by_cases h2 : w ∈ ws.take i
          · simp [q_word g, hs w hw, h1, h2]
          · simp [q_word g, hs w hw, h1, h2]
            exact ⟨_, rfl, _, _, rfl⟩
        · simp [q_word g, hs w hw, h1]
theorem q_wrong_is (W : Z.D) (ws : List Str) (hW : W = .lst (sD ws) ∨ W = .tup (sD ws)) (hs : ∀ w ∈ ws, w.length ≤ 16777216) : ∃ r, F G (n + 4) f_wrong_words [W] = M.pure r ∧ isNon r = goodB ws := by
  refine ⟨_, q_wrong g n W ws hW hs, ?_⟩
  unfold goodB
  by_cases h0 : ws = []
  · rw [if_pos h0]; simp [h0]
  · rw [if_neg h0]
    cases badAt [] ws 0 <;> simp [h0]
end
end K99
namespace K99
open PySem PySem.Spec PyProof.Rows L2 Z
theorem dc_keys {bd : Z.D → M (Option (Key × Z.D))} {v : Z.D} : ∀ (xs ks0 : List Str) (vs : List Z.D), (∀ x ∈ xs, bd (.str x) = M.pure (some (.inr x, v))) → xs.Nodup → (∀ x ∈ xs, x ∉ ks0) → ∃ ws, dcA bd (ks0.map (Sum.inr : Str → Key)) vs (sD xs) = M.pure (.dk ((ks0 ++ xs).map (Sum.inr : Str → Key)) ws)
  | [], ks0, vs, _, _, _ => ⟨vs, by simp [dcA]⟩
  | x :: r, ks0, vs, h, nd, hn => by
    obtain ⟨n1, n2⟩ := List.nodup_cons.mp nd
    have h1 : hasK (ks0.map (Sum.inr : Str → Key)) (.inr x) = false := by
      unfold hasK
      rw [List.any_eq_false]
      intro z hz
      obtain ⟨y, hy, rfl⟩ := List.mem_map.mp hz
      have : y ≠ x := fun e => hn x List.mem_cons_self (e ▸ hy)
      simpa using this
    have e1 : putKs (ks0.map (Sum.inr : Str → Key)) (.inr x) = (ks0 ++ [x]).map (Sum.inr : Str → Key) := by
      unfold putKs
      rw [h1]
      simp
    show ∃ ws, dcA bd _ vs (Z.D.str x :: sD r) = _
    rw [dcA, h x List.mem_cons_self, M.bind_pure]
    dsimp only
    rw [e1]
    obtain ⟨ws, e⟩ := dc_keys (bd := bd) (v := v) r (ks0 ++ [x]) (putV (ks0.map (Sum.inr : Str → Key)) vs (.inr x) v) (fun y hy => h y (List.mem_cons_of_mem _ hy)) n2 (fun y hy z => by
      rcases List.mem_append.mp z with z | z
      · exact hn y (List.mem_cons_of_mem _ hy) z
      · rw [List.mem_singleton.mp z] at hy
        exact n1 hy)
    refine ⟨ws, ?_⟩
    rw [e, List.append_assoc]
    rfl
theorem dc_bind {α : Type} {bd : Z.D → M (Option (Key × Z.D))} {v : Z.D} {k : Z.D → M α} {r : M α} {xs : List Str} (h : ∀ x ∈ xs, bd (.str x) = M.pure (some (.inr x, v))) (nd : xs.Nodup) (hk : ∀ ws, k (.dk (xs.map (Sum.inr : Str → Key)) ws) = r) : M.bind (dcA bd [] [] (sD xs)) k = r := by
  obtain ⟨ws, e⟩ := dc_keys (bd := bd) (v := v) xs [] [] h nd (fun x _ => by simp)
  have e : dcA bd [] [] (sD xs) = M.pure (.dk (xs.map (Sum.inr : Str → Key)) ws) := e
  rw [e, M.bind_pure, hk]
theorem flat_le {α : Type} {k : Nat} : ∀ {l : List (List α)}, (∀ x ∈ l, x.length ≤ k) → l.flatten.length ≤ k * l.length
  | [], _ => Nat.zero_le _
  | x :: r, h => by
    have h1 := h x List.mem_cons_self
    have h2 := flat_le (l := r) fun y hy => h y (List.mem_cons_of_mem _ hy)
    rw [List.flatten_cons, List.length_append, List.length_cons, Nat.mul_succ]
    omega
structure Rw where
  nm : Str
  st : Str
  en : Str
  rs : List (List Str)
abbrev rgD (rs : List (List Str)) : Z.D := .lst (rs.map fun r => .lst (sD r))
abbrev rwD (r : Rw) : Z.D := .tup [.str r.nm, .str r.st, .str r.en, rgD r.rs]
@[simp] theorem pls_rg (rs : List (List Str)) : pls (rs.map fun r => Z.D.lst (sD r)) = true := by
  rw [pls_all]
  intro d hd
  obtain ⟨r, _, rfl⟩ := List.mem_map.mp hd
  simp
@[simp] theorem pls_rw (rs : List Rw) : pls (rs.map rwD) = true := by
  rw [pls_all]
  intro d hd
  obtain ⟨r, _, rfl⟩ := List.mem_map.mp hd
  simp
structure Pz where
  ps : List Str
  ms : List Str
  rows : List Rw
abbrev Pz.raw (z : Pz) : Z.D := .lst [.lst (sD z.ps), .lst (sD z.ms), .lst (z.rows.map rwD)]
abbrev Pz.obj (z : Pz) : Z.D := .obj c_Puzzle [.lst (sD z.ps), .lst (sD z.ms), .lst (z.rows.map rwD)]
def rgOk (ps : List Str) (rs : List (List Str)) : Prop := rs.flatten.Nodup ∧ ∀ r ∈ rs, 2 ≤ r.length ∧ ∀ x ∈ r, x ∈ ps
structure Pz.Ok (z : Pz) : Prop where
  p0 : z.ps ≠ []
  pw : ∀ w ∈ z.ps, wordB w = true
  pn : z.ps.Nodup
  m0 : z.ms ≠ []
  mw : ∀ w ∈ z.ms, wordB w = true
  mn : z.ms.Nodup
  rw_ : ∀ r ∈ z.rows, wordB r.nm = true ∧ r.st ∈ z.ms ∧ r.en ∈ z.ms ∧ rgOk z.ps r.rs ∧ r.rs.length ≤ 1000 ∧ ∀ x ∈ r.rs, x.length ≤ 1000
  rn : (z.rows.map (·.nm)).Nodup
  sz : z.ps.length ≤ 1000 ∧ z.ms.length ≤ 1000 ∧ z.rows.length ≤ 1000
section
variable {G : Gx} (g : GK G) (n : Nat)
include g
theorem q_ring_of (ps r tk : List Str) (h2 : 2 ≤ r.length) (hl : r.length ≤ 1000) (hp : ∀ x ∈ r, x ∈ ps) (ht : ∀ x ∈ r, x ∉ tk) (nd : r.Nodup) : F G (n + 3) f_is_ring_of [.lst (sD ps), .lst (sD r), .lst (sD tk)] = M.pure (.bl true) := by
  have e1 : ¬ ((r.length : Int) < 2) := by omega
  simp only [p_is_ring_of, b_is_ring_of]
  simp [q_is_list g, e1]
  rw [if_pos (by omega), lc_sD (f := fun _ => Z.D.bl true) (fun x hx => by simp [q_one_of g, hp x hx, ht x hx])]
  rw [M.bind_pure, List.nil_append, b_all]
  simp
  rw [if_pos (by omega)]
  exact dc_bind (v := .bl true) (fun x hx => rfl) nd (fun ws => by simp)
theorem q_rings (ps : List Str) (rs : List (List Str)) (h : rgOk ps rs) (hl : ∀ r ∈ rs, r.length ≤ 1000) (hr : rs.length ≤ 1000) : F G (n + 4) f_are_rings [.lst (sD ps), rgD rs] = M.pure (.bl true) := by
  simp only [p_are_rings, b_are_rings]
  simp [q_is_list g]
  refine (congrArg retM (for_all0 (r := MS.rt (.bl true)) (fun i ρ => ∃ s, ρ = [.fz (.lst (sD ps)), .fz (rgD rs), .fz (.lst (sD (rs.take i).flatten)), s]) _ _ ?_ (fun _ _ => rfl) ⟨_, rfl⟩)).trans rfl
  · rintro j d ρ hj ⟨s, rfl⟩
    rw [List.getElem?_map] at hj
    cases e : rs[j]? with
    | none => rw [e] at hj; cases hj
    | some r =>
      rw [e] at hj
      cases hj
      have hm := List.mem_of_getElem? e
      have hj2 := (List.getElem?_eq_some_iff.mp e).1
      have e3 : rs.take (j + 1) = rs.take j ++ [r] := by rw [List.take_add_one, e]; rfl
      obtain ⟨nd, h2⟩ := h
      have nd2 : (rs.take (j + 1)).flatten.Nodup := by
        have z : ((rs.take (j + 1)).flatten ++ (rs.drop (j + 1)).flatten).Nodup := by rw [← List.flatten_append, List.take_append_drop]; exact nd
        exact (List.nodup_append.mp z).1
      rw [e3, List.flatten_append] at nd2
      simp only [List.flatten_cons, List.flatten_nil, List.append_nil] at nd2
      obtain ⟨nd3, nd4, nd5⟩ := List.nodup_append.mp nd2
      have e4 : ((rs.take j).flatten).length ≤ 1000 * rs.length := by
        refine Nat.le_trans (flat_le (fun x hx => hl x (List.mem_of_mem_take hx))) ?_
        rw [List.length_take]
        exact Nat.mul_le_mul_left _ (Nat.min_le_right _ _)
      have e5 : r.length ≤ 1000 := hl r hm
      refine ⟨_, [.fz (.lst (sD ps)), .fz (rgD rs), .fz (.lst (sD (rs.take (j + 1)).flatten)), .fz (.lst (sD r))], rfl, ?_, ⟨_, rfl⟩⟩
      simp [q_ring_of g n ps r _ (h2 r hm).1 (hl r hm) (h2 r hm).2 (fun x hx z => nd5 x z x hx rfl) nd4]
      rw [a_addL (by simp only [sD_len]; omega)]
      rw [e3, List.flatten_append]
      simp
end
end K99
namespace K99
open PySem PySem.Spec PyProof.Rows L2 Z
theorem enum_at {xs : List Z.D} {j : Nat} {d : Z.D} (h : (enumD 0 xs)[j]? = some d) : ∃ x, xs[j]? = some x ∧ d = .tup [.int (j : Nat), x] := by
  obtain ⟨x, h1, h2⟩ := enumD_get h
  rw [Nat.zero_add] at h2
  exact ⟨x, h1, h2⟩
theorem map_at {α β : Type} {f : α → β} {xs : List α} {j : Nat} {d : β} (h : (xs.map f)[j]? = some d) : ∃ x, xs[j]? = some x ∧ d = f x := by
  rw [List.getElem?_map] at h
  cases e : xs[j]? with
  | none => rw [e] at h; cases h
  | some x => rw [e] at h; cases h; exact ⟨x, rfl, rfl⟩
theorem take_at {α : Type} {xs : List α} {j : Nat} {x : α} (h : xs[j]? = some x) : xs.take (j + 1) = xs.take j ++ [x] := by
  rw [List.take_add_one, h]
  rfl
theorem nodup_at {α : Type} {xs : List α} (nd : xs.Nodup) {j : Nat} {x : α} (h : xs[j]? = some x) : x ∉ xs.take j := fun hm => by
  have e := take_at h
  have : (xs.take j ++ [x]).Nodup := by rw [← e]; exact (List.take_sublist _ _).nodup nd
  obtain ⟨_, _, h3⟩ := List.nodup_append.mp this
  exact h3 x hm x (List.mem_singleton.mpr rfl) rfl
section
variable {G : Gx} (g : GK G) (n : Nat)
include g
theorem q_turn (z : Pz) (h : z.Ok) (r : Rw) (hr : r ∈ z.rows) (nms : List Str) (hn : r.nm ∉ nms) : F G (n + 5) f_is_turn [.lst (sD z.ps), .lst (sD z.ms), .lst (sD nms), rwD r] = M.pure (.bl true) := by
  obtain ⟨w1, w3, w4, w5, w6, w7⟩ := h.rw_ r hr
  simp only [p_is_turn, b_is_turn]
  simp [q_rowT g, q_word g, w1, word_len w1, hn, q_one_of g, w3, w4, q_rings g n z.ps r.rs w5 w7 w6]
theorem q_wturns (z : Pz) (h : z.Ok) : F G (n + 6) f_wrong_turns [.lst (sD z.ps), .lst (sD z.ms), .lst (z.rows.map rwD)] = M.pure .non := by
  simp only [p_wrong_turns, b_wrong_turns]
  simp [q_is_list g]
  refine (congrArg retM (for_all0 (r := MS.rt .non) (fun i ρ => ∃ s1 s2, ρ = [.fz (.lst (sD z.ps)), .fz (.lst (sD z.ms)), .fz (.lst (z.rows.map rwD)), .ow (.lst (sD ((z.rows.map (·.nm)).take i))), s1, s2]) _ _ ?_ (fun _ _ => rfl) ⟨_, _, rfl⟩)).trans rfl
  rintro j d ρ hj ⟨s1, s2, rfl⟩
  obtain ⟨x, h1, rfl⟩ := enum_at hj
  obtain ⟨r, h2, rfl⟩ := map_at h1
  have hm := List.mem_of_getElem? h2
  have e1 : (z.rows.map (·.nm))[j]? = some r.nm := by rw [List.getElem?_map, h2]; rfl
  have hl : ((z.rows.map (·.nm)).take j).length < 16777216 := by
    rw [List.length_take, List.length_map]
    have := h.sz.2.2
    omega
  refine ⟨_, _, rfl, ?_, ⟨.fz (.int (j : Nat)), .fz (rwD r), rfl⟩⟩
  rw [take_at e1]
  have hq := q_turn g n z h r hm ((z.rows.map (·.nm)).take j) (nodup_at h.rn e1)
  simp only [u_cons, u_frz0]
  simp [hq]
  intro z1
  have := h.sz.2.2
  omega
theorem q_init (z : Pz) (h : z.Ok) : F G (n + 7) f_Puzzle___init__ [.lst (sD z.ps), .lst (sD z.ms), .lst (z.rows.map rwD)] = M.pure z.obj := by
  have g1 : goodB z.ps = true := goodB_iff.mpr ⟨h.p0, h.pw, h.pn⟩
  have g2 : goodB z.ms = true := goodB_iff.mpr ⟨h.m0, h.mw, h.mn⟩
  obtain ⟨r1, e1, n1⟩ := q_wrong_is g (n + 2) (.lst (sD z.ps)) z.ps (.inl rfl) (fun w hw => word_len (h.pw w hw))
  obtain ⟨r2, e2, n2⟩ := q_wrong_is g (n + 2) (.lst (sD z.ms)) z.ms (.inl rfl) (fun w hw => word_len (h.mw w hw))
  rw [g1] at n1
  rw [g2] at n2
  simp only [p_Puzzle___init__, b_Puzzle___init__]
  simp [e1, e2, n1, n2, q_wturns g n z h]
  rw [if_pos (by have := h.sz.2.2; omega), lc_map (g := rwD) (f := rwD) (fun r hr => ?_)]
  · simp [g.cfs]
  · obtain ⟨w1, w3, w4, w5, w6, w7⟩ := h.rw_ r hr
    simp
    rw [if_pos (by omega), lc_map (f := fun x => Z.D.lst (sD x)) (fun x hx => by simp)]
    simp
theorem q_places (z : Pz) : F G (n + 1) f_Puzzle_places [z.obj] = M.pure (.lst (sD z.ps)) := by
  simp [p_Puzzle_places, b_Puzzle_places]
theorem q_nodes (z : Pz) : F G (n + 1) f_Puzzle_nodes [z.obj] = M.pure (.lst (sD z.ms)) := by
  simp [p_Puzzle_nodes, b_Puzzle_nodes]
theorem q_turns (z : Pz) (h : z.Ok) : F G (n + 1) f_Puzzle_turns [z.obj] = M.pure (.lst (z.rows.map rwD)) := by
  simp [p_Puzzle_turns, b_Puzzle_turns]
  rw [if_pos (by have := h.sz.2.2; omega), lc_map (g := rwD) (f := rwD) (fun r hr => ?_)]
  · simp
  · obtain ⟨w1, w3, w4, w5, w6, w7⟩ := h.rw_ r hr
    simp
    rw [if_pos (by omega), lc_map (f := fun x => Z.D.lst (sD x)) (fun x hx => by simp)]
    simp
theorem q_need (z : Pz) : F G (n + 1) f_need_puzzle [z.obj] = M.pure .non := by
  simp [p_need_puzzle, b_need_puzzle, g.oc, g.isa]
  rfl
theorem q_names (z : Pz) (h : z.Ok) : F G (n + 2) f_names_of [z.obj] = M.pure (.lst (sD (z.rows.map (·.nm)))) := by
  simp [p_names_of, b_names_of, q_turns g n z h]
  rw [if_pos (by have := h.sz.2.2; omega), lc_map (f := fun r => Z.D.str r.nm) (fun x hx => by simp)]
  simp [sD]
  rfl
end
end K99
namespace K99
open PySem PySem.Spec PyProof.Rows L2 Z
/-- a list or a tuple of these -/
def SqD (d : Z.D) (xs : List Z.D) : Prop := d = .lst xs ∨ d = .tup xs
def setB (z : Pz) (nd : Str) (ws : List Str) : Bool := decide (nd ∈ z.ms) && goodB ws && decide (ws.length = z.ps.length)
def wordsD (x : Str) (many : Nat) : Z.D := if (lastIs 10 x && decide ((mid 10 x).length = many)) = true then .lst ((mid 10 x).map fun l => .lst (sD (parts 32 l))) else .non
def rd2 (z : Pz) : List Str → List Str → Option (Str × List Str)
  | [a, nd], b :: ws => if a = Str.ofString "at" ∧ b = Str.ofString "lie" ∧ setB z nd ws = true then some (nd, ws) else none
  | _, _ => none
def rdS (z : Pz) (x : Str) : Option (Str × List Str) := if lastIs 10 x = true then match mid 10 x with
  | [l0, l1] => rd2 z (parts 32 l0) (parts 32 l1)
  | _ => none
  else none
def nms (z : Pz) : List Str := z.rows.map (·.nm)
def wkB (z : Pz) (ws : List Str) : Bool := ws.all fun w => decide (w ∈ nms z)
theorem wkB_iff {z : Pz} {ws : List Str} : wkB z ws = true ↔ ∀ w ∈ ws, w ∈ nms z := by simp [wkB]
def rd1 (z : Pz) : List Str → Option (List Str)
  | a :: ws => if a = Str.ofString "walk" ∧ wkB z ws = true then some ws else none
  | _ => none
def rdW (z : Pz) (x : Str) : Option (List Str) := if lastIs 10 x = true then match mid 10 x with
  | [l0] => rd1 z (parts 32 l0)
  | _ => none
  else none
section
variable {G : Gx} (g : GK G) (n : Nat)
include g
theorem q_setting_is (z : Pz) (h : z.Ok) (T W : Z.D) (nd : Str) (ws : List Str) (hT : SqD T [.str nd, W]) (hW : SqD W (sD ws)) (hs : ∀ w ∈ ws, w.length ≤ 16777216) : F G (n + 5) f_is_setting_of [z.obj, T] = M.pure (.bl (setB z nd ws)) := by
  obtain ⟨r, e1, e2⟩ := q_wrong_is g n W ws hW hs
  have pw : pl W = true := by
    rcases hW with rfl | rfl
    · exact pls_sD ws
    · exact pls_sD ws
  have eT : F G (n + 4) f_is_pair [T] = M.pure (.bl true) := by
    rcases hT with rfl | rfl
    · simp [q_pairL g, pw]
    · simp [q_pairT g, pw]
  have s0 : sbF T (.int 0) = some (.str nd) := by rcases hT with rfl | rfl <;> simp
  have s1 : sbF T (.int 1) = some W := by rcases hT with rfl | rfl <;> simp
  have lW : biF G .len [W] = some (.int ws.length) := by rcases hW with rfl | rfl <;> simp
  simp only [p_is_setting_of, b_is_setting_of]
  simp [eT, s0, s1, lW, q_nodes g, q_one_of g, e1, e2, q_places g]
  unfold setB
  by_cases h1 : nd ∈ z.ms
  · simp [h1]
    by_cases h2 : goodB ws = true
    · simp [h2]
      exact congrArg (fun b => M.pure (Z.D.bl b)) (decide_eq_decide.mpr (by omega))
    · simp [h2]
  · simp [h1]
theorem q_set_no (z : Pz) (d : Z.D) (h : pl d = true) (hs : seqB d = false) : F G (n + 5) f_is_setting_of [z.obj, d] = M.pure (.bl false) := by
  simp [p_is_setting_of, b_is_setting_of, q_pair_no g, h, hs]
theorem q_set_one (z : Pz) : F G (n + 5) f_is_setting_of [z.obj, .lst [.non]] = M.pure (.bl false) := by
  simp [p_is_setting_of, b_is_setting_of, q_pairL g]
theorem q_set_z9 (z : Pz) (h : z.Ok) : F G (n + 5) f_is_setting_of [z.obj, .tup [.str (Str.ofString "Z9"), .lst (sD z.ps)]] = M.pure (.bl false) := by
  have hn : Str.ofString "Z9" ∉ z.ms := fun hm => by
    have := h.mw _ hm
    have e : wordB (Str.ofString "Z9") = false := by decide +kernel
    rw [e] at this
    cases this
  simp [p_is_setting_of, b_is_setting_of, q_pairT g, q_nodes g, q_one_of g, hn]
theorem q_words (x : Str) (many : Nat) (h : x.length ≤ 1000000) : F G (n + 2) f_words_of [.str x, .int (many : Nat)] = M.pure (wordsD x many) := by
  have hm := mid_size 10 x
  have hp := parts_size 10 x
  simp only [p_words_of, b_words_of]
  simp [q_is_text g, split_one, h, wordsD]
  by_cases h1 : lastIs 10 x = true
  · simp [h1]
    rw [show (parts 10 x).dropLast = mid 10 x from rfl]
    rw [if_pos (by omega), lc_sD (f := fun l => Z.D.lst (sD (parts 32 l))) (fun y hy => by
      have := mid_len hy
      simp [split_one (c := 32) (by decide) (show y.length ≤ 1000000 by omega)])]
    simp
    by_cases h2 : (mid 10 x).length = many
    · rw [if_pos (by omega), if_pos h2]
    · rw [if_neg (by omega), if_neg h2]
  · simp [h1]
theorem q_words_no (d : Z.D) (many : Int) (h : pl d = true) (hs : strDB d = false) : F G (n + 2) f_words_of [d, .int many] = M.pure .non := by
  simp [p_words_of, b_words_of, q_is_text g, h, hs]
theorem q_setting_of (z : Pz) (h : z.Ok) (T W : Z.D) (nd : Str) (ws : List Str) (hT : SqD T [.str nd, W]) (hW : SqD W (sD ws)) (hs : ∀ w ∈ ws, w.length ≤ 16777216) (hb : setB z nd ws = true) : F G (n + 6) f_setting_of [z.obj, T] = M.pure (.tup [.str nd, .lst (sD ws)]) := by
  have s0 : sbF T (.int 0) = some (.str nd) := by rcases hT with rfl | rfl <;> simp
  have s1 : sbF T (.int 1) = some W := by rcases hT with rfl | rfl <;> simp
  have lW : biF G .list [W] = some (.lst (sD ws)) := by rcases hW with rfl | rfl <;> simp
  simp [p_setting_of, b_setting_of, q_need g, q_setting_is g _ z h T W nd ws hT hW hs, hb, s0, s1, lW]
theorem q_rset (z : Pz) (h : z.Ok) (x : Str) (hx : x.length ≤ 1000000) : F G (n + 6) f_read_setting [z.obj, .str x] = match rdS z x with
    | some (nd, ws) => M.pure (.tup [.str nd, .lst (sD ws)])
    | none => M.raise c_BadSettingText [.str x] := by
  simp only [p_read_setting, b_read_setting]
  simp [q_need g]
  rw [show F G (n + 5) f_words_of [.str x, .int 2] = M.pure (wordsD x 2) from q_words g (n + 3) x 2 hx]
  unfold rdS wordsD
  by_cases h1 : lastIs 10 x = true
  · rw [if_pos h1, h1]
    match hm : mid 10 x with
    | [] => simp
    | [_] => simp
    | _ :: _ :: _ :: _ => simp
    | [l0, l1] =>
      have z0 : l0.length ≤ 1000000 := Nat.le_trans (mid_len (c := 10) (x := x) (by rw [hm]; simp)) hx
      have z1 : l1.length ≤ 1000000 := Nat.le_trans (mid_len (c := 10) (x := x) (by rw [hm]; simp)) hx
      have n0 := parts_ne 32 l0
      have n1 := parts_ne 32 l1
      have b1 : ∀ w ∈ parts 32 l1, w.length ≤ 16777216 := fun w hw => by have := parts_len hw; omega
      match e0 : parts 32 l0, e1 : parts 32 l1 with
      | [], _ => exact absurd e0 n0
      | _, [] => exact absurd e1 n1
      | [a], b :: ws => simp [rd2, e0, e1]
      | a :: b :: c :: r, d :: ws =>
        have : ¬ ((r.length : Int) + 1 + 1 + 1 = 2) := by omega
        simp [rd2, e0, e1, this]
      | [a, nd], b :: ws =>
        rw [e1] at b1
        have hq := q_setting_is g n z h (.tup [.str nd, .lst (sD ws)]) (.lst (sD ws)) nd ws (.inr rfl) (.inl rfl) (fun w hw => b1 w (List.mem_cons_of_mem _ hw))
        by_cases ha : a = Str.ofString "at"
        · by_cases hb : b = Str.ofString "lie"
          · cases hs : setB z nd ws <;> simp [rd2, e0, e1, ha, hb, hq, hs]
          · simp [rd2, e0, e1, ha, hb]
        · simp [rd2, e0, e1, ha]
  · rw [if_neg h1]
    simp [h1]
end
end K99
namespace K99
open PySem PySem.Spec PyProof.Rows L2 Z
def atT (nd : Str) (ws : List Str) : Str := Str.ofString "at " ++ nd ++ ⟨#[10]⟩ ++ Str.ofString "lie " ++ joinD ⟨#[32]⟩ ws ++ ⟨#[10]⟩
def wkT (ws : List Str) : Str := joinD ⟨#[32]⟩ (Str.ofString "walk" :: ws) ++ ⟨#[10]⟩
theorem sum_le {α : Type} {f : α → Nat} {k : Nat} : ∀ {l : List α}, (∀ x ∈ l, f x ≤ k) → (l.map f).sum ≤ k * l.length
  | [], _ => by simp
  | x :: r, h => by
    have h1 := h x List.mem_cons_self
    have h2 := sum_le (l := r) fun y hy => h y (List.mem_cons_of_mem _ hy)
    simp only [List.map_cons, List.sum_cons, List.length_cons, Nat.mul_succ]
    omega
@[simp] theorem len_app (x y : Str) : (x ++ y).length = x.length + y.length := by
  show (x.cps ++ y.cps).size = _
  rw [Array.size_append]
  rfl
@[simp] theorem len_one (c : Nat) : (⟨#[c]⟩ : Str).length = 1 := (rfl)
theorem join_len (c : Nat) (ws : List Str) : (joinD ⟨#[c]⟩ ws).length ≤ (ws.map (·.length)).sum + ws.length := by
  have h := (joinL_sub [c] (ws.map fun x => x.cps.toList)).2
  rw [List.map_map] at h
  simp only [List.length_map, List.length_singleton, Nat.mul_one] at h
  exact h
section
variable {G : Gx} (g : GK G) (n : Nat)
include g
theorem q_walk_is (z : Pz) (h : z.Ok) (W : Z.D) (ws : List Str) (hW : SqD W (sD ws)) (hl : ws.length ≤ 1000000) : F G (n + 3) f_is_walk [z.obj, W] = M.pure (.bl (wkB z ws)) := by
  have e0 : F G (n + 2) f_is_list [W] = M.pure (.bl true) := by rcases hW with rfl | rfl <;> simp [q_is_list g]
  have e1 : iterF W = some (sD ws) := by rcases hW with rfl | rfl <;> simp
  simp only [p_is_walk, b_is_walk]
  simp [q_names g _ z h, e0, e1]
  rw [if_pos (by omega), lc_sD (f := fun w => Z.D.bl (decide (w ∈ nms z))) (fun w hw => by simp [q_one_of g, nms])]
  rw [M.bind_pure, List.nil_append, b_all]
  simp [wkB]
theorem q_walk_no (z : Pz) (h : z.Ok) (d : Z.D) (hd : pl d = true) (hs : strDB d = false) : F G (n + 3) f_is_walk [z.obj, .lst [d]] = M.pure (.bl false) := by
  simp only [p_is_walk, b_is_walk]
  simp [q_names g _ z h, q_is_list g, hd, lcA, q_one_no g, hs]
  rw [show [Z.D.bl false] = [()].map (fun _ => Z.D.bl false) from rfl, b_all]
  simp
theorem q_check (z : Pz) (h : z.Ok) (W : Z.D) (ws : List Str) (hW : SqD W (sD ws)) (hl : ws.length ≤ 1000000) (hw : ∀ w ∈ ws, w ∈ nms z) : F G (n + 4) f_check_walk [z.obj, W] = M.pure .non := by
  have := wkB_iff.mpr hw
  simp [p_check_walk, b_check_walk, q_walk_is g n z h W ws hW hl, this]
theorem q_wtext (z : Pz) (h : z.Ok) (W : Z.D) (ws : List Str) (hW : SqD W (sD ws)) (hl : ws.length ≤ 1000) (hw : ∀ w ∈ ws, w ∈ nms z) : F G (n + 5) f_walk_text [z.obj, W] = M.pure (.str (wkT ws)) := by
  have lW : biF G .list [W] = some (.lst (sD ws)) := by rcases hW with rfl | rfl <;> simp
  have wl : ∀ w ∈ ws, w.length ≤ 8 := fun w hx => by
    obtain ⟨r, hr, e⟩ := List.mem_map.mp (hw w hx)
    have := (h.rw_ r hr).1
    rw [← e]
    unfold wordB at this
    simp only [Bool.and_eq_true, decide_eq_true_eq] at this
    exact this.2
  have sl := sum_le (f := fun w : Str => w.length) wl
  have jl := join_len 32 (Str.ofString "walk" :: ws)
  have l4 : (Str.ofString "walk").length = 4 := by decide +kernel
  simp only [List.map_cons, List.sum_cons, List.length_cons, l4] at jl
  simp only [p_walk_text, b_walk_text]
  simp [q_need g, q_check g n z h W ws hW (by omega) hw, lW]
  rw [a_addL (by simp; omega)]
  simp
  rw [← sD_cons, join_L (by simp only [List.map_cons, List.sum_cons, List.length_cons, len_one, l4]; omega), M.of_some, M.bind_pure, a_addS (by simp only [len_one]; omega)]
  rfl
theorem q_stext (z : Pz) (h : z.Ok) (T W : Z.D) (nd : Str) (ws : List Str) (hT : SqD T [.str nd, W]) (hW : SqD W (sD ws)) (hb : setB z nd ws = true) : F G (n + 7) f_setting_text [z.obj, T] = M.pure (.str (atT nd ws)) := by
  unfold setB at hb
  simp only [Bool.and_eq_true, decide_eq_true_eq] at hb
  obtain ⟨⟨b1, b2⟩, b3⟩ := hb
  obtain ⟨_, b4, _⟩ := goodB_iff.mp b2
  have w8 : ∀ w : Str, wordB w = true → w.length ≤ 8 := fun w hw => by
    unfold wordB at hw
    simp only [Bool.and_eq_true, decide_eq_true_eq] at hw
    exact hw.2
  have sl := sum_le (f := fun w : Str => w.length) (fun w hw => w8 w (b4 w hw))
  have nl := w8 nd (h.mw nd b1)
  have zs := h.sz.1
  have jl := join_len 32 ws
  have l1 : (Str.ofString "at ").length = 3 := by decide +kernel
  have l2 : (Str.ofString "lie ").length = 4 := by decide +kernel
  have e := q_setting_of g n z h T W nd ws hT hW (fun w hw => word_len (b4 w hw)) (by unfold setB; simp [b1, b2, b3])
  simp only [p_setting_text, b_setting_text]
  simp [e]
  rw [a_addS (by omega), M.of_some, M.bind_pure, a_addS (by simp; omega), M.of_some, M.bind_pure, a_addS (by simp; omega), M.of_some, M.bind_pure, join_L (by simp; omega), M.of_some, M.bind_pure, a_addS (by simp; omega), M.of_some, M.bind_pure, a_addS (by simp; omega)]
  rfl
theorem q_stext_bad (z : Pz) (d : Z.D) (hd : F G (n + 5) f_is_setting_of [z.obj, d] = M.pure (.bl false)) : F G (n + 7) f_setting_text [z.obj, d] = M.raise c_BadSetting [d] := by
  simp [p_setting_text, b_setting_text, p_setting_of, b_setting_of, q_need g, hd]
theorem q_wtext_bad (z : Pz) (h : z.Ok) (d : Z.D) (hd : pl d = true) (hs : strDB d = false) : F G (n + 5) f_walk_text [z.obj, .lst [d]] = M.raise c_BadWalk [.lst [d]] := by
  simp [p_walk_text, b_walk_text, p_check_walk, b_check_walk, q_need g, q_walk_no g n z h d hd hs]
theorem q_rset_no (z : Pz) (d : Z.D) (hd : pl d = true) (hs : strDB d = false) : F G (n + 6) f_read_setting [z.obj, d] = M.raise c_BadSettingText [d] := by
  simp only [p_read_setting, b_read_setting]
  simp [q_need g, q_words_no g (n + 3) d 2 hd hs]
theorem q_rwalk_no (z : Pz) (d : Z.D) (hd : pl d = true) (hs : strDB d = false) : F G (n + 5) f_read_walk [z.obj, d] = M.raise c_BadWalkText [d] := by
  simp only [p_read_walk, b_read_walk]
  simp [q_need g, q_words_no g (n + 2) d 1 hd hs]
theorem q_rwalk (z : Pz) (h : z.Ok) (x : Str) (hx : x.length ≤ 900000) : F G (n + 5) f_read_walk [z.obj, .str x] = match rdW z x with
    | some ws => M.pure (.lst (sD ws))
    | none => M.raise c_BadWalkText [.str x] := by
  simp only [p_read_walk, b_read_walk]
  simp [q_need g]
  rw [show F G (n + 4) f_words_of [.str x, .int 1] = M.pure (wordsD x 1) from q_words g (n + 2) x 1 (by omega)]
  unfold rdW wordsD
  by_cases h1 : lastIs 10 x = true
  · rw [if_pos h1, h1]
    match hm : mid 10 x with
    | [] => simp
    | _ :: _ :: _ => simp
    | [l0] =>
      have z0 : l0.length ≤ 900000 := Nat.le_trans (mid_len (c := 10) (x := x) (by rw [hm]; simp)) hx
      have n0 := parts_ne 32 l0
      have sz := parts_size 32 l0
      match e0 : parts 32 l0 with
      | [] => exact absurd e0 n0
      | a :: ws =>
        rw [e0, List.length_cons] at sz
        have hq := q_walk_is g (n + 1) z h (.lst (sD ws)) ws (.inl rfl) (by omega)
        by_cases ha : a = Str.ofString "walk"
        · cases hs : wkB z ws <;> simp [rd1, e0, ha, hq, hs]
        · simp [rd1, e0, ha]
  · rw [if_neg h1]
    simp [h1]
end
end K99
namespace K99
open PySem PySem.Spec PyProof.Rows L2 Z
section
variable {G : Gx} (g : GK G) (n : Nat)
theorem q_pick {m : Int} (h : 0 < m) (h2 : m < 1073741824) : Gv 1 (F G (n + 1) f__law_pick [.reg, .int m]) fun d => ∃ i : Nat, d = .int i ∧ (i : Int) < m := by
  rw [p__law_pick]
  refine (pick_gv h h2).mono (Nat.le_refl _) fun d ⟨i, e, h1, h2⟩ => ⟨i.toNat, ?_, ?_⟩
  · rw [e, Int.toNat_of_nonneg h1]
  · omega
theorem q_between (lo hi : Nat) (h : lo ≤ hi) (h2 : hi < 1000000) : Gv 1 (F G (n + 2) f__law_between [.reg, .int lo, .int hi]) fun d => ∃ i : Nat, d = .int i ∧ lo ≤ i ∧ i ≤ hi := by
  simp only [p__law_between, b__law_between]
  simp
  refine Gv.bind (k1 := 1) (k2 := 0) (q_pick n (by split <;> omega) (by split <;> omega)) (Nat.le_refl _) fun d ⟨i, e, h1⟩ => ?_
  subst e
  refine Gv.pure ⟨lo + i, by simp, by omega, ?_⟩
  split at h1 <;> omega
theorem q_oneL (xs : List Z.D) (h0 : xs ≠ []) (h : xs.length < 1000000) : Gv 1 (F G (n + 2) f__law_one [.reg, .lst xs]) fun d => d ∈ xs := by
  have hl := List.length_pos_iff.mpr h0
  simp only [p__law_one, b__law_one]
  simp
  refine Gv.bind (k1 := 1) (k2 := 0) (q_pick n (by omega) (by omega)) (Nat.le_refl _) fun d ⟨i, e, h1⟩ => ?_
  subst e
  have hi : i < xs.length := by omega
  have e := List.getElem?_eq_getElem hi
  rw [sb_nat e]
  exact Gv.pure (List.getElem_mem hi)
theorem q_mixed (X : Z.D) (xs : List Z.D) (hX : SqD X xs) (h : xs.length < 1000000) : Gv xs.length (F G (n + 2) f__law_mixed [.reg, X]) fun d => ∃ ys, d = .lst ys ∧ ys.Perm xs := by
  have lX : biF G .list [X] = some (.lst xs) := by rcases hX with rfl | rfl <;> simp
  simp only [p__law_mixed, b__law_mixed]
  simp [lX, rng1_nat xs.length (by omega)]
  refine Gv.retSeq (k1 := 1 * xs.length) (k2 := 0) (QN := fun ρ => ∃ ys s, ρ = [.fz .reg, .fz X, .ow (.lst []), .ow (.lst ys), s] ∧ ys.Perm xs) ?_ (by omega) ?_
  · refine (GvS.rng (k := 1) (fun i ρ => ∃ (ls ys : List Z.D) (s : Sl), ρ = [.fz .reg, .fz X, .ow (.lst ls), .ow (.lst ys), s] ∧ (ys ++ ls).Perm xs ∧ ys.length = i ∧ i ≤ xs.length) ⟨xs, [], .no, rfl, List.Perm.refl _, rfl, Nat.zero_le _⟩ ?_).mono (Nat.le_refl _) ?_ (fun _ h => h)
    · rintro j hlt ρ ⟨ls, ys, s, rfl, hp, hy, hi⟩ Q hQ
      have hl := hp.length_eq
      rw [List.length_append] at hl
      refine ⟨_, rfl, ?_⟩
      simp
      refine GvS.let (k1 := 1) (k2 := 0) (q_pick n (by omega) (by omega)) (Nat.le_refl _) fun d ⟨i, e, h1⟩ => ?_
      subst e
      have hi2 : i < ls.length := by omega
      have e := List.getElem?_eq_getElem hi2
      rw [popAt_nat e (by omega)]
      simp
      rw [if_pos (by omega)]
      refine GvS.nx (hQ _ ⟨_, _, _, rfl, ?_, by simp; omega, by omega⟩)
      rw [List.append_assoc]
      exact ((List.Perm.append_left ys (by exact erase_perm e))).trans hp
    · rintro ρ ⟨ls, ys, s, rfl, hp, hy, hi⟩
      have hl := hp.length_eq
      rw [List.length_append] at hl
      have : ls = [] := List.length_eq_zero_iff.mp (by omega)
      subst this
      exact ⟨ys, s, rfl, by simpa using hp⟩
  · rintro ρ ⟨ys, s, rfl, hp⟩
    simp
    refine Gv.pure ⟨ys, rfl, hp⟩
include g
theorem q_same : ∀ (k : Nat) (d : Z.D) (n : Nat), k ≤ 60 → Pn k d → F G (n + k + 1) f__law_same [d, d] = M.pure (.bl true) := by
  intro k d n hk h
  induction h generalizing n with
  | non => simp [p__law_same, b__law_same, g.isa]
  | bl => simp [p__law_same, b__law_same, g.isa, eq_pl]
  | int => simp [p__law_same, b__law_same, g.isa]
  | str => simp [p__law_same, b__law_same, g.isa]
  | @lst k xs h1 hl ih =>
    simp only [p__law_same, b__law_same]
    simp [g.isa, eq_pl, zipD_self, hl]
    rw [lc_map (f := fun _ => Z.D.bl true) (fun a ha => by
      have := ih a ha n (by omega)
      simp [show n + (k + 1) = n + k + 1 by omega, this])]
    simp
  | @tup k xs h1 hl ih =>
    simp only [p__law_same, b__law_same]
    simp [g.isa, eq_pl, zipD_self, hl, zipF]
    rw [lc_map (f := fun _ => Z.D.bl true) (fun a ha => by
      have := ih a ha n (by omega)
      simp [show n + (k + 1) = n + k + 1 by omega, this])]
    simp
theorem q_copy : ∀ (k : Nat) (d : Z.D) (n : Nat), Pn k d → F G (n + k + 1) f__law_copy [d] = M.pure d := by
  intro k d n h
  induction h generalizing n with
  | non => simp [p__law_copy, b__law_copy, g.isa]
  | bl => simp [p__law_copy, b__law_copy, g.isa]
  | int => simp [p__law_copy, b__law_copy, g.isa]
  | str => simp [p__law_copy, b__law_copy, g.isa]
  | @lst k xs h1 hl ih =>
    simp only [p__law_copy, b__law_copy]
    simp [g.isa, hl]
    rw [lc_some (f := fun x => x) (fun a ha => by
      have := ih a ha n
      simp [show n + (k + 1) = n + k + 1 by omega, this])]
    simp
  | @tup k xs h1 hl ih =>
    simp only [p__law_copy, b__law_copy]
    simp [g.isa, hl]
    rw [lc_some (f := fun x => x) (fun a ha => by
      have := ih a ha n
      simp [show n + (k + 1) = n + k + 1 by omega, this])]
    simp
theorem q_looseS (x : Str) : F G (n + 1) f__law_loose [.reg, .str x] = M.pure (.str x) := by
  simp [p__law_loose, b__law_loose, g.isa]
theorem q_looseL (xs : List Str) (h : xs.length < 1000000) : Gv 1 (F G (n + 2) f__law_loose [.reg, .lst (sD xs)]) fun d => SqD d (sD xs) := by
  simp only [p__law_loose, b__law_loose]
  simp [g.isa]
  rw [if_pos (by omega), lc_sD (f := fun x => Z.D.str x) (fun x hx => by simp [q_looseS g])]
  simp
  refine Gv.bind (k1 := 1) (k2 := 0) (q_pick n (by omega) (by omega)) (Nat.le_refl _) fun d ⟨i, e, h1⟩ => ?_
  subst e
  simp
  split
  · exact Gv.pure (.inl rfl)
  · exact Gv.pure (.inr rfl)
end
end K99
namespace K99
open PySem PySem.Spec PyProof.Rows L2 Z
abbrev abc : Str := Str.ofString "abcdefghijklmnopqrstuvwxyz"
def sg1 (x : Str) (i : Nat) : Nat := (x.cps.toList[i]?).getD 0
def cand (k : Nat) : Str := ⟨#[sg1 (Str.ofString "qxyz") (k % 4)]⟩ ++ ⟨#[sg1 abc (k / 4 % 26)]⟩ ++ ⟨#[sg1 (Str.ofString "abcdefghij") (k / 104)]⟩
theorem cand_word : ∀ k, k < 600 → wordB (cand k) = true := by decide +kernel
theorem cand_nodup : ((List.range 40).map cand).Nodup := by decide +kernel
theorem sb_sg {x : Str} {i : Nat} (h : i < x.length) : sbF (.str x) (.int (i : Int)) = some (.str ⟨#[sg1 x i]⟩) := by
  have h : i < x.cps.toList.length := h
  refine sbS_nat ?_
  unfold sg1
  rw [List.getElem?_eq_getElem h]
  rfl
def stF (taken : List Str) : Str → Z.D → Str ⊕ Z.D := fun w d => if w ∈ taken then match d with
  | .int k => .inl (cand k.toNat)
  | _ => .inl w
  else .inr (.str w)
theorem stF_int (taken : List Str) (w : Str) (k : Nat) : stF taken w (.int (k : Nat)) = if w ∈ taken then .inl (cand k) else .inr (.str w) := (rfl)
theorem runF_inl (taken : List Str) : ∀ (ks : List Nat) (w s' : Str), runL (stF taken) w (ks.map fun k => Z.D.int (k : Nat)) = .inl s' → ∀ k ∈ ks.dropLast, cand k ∈ taken
  | [], _, _, _, k, hk => by simp at hk
  | [a], _, _, _, k, hk => by simp at hk
  | a :: b :: r, w, s', h, k, hk => by
    rw [List.map_cons, runL] at h
    rw [stF_int] at h
    by_cases hw : w ∈ taken
    · rw [if_pos hw] at h
      have ih := runF_inl taken (b :: r) (cand a) s' h
      rw [List.dropLast_cons_of_ne_nil (by simp)] at hk
      rcases List.mem_cons.mp hk with e | e
      · subst e
        have h : runL (stF taken) (cand k) (Z.D.int (b : Nat) :: r.map fun k => Z.D.int (k : Nat)) = .inl s' := h
        rw [runL, stF_int] at h
        by_cases hw2 : cand k ∈ taken
        · exact hw2
        · rw [if_neg hw2] at h
          cases h
      · exact ih k e
    · rw [if_neg hw] at h
      cases h
theorem runF_inr (taken : List Str) : ∀ (ks : List Nat) (w : Str) (v : Z.D), (∀ k ∈ ks, k < 600) → wordB w = true → runL (stF taken) w (ks.map fun k => Z.D.int (k : Nat)) = .inr v → ∃ x, v = .str x ∧ x ∉ taken ∧ wordB x = true
  | [], _, _, _, _, h => by cases h
  | a :: r, w, v, hk, hw, h => by
    rw [List.map_cons, runL] at h
    rw [stF_int] at h
    by_cases hm : w ∈ taken
    · rw [if_pos hm] at h
      exact runF_inr taken r (cand a) v (fun k hk' => hk k (List.mem_cons_of_mem _ hk')) (cand_word a (hk a List.mem_cons_self)) h
    · rw [if_neg hm] at h
      cases h
      exact ⟨w, rfl, hm, hw⟩
theorem nodup_le {α : Type} [DecidableEq α] : ∀ {xs ys : List α}, xs.Nodup → (∀ x ∈ xs, x ∈ ys) → xs.length ≤ ys.length
  | [], _, _, _ => Nat.zero_le _
  | x :: r, ys, nd, h => by
    obtain ⟨n1, n2⟩ := List.nodup_cons.mp nd
    have hx := h x List.mem_cons_self
    have := nodup_le (xs := r) (ys := ys.erase x) n2 (fun y hy => (List.mem_erase_of_ne (fun e => n1 (by rw [← e]; exact hy))).mpr (h y (List.mem_cons_of_mem _ hy)))
    rw [List.length_erase_of_mem hx] at this
    have := List.length_pos_of_mem hx
    rw [List.length_cons]
    omega
theorem runF (taken : List Str) (w : Str) (ht : taken.length < 40) (hw : wordB w = true) : ∃ x, runL (stF taken) w (rngD 0 600) = .inr (.str x) ∧ x ∉ taken ∧ wordB x = true := by
  have e0 : rngD 0 600 = (List.range 600).map fun k => Z.D.int (k : Nat) := by
    unfold rngD
    refine congrArg (fun f => List.map f (List.range 600)) (funext fun i => ?_)
    simp
  rw [e0]
  cases e : runL (stF taken) w ((List.range 600).map fun k => Z.D.int (k : Nat)) with
  | inl s' =>
    exfalso
    have h := runF_inl taken _ _ _ e
    have := nodup_le cand_nodup (ys := taken) (fun x hx => by
      obtain ⟨k, hk, rfl⟩ := List.mem_map.mp hx
      refine h k ?_
      have hk := List.mem_range.mp hk
      rw [show (List.range 600).dropLast = List.range 599 from by rw [show (600 : Nat) = 599 + 1 from rfl, List.range_succ, List.dropLast_concat]]
      exact List.mem_range.mpr (by omega))
    simp at this
    omega
  | inr v =>
    obtain ⟨x, rfl, h1, h2⟩ := runF_inr taken _ _ _ (fun k hk => List.mem_range.mp hk) hw e
    exact ⟨x, rfl, h1, h2⟩
section
variable {G : Gx} (g : GK G) (n : Nat)
theorem q_free (taken : List Str) (w : Str) (ht : taken.length < 40) (hw : wordB w = true) : ∃ x, F G (n + 1) f__law_free_word [.lst (sD taken), .str w] = M.pure (.str x) ∧ x ∉ taken ∧ wordB x = true := by
  obtain ⟨x, e, h1, h2⟩ := runF taken w ht hw
  refine ⟨x, ?_, h1, h2⟩
  simp only [p__law_free_word, b__law_free_word]
  simp [show rngF1 [.int 600] = some (rngD 0 600) from rng1_nat 600 (by omega)]
  rw [for_run (R := fun s ρ => ∃ s2, ρ = [.fz (.lst (sD taken)), .fz (.str s), s2]) (stF taken) (r := fun s => MS.rt (.str s)) (fun _ _ ⟨s2, e⟩ => by subst e; rfl) _ w _ ?_ ⟨_, rfl⟩]
  · rw [e]
    rfl
  · rintro s ρ d hd ⟨s2, rfl⟩
    obtain ⟨j, hj⟩ := List.getElem?_of_mem hd
    obtain ⟨rfl, hlt⟩ := rng_at hj
    refine ⟨_, rfl, ?_⟩
    rw [stF_int]
    by_cases hm : s ∈ taken
    · rw [if_pos hm]
      dsimp only
      refine ⟨[.fz (.lst (sD taken)), .fz (.str (cand j)), .fz (.int (j : Nat))], ?_, _, rfl⟩
      have l1 : (Str.ofString "qxyz").length = 4 := by decide +kernel
      have l2 : abc.length = 26 := by decide +kernel
      have l3 : (Str.ofString "abcdefghij").length = 10 := by decide +kernel
      have e1 : sbF (.str (Str.ofString "qxyz")) (.int ((j : Int) % 4)) = some (.str ⟨#[sg1 (Str.ofString "qxyz") (j % 4)]⟩) := by
        rw [← sb_sg (by rw [l1]; omega)]; rfl
      have e2 : sbF (.str abc) (.int ((j : Int) / 4 % 26)) = some (.str ⟨#[sg1 abc (j / 4 % 26)]⟩) := by
        rw [← sb_sg (by rw [l2]; omega)]; rfl
      have e3 : sbF (.str (Str.ofString "abcdefghij")) (.int ((j : Int) / 104)) = some (.str ⟨#[sg1 (Str.ofString "abcdefghij") (j / 104)]⟩) := by
        rw [← sb_sg (by rw [l3]; omega)]; rfl
      have a1 : ∀ x y : Nat, binF .Add (.str ⟨#[x]⟩) (.str ⟨#[y]⟩) = some (.str (⟨#[x]⟩ ++ ⟨#[y]⟩)) := fun x y => a_addS (by simp)
      have a2 : ∀ x y z : Nat, binF .Add (.str (⟨#[x]⟩ ++ ⟨#[y]⟩)) (.str ⟨#[z]⟩) = some (.str (⟨#[x]⟩ ++ ⟨#[y]⟩ ++ ⟨#[z]⟩)) := fun x y z => a_addS (by simp)
      simp [hm, e1, e2, e3, a1, a2]
      rfl
    · rw [if_neg hm]
      simp [hm]
theorem let_app (x y : Str) (hx : letB x = true) (hy : letB y = true) : letB (x ++ y) = true := by
  unfold letB at *
  show ((x.cps ++ y.cps).toList.all isLet) = true
  rw [Array.toList_append, List.all_append, hx, hy]
  rfl
theorem let_sg : ∀ i, i < 26 → letB ⟨#[sg1 abc i]⟩ = true := by decide +kernel
theorem let_sg2 : ∀ i, i < 2 → letB ⟨#[sg1 (Str.ofString "ab") i]⟩ = true := by decide +kernel
theorem let_sg3 : ∀ i, i < 3 → letB ⟨#[sg1 (Str.ofString "abc") i]⟩ = true := by decide +kernel
theorem q_words_ (many : Nat) (hm : many < 40) : Gv (1 + 10 * many) (F G (n + 2) f__law_words [.reg, .int many]) fun d => ∃ ws, d = .lst (sD ws) ∧ ws.length = many ∧ ws.Nodup ∧ ∀ w ∈ ws, wordB w = true := by
  have l2 : abc.length = 26 := by decide +kernel
  have l3 : (Str.ofString "ab").length = 2 := by decide +kernel
  have l4 : (Str.ofString "abc").length = 3 := by decide +kernel
  simp only [p__law_words, b__law_words]
  simp [rng1_nat many (by omega)]
  refine Gv.bind (k1 := 1) (k2 := 10 * many) (q_pick _ (by omega) (by omega)) (by omega) fun d ⟨i, e, h1⟩ => ?_
  subst e
  simp
  generalize decide (i = 0) = b
  refine Gv.retSeq (k1 := 10 * many) (k2 := 0) (QN := fun ρ => ∃ ws s1 s2 s3, ρ = [.fz .reg, .fz (.int many), .fz (.bl b), .ow (.lst (sD ws)), s1, s2, s3] ∧ ws.length = many ∧ ws.Nodup ∧ ∀ w ∈ ws, wordB w = true) ?_ (Nat.le_refl _) ?_
  · refine GvS.rng (k := 10) (fun j ρ => ∃ ws s1 s2 s3, ρ = [.fz .reg, .fz (.int many), .fz (.bl b), .ow (.lst (sD ws)), s1, s2, s3] ∧ ws.length = j ∧ ws.Nodup ∧ ∀ w ∈ ws, wordB w = true) ⟨[], _, _, _, rfl, rfl, List.nodup_nil, by simp⟩ ?_
    rintro j hj ρ ⟨ws, s1, s2, s3, rfl, hl, nd, hw⟩ Q hQ
    refine ⟨_, rfl, ?_⟩
    cases b
    · simp
      refine GvS.let (k1 := 1) (k2 := 9) (q_pick n (by omega) (by omega)) (by omega) fun d ⟨a, e, ha⟩ => ?_
      subst e
      rw [sb_sg (x := abc) (by rw [l2]; omega), M.of_some, MS.let_pure]
      refine GvS.let (k1 := 1) (k2 := 8) (q_pick n (by omega) (by omega)) (by omega) fun d ⟨m, e, hm⟩ => ?_
      subst e
      rw [rng1_nat m (by omega), M.of_some, MS.let_pure]
      refine GvS.seq (k1 := 1 * m) (k2 := 0) (GvS.rng (k := 1) (fun t ρ => ∃ w s, ρ = [.fz .reg, .fz (.int many), .fz (.bl false), .ow (.lst (sD ws)), .fz (.int (j : Nat)), .fz (.str w), s] ∧ letB w = true ∧ w.length = 1 + t) ⟨_, _, rfl, let_sg a (by omega), rfl⟩ ?_) (by omega) ?_
      · rintro t ht ρ ⟨w, s, rfl, w1, w2⟩ Q' hQ'
        refine ⟨_, rfl, ?_⟩
        simp
        refine GvS.let (k1 := 1) (k2 := 0) (q_pick n (by omega) (by omega)) (by omega) fun d ⟨c, e, hc⟩ => ?_
        subst e
        rw [sb_sg (x := abc) (by rw [l2]; omega), M.of_some, MS.let_pure, a_addS (by rw [w2]; simp; omega), M.of_some, MS.let_pure]
        exact GvS.nx (hQ' _ ⟨_, _, rfl, let_app _ _ w1 (let_sg c (by omega)), by rw [len_app, w2]; rfl⟩)
      · rintro ρ ⟨w, s, rfl, w1, w2⟩
        have ww : wordB w = true := by unfold wordB; simp [w1, w2]; omega
        obtain ⟨x, ex, x1, x2⟩ := q_free (G := G) n ws w (by omega) ww
        simp [ex]
        rw [if_pos (by omega)]
        exact GvS.nx (hQ _ ⟨ws ++ [x], _, _, _, rfl, by simp [hl], List.nodup_append.mpr ⟨nd, by simp, fun a ha b hb => by simp at hb; subst hb; exact fun e => x1 (by rw [← e]; exact ha)⟩, fun y hy => by
          rcases List.mem_append.mp hy with h | h
          · exact hw y h
          · rw [List.mem_singleton.mp h]; exact x2⟩)
    · simp
      refine GvS.let (k1 := 1) (k2 := 9) (q_pick n (by omega) (by omega)) (by omega) fun d ⟨a, e, ha⟩ => ?_
      subst e
      rw [sb_sg (by rw [l3]; omega), M.of_some, MS.let_pure]
      refine GvS.let (k1 := 1) (k2 := 8) (q_pick n (by omega) (by omega)) (by omega) fun d ⟨m, e, hm⟩ => ?_
      subst e
      rw [rng1_nat m (by omega), M.of_some, MS.let_pure]
      refine GvS.seq (k1 := 1 * m) (k2 := 0) (GvS.rng (k := 1) (fun t ρ => ∃ w s, ρ = [.fz .reg, .fz (.int many), .fz (.bl true), .ow (.lst (sD ws)), .fz (.int (j : Nat)), .fz (.str w), s] ∧ letB w = true ∧ w.length = 1 + t) ⟨_, _, rfl, let_sg2 a (by omega), rfl⟩ ?_) (by omega) ?_
      · rintro t ht ρ ⟨w, s, rfl, w1, w2⟩ Q' hQ'
        refine ⟨_, rfl, ?_⟩
        simp
        refine GvS.let (k1 := 1) (k2 := 0) (q_pick n (by omega) (by omega)) (by omega) fun d ⟨c, e, hc⟩ => ?_
        subst e
        rw [sb_sg (by rw [l4]; omega), M.of_some, MS.let_pure, a_addS (by rw [w2]; simp; omega), M.of_some, MS.let_pure]
        exact GvS.nx (hQ' _ ⟨_, _, rfl, let_app _ _ w1 (let_sg3 c (by omega)), by rw [len_app, w2]; rfl⟩)
      · rintro ρ ⟨w, s, rfl, w1, w2⟩
        have ww : wordB w = true := by unfold wordB; simp [w1, w2]; omega
        obtain ⟨x, ex, x1, x2⟩ := q_free (G := G) n ws w (by omega) ww
        simp [ex]
        rw [if_pos (by omega)]
        exact GvS.nx (hQ _ ⟨ws ++ [x], _, _, _, rfl, by simp [hl], List.nodup_append.mpr ⟨nd, by simp, fun a ha b hb => by simp at hb; subst hb; exact fun e => x1 (by rw [← e]; exact ha)⟩, fun y hy => by
          rcases List.mem_append.mp hy with h | h
          · exact hw y h
          · rw [List.mem_singleton.mp h]; exact x2⟩)
  · rintro ρ ⟨ws, s1, s2, s3, rfl, h⟩
    simp
    exact Gv.pure ⟨ws, rfl, h⟩
end
end K99
namespace K99
open PySem PySem.Spec PyProof.Rows L2 Z
theorem perm_map {α β : Type} {f : α → β} {a b : List β} (h : a.Perm b) : ∀ xs : List α, b = xs.map f → ∃ l : List α, l.Perm xs ∧ a = l.map f := by
  induction h with
  | nil => intro xs e; exact ⟨[], by rw [List.map_eq_nil_iff.mp e.symm], rfl⟩
  | @cons x l1 l2 h ih =>
    intro xs e
    cases xs with
    | nil => cases e
    | cons y r =>
      rw [List.map_cons] at e
      injection e with e1 e2
      obtain ⟨l, hl, e3⟩ := ih r e2
      exact ⟨y :: l, hl.cons y, by rw [List.map_cons, e1, e3]⟩
  | @swap x y l =>
    intro xs e
    match xs, e with
    | a :: b :: r, e =>
      simp only [List.map_cons, List.cons.injEq] at e
      obtain ⟨e1, e2, e3⟩ := e
      exact ⟨b :: a :: r, List.Perm.swap a b r, by rw [List.map_cons, List.map_cons, e1, e2, e3]⟩
  | trans h1 h2 ih1 ih2 =>
    intro xs e
    obtain ⟨l, hl, e2⟩ := ih2 xs e
    obtain ⟨l', hl', e3⟩ := ih1 l e2
    exact ⟨l', hl'.trans hl, e3⟩
theorem cut_mid (xs : List Z.D) {a b : Nat} (h : a ≤ b) (hb : b ≤ xs.length) : Z.cutD xs (some (a : Int)) (some (b : Int)) = (xs.drop a).take (b - a) := by
  unfold Z.cutD
  rw [HT.sIx_nat, HT.sIx_nat, Nat.min_eq_left hb, Nat.min_eq_left (by omega)]
theorem s_mid (xs : List Z.D) {a b : Nat} (h : a ≤ b) (hb : b ≤ xs.length) : slF (.lst xs) (some (a : Int)) (some (b : Int)) = some (.lst ((xs.drop a).take (b - a))) := by rw [slF, cut_mid xs h hb]
theorem s_from (xs : List Z.D) (k : Nat) : slF (.lst xs) (some (k : Int)) none = some (.lst (xs.drop k)) := by rw [slF, cut_from]
theorem pn_raw (z : Pz) (h : z.Ok) : Pn 5 z.raw := by
  refine .lst (fun x hx => ?_) (by simp)
  simp only [List.mem_cons, List.not_mem_nil, or_false] at hx
  rcases hx with rfl | rfl | rfl
  · exact .sD (by have := h.sz.1; omega)
  · exact .sD (by have := h.sz.2.1; omega)
  · refine .lst (fun x hx => ?_) (by rw [List.length_map]; have := h.sz.2.2; omega)
    obtain ⟨r, hr, rfl⟩ := List.mem_map.mp hx
    refine .tup (fun x hx => ?_) (by simp)
    simp only [List.mem_cons, List.not_mem_nil, or_false] at hx
    rcases hx with rfl | rfl | rfl | rfl
    · exact .str
    · exact .str
    · exact .str
    · refine .lst (fun x hx => ?_) (by rw [List.length_map]; have := (h.rw_ r hr).2.2.2.2.1; omega)
      obtain ⟨y, hy, rfl⟩ := List.mem_map.mp hx
      exact .sD (by have := (h.rw_ r hr).2.2.2.2.2 y hy; omega)
section
variable {G : Gx} (g : GK G) (n : Nat)
include g in
theorem q_puzzle_of (z : Pz) (h : z.Ok) : F G (n + 12) f__law_puzzle_of [z.raw] = M.pure z.obj := by
  simp only [p__law_puzzle_of, b__law_puzzle_of]
  have e1 := q_copy g 5 z.raw (n + 5) (pn_raw z h)
  have e2 := q_init g (n + 4) z h
  simp [e1, e2]
theorem q_srings (ps : List Str) (nd : ps.Nodup) (hl : ps.length < 1000) : Gv (ps.length + 3) (F G (n + 3) f__law_some_rings [.reg, .lst (sD ps)]) fun d => ∃ rs, d = rgD rs ∧ rgOk ps rs ∧ rs.length ≤ 2 ∧ ∀ r ∈ rs, r.length ≤ 4 := by
  simp only [p__law_some_rings, b__law_some_rings]
  simp
  have hm := q_mixed (G := G) n (.lst (sD ps)) (sD ps) (.inl rfl) (by rw [sD_len]; omega)
  rw [sD_len] at hm
  refine Gv.bind (k1 := ps.length) (k2 := 3) hm (by omega) fun d ⟨ys, e, hp⟩ => ?_
  subst e
  obtain ⟨left, hp2, rfl⟩ := perm_map hp ps rfl
  refine Gv.bind (k1 := 1) (k2 := 2) (q_oneL n _ (by simp) (by simp)) (by omega) fun d hd => ?_
  obtain ⟨m, rfl, hm2⟩ : ∃ m : Nat, d = .int m ∧ m ≤ 2 := by
    simp only [List.mem_cons, List.not_mem_nil, or_false] at hd
    rcases hd with rfl | rfl | rfl | rfl | rfl | rfl
    · exact ⟨0, rfl, by omega⟩
    · exact ⟨1, rfl, by omega⟩
    · exact ⟨1, rfl, by omega⟩
    · exact ⟨1, rfl, by omega⟩
    · exact ⟨1, rfl, by omega⟩
    · exact ⟨2, rfl, by omega⟩
  rw [rng1_nat m (by omega), M.of_some, M.bind_pure]
  refine Gv.retSeq (k1 := 1 * m) (k2 := 0) (GvS.rng (k := 1) (fun j ρ => ∃ (rs : List (List Str)) (left : List Str) (s1 s2 : Sl), ρ = [.fz .reg, .fz (.lst (sD ps)), .fz (.lst (sD left)), .ow (rgD rs), s1, s2] ∧ (rs.flatten ++ left).Nodup ∧ (∀ x ∈ rs.flatten ++ left, x ∈ ps) ∧ rs.length ≤ j ∧ ∀ r ∈ rs, 2 ≤ r.length ∧ r.length ≤ 4) ⟨[], left, _, _, rfl, by simpa using hp2.nodup_iff.mpr nd, fun x hx => hp2.mem_iff.mp (by simpa using hx), Nat.le_refl _, by simp⟩ ?_) (by omega) ?_
  · rintro j hj ρ ⟨rs, left, s1, s2, rfl, h1, h2, h3, h4⟩ Q hQ
    refine ⟨_, rfl, ?_⟩
    simp
    refine GvS.let (k1 := 1) (k2 := 0) (q_pick (n + 1) (by omega) (by omega)) (by omega) fun d ⟨c, e, hc⟩ => ?_
    subst e
    by_cases h5 : 2 ≤ left.length
    · have e1 : (2 : Int) + (c : Int) = ((2 + c : Nat) : Int) := by omega
      simp [show (2 : Int) ≤ left.length by omega]
      rw [e1, s_toI, M.of_some, MS.let_pure, if_pos (by omega), s_from]
      simp
      refine GvS.nx (hQ _ ⟨rs ++ [left.take (2 + c)], left.drop (2 + c), .fz (.int (j : Nat)), .fz (.int (2 + (c : Int))), by simp, ?_, ?_, by simp; omega, ?_⟩)
      · simp [h1]
      · intro x hx
        simp at hx
        exact h2 x (by simpa using hx)
      · intro r hr
        rcases List.mem_append.mp hr with hr | hr
        · exact h4 r hr
        · rw [List.mem_singleton.mp hr, List.length_take]
          omega
    · simp [show ¬ (2 : Int) ≤ left.length by omega]
      exact GvS.nx (hQ _ ⟨rs, left, _, _, rfl, h1, h2, by omega, h4⟩)
  · rintro ρ ⟨rs, left, s1, s2, rfl, h1, h2, h3, h4⟩
    simp
    refine Gv.pure ⟨rs, rfl, ⟨(List.nodup_append.mp h1).1, fun r hr => ⟨(h4 r hr).1, fun x hx => h2 x (List.mem_append_left _ (List.mem_flatten.mpr ⟨r, hr, hx⟩))⟩⟩, by omega, fun r hr => (h4 r hr).2⟩
end
end K99
namespace K99
open PySem PySem.Spec PyProof.Rows L2 Z
structure RwOk (ms ps : List Str) (r : Rw) : Prop where
  st : r.st ∈ ms
  en : r.en ∈ ms
  rg : rgOk ps r.rs
  l1 : r.rs.length ≤ 2
  l2 : ∀ x ∈ r.rs, x.length ≤ 4
structure RsOk (ms ps names : List Str) (R : List Rw) : Prop where
  nm : R.map (·.nm) = names.take R.length
  ok : ∀ r ∈ R, RwOk ms ps r
theorem RsOk.snoc {ms ps names : List Str} {R : List Rw} {r : Rw} (h : RsOk ms ps names R) (hr : RwOk ms ps r) (hn : names[R.length]? = some r.nm) : RsOk ms ps names (R ++ [r]) := by
  refine ⟨?_, fun x hx => ?_⟩
  · rw [List.map_append, h.nm, List.length_append, List.length_singleton, List.take_add_one, hn]
    rfl
  · rcases List.mem_append.mp hx with hx | hx
    · exact h.ok x hx
    · rw [List.mem_singleton.mp hx]; exact hr
theorem sD_at {xs : List Str} {i : Nat} {x : Str} (h : xs[i]? = some x) : sbF (.lst (sD xs)) (.int (i : Int)) = some (.str x) := sb_nat (by rw [sD_get, h]; rfl)
def restS : Nat → Ss → Ss
  | 0, s => s
  | n + 1, .cons _ r => restS n r
  | _ + 1, s => s
section
variable {G : Gx} (g : GK G) (n : Nat)
theorem q_oneS (xs : List Str) (h0 : xs ≠ []) (h : xs.length < 1000000) : Gv 1 (F G (n + 2) f__law_one [.reg, .lst (sD xs)]) fun d => ∃ x, d = .str x ∧ x ∈ xs :=
  (q_oneL n (sD xs) (by simpa using h0) (by rw [sD_len]; exact h)).mono (Nat.le_refl _) fun d hd => by
    obtain ⟨x, hx, rfl⟩ := mem_sD.mp hd
    exact ⟨x, rfl, hx⟩
theorem q_mixedS (X : Z.D) (xs : List Str) (hX : SqD X (sD xs)) (h : xs.length < 1000000) : Gv xs.length (F G (n + 2) f__law_mixed [.reg, X]) fun d => ∃ ys, d = .lst (sD ys) ∧ ys.Perm xs := by
  have := q_mixed (G := G) n X (sD xs) hX (by rw [sD_len]; exact h)
  rw [sD_len] at this
  refine this.mono (Nat.le_refl _) fun d ⟨ys, e, hp⟩ => ?_
  obtain ⟨l, hl, e2⟩ := perm_map hp xs rfl
  exact ⟨l, by rw [e, e2]; rfl, hl⟩
theorem mk_tail (most : Nat) (ps ms names : List Str) (W RN : Z.D) (s1 s2 : Sl) (R : List Rw) (ps0 : ps ≠ []) (psl : ps.length ≤ 5) (ms0 : ms ≠ []) (msl : ms.length ≤ 3) (nl : names.length = 7) (ps2 : ps.Nodup) (ms2 : ms.Nodup) (nm2 : names.Nodup) (ps3 : ∀ w ∈ ps, wordB w = true) (ms3 : ∀ w ∈ ms, wordB w = true) (nm3 : ∀ w ∈ names, wordB w = true) (hR : RsOk ms ps names R) (hl : R.length ≤ 3) :
    Gv 90 (retM ((restS 6 b__law_make_puzzle).den G T (F G (n + 3)) [.fz .reg, .fz (.int most), .fz (.int 3), .fz (.int 4), .fz W, .fz (.lst (sD ps)), .fz (.lst (sD ms)), .fz (.lst (sD names)), .ow (.lst (R.map rwD)), .fz RN, s1, s2])) fun d => ∃ z : Pz, z.Ok ∧ d = z.raw ∧ z.ps.length ≤ 5 ∧ z.ms.length ≤ 3 ∧ z.rows.length ≤ 7 := by
  simp only [restS, b__law_make_puzzle]
  simp
  refine Gv.bind (k1 := 1) (k2 := 89) (q_pick (n + 2) (by omega) (by omega)) (by omega) fun d ⟨m, e, hm⟩ => ?_
  subst e
  rw [rng1_nat m (by omega), M.of_some, M.bind_pure]
  refine Gv.retSeq (k1 := 10 * m) (k2 := 7) (GvS.rng (k := 10) (fun j ρ => ∃ (R : List Rw) (s2 : Sl), ρ = [.fz .reg, .fz (.int most), .fz (.int 3), .fz (.int 4), .fz W, .fz (.lst (sD ps)), .fz (.lst (sD ms)), .fz (.lst (sD names)), .ow (.lst (R.map rwD)), .fz RN, s1, s2] ∧ RsOk ms ps names R ∧ R.length ≤ 3 + j) ⟨R, _, rfl, hR, hl⟩ ?_) (by omega) ?_
  · rintro j hj ρ ⟨R, s2, rfl, hR, hl⟩ Q hQ
    refine ⟨_, rfl, ?_⟩
    simp
    have hi : R.length < names.length := by omega
    have e1 := List.getElem?_eq_getElem hi
    rw [sD_at e1]
    simp
    refine GvS.let (k1 := 1) (k2 := 9) (q_oneS (n + 1) ms ms0 (by omega)) (by omega) fun d ⟨a, e, ha⟩ => ?_
    subst e
    refine GvS.let (k1 := 1) (k2 := 8) (q_oneS (n + 1) ms ms0 (by omega)) (by omega) fun d ⟨b, e, hb⟩ => ?_
    subst e
    refine GvS.let (k1 := ps.length + 3) (k2 := 0) (q_srings n ps ps2 (by omega)) (by omega) fun d ⟨rs, e, r1, r2, r3⟩ => ?_
    subst e
    rw [if_pos (by omega)]
    exact GvS.nx (hQ _ ⟨R ++ [⟨names[R.length]'hi, a, b, rs⟩], _, by rw [List.map_append]; rfl, hR.snoc ⟨ha, hb, r1, r2, r3⟩ e1, by simp; omega⟩)
  · rintro ρ ⟨R, s2, rfl, hR, hl⟩
    simp
    have hm := q_mixed (G := G) (n + 1) (.lst (R.map rwD)) (R.map rwD) (.inl rfl) (by rw [List.length_map]; omega)
    rw [List.length_map] at hm
    refine Gv.bind (k1 := R.length) (k2 := 0) hm (by omega) fun d ⟨ys, e, hp⟩ => ?_
    subst e
    obtain ⟨R2, hp2, rfl⟩ := perm_map hp R rfl
    have rl := hp2.length_eq
    refine Gv.pure ⟨⟨ps, ms, R2⟩, ⟨ps0, ps3, ps2, ms0, ms3, ms2, fun r hr => ?_, ?_, by show ps.length ≤ 1000; omega, by show ms.length ≤ 1000; omega, by show R2.length ≤ 1000; omega⟩, rfl, psl, msl, by show R2.length ≤ 7; omega⟩
    · have hr := hp2.mem_iff.mp hr
      have ho := hR.ok r hr
      refine ⟨nm3 _ ?_, ho.st, ho.en, ho.rg, by have := ho.l1; omega, fun x hx => by have := ho.l2 x hx; omega⟩
      have : r.nm ∈ R.map (·.nm) := List.mem_map.mpr ⟨r, hr, rfl⟩
      rw [hR.nm] at this
      exact List.mem_of_mem_take this
    · refine (hp2.map (·.nm)).nodup_iff.mpr ?_
      rw [hR.nm]
      exact (List.take_sublist _ _).nodup nm2
theorem q_make (most : Nat) (h1 : 1 ≤ most) (h5 : most ≤ 5) : Gv 300 (F G (n + 4) f__law_make_puzzle [.reg, .int most, .int 3, .int 4]) fun d => ∃ z : Pz, z.Ok ∧ d = z.raw ∧ z.ps.length ≤ 5 ∧ z.ms.length ≤ 3 ∧ z.rows.length ≤ 7 := by
  have eb : b__law_make_puzzle = .cons _ (.cons _ (.cons _ (.cons _ (.cons _ (.cons _ (restS 6 b__law_make_puzzle)))))) := rfl
  rw [p__law_make_puzzle, eb]
  clear eb
  simp
  have e1 : (most : Int) + 3 + 4 + 3 = ((most + 10 : Nat) : Int) := by omega
  rw [e1]
  refine Gv.bind (k1 := 1 + 10 * (most + 10)) (k2 := 149) (q_words_ (n + 1) (most + 10) (by omega)) (by omega) fun d ⟨ws, e, hl, nd, hw⟩ => ?_
  subst e
  rw [show (1 : Int) = ((1 : Nat) : Int) from rfl]
  refine Gv.bind (k1 := 1) (k2 := 148) (q_between (n + 1) 1 most h1 (by omega)) (by omega) fun d ⟨b, e, hb1, hb2⟩ => ?_
  subst e
  simp
  refine Gv.bind (k1 := 1) (k2 := 147) (q_pick (n + 2) (by omega) (by omega)) (by omega) fun d ⟨c, e, hc⟩ => ?_
  subst e
  have e2 : (most : Int) + 1 + (c : Int) = ((most + 1 + c : Nat) : Int) := by omega
  have e3 : (most : Int) + 3 = ((most + 3 : Nat) : Int) := by omega
  simp only [a_addI, M.of_some, M.bind_pure, intD_int]
  rw [e2, s_mid _ (by omega) (by rw [sD_len]; omega)]
  simp only [e3, s_from]
  simp
  rw [show most + 1 + c - most = 1 + c by omega]
  obtain ⟨ps, hps⟩ : ∃ ps, ws.take b = ps := ⟨_, rfl⟩
  obtain ⟨ms, hms⟩ : ∃ ms, (ws.drop most).take (1 + c) = ms := ⟨_, rfl⟩
  obtain ⟨names, hnm⟩ : ∃ names, ws.drop (most + 3) = names := ⟨_, rfl⟩
  have ps1 : ps.length = b := by rw [← hps, List.length_take]; omega
  have ms1 : ms.length = 1 + c := by rw [← hms, List.length_take, List.length_drop]; omega
  have nm1 : names.length = 7 := by rw [← hnm, List.length_drop]; omega
  have ps2 : ps.Nodup := by rw [← hps]; exact (List.take_sublist _ _).nodup nd
  have ms2 : ms.Nodup := by rw [← hms]; exact ((List.take_sublist _ _).trans (List.drop_sublist _ _)).nodup nd
  have nm2 : names.Nodup := by rw [← hnm]; exact (List.drop_sublist _ _).nodup nd
  have ps3 : ∀ w ∈ ps, wordB w = true := fun w hx => hw w (by rw [← hps] at hx; exact List.mem_of_mem_take hx)
  have ms3 : ∀ w ∈ ms, wordB w = true := fun w hx => hw w (by rw [← hms] at hx; exact List.mem_of_mem_drop (List.mem_of_mem_take hx))
  have nm3 : ∀ w ∈ names, wordB w = true := fun w hx => hw w (by rw [← hnm] at hx; exact List.mem_of_mem_drop hx)
  rw [hps, hms, hnm]
  clear hps hms hnm
  refine Gv.bind (k1 := ms.length) (k2 := 144) (q_mixedS (n + 1) _ ms (.inl rfl) (by omega)) (by omega) fun d ⟨rn, e, hp⟩ => ?_
  subst e
  have rn1 := hp.length_eq
  have ps0 : ps ≠ [] := by rintro rfl; simp at ps1; omega
  have ms0 : ms ≠ [] := by rintro rfl; rw [List.length_nil] at ms1; omega
  have tl := fun W RN s1 s2 R hR hl => mk_tail (G := G) n most ps ms names W RN s1 s2 R ps0 (by omega) ms0 (by omega) nm1 ps2 ms2 nm2 ps3 ms3 nm3 hR hl
  have r0 : RsOk ms ps names [] := ⟨rfl, by simp⟩
  simp
  by_cases hr : 1 < rn.length
  · rw [if_pos (by omega)]
    refine Gv.bind (k1 := 1) (k2 := 143) (q_pick (n + 2) (by omega) (by omega)) (by omega) fun d ⟨q, e, hq⟩ => ?_
    subst e
    simp
    by_cases hq0 : 0 < q
    · rw [if_pos hq0, rng1_nat rn.length (by omega), M.of_some, M.bind_pure]
      refine Gv.retSeq (k1 := 10 * rn.length) (k2 := 90) (GvS.rng (k := 10) (fun j ρ => ∃ (R : List Rw) (s1 : Sl), ρ = [.fz .reg, .fz (.int most), .fz (.int 3), .fz (.int 4), .fz (.lst (sD ws)), .fz (.lst (sD ps)), .fz (.lst (sD ms)), .fz (.lst (sD names)), .ow (.lst (R.map rwD)), .fz (.lst (sD rn)), s1, .no] ∧ RsOk ms ps names R ∧ R.length = j) ⟨[], _, rfl, r0, rfl⟩ ?_) (by omega) ?_
      · rintro j hj ρ ⟨R, s1, rfl, hR, hl⟩ Q hQ
        refine ⟨_, rfl, ?_⟩
        simp
        have hi : R.length < names.length := by omega
        have e1 := List.getElem?_eq_getElem hi
        have hi2 : (j + 1) % rn.length < rn.length := Nat.mod_lt _ (by omega)
        have e4 := List.getElem?_eq_getElem hj
        have e5 := List.getElem?_eq_getElem hi2
        have e6 : binF .Mod (.int ((j : Int) + 1)) (.int (rn.length : Int)) = some (.int (((j + 1) % rn.length : Nat) : Int)) := by
          rw [a_mod _ _ (by omega)]
          rfl
        rw [sD_at e1, sD_at e4]
        simp
        rw [e6, M.of_some, MS.let_pure, sD_at e5]
        simp
        refine GvS.let (k1 := ps.length + 3) (k2 := 0) (q_srings n ps ps2 (by omega)) (by omega) fun d ⟨rs, e, r1, r2, r3⟩ => ?_
        subst e
        rw [if_pos (by omega)]
        exact GvS.nx (hQ _ ⟨R ++ [⟨names[R.length]'hi, rn[j]'hj, rn[(j + 1) % rn.length]'hi2, rs⟩], _, by rw [List.map_append]; rfl, hR.snoc ⟨hp.mem_iff.mp (List.getElem_mem _), hp.mem_iff.mp (List.getElem_mem _), r1, r2, r3⟩ e1, by simp [hl]⟩)
      · rintro ρ ⟨R, s1, rfl, hR, hl⟩
        exact tl _ _ _ _ R hR (by omega)
    · rw [if_neg hq0]
      exact (tl _ _ _ _ [] r0 (by simp)).mono (by omega) fun _ h => h
  · rw [if_neg (by omega)]
    exact (tl _ _ _ _ [] r0 (by simp)).mono (by omega) fun _ h => h
end
end K99
namespace K99
open PySem PySem.Spec PyProof.Rows L2 Z
theorem setB_iff {z : Pz} {nd : Str} {ws : List Str} : setB z nd ws = true ↔ nd ∈ z.ms ∧ goodB ws = true ∧ ws.length = z.ps.length := by
  unfold setB
  simp [and_assoc]
theorem goodB_of {ws : List Str} (h0 : ws ≠ []) (hw : ∀ w ∈ ws, wordB w = true) (nd : ws.Nodup) : goodB ws = true := goodB_iff.mpr ⟨h0, hw, nd⟩
def dupAt (ws : List Str) (i : Nat) : Bool := match ws[i]? with
  | some w => decide (w ∈ ws.take i)
  | none => false
theorem nodup_all (ws : List Str) : decide ws.Nodup = (List.range ws.length).all fun i => !dupAt ws i := by
  rw [Bool.eq_iff_iff, decide_eq_true_eq, List.all_eq_true]
  constructor
  · intro nd i hi
    have hi := List.mem_range.mp hi
    have e := List.getElem?_eq_getElem hi
    unfold dupAt
    rw [e]
    simp only [Bool.not_eq_true', decide_eq_false_iff_not]
    exact nodup_at nd e
  · intro h
    refine List.pairwise_iff_getElem.mpr fun i j hi hj hij e => ?_
    have := h j (List.mem_range.mpr hj)
    unfold dupAt at this
    rw [List.getElem?_eq_getElem hj] at this
    simp only [Bool.not_eq_true', decide_eq_false_iff_not] at this
    refine this ?_
    rw [← e, List.mem_take_iff_getElem]
    exact ⟨i, by omega, rfl⟩
section
variable {G : Gx} (g : GK G) (n : Nat)
theorem q_any (z : Pz) (h : z.Ok) (h5 : z.ps.length ≤ 5) (h3 : z.ms.length ≤ 3) : Gv 100 (F G (n + 3) f__law_any_setting [.reg, z.raw]) fun d => ∃ nd ws, d = .tup [.str nd, .lst (sD ws)] ∧ setB z nd ws = true := by
  simp only [p__law_any_setting, b__law_any_setting]
  simp
  have fin : ∀ ws : List Str, ws ≠ [] → (∀ w ∈ ws, wordB w = true) → ws.Nodup → ws.length = z.ps.length → Gv 40 (M.bind (F G (n + 2) f__law_one [.reg, .lst (sD z.ms)]) fun a => M.bind (F G (n + 2) f__law_mixed [.reg, .lst (sD ws)]) fun b => M.pure (Z.D.tup [a, b])) fun d => ∃ nd ws, d = .tup [.str nd, .lst (sD ws)] ∧ setB z nd ws = true := by
    intro ws h0 hw nd hl
    refine Gv.bind (k1 := 1) (k2 := 39) (q_oneS n z.ms h.m0 (by omega)) (by omega) fun d ⟨a, e, ha⟩ => ?_
    subst e
    refine Gv.bind (k1 := ws.length) (k2 := 0) (q_mixedS n _ ws (.inl rfl) (by omega)) (by omega) fun d ⟨ys, e, hp⟩ => ?_
    subst e
    refine Gv.pure ⟨a, ys, rfl, setB_iff.mpr ⟨ha, goodB_of ?_ (fun w hx => hw w (hp.mem_iff.mp hx)) (hp.nodup_iff.mpr nd), by rw [hp.length_eq, hl]⟩⟩
    rintro rfl
    exact h0 (List.length_eq_zero_iff.mp (by rw [← hp.length_eq]; rfl))
  refine Gv.bind (k1 := 1) (k2 := 99) (q_pick (n + 1) (by omega) (by omega)) (by omega) fun d ⟨c, e, hc⟩ => ?_
  subst e
  simp
  split
  · exact (fin z.ps h.p0 h.pw h.pn rfl).mono (by omega) fun _ h => h
  · refine Gv.bind (k1 := 1 + 10 * z.ps.length) (k2 := 40) (q_words_ n z.ps.length (by omega)) (by omega) fun d ⟨ws, e, hl, nd, hw⟩ => ?_
    subst e
    refine fin ws ?_ hw nd hl
    rintro rfl
    exact h.p0 (List.length_eq_zero_iff.mp (by rw [← hl]; rfl))
include g
theorem q_is1 (ws : List Str) (x : Str) : F G (n + 1) f__law_is_one [.lst (sD ws), .str x] = M.pure (.bl (decide (x ∈ ws))) := by
  simp [p__law_is_one, b__law_is_one, g.isa]
theorem q_sright (z : Pz) (h : z.Ok) (nd : Str) (ws : List Str) (hl : ws.length ≤ 1000000) (hs : ∀ w ∈ ws, w.length ≤ 1000000) : F G (n + 2) f__law_setting_right [z.raw, .tup [.str nd, .lst (sD ws)]] = M.pure (.bl (setB z nd ws)) := by
  simp only [p__law_setting_right, b__law_setting_right]
  simp [g.isa, q_is1 g]
  unfold setB
  by_cases h1 : nd ∈ z.ms
  · simp [h1]
    by_cases h2 : ws.length = z.ps.length
    · have h2' : (ws.length : Int) = z.ps.length := by omega
      simp [h2, h2']
      have pl : z.ps.length ≤ 1000 := h.sz.1
      have ne : ws ≠ [] := by
        rintro rfl
        exact h.p0 (List.length_eq_zero_iff.mp (by rw [← h2]; rfl))
      have eg : goodB ws = (ws.all wordB && decide ws.Nodup) := by
        rw [Bool.eq_iff_iff, goodB_iff, Bool.and_eq_true, List.all_eq_true, decide_eq_true_eq]
        exact ⟨fun h => h.2, fun h => ⟨ne, h⟩⟩
      have rg : rngD 0 z.ps.length = (List.range z.ps.length).map fun i => Z.D.int (i : Nat) := by
        unfold rngD
        refine congrArg (fun f => List.map f (List.range z.ps.length)) (funext fun i => ?_)
        simp
      rw [if_pos (by omega), lc_sD (f := fun w => Z.D.bl (wordB w)) (fun w hw => by
        have sz := hs w hw
        have sz' : w.cps.toList.length ≤ 16777216 := by
          have : w.cps.toList.length = w.length := rfl
          omega
        simp [g.isa]
        unfold wordB
        by_cases a1 : 1 ≤ w.length
        · by_cases a2 : w.length ≤ 8
          · simp [show (1 : Int) ≤ w.length by omega, show (w.length : Int) ≤ 8 by omega, show 0 < w.length by omega, a2, signs_map]
            rw [if_pos (by simpa using sz'), lc_map (f := fun c => Z.D.bl (isLet c)) (fun c _ => by simp [isLet])]
            simp [letB]
          · simp [show (1 : Int) ≤ w.length by omega, show ¬ (w.length : Int) ≤ 8 by omega, a2]
        · simp [show ¬ (1 : Int) ≤ w.length by omega, show ¬ 0 < w.length by omega])]
      rw [M.bind_pure, List.nil_append, b_all, eg]
      simp
      by_cases ha : ∀ x ∈ ws, wordB x = true
      · have ha' : ws.all wordB = true := List.all_eq_true.mpr ha
        have ex : ¬ ∃ x, x ∈ ws ∧ wordB x = false := by
          rintro ⟨x, hx, hf⟩
          rw [ha x hx] at hf
          cases hf
        rw [if_neg ex, rng1_nat z.ps.length (by omega), M.of_some, M.bind_pure, rg, if_pos (by simp; omega), lc_map (f := fun i => Z.D.bl (!dupAt ws i)) (fun i hi => by
          have hi := List.mem_range.mp hi
          have e := List.getElem?_eq_getElem (show i < ws.length by omega)
          simp [sD_at e, dupAt, e])]
        rw [M.bind_pure, List.nil_append, b_all, ← h2, ← nodup_all, ha']
        rfl
      · have ex : ∃ x, x ∈ ws ∧ wordB x = false := by
          simpa using ha
        rw [if_pos ex, show ws.all wordB = false from by rw [← Bool.not_eq_true, List.all_eq_true]; exact ha]
        rfl
    · have h2' : ¬ (ws.length : Int) = z.ps.length := by omega
      simp [h2, h2']
  · simp [h1]
theorem q_iswalk (z : Pz) (h : z.Ok) (ws : List Str) (hl : ws.length ≤ 1000000) : F G (n + 2) f__law_is_walk [z.raw, .lst (sD ws)] = M.pure (.bl (wkB z ws)) := by
  simp only [p__law_is_walk, b__law_is_walk]
  simp [g.isa]
  rw [if_pos (by omega), lc_sD (f := fun w => Z.D.bl (decide (w ∈ nms z))) (fun w hw => by
    simp
    rw [if_pos (by have := h.sz.2.2; omega), lc_map (g := rwD) (f := fun r : Rw => Z.D.str r.nm) (fun r hr => by simp)]
    simp
    have e : z.rows.map (fun r : Rw => Z.D.str r.nm) = sD (nms z) := by unfold nms sD; rw [List.map_map]; rfl
    rw [e, q_is1 g]
    rfl)]
  rw [M.bind_pure, List.nil_append, b_all]
  simp [wkB]
end
end K99
namespace K99
open PySem PySem.Spec PyProof.Rows L2 Z
theorem empty_eq : Str.ofString "" = ⟨#[]⟩ := by decide +kernel
/-- the last part is empty just if the text ends with the sign, where there are more parts than one -/
theorem last_one {c : Nat} {x : Str} (h : 2 ≤ (parts c x).length) : (parts c x).getLast? = some ⟨#[]⟩ ↔ lastIs c x = true := by
  rw [parts_last]
  constructor
  · rintro (e | e)
    · exfalso
      have : (parts c x).length ≤ x.length + 1 := parts_size c x
      have e : x.length = 0 := by show x.cps.toList.length = 0; rw [e]; rfl
      omega
    · exact e
  · exact .inr
theorem rdS_no (z : Pz) (x : Str) (h : ¬ (mid 10 x).length = 2) : rdS z x = none := by
  unfold rdS
  split
  · split
    · rename_i e
      rw [e] at h
      exact absurd rfl h
    · rfl
  · rfl
theorem rdW_no (z : Pz) (x : Str) (h : ¬ (mid 10 x).length = 1) : rdW z x = none := by
  unfold rdW
  split
  · split
    · rename_i e
      rw [e] at h
      exact absurd rfl h
    · rfl
  · rfl
section
variable {G : Gx} (g : GK G) (n : Nat)
include g
theorem q_lrs (z : Pz) (h : z.Ok) (x : Str) (hx : x.length ≤ 900000) : F G (n + 3) f__law_read_setting [z.raw, .str x] = M.pure (match rdS z x with
    | some (nd, ws) => .tup [.str nd, .lst (sD ws)]
    | none => .non) := by
  simp only [p__law_read_setting, b__law_read_setting]
  simp [g.isa, split_one (c := 10) (by decide) (show x.length ≤ 1000000 by omega)]
  unfold rdS
  obtain ⟨l, e1, e2⟩ := parts_mid 10 x
  have hp : (parts 10 x).length = (mid 10 x).length + 1 := by rw [e1]; simp
  by_cases h3 : (mid 10 x).length = 2
  · match hm : mid 10 x, h3 with
    | [l0, l1], _ =>
      have h2 : 2 ≤ (parts 10 x).length := by rw [hp, hm]; simp
      have hl := last_one h2
      rw [e2] at hl
      rw [hm] at e1
      rw [e1]
      have z0 : l0.length ≤ 900000 := Nat.le_trans (mid_len (c := 10) (x := x) (by rw [hm]; simp)) hx
      have z1 : l1.length ≤ 900000 := Nat.le_trans (mid_len (c := 10) (x := x) (by rw [hm]; simp)) hx
      by_cases hk : lastIs 10 x = true
      · have hl := hl.mpr hk
        simp only [Option.some.injEq] at hl
        subst hl
        have n0 := parts_ne 32 l0
        have n1 := parts_ne 32 l1
        have s0 := split_one (c := 32) (by decide) (show l0.length ≤ 1000000 by omega)
        have s1 := split_one (c := 32) (by decide) (show l1.length ≤ 1000000 by omega)
        have b1 : ∀ w ∈ parts 32 l1, w.length ≤ 1000000 := fun w hw => by have := parts_len hw; omega
        have p1 := parts_size 32 l1
        match q0 : parts 32 l0, q1 : parts 32 l1 with
        | [], _ => exact absurd q0 n0
        | _, [] => exact absurd q1 n1
        | [a], b :: ws => simp [hk, rd2, q0, q1, s0, s1, empty_eq]
        | a :: b :: c :: r, d :: ws =>
          have : ¬ ((r.length : Int) + 1 + 1 + 1 = 2) := by omega
          simp [hk, rd2, q0, q1, s0, s1, empty_eq, this]
        | [a, nd], b :: ws =>
          rw [q1] at b1 p1
          have hq := q_sright g n z h nd ws (by simp at p1; omega) (fun w hw => b1 w (List.mem_cons_of_mem _ hw))
          by_cases ha : a = Str.ofString "at"
          · by_cases hb : b = Str.ofString "lie"
            · cases hs : setB z nd ws <;> simp [hk, rd2, q0, q1, s0, s1, empty_eq, ha, hb, hq, hs]
            · simp [hk, rd2, q0, q1, s0, s1, empty_eq, ha, hb]
          · simp [hk, rd2, q0, q1, s0, s1, empty_eq, ha]
      · have hl : ¬ l = ⟨#[]⟩ := fun e => hk (hl.mp (by rw [e]))
        simp [hk, hl, empty_eq]
  · have : ¬ ((mid 10 x).length : Int) + 1 = 3 := by omega
    have e3 : (parts 10 x).length = (mid 10 x).length + 1 := hp
    simp [e3, this]
    have er := rdS_no z x h3
    unfold rdS at er
    rw [er]
theorem q_lrw (z : Pz) (h : z.Ok) (x : Str) (hx : x.length ≤ 900000) : F G (n + 3) f__law_read_walk [z.raw, .str x] = M.pure (match rdW z x with
    | some ws => .lst (sD ws)
    | none => .non) := by
  simp only [p__law_read_walk, b__law_read_walk]
  simp [g.isa, split_one (c := 10) (by decide) (show x.length ≤ 1000000 by omega)]
  unfold rdW
  obtain ⟨l, e1, e2⟩ := parts_mid 10 x
  have hp : (parts 10 x).length = (mid 10 x).length + 1 := by rw [e1]; simp
  by_cases h3 : (mid 10 x).length = 1
  · match hm : mid 10 x, h3 with
    | [l0], _ =>
      have h2 : 2 ≤ (parts 10 x).length := by rw [hp, hm]; simp
      have hl := last_one h2
      rw [e2] at hl
      rw [hm] at e1
      rw [e1]
      have z0 : l0.length ≤ 900000 := Nat.le_trans (mid_len (c := 10) (x := x) (by rw [hm]; simp)) hx
      by_cases hk : lastIs 10 x = true
      · have hl := hl.mpr hk
        simp only [Option.some.injEq] at hl
        subst hl
        have n0 := parts_ne 32 l0
        have s0 := split_one (c := 32) (by decide) (show l0.length ≤ 1000000 by omega)
        have p1 := parts_size 32 l0
        match q0 : parts 32 l0 with
        | [] => exact absurd q0 n0
        | a :: ws =>
          rw [q0] at p1
          have hq := q_iswalk g n z h ws (by simp at p1; omega)
          by_cases ha : a = Str.ofString "walk"
          · cases hs : wkB z ws <;> simp [hk, rd1, q0, s0, empty_eq, ha, hq, hs]
          · simp [hk, rd1, q0, s0, empty_eq, ha]
      · have hl : ¬ l = ⟨#[]⟩ := fun e => hk (hl.mp (by rw [e]))
        simp [hk, hl, empty_eq]
  · have : ¬ ((mid 10 x).length : Int) + 1 = 2 := by omega
    have e3 : (parts 10 x).length = (mid 10 x).length + 1 := hp
    simp [e3, this]
    have er := rdW_no z x h3
    unfold rdW at er
    rw [er]
theorem q_lrs_no (z : Pz) (d : Z.D) (hd : pl d = true) (hs : strDB d = false) : F G (n + 1) f__law_read_setting [z.raw, d] = M.pure .non := by
  cases d <;> first | (cases hd; done) | (cases hs; done) | simp [p__law_read_setting, b__law_read_setting, g.isa]
theorem q_lrw_no (z : Pz) (d : Z.D) (hd : pl d = true) (hs : strDB d = false) : F G (n + 1) f__law_read_walk [z.raw, d] = M.pure .non := by
  cases d <;> first | (cases hd; done) | (cases hs; done) | simp [p__law_read_walk, b__law_read_walk, g.isa]
end
end K99
namespace K99
open PySem PySem.Spec PyProof.Rows L2 Z
theorem join_ok {ws : List Str} {c : Nat} (h : ∀ w ∈ ws, w.length ≤ 500) (hl : ws.length ≤ 500) : joinF ⟨#[c]⟩ (.lst (sD ws)) = some (.str (joinD ⟨#[c]⟩ ws)) ∧ (joinD ⟨#[c]⟩ ws).length ≤ 260000 := by
  have s := sum_le (f := fun w : Str => w.length) h
  have s2 : 500 * ws.length ≤ 500 * 500 := Nat.mul_le_mul_left _ hl
  have jl := join_len c ws
  exact ⟨join_L (by simp only [len_one]; omega), by omega⟩
section
variable {G : Gx} (g : GK G) (n : Nat)
theorem q_lits (xs : List Z.D) (h0 : xs ≠ []) (h : xs.length < 1000000) (hs : ∀ d ∈ xs, ∃ y, d = .str y ∧ y.length ≤ 500) : Gv 1 (F G (n + 2) f__law_one [.reg, .lst xs]) fun d => ∃ y, d = .str y ∧ y.length ≤ 500 :=
  (q_oneL n xs h0 h).mono (Nat.le_refl _) fun d hd => hs d hd
theorem add_ok {x y : Str} (h : x.length + y.length ≤ 800000) : binF .Add (.str x) (.str y) = some (.str (x ++ y)) := a_addS (by omega)
theorem q_bent (x : Str) (h0 : 1 ≤ x.length) (h : x.length ≤ 200) : Gv 300 (F G (n + 3) f__law_bent [.reg, .str x]) fun d => ∃ y, d = .str y ∧ y.length ≤ 900000 := by
  have c1 := fun lo hi => cutS_len x lo hi
  have sp := fun lo hi => split_one (x := cutS x lo hi) (c := 32) (by decide) (by have := c1 lo hi; omega)
  simp only [p__law_bent, b__law_bent]
  simp
  refine Gv.bind (k1 := 1) (k2 := 299) (q_pick (n + 1) (by omega) (by omega)) (by omega) fun d ⟨a, e, ha⟩ => ?_
  subst e
  refine Gv.bind (k1 := 1) (k2 := 298) (q_pick (n + 1) (by omega) (by omega)) (by omega) fun d ⟨w, e, hw⟩ => ?_
  subst e
  have c2 : ∀ lo hi, ∀ y ∈ parts 32 (cutS x lo hi), y.length ≤ 500 := fun lo hi y hy => by
    have := parts_len hy
    have := c1 lo hi
    omega
  have c3 : ∀ lo hi, (parts 32 (cutS x lo hi)).length ≤ 201 := fun lo hi => by
    have := parts_size 32 (cutS x lo hi)
    have := c1 lo hi
    omega
  obtain rfl | rfl | rfl | rfl | rfl | rfl : w = 0 ∨ w = 1 ∨ w = 2 ∨ w = 3 ∨ w = 4 ∨ w = 5 := by omega
  · simp
    refine Gv.bind (k1 := 1) (k2 := 0) (q_lits (n + 1) _ (by simp) (by simp) (fun d hd => ?_)) (by omega) fun d ⟨y, e, hy⟩ => ?_
    · simp at hd
      rcases hd with rfl | rfl | rfl | rfl | rfl | rfl | rfl <;> exact ⟨_, rfl, by decide +kernel⟩
    · subst e
      have := c1 none (some (a : Int))
      have := c1 (some ((a : Int) + 1)) none
      rw [add_ok (by omega), M.of_some, M.bind_pure, add_ok (by simp; omega)]
      exact Gv.pure ⟨_, rfl, by simp; omega⟩
  · simp
    refine Gv.bind (k1 := 1) (k2 := 0) (q_lits (n + 1) _ (by simp) (by simp) (fun d hd => ?_)) (by omega) fun d ⟨y, e, hy⟩ => ?_
    · simp at hd
      rcases hd with rfl | rfl | rfl | rfl <;> exact ⟨_, rfl, by decide +kernel⟩
    · subst e
      have := c1 none (some (a : Int))
      have := c1 (some (a : Int)) none
      rw [add_ok (by omega), M.of_some, M.bind_pure, add_ok (by simp; omega)]
      exact Gv.pure ⟨_, rfl, by simp; omega⟩
  · simp
    exact Gv.pure ⟨_, rfl, by have := c1 none (some (a : Int)); omega⟩
  · simp [sp]
    have := c3 none (some (-1))
    refine Gv.bind (k1 := (parts 32 (cutS x none (some (-1)))).length) (k2 := 0) (q_mixedS (n + 1) _ _ (.inl rfl) (by omega)) (by omega) fun d ⟨ys, e, hp⟩ => ?_
    subst e
    have j := join_ok (c := 32) (ws := ys) (fun y hy => c2 _ _ y (hp.mem_iff.mp hy)) (by rw [hp.length_eq]; omega)
    simp [j.1]
    rw [add_ok (by simp; omega)]
    exact Gv.pure ⟨_, rfl, by simp; omega⟩
  · simp
    refine Gv.bind (k1 := 1) (k2 := 0) (q_lits (n + 1) _ (by simp) (by simp) (fun d hd => ?_)) (by omega) fun d ⟨y, e, hy⟩ => ?_
    · simp at hd
      rcases hd with rfl | rfl | rfl | rfl | rfl <;> exact ⟨_, rfl, by decide +kernel⟩
    · subst e
      rw [add_ok (by omega)]
      exact Gv.pure ⟨_, rfl, by simp; omega⟩
  · simp [sp]
    have h3 := c3 none (some (-1))
    have h2 := c2 none (some (-1))
    have ne := parts_ne 32 (cutS x none (some (-1)))
    generalize parts 32 (cutS x none (some (-1))) = ws at *
    have e1 : (ws.length : Int) + 1 = ((ws.length + 1 : Nat) : Int) := by omega
    rw [e1]
    refine Gv.bind (k1 := 1) (k2 := 1) (q_pick (n + 1) (by omega) (by omega)) (by omega) fun d ⟨s, e, hs⟩ => ?_
    subst e
    have lw := List.getLast?_eq_some_getLast ne
    have e2 : sbF (.lst (sD ws)) (.int (-1)) = some (.str (ws.getLast ne)) := last_of (by unfold sD; rw [List.getLast?_map, lw]; rfl)
    simp [e2]
    refine Gv.bind (k1 := 1) (k2 := 0) (q_lits (n + 1) _ (by simp) (by simp) (fun d hd => ?_)) (by omega) fun d ⟨y, e, hy⟩ => ?_
    · simp at hd
      rcases hd with rfl | rfl | rfl | rfl | rfl
      · exact ⟨_, rfl, by decide +kernel⟩
      · exact ⟨_, rfl, by decide +kernel⟩
      · exact ⟨_, rfl, by decide +kernel⟩
      · exact ⟨_, rfl, by decide +kernel⟩
      · exact ⟨_, rfl, h2 _ (List.getLast_mem ne)⟩
    · subst e
      have j := join_ok (c := 32) (ws := ws.take s ++ y :: ws.drop s) (fun v hv => by
        rcases List.mem_append.mp hv with hv | hv
        · exact h2 v (List.mem_of_mem_take hv)
        · rcases List.mem_cons.mp hv with rfl | hv
          · exact hy
          · exact h2 v (List.mem_of_mem_drop hv)) (by simp; omega)
      rw [a_addL (by simp; omega), M.of_some, M.bind_pure, s_from, M.of_some, M.bind_pure, a_addL (by simp; omega)]
      simp
      rw [j.1]
      simp
      rw [add_ok (by simp; omega)]
      exact Gv.pure ⟨_, rfl, by simp; omega⟩
include g
theorem q_errs (d : Z.D) (k : Nat) (hk : k ≤ 10) (h : Pn k d) : F G (n + k + 2) f__law_errors_asked [d] = M.pure (.bl true) := by
  have hs := q_same g k d n (by omega) h
  simp only [p__law_errors_asked, b__law_errors_asked]
  have o1 : c_BadSettingText ∈ LD.oxs := by decide
  have o2 : c_BadWalkText ∈ LD.oxs := by decide
  have x1 : c_BadSettingText ∈ T.xcs := by decide
  have x2 : c_BadWalkText ∈ T.xcs := by decide
  have x3 : Str.ofString "text" = T.xn 0 := rfl
  simp [g.isa, g.ox, hs, xfF, o1, o2, x1, x2, ← x3]
end
end K99
namespace K99
open PySem PySem.Spec PyProof.Rows L2 Z
def forBody : Ss → Ss
  | .cons (.forr _ _ _ b _) _ => b
  | s => s
/-- what is told: the law's things -/
def Th (d : Z.D) : Prop := (∃ x, d = .str x ∧ x.length ≤ 900000) ∨ (pl d = true ∧ strDB d = false ∧ Pn 2 d)
theorem Th.pn {d : Z.D} (h : Th d) : Pn 2 d := by
  rcases h with ⟨x, rfl, _⟩ | ⟨_, _, h⟩
  · exact .str
  · exact h
theorem rdS_set {z : Pz} {x nd : Str} {ws : List Str} (h : rdS z x = some (nd, ws)) : setB z nd ws = true := by
  unfold rdS at h
  split at h
  · split at h
    · unfold rd2 at h
      split at h
      · split at h
        · cases h
          rename_i e
          exact e.2.2
        · cases h
      · cases h
    · cases h
  · cases h
theorem rdW_sz {z : Pz} {x : Str} {ws : List Str} (h : rdW z x = some ws) : ws.length ≤ x.length := by
  unfold rdW at h
  split at h
  · split at h
    · rename_i l0 e
      have h1 := mid_len (c := 10) (x := x) (y := l0) (by rw [e]; simp)
      have h2 := parts_size 32 l0
      unfold rd1 at h
      split at h
      · rename_i a us e2
        split at h
        · cases h
          rw [e2, List.length_cons] at h2
          omega
        · cases h
      · cases h
    · cases h
  · cases h
section
variable {G : Gx} (g : GK G) (n : Nat)
include g
theorem t_st (x : Z.D) : told G (Str.ofString "told") cl__law_told (M.raise c_BadSettingText [x]) = M.pure (.tup [.str (Str.ofString "bad"), .str (Str.ofString "setting text"), x]) := told_raise (by simp only [tolF, cl__law_told, g.exm]; rfl)
theorem t_wt (x : Z.D) : told G (Str.ofString "told") cl__law_told (M.raise c_BadWalkText [x]) = M.pure (.tup [.str (Str.ofString "bad"), .str (Str.ofString "walk text"), x]) := told_raise (by simp only [tolF, cl__law_told, g.exm]; rfl)
theorem t_s (x : Z.D) : told G (Str.ofString "told") cl__law_told (M.raise c_BadSetting [x]) = M.pure (.tup [.str (Str.ofString "bad"), .str (Str.ofString "setting"), x]) := told_raise (by simp only [tolF, cl__law_told, g.exm]; rfl)
theorem t_w (x : Z.D) : told G (Str.ofString "told") cl__law_told (M.raise c_BadWalk [x]) = M.pure (.tup [.str (Str.ofString "bad"), .str (Str.ofString "walk"), x]) := told_raise (by simp only [tolF, cl__law_told, g.exm]; rfl)
theorem t_p (x : Z.D) : told G (Str.ofString "told") cl__law_told (M.raise c_BadPuzzle [x]) = M.pure (.tup [.str (Str.ofString "bad"), .str (Str.ofString "puzzle"), x]) := told_raise (by simp only [tolF, cl__law_told, g.exm]; rfl)
theorem q_needB (xs : List Z.D) : F G (n + 1) f_need_puzzle [.lst xs] = M.raise c_BadPuzzle [.lst xs] := by
  simp [p_need_puzzle, b_need_puzzle, g.isa]
theorem q_st_p (xs : List Z.D) : F G (n + 3) f_setting_text [.lst xs, .non] = M.raise c_BadPuzzle [.lst xs] := by
  simp [p_setting_text, b_setting_text, p_setting_of, b_setting_of, q_needB g]
theorem q_wt_p (xs : List Z.D) : F G (n + 3) f_walk_text [.lst xs, .non] = M.raise c_BadPuzzle [.lst xs] := by
  simp [p_walk_text, b_walk_text, p_check_walk, b_check_walk, q_needB g]
theorem q_rs_p (xs : List Z.D) : F G (n + 3) f_read_setting [.lst xs, .non] = M.raise c_BadPuzzle [.lst xs] := by
  simp [p_read_setting, b_read_setting, q_needB g]
theorem q_rw_p (xs : List Z.D) : F G (n + 3) f_read_walk [.lst xs, .non] = M.raise c_BadPuzzle [.lst xs] := by
  simp [p_read_walk, b_read_walk, q_needB g]
theorem q_looseT (nd : Str) (ws : List Str) (h : ws.length < 1000000) : Gv 2 (F G (n + 3) f__law_loose [.reg, .tup [.str nd, .lst (sD ws)]]) fun d => ∃ W, SqD d [.str nd, W] ∧ SqD W (sD ws) := by
  simp only [p__law_loose, b__law_loose]
  simp [g.isa, lcA, q_looseS g]
  refine Gv.bind (k1 := 1) (k2 := 1) (q_looseL g n ws h).noexc (by omega) fun W hW => ?_
  refine Gv.bind (k1 := 1) (k2 := 0) (q_pick (n + 1) (by omega) (by omega)) (by omega) fun d ⟨i, e, h1⟩ => ?_
  subst e
  simp
  split
  · exact Gv.pure ⟨W, .inl rfl, hW⟩
  · exact Gv.pure ⟨W, .inr rfl, hW⟩
end
/-! the loop over things, the loop over odd ones -/
abbrev lawB : Ss := forBody blaw
def loopT : Ss := forBody (restS 9 lawB)
def loopO : Ss := forBody (restS 10 lawB)
section
variable {G : Gx} (g : GK G)
include g
theorem sm (k : Nat) (d : Z.D) (hk : k ≤ 29) (h : Pn k d) : F G 30 f__law_same [d, d] = M.pure (.bl true) := by
  have := q_same g k d (29 - k) (by omega) h
  rw [show 29 - k + k + 1 = 30 by omega] at this
  exact this
theorem l_T (z : Pz) (h : z.Ok) (d : Z.D) (hd : Th d) (a2 a5 a6 a7 a8 a9 a10 a11 a12 a13 a15 a16 a17 a18 a19 a20 : Sl) : ∃ b15 b16 b17 b18, loopT.den G T (F G 30) [.no, .fz .reg, a2, .fz z.raw, .fz z.obj, a5, a6, a7, a8, a9, a10, a11, a12, a13, .fz d, a15, a16, a17, a18, a19, a20] = MS.nx [.no, .fz .reg, a2, .fz z.raw, .fz z.obj, a5, a6, a7, a8, a9, a10, a11, a12, a13, .fz d, b15, b16, b17, b18, a19, a20] := by
  have er : F G 30 f__law_errors_asked [d] = M.pure (.bl true) := q_errs g 26 d 2 (by omega) hd.pn
  have hpn := hd.pn
  have bad : ∀ x, F G 30 f__law_same [.tup [.str (Str.ofString "bad"), .str x, d], .tup [.str (Str.ofString "bad"), .str x, d]] = M.pure (.bl true) := fun x => sm g 3 _ (by omega) (.tup (fun y hy => by
    simp at hy
    rcases hy with rfl | rfl | rfl
    · exact .str
    · exact .str
    · exact hpn) (by simp))
  have good : ∀ d, Pn 2 d → F G 30 f__law_same [.tup [.str (Str.ofString "told"), d], .tup [.str (Str.ofString "told"), d]] = M.pure (.bl true) := fun d hd => sm g 3 _ (by omega) (.tup (fun y hy => by
    simp at hy
    rcases hy with rfl | rfl
    · exact .str
    · exact hd) (by simp))
  rcases hd with ⟨x, rfl, hx⟩ | ⟨h1, h2, h3⟩
  · have e1 : F G 30 f__law_read_setting [z.raw, .str x] = _ := q_lrs g 27 z h x hx
    have e2 : F G 30 f__law_read_walk [z.raw, .str x] = _ := q_lrw g 27 z h x hx
    have e3 : F G 30 f_read_setting [z.obj, .str x] = _ := q_rset g 24 z h x (by omega)
    have e4 : F G 30 f_read_walk [z.obj, .str x] = _ := q_rwalk g 25 z h x hx
    have g1 : ∀ nd ws, rdS z x = some (nd, ws) → Pn 2 (.tup [.str nd, .lst (sD ws)]) := fun nd ws e => .tup (fun y hy => by
      simp at hy
      rcases hy with rfl | rfl
      · exact .str
      · exact .sD (by have := (setB_iff.mp (rdS_set e)).2.2; have := h.sz.1; omega)) (by simp)
    have g2 : ∀ ws, rdW z x = some ws → Pn 2 (.lst (sD ws)) := fun ws e => .sD (by have := rdW_sz e; omega)
    simp only [loopT, lawB, restS, forBody, blaw]
    cases q1 : rdS z x with
    | none =>
      rw [q1] at e1 e3
      cases q2 : rdW z x with
      | none =>
        rw [q2] at e2 e4
        simp [e1, e2, e3, e4, er, bad, t_st g, t_wt g, ordL]
        exact ⟨_, _, _, _, rfl⟩
      | some ws =>
        rw [q2] at e2 e4
        simp [e1, e2, e3, e4, er, bad, good _ (g2 ws q2), t_st g, t_wt g, ordL]
        exact ⟨_, _, _, _, rfl⟩
    | some p =>
      obtain ⟨nd, us⟩ := p
      rw [q1] at e1 e3
      cases q2 : rdW z x with
      | none =>
        rw [q2] at e2 e4
        simp [e1, e2, e3, e4, er, bad, good _ (g1 nd us q1), t_st g, t_wt g, ordL]
        exact ⟨_, _, _, _, rfl⟩
      | some ws =>
        rw [q2] at e2 e4
        simp [e1, e2, e3, e4, er, bad, good _ (g1 nd us q1), good _ (g2 ws q2), t_st g, t_wt g, ordL]
        exact ⟨_, _, _, _, rfl⟩
  · have e1 : F G 30 f__law_read_setting [z.raw, d] = _ := q_lrs_no g 29 z d h1 h2
    have e2 : F G 30 f__law_read_walk [z.raw, d] = _ := q_lrw_no g 29 z d h1 h2
    have e3 : F G 30 f_read_setting [z.obj, d] = _ := q_rset_no g 24 z d h1 h2
    have e4 : F G 30 f_read_walk [z.obj, d] = _ := q_rwalk_no g 25 z d h1 h2
    simp only [loopT, lawB, restS, forBody, blaw]
    simp [e1, e2, e3, e4, er, bad, t_st g, t_wt g, ordL]
    exact ⟨_, _, _, _, rfl⟩
/-- what is no setting -/
structure Od (G : Gx) (z : Pz) (d : Z.D) : Prop where
  pl : pl d = true
  ns : strDB d = false
  pn : Pn 2 d
  st : F G 28 f_is_setting_of [z.obj, d] = M.pure (.bl false)
theorem l_O (z : Pz) (h : z.Ok) (d : Z.D) (hd : Od G z d) (a2 a5 a6 a7 a8 a9 a10 a11 a12 a13 a14 a15 a16 a17 a18 a20 : Sl) : ∃ b20, loopO.den G T (F G 30) [.no, .fz .reg, a2, .fz z.raw, .fz z.obj, a5, a6, a7, a8, a9, a10, a11, a12, a13, a14, a15, a16, a17, a18, .fz d, a20] = MS.nx [.no, .fz .reg, a2, .fz z.raw, .fz z.obj, a5, a6, a7, a8, a9, a10, a11, a12, a13, a14, a15, a16, a17, a18, .fz d, b20] := by
  obtain ⟨h1, h2, h3, h4⟩ := hd
  have bad : ∀ x d, Pn 3 d → F G 30 f__law_same [.tup [.str (Str.ofString "bad"), .str x, d], .tup [.str (Str.ofString "bad"), .str x, d]] = M.pure (.bl true) := fun x d hd => sm g 4 _ (by omega) (.tup (fun y hy => by
    simp at hy
    rcases hy with rfl | rfl | rfl
    · exact .str
    · exact .str
    · exact hd) (by simp))
  have p1 : Pn 3 d := h3.up 3 (by omega)
  have p2 : Pn 3 (.lst [d]) := .lst (fun y hy => by rw [List.mem_singleton.mp hy]; exact h3) (by simp)
  have e1 : F G 30 f_setting_text [z.obj, d] = _ := q_stext_bad g 23 z d h4
  have e2 : F G 30 f_walk_text [z.obj, .lst [d]] = _ := q_wtext_bad g 25 z h d h1 h2
  have e3 : F G 30 f_setting_text [.lst [d], .non] = _ := q_st_p g 27 [d]
  have e4 : F G 30 f_walk_text [.lst [d], .non] = _ := q_wt_p g 27 [d]
  have e5 : F G 30 f_read_setting [.lst [d], .non] = _ := q_rs_p g 27 [d]
  have e6 : F G 30 f_read_walk [.lst [d], .non] = _ := q_rw_p g 27 [d]
  simp only [loopO, lawB, restS, forBody, blaw]
  simp [e1, e2, e3, e4, e5, e6, bad _ _ p1, bad _ _ p2, t_s g, t_w g, t_p g, fnV]
  exact ⟨_, rfl⟩
end
end K99
namespace K99
open PySem PySem.Spec PyProof.Rows L2 Z
theorem app_assoc (x y z : Str) : (x ++ y) ++ z = x ++ (y ++ z) := by
  show Str.mk ((x.cps ++ y.cps) ++ z.cps) = Str.mk (x.cps ++ (y.cps ++ z.cps))
  rw [Array.append_assoc]
theorem nl_lie : Str.ofString "\nlie " = ⟨#[10]⟩ ++ Str.ofString "lie " := by decide +kernel
theorem w8 {w : Str} (hw : wordB w = true) : w.length ≤ 8 := by
  unfold wordB at hw
  simp only [Bool.and_eq_true, decide_eq_true_eq] at hw
  exact hw.2
theorem atT_len (z : Pz) (h : z.Ok) (h5 : z.ps.length ≤ 5) {nd : Str} {ws : List Str} (hb : setB z nd ws = true) : nd.length ≤ 8 ∧ (joinD ⟨#[32]⟩ ws).length ≤ 45 ∧ (ws.map (·.length)).sum + ws.length ≤ 45 ∧ 1 ≤ (atT nd ws).length ∧ (atT nd ws).length ≤ 80 := by
  obtain ⟨b1, b2, b3⟩ := setB_iff.mp hb
  obtain ⟨_, b4, _⟩ := goodB_iff.mp b2
  have sl := sum_le (f := fun w : Str => w.length) (fun w hw => w8 (b4 w hw))
  have nl := w8 (h.mw nd b1)
  have jl := join_len 32 ws
  have l1 : (Str.ofString "at ").length = 3 := by decide +kernel
  have l2 : (Str.ofString "lie ").length = 4 := by decide +kernel
  unfold atT
  simp only [len_app, len_one, l1, l2]
  omega
theorem wkT_len (z : Pz) (h : z.Ok) {ws : List Str} (hl : ws.length ≤ 9) (hw : ∀ w ∈ ws, w ∈ nms z) : ((Str.ofString "walk" :: ws).map (·.length)).sum + (ws.length + 1) ≤ 90 ∧ 1 ≤ (wkT ws).length ∧ (wkT ws).length ≤ 100 := by
  have wl : ∀ w ∈ ws, w.length ≤ 8 := fun w hx => by
    obtain ⟨r, hr, e⟩ := List.mem_map.mp (hw w hx)
    rw [← e]
    exact w8 (h.rw_ r hr).1
  have sl := sum_le (f := fun w : Str => w.length) wl
  have jl := join_len 32 (Str.ofString "walk" :: ws)
  have l4 : (Str.ofString "walk").length = 4 := by decide +kernel
  simp only [List.map_cons, List.sum_cons, List.length_cons, l4] at jl ⊢
  unfold wkT
  simp only [len_app, len_one]
  omega
@[simp] theorem ne_nil (xs : List Str) : cmpF .NotEq (.lst (sD xs)) (.lst []) = some (.bl (!decide (xs = []))) := by
  rw [ne_pl (by simp) (by simp) (by simp)]
  cases xs <;> simp
theorem strs_of {names : List Str} : ∀ {ys : List Z.D}, (∀ y ∈ ys, ∃ x, y = .str x ∧ x ∈ names) → ∃ ws, ys = sD ws ∧ ∀ w ∈ ws, w ∈ names
  | [], _ => ⟨[], rfl, by simp⟩
  | y :: r, h => by
    obtain ⟨x, e, hx⟩ := h y List.mem_cons_self
    obtain ⟨ws, e2, h2⟩ := strs_of (ys := r) fun y hy => h y (List.mem_cons_of_mem _ hy)
    refine ⟨x :: ws, by rw [e, e2]; rfl, fun w hw => ?_⟩
    rcases List.mem_cons.mp hw with rfl | hw
    · exact hx
    · exact h2 w hw
section
variable {G : Gx} (g : GK G)
include g
/-- from the list of things on -/
theorem l_tail (z : Pz) (h : z.Ok) (tx ox : Str) (t1 : 1 ≤ tx.length) (t2 : tx.length ≤ 200) (o1 : 1 ≤ ox.length) (o2 : ox.length ≤ 200) (a2 a5 a6 a7 a8 a9 a12 a13 a14 a15 a16 a17 a18 a19 a20 : Sl) :
    GvS 3600 ((restS 7 lawB).den G T (F G 30) [.no, .fz .reg, a2, .fz z.raw, .fz z.obj, a5, a6, a7, a8, a9, .fz (.str tx), .fz (.str ox), a12, a13, a14, a15, a16, a17, a18, a19, a20]) (fun ρ => ∃ s2 s3 s4 s5 s6 s7 s8 s9 s10 s11 s12 s13 s14 s15 s16 s17 s18 s19 s20, ρ = [.no, .fz .reg, s2, s3, s4, s5, s6, s7, s8, s9, s10, s11, s12, s13, s14, s15, s16, s17, s18, s19, s20]) (fun d => d = .bl true) := by
  have eb : restS 7 lawB = .cons _ (.cons _ (.cons (.forr _ _ _ loopT _) (.cons (.forr _ _ _ loopO _) .nil))) := rfl
  rw [eb]
  clear eb
  have cl := fun (x : Str) lo hi => cutS_len x lo hi
  simp
  rw [a_addS (by omega), M.of_some, MS.let_pure, show rngF1 [.int 12] = some (rngD 0 12) from rng1_nat 12 (by omega), M.of_some, MS.let_pure]
  refine GvS.seq (k1 := 300 * 12) (k2 := 0) (GvS.rng (k := 300) (fun j ρ => ∃ (xs : List Z.D) (s9 : Sl), ρ = [.no, .fz .reg, a2, .fz z.raw, .fz z.obj, a5, a6, a7, a8, s9, .fz (.str tx), .fz (.str ox), a12, .ow (.lst xs), a14, a15, a16, a17, a18, a19, a20] ∧ (∀ d ∈ xs, Th d) ∧ xs.length = 11 + j) ⟨_, _, rfl, ?_, rfl⟩ ?_) (by omega) ?_
  · intro d hd
    simp at hd
    rcases hd with rfl | rfl | rfl | rfl | rfl | rfl | rfl | rfl | rfl | rfl | rfl
    · exact .inl ⟨_, rfl, by omega⟩
    · exact .inl ⟨_, rfl, by omega⟩
    · exact .inl ⟨_, rfl, by decide +kernel⟩
    · exact .inl ⟨_, rfl, by decide +kernel⟩
    · exact .inr ⟨rfl, rfl, .non⟩
    · exact .inr ⟨rfl, rfl, .int⟩
    · exact .inr ⟨rfl, rfl, .lst (fun x hx => by rw [List.mem_singleton.mp hx]; exact .str) (by simp)⟩
    · exact .inr ⟨rfl, rfl, .bl⟩
    · exact .inl ⟨_, rfl, by simp; omega⟩
    · exact .inl ⟨_, rfl, by have := cl tx none (some (-1)); omega⟩
    · exact .inl ⟨_, rfl, by have := cl ox none (some (-1)); omega⟩
  · rintro j hj ρ ⟨xs, s9, rfl, hx, hl⟩ Q hQ
    refine ⟨_, rfl, ?_⟩
    simp
    have fin : ∀ t : Str, 1 ≤ t.length → t.length ≤ 200 → GvS 300 (MS.let (F G 30 f__law_bent [.reg, .str t]) fun a => if xs.length < 16777216 then MS.nx [.no, .fz .reg, a2, .fz z.raw, .fz z.obj, a5, a6, a7, a8, .fz (.int (j : Nat)), .fz (.str tx), .fz (.str ox), a12, .ow (.lst (xs ++ [a])), a14, a15, a16, a17, a18, a19, a20] else MS.bad) Q (fun d => d = .bl true) := by
      intro t h1 h2
      refine GvS.let (k1 := 300) (k2 := 0) (q_bent 27 t h1 h2) (by omega) fun d ⟨y, e, hy⟩ => ?_
      subst e
      rw [if_pos (by omega)]
      refine GvS.nx (hQ _ ⟨xs ++ [.str y], _, rfl, fun d hd => ?_, by simp; omega⟩)
      rcases List.mem_append.mp hd with hd | hd
      · exact hx d hd
      · rw [List.mem_singleton.mp hd]
        exact .inl ⟨y, rfl, hy⟩
    split
    · exact fin tx t1 t2
    · exact fin ox o1 o2
  · rintro ρ ⟨xs, s9, rfl, hx, hl⟩
    simp
    refine GvS.seq (k1 := 0 * xs.length) (k2 := 0) (GvS.items (k := 0) (fun j ρ => ∃ a14 a15 a16 a17 a18 : Sl, ρ = [.no, .fz .reg, a2, .fz z.raw, .fz z.obj, a5, a6, a7, a8, s9, .fz (.str tx), .fz (.str ox), a12, .fz (.lst xs), a14, a15, a16, a17, a18, a19, a20]) ⟨_, _, _, _, _, rfl⟩ ?_) (by omega) ?_
    · rintro j d hj ρ ⟨a14, a15, a16, a17, a18, rfl⟩ Q hQ
      refine ⟨_, rfl, ?_⟩
      obtain ⟨b15, b16, b17, b18, e⟩ := l_T g z h d (hx d (List.mem_of_getElem? hj)) a2 a5 a6 a7 a8 s9 (.fz (.str tx)) (.fz (.str ox)) a12 (.fz (.lst xs)) a15 a16 a17 a18 a19 a20
      simp only [List.set]
      rw [e]
      exact GvS.nx (hQ _ ⟨_, _, _, _, _, rfl⟩)
    · rintro ρ ⟨a14, a15, a16, a17, a18, rfl⟩
      simp
      have od : ∀ d ∈ [Z.D.non, .int 5, .tup [.str (Str.ofString "Z9"), .lst (sD z.ps)], .lst [.non]], Od G z d := by
        intro d hd
        simp at hd
        rcases hd with rfl | rfl | rfl | rfl
        · exact ⟨rfl, rfl, .non, q_set_no g 23 z _ rfl rfl⟩
        · exact ⟨rfl, rfl, .int, q_set_no g 23 z _ rfl rfl⟩
        · refine ⟨by simp, rfl, .tup (fun y hy => ?_) (by simp), q_set_z9 g 23 z h⟩
          simp at hy
          rcases hy with rfl | rfl
          · exact .str
          · exact .sD (by have := h.sz.1; omega)
        · exact ⟨rfl, rfl, .lst (fun x hx => by rw [List.mem_singleton.mp hx]; exact .non) (by simp), q_set_one g 23 z⟩
      have st : ∀ d, Od G z d → ∀ a20 : Sl, GvS 0 (loopO.den G T (F G 30) [.no, .fz .reg, a2, .fz z.raw, .fz z.obj, a5, a6, a7, a8, s9, .fz (.str tx), .fz (.str ox), a12, .fz (.lst xs), a14, a15, a16, a17, a18, .fz d, a20]) (fun ρ => ∃ a19 a20 : Sl, ρ = [.no, .fz .reg, a2, .fz z.raw, .fz z.obj, a5, a6, a7, a8, s9, .fz (.str tx), .fz (.str ox), a12, .fz (.lst xs), a14, a15, a16, a17, a18, a19, a20]) (fun d => d = .bl true) := by
        intro d hd a20
        obtain ⟨b20, e⟩ := l_O g z h d hd a2 a5 a6 a7 a8 s9 (.fz (.str tx)) (.fz (.str ox)) a12 (.fz (.lst xs)) a14 a15 a16 a17 a18 a20
        rw [e]
        exact GvS.nx ⟨_, _, rfl⟩
      refine GvS.seq (k1 := 0) (k2 := 0) (st _ (od _ (by simp)) _) (by omega) ?_
      rintro ρ ⟨a19, a20, rfl⟩
      simp only [List.set]
      refine GvS.seq (k1 := 0) (k2 := 0) (st _ (od _ (by simp)) _) (by omega) ?_
      rintro ρ ⟨a19, a20, rfl⟩
      simp only [List.set]
      refine GvS.seq (k1 := 0) (k2 := 0) (st _ (od _ (by simp)) _) (by omega) ?_
      rintro ρ ⟨a19, a20, rfl⟩
      simp only [List.set]
      refine GvS.seq (k1 := 0) (k2 := 0) (st _ (od _ (by simp)) _) (by omega) ?_
      rintro ρ ⟨a19, a20, rfl⟩
      exact GvS.nx ⟨_, _, _, _, _, _, _, _, _, _, _, _, _, _, _, _, _, _, _, rfl⟩
/-- from the walk on -/
theorem l_mid (z : Pz) (h : z.Ok) (h5 : z.ps.length ≤ 5) (nd : Str) (ws us : List Str) (hb : setB z nd ws = true) (hl : us.length ≤ 9) (hu : ∀ w ∈ us, w ∈ nms z) (a2 a5 a6 a9 a10 a11 a12 a13 a14 a15 a16 a17 a18 a19 a20 : Sl) :
    GvS 4000 ((restS 4 lawB).den G T (F G 30) [.no, .fz .reg, a2, .fz z.raw, .fz z.obj, a5, a6, .fz (.tup [.str nd, .lst (sD ws)]), .fz (.lst (sD us)), a9, a10, a11, a12, a13, a14, a15, a16, a17, a18, a19, a20]) (fun ρ => ∃ s2 s3 s4 s5 s6 s7 s8 s9 s10 s11 s12 s13 s14 s15 s16 s17 s18 s19 s20, ρ = [.no, .fz .reg, s2, s3, s4, s5, s6, s7, s8, s9, s10, s11, s12, s13, s14, s15, s16, s17, s18, s19, s20]) (fun d => d = .bl true) := by
  have eb : restS 4 lawB = .cons _ (.cons _ (.cons _ (restS 7 lawB))) := rfl
  rw [eb]
  clear eb
  obtain ⟨n1, n2, n3, t1, t2⟩ := atT_len z h h5 hb
  obtain ⟨u1, o1, o2⟩ := wkT_len z h hl hu
  have l1 : (Str.ofString "at ").length = 3 := by decide +kernel
  have l2 : (Str.ofString "\nlie ").length = 5 := by decide +kernel
  have wl : ws.length ≤ 5 := by have := (setB_iff.mp hb).2.2; omega
  have c1 := a_addS (x := Str.ofString "at ") (y := nd) (by omega)
  have c2 := a_addS (x := Str.ofString "at " ++ nd) (y := Str.ofString "\nlie ") (by simp; omega)
  have c3 : joinF ⟨#[32]⟩ (.lst (sD ws)) = some (.str (joinD ⟨#[32]⟩ ws)) := join_L (by simp; omega)
  have c4 := a_addS (x := Str.ofString "at " ++ nd ++ Str.ofString "\nlie ") (y := joinD ⟨#[32]⟩ ws) (by simp; omega)
  have c5 := a_addS (x := Str.ofString "at " ++ nd ++ Str.ofString "\nlie " ++ joinD ⟨#[32]⟩ ws) (y := ⟨#[10]⟩) (by simp; omega)
  have c6 : Str.ofString "at " ++ nd ++ Str.ofString "\nlie " ++ joinD ⟨#[32]⟩ ws ++ ⟨#[10]⟩ = atT nd ws := by
    unfold atT
    rw [nl_lie, ← app_assoc]
  rw [c6] at c5
  have d1 : binF .Add (.lst [.str (Str.ofString "walk")]) (.lst (sD us)) = some (.lst (sD (Str.ofString "walk" :: us))) := by
    rw [a_addL (by simp; omega)]
    rfl
  have d2 : joinF ⟨#[32]⟩ (.lst (sD (Str.ofString "walk" :: us))) = some (.str (joinD ⟨#[32]⟩ (Str.ofString "walk" :: us))) := join_L (by simp only [List.length_cons, len_one]; omega)
  have d3 : binF .Add (.str (joinD ⟨#[32]⟩ (Str.ofString "walk" :: us))) (.str ⟨#[10]⟩) = some (.str (wkT us)) := by
    refine a_addS ?_
    have : (wkT us).length ≤ 100 := o2
    unfold wkT at this
    simp only [len_app, len_one] at this ⊢
    omega
  rw [sD_cons] at d1 d2
  simp [c1, c2, c3, c4, c5, d1, d2, d3]
  refine GvS.let (k1 := 2) (k2 := 3998) (q_looseT g 27 nd ws (by omega)) (by omega) fun T1 ⟨W, hT, hW⟩ => ?_
  have e1 : F G 30 f_setting_text [z.obj, T1] = M.pure (.str (atT nd ws)) := q_stext g 23 z h T1 W nd ws hT hW hb
  have e2 : F G 30 f_setting_text [z.obj, .tup [.str nd, .lst (sD ws)]] = M.pure (.str (atT nd ws)) := q_stext g 23 z h _ (.lst (sD ws)) nd ws (.inr rfl) (.inl rfl) hb
  rw [e1, MS.let_pure]
  refine GvS.let (k1 := 1) (k2 := 3997) (q_looseL g 28 us (by omega)) (by omega) fun W1 hW1 => ?_
  have e3 : F G 30 f_walk_text [z.obj, W1] = M.pure (.str (wkT us)) := q_wtext g 25 z h W1 us hW1 (by omega) hu
  have e4 : F G 30 f_walk_text [z.obj, .lst (sD us)] = M.pure (.str (wkT us)) := q_wtext g 25 z h _ us (.inl rfl) (by omega) hu
  have e5 : F G 30 f__law_same [.lst [.str (atT nd ws), .str (wkT us)], .lst [.str (atT nd ws), .str (wkT us)]] = M.pure (.bl true) := sm g 1 _ (by omega) (.lst (fun x hx => by
    simp at hx
    rcases hx with rfl | rfl
    · exact .str
    · exact .str) (by simp))
  simp [e2, e3, e4, e5, ordL]
  exact (l_tail g z h (atT nd ws) (wkT us) t1 (by omega) o1 (by omega) _ _ _ _ _ _ _ _ _ _ _ _ _ _ _).mono (by omega) (fun _ h => h) (fun _ h => h)
theorem l_body (a0 a2 a3 a4 a5 a6 a7 a8 a9 a10 a11 a12 a13 a14 a15 a16 a17 a18 a19 a20 : Sl) (e0 : a0 = .no) :
    GvS 5000 (lawB.den G T (F G 30) [a0, .fz .reg, a2, a3, a4, a5, a6, a7, a8, a9, a10, a11, a12, a13, a14, a15, a16, a17, a18, a19, a20]) (fun ρ => ∃ s2 s3 s4 s5 s6 s7 s8 s9 s10 s11 s12 s13 s14 s15 s16 s17 s18 s19 s20, ρ = [.no, .fz .reg, s2, s3, s4, s5, s6, s7, s8, s9, s10, s11, s12, s13, s14, s15, s16, s17, s18, s19, s20]) (fun d => d = .bl true) := by
  subst e0
  have eb : lawB = .cons _ (.cons _ (.cons _ (.cons _ (restS 4 lawB)))) := rfl
  rw [eb]
  clear eb
  simp
  refine GvS.let (k1 := 1) (k2 := 4999) (q_oneL 28 _ (by simp) (by simp)) (by omega) fun d hd => ?_
  obtain ⟨m, rfl, hm1, hm2⟩ : ∃ m : Nat, d = .int m ∧ 1 ≤ m ∧ m ≤ 5 := by
    simp only [List.mem_cons, List.not_mem_nil, or_false] at hd
    rcases hd with rfl | rfl | rfl
    · exact ⟨2, rfl, by omega, by omega⟩
    · exact ⟨4, rfl, by omega, by omega⟩
    · exact ⟨5, rfl, by omega, by omega⟩
  refine GvS.let (k1 := 300) (k2 := 4699) (q_make 26 m hm1 hm2) (by omega) fun d ⟨z, hz, e, z5, z3, z7⟩ => ?_
  subst e
  have ep : F G 30 f__law_puzzle_of [z.raw] = M.pure z.obj := q_puzzle_of g 18 z hz
  have en : z.rows.map (fun r : Rw => Z.D.str r.nm) = sD (nms z) := by unfold nms sD; rw [List.map_map]; rfl
  have nl : (nms z).length = z.rows.length := by unfold nms; rw [List.length_map]
  simp [ep]
  rw [if_pos (by omega), lc_map (g := rwD) (f := fun r : Rw => Z.D.str r.nm) (fun r hr => by simp), MS.let_pure]
  simp
  rw [en]
  refine GvS.let (k1 := 100) (k2 := 4599) (q_any 27 z hz z5 z3) (by omega) fun d ⟨nd, ws, e, hb⟩ => ?_
  subst e
  simp
  split
  · exact (l_mid g z hz z5 nd ws [] hb (by simp) (by simp) _ _ _ _ _ _ _ _ _ _ _ _ _ _ _).mono (by omega) (fun _ h => h) (fun _ h => h)
  · rename_i hn
    refine GvS.let (k1 := 1) (k2 := 4598) (q_pick 29 (by omega) (by omega)) (by omega) fun d ⟨c, e, hc⟩ => ?_
    subst e
    rw [rng1_nat c (by omega), M.of_some, MS.let_pure, if_pos (by rw [rngD_len]; omega)]
    have lc := Gv.lc (k := 1) (bd := bdy (.nm 9 ⟨352,43,352,44⟩) [Sl.no, .fz .reg, a2, .fz z.raw, .fz z.obj, .fz (.lst (sD (nms z))), a6, .fz (.tup [.str nd, .lst (sD ws)]), a8, .no, a10, a11, a12, a13, a14, a15, a16, a17, a18, a19, a20] (dYes (F G 30)) (dCall f__law_one (daCons (dV 1) (daCons (dV 5) daNil)) (F G 30))) (Q := fun y => ∃ x, y = .str x ∧ x ∈ nms z) (rngD 0 c) [] (fun d hd => by
      simp
      refine Gv.bind (k1 := 1) (k2 := 0) (q_oneS 28 (nms z) hn (by omega)).noexc (by omega) fun y hy => ?_
      exact Gv.pure ⟨y, rfl, hy⟩) (by simp)
    refine GvS.let (k1 := 1 * (rngD 0 c).length) (k2 := 4589) lc (by rw [rngD_len]; omega) fun ys ⟨y1, y2⟩ => ?_
    obtain ⟨us, rfl, hu⟩ := strs_of y2
    rw [rngD_len] at y1
    simp at y1
    exact (l_mid g z hz z5 nd ws us hb (by omega) hu _ _ _ _ _ _ _ _ _ _ _ _ _ _ _).mono (by omega) (fun _ h => h) (fun _ h => h)
end
theorem plain : ∀ (K : PySem.W.Frag) (r1 r2 : Addr) (ns : List Int), ns.length ≤ 63 → ∃ p', restD ((LD.G K).at r1 r2) LD.T (Phi ((LD.G K).at r1 r2) LD.T LD.defs LD.pr 30) LD.dl.N 1 LD.dl.body .reg ⟨ns, 0, 0, 29⟩ = .ok (.bl true) p' := by
  intro K r1 r2 ns _
  have g := gk_at K r1 r2
  generalize (LD.G K).at r1 r2 = G at g ⊢
  have main : Gv 15000 (retM (blaw.den G T (F G 30) ([.no, .fz .reg] ++ List.replicate 19 .no))) (fun d => d = .bl true) := by
    have eb : blaw = .cons (.forr _ _ (.rng1 (.int 3 0 _) _ _) lawB _) (.cons (.ret _ (.bl true 0 _) _) .nil) := rfl
    rw [eb]
    clear eb
    simp [show rngF1 [.int 3] = some (rngD 0 3) from rng1_nat 3 (by omega)]
    refine Gv.retSeq (k1 := 5000 * 3) (k2 := 0) (GvS.rng (k := 5000) (fun j ρ => ∃ s2 s3 s4 s5 s6 s7 s8 s9 s10 s11 s12 s13 s14 s15 s16 s17 s18 s19 s20, ρ = [.no, .fz .reg, s2, s3, s4, s5, s6, s7, s8, s9, s10, s11, s12, s13, s14, s15, s16, s17, s18, s19, s20]) ⟨_, _, _, _, _, _, _, _, _, _, _, _, _, _, _, _, _, _, _, rfl⟩ ?_) (by omega) ?_
    · rintro j hj ρ ⟨s2, s3, s4, s5, s6, s7, s8, s9, s10, s11, s12, s13, s14, s15, s16, s17, s18, s19, s20, rfl⟩ Q hQ
      refine ⟨_, rfl, ?_⟩
      exact (l_body g _ _ _ _ _ _ _ _ _ _ _ _ _ _ _ _ _ _ _ _ rfl).mono (Nat.le_refl _) hQ (fun _ h => h)
    · rintro ρ ⟨s2, s3, s4, s5, s6, s7, s8, s9, s10, s11, s12, s13, s14, s15, s16, s17, s18, s19, s20, rfl⟩
      simp
      exact Gv.pure rfl
  obtain ⟨a, p', e, _, _, rfl⟩ := main ⟨ns, 0, 0, 29⟩ ⟨(by decide : (0 : Int) ≤ 0), (by decide : (0 : Int) ≤ 29), (by decide : (29 : Int) < 2147483648)⟩ (by decide : (0 : Int) + ((15000 : Nat) : Int) ≤ 1000000000000)
  exact ⟨p', e⟩
end K99
set_option maxHeartbeats 0
open PySem PySem.W PySem.Calls PyProof.Rows
theorem PySem.Challenge.cw_siftlevels_k99_whole_texts_of_settings_a_holds : PySem.Challenge.rw_siftlevels_k99_whole_texts_of_settings_a.Holds := by
  w_on; o_law
  refine HandSHeadRun.head_any (r := OpenLaw.row PySem.Challenge.rw_siftlevels_k99_whole_texts_of_settings_a) (q := view (OpenLaw.row PySem.Challenge.rw_siftlevels_k99_whole_texts_of_settings_a).prog [65]) (H := Z.hookZ K99.asZ (K99.LD.parts K99.cuts)) (ob := Z.obZ K99.asZ (K99.LD.parts K99.cuts)) (M := 20000) (loose := K99.names) (d := HandSHeadRun.topDef (OpenLaw.row PySem.Challenge.rw_siftlevels_k99_whole_texts_of_settings_a).prog 65) (kwd := []) (Z.obZ_eq _ _)
    (by kernel_rfl) (fun s => by kernel_rfl) (fun w => Z.runZ (K99.run0 w) (Z.AllP.mem (K99.runs w))) (by kernel_rfl) (by kernel_rfl) (by kernel_rfl) (by rfl) (by first | assumption | decide +kernel) (by decide +kernel) ⟨rfl, rfl, rfl, rfl, rfl, by decide +kernel⟩ ?hw ?hc
  case hw => w_witness2
  case hc =>
    refine LamX.walk_ofTsE (l := PySem.Challenge.rw_siftlevels_k99_whole_texts_of_settings_a) (n := 63) (k := 125) (x := "script") (CX := fun w => L2.CX PySem.Challenge.rw_siftlevels_k99_whole_texts_of_settings_a.prog w) rfl (by decide) (by kernel_rfl) ⟨rfl, by decide, by decide⟩ ?F (fun w => Z.cx_none _ w)
    intro w mg fa h Y N hmg
    have e : (HandSHeadRun.topDef (OpenLaw.row PySem.Challenge.rw_siftlevels_k99_whole_texts_of_settings_a).prog 65).name = K99.LD.dl.x := by kernel_rfl
    rw [e] at hmg
    exact Z.law_at (l := PySem.Challenge.rw_siftlevels_k99_whole_texts_of_settings_a) (K99.ok K99.plain) rfl Y N hmg
