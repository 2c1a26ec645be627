import PyProof.Rows.All
import Wide.All
import OpenK.AllK
import Wide.FinOn
import HandS.ForMost
import HandS.ForExc
import HandS.ExcInit
import HandS.IsInst
import HandS.Defaults
import HandS.ExcIs
import HandS.ExcValue
import KE.KExcIs
import HandS.Zip
import HandS.Codes
import HandS.HeadHook4
import KE.KEqSeq
import KE.KStateDown
import HandS.More
import HandS.Small
import HandS.Head0
import HandS.Head1
import HandS.Head2
import HandS.HeadEnd
import HandS.HeadHook1
import HandS.HeadHook2
import HandS.HeadWalk
import HandS.Lambda
import HandS.HotCalls
import HandS.ExcCtx
import HandS.ExcInitHot
import HandS.TryMany
import HandS.ExcField
import HandS.CallLocal
import PySem.Challenge.RW_sameproof_k01_whole_quotients
import HandS.Steps
import HandS.Walk
import PyProof.Rows.StrItems
import PyProof.Rows.StrSplitAre
import HandS.Text
import PyProof.Rows.ReprOcc
import HandS.Style
import HandS.EndTab
set_option Elab.async false
set_option linter.all false
set_option maxRecDepth 100000
set_option maxHeartbeats 4000000
namespace SpE
open PySem PySem.W PySem.Calls PyProof.Rows PySem.HandSPX
section
variable {M : Model} {A : Around} {E : Value → Shared → Prop} {h : Heap} {g : Array GenState} {d : Drawn} {t : Nat} {os : OsState}
variable {nm q : Str} {C N : Addr} {bs bm bmB : List Value} {hdct : Bool} {sn : List Str} {sub : List Value} {ab : Bool}
variable {col : Option Bool} {dd : Option Addr} {k0 k1 k2 k3 k5 : Option Value} {B newId initId : String}

theorem check_newK (F : ExcBaseFacts B newId initId bmB)
    (hT : ∀ X : String, bm.contains (.type X) = bmB.contains (.type X)) {rest : List Value} {kw : List (Str × Value)}
    {Q : Unit → Shared → Prop}
    (hC : h.get? C = some (excClassObj nm q C N bs bm hdct sn sub ab col dd k0 k1 k2 k3 k5 newId))
    (hq : Q () ⟨h, g, d, t, os⟩) :
    wpAny M A (checkBuiltinCall newId ⟨.ref C :: rest, kw⟩) Q E ⟨h, g, d, t, os⟩ := by
  have hin : (Value.ref C :: bm).contains (.type B) = true := by
    rw [List.contains_cons, hT, F.hasB, Bool.or_true]
  have hs := F.noStar
  simp only [checkBuiltinCall, F.newKind, F.newSplit, F.newRow]
  repeat (first
    | refine wpAny_loadPart_at hC ?_
    | (refine wpAny_isSubtype_exc hC ?_; rw [hin])
    | refine wpAny_staticBase_exc hC ?_
    | refine wpAny_madeBy_exc hC ?_
    | simp only [bne_self_eq_false, Bool.false_eq_true, if_false]
    | wp_step)
  exact hq
end
section
variable {prog : Program} {w : World} {A : Around} {E : Value → Shared → Prop} {R : Result → Shared → Prop}
variable {h : Heap} {g : Array GenState} {d : Drawn} {t : Nat} {os : OsState}
variable {nm q : Str} {C N : Addr} {bs bm bmB : List Value} {hdct : Bool} {sn : List Str} {sub : List Value} {ab : Bool}
variable {col : Option Bool} {dd : Option Addr} {k0 k1 k2 k3 k5 : Option Value} {B newId initId : String}

theorem newK (F : ExcBaseFacts B newId initId bmB)
    (hT : ∀ X : String, bm.contains (.type X) = bmB.contains (.type X)) {rest : List Value} {kw : List (Str × Value)}
    (hC : h.get? C = some (excClassObj nm q C N bs bm hdct sn sub ab col dd k0 k1 k2 k3 k5 newId))
    (hz : rest.length ≤ sizeLine)
    (hq : R (.ok (.ret (.ref (h.objs.size + 1))))
      ⟨(h.push (W.kdv_tup rest)).push (excO C h.objs.size), g, d, t, os⟩) :
    codeAny (model prog w) A (.builtin newId ⟨.ref C :: rest, kw⟩) R ⟨h, g, d, t, os⟩ := by
  have hrest := hz
  have he := F.ends
  have c1 : (Value.ref C :: bm).contains (.type B) = true := by
    rw [List.contains_cons, hT, F.hasB, Bool.or_true]
  have c2 : (Value.ref C :: bm).contains (.type "AttributeError") = false := by
    rw [List.contains_cons, hT, F.noAttr]; rfl
  have c3 : (Value.ref C :: bm).contains (.type "NameError") = false := by
    rw [List.contains_cons, hT, F.noName]; rfl
  refine codeAny_builtinAt F.entry ?_
  unfold Builtin.«BaseException.__new__»
  refine PySem.wpAt_bind ?_
  show PySem.wpAt _ _ _ (stack >>= _) _ _ _
  refine PySem.wpAt_bind (PySem.wpAt_stack fun p below => PySem.wpAt_of_wpAny ?_)
  wp_walk
  refine PySem.wpAt_of_wpAny ?_
  rw [F.owner]
  repeat (first
    | with_reducible refine wpAny_madeHere_exc F.canon hC ?_
    | with_reducible refine wpAny_loadPart_at hC ?_
    | (with_reducible refine wpAny_isSubtype_exc hC ?_
       first | rw [c1] | rw [c2] | rw [c3])
    | wp_step)
  show R _ _
  rw [Heap.size_push]
  exact hq

theorem type_callK (F : ExcBaseFacts B newId initId bmB)
    (hT : ∀ X : String, bm.contains (.type X) = bmB.contains (.type X)) {rest : List Value} {kw : List (Str × Value)}
    {fI : Addr} {Q : Fin → Shared → Prop}
    (hC : h.get? C = some (excClassObj nm q C N bs bm hdct sn sub ab col dd k0 k1 k2 k3 k5 newId))
    (hi : W.Looks (model prog w) h (typeLookup (.ref C) "__init__") (some (.ref fI)))
    (hb : ∀ self, W.Looks (model prog w) h (bindSpecial (.ref fI) self) (.ref fI, [self]))
    (hz : rest.length ≤ sizeLine)
    (hq : codeAny (model prog w) A (.call (.ref fI) ⟨.ref (h.objs.size + 1) :: rest, kw⟩)
      (fun r s' => match r with
        | .ok (.ret v) => v = .none ∧ Q (.done (.ret (.ref (h.objs.size + 1)))) s'
        | .ok _ => False
        | .error e => E e s')
      ⟨(h.push (W.kdv_tup rest)).push (excO C h.objs.size), g, d, t, os⟩) :
    wpAny (model prog w) A (Builtin.«type.__call__» ⟨.ref C :: rest, kw⟩) Q E ⟨h, g, d, t, os⟩ := by
  repeat (first
    | with_reducible refine wpAny_loadPart_at hC ?_
    | with_reducible refine wpAny_madeBy_exc hC ?_
    | wp_step)
  refine codeAny_call_builtin_code (Code.quiet_builtin _ F.quiet) (check_newK F hT hC ?_)
  refine newK F hT hC hz ?_
  show wpAny _ _ _ _ _ _
  have k : ∀ b o, h.get? b = some o →
      ((h.push (W.kdv_tup rest)).push (excO C h.objs.size)).get? b = some o :=
    fun b o e => Heap.get?_push_of_some _ (Heap.get?_push_of_some _ e)
  have hC1 := k _ _ hC
  have hg : ((h.push (W.kdv_tup rest)).push (excO C h.objs.size)).get? (h.objs.size + 1)
      = some (excO C h.objs.size) := by heap_get
  have hcc : (Value.ref C :: bm).contains (.ref C) = true := by simp
  have i1 := hi.keeps k
  have b1 := (hb (.ref (h.objs.size + 1))).keeps k
  unfold isInstance
  repeat (first
    | with_reducible refine wpAny_loadPart_at hg ?_
    | (with_reducible refine wpAny_isSubtype_exc hC1 ?_; rw [hcc])
    | wp_step)
  show wpAny _ _ (typeLookup (.ref C) _) _ _ _
  refine i1.at ?_
  refine wpAny_holding (wpAny_bind (b1.at ?_))
  refine wpAny_bind (wpAny_call (codeAny_mono hq fun r s' z => ?_))
  rcases r with e | (v | _ | _ | _) <;> first | exact z | exact z.elim | skip
  obtain ⟨rfl, z⟩ := z
  first
    | exact wpAny_pure (wpAny_pure z)
    | (wp_walk; exact z)

theorem callK (F : ExcBaseFacts B newId initId bmB)
    (hT : ∀ X : String, bm.contains (.type X) = bmB.contains (.type X)) {rest : List Value} {kw : List (Str × Value)}
    {fI : Addr}
    (hC : h.get? C = some (excClassObj nm q C N bs bm hdct sn sub ab col dd k0 k1 k2 k3 k5 newId))
    (hi : W.Looks (model prog w) h (typeLookup (.ref C) "__init__") (some (.ref fI)))
    (hb : ∀ self, W.Looks (model prog w) h (bindSpecial (.ref fI) self) (.ref fI, [self]))
    (hz : rest.length ≤ sizeLine)
    (hq : codeAny (model prog w) (A.under (.builtin "type.__call__" ⟨.ref C :: rest, kw⟩))
      (.call (.ref fI) ⟨.ref (h.objs.size + 1) :: rest, kw⟩) (W.InitBack (h.objs.size + 1) R)
      ⟨(h.push (W.kdv_tup rest)).push (excO C h.objs.size), g, d, t, os⟩) :
    codeAny (model prog w) A (.call (.ref C) ⟨rest, kw⟩) R ⟨h, g, d, t, os⟩ := by
  have f1 := tc_lookup
  have f2 := tc_bind (.ref C)
  have ty : (⟨h, g, d, t, os⟩ : Shared).TypeIs (.ref C) "type" := ⟨_, hC, rfl⟩
  refine codeAny_of_tree ?_
  show wpAny _ _ (callAny (.ref C) _) _ _ _
  repeat (any_goals (first | assumption | with_reducible refine wpAny_loadPart_at hC ?_ | wp_step))
  refine ⟨rfl, ?_⟩
  refine codeAny_call_builtin_at (Code.quiet_builtin _ (by decide +kernel)) entry_typeCall
    (wpAny_check_type_call_sub hC (type_callK F hT hC hi hb hz ?_))
  refine codeAny_mono hq fun r s' z => ?_
  rcases r with e | (v | _ | _ | _) <;> exact z
end

end SpE
namespace SpE
open PySem PySem.Spec PyProof.Rows L2

structure ErC (K : PySem.W.Frag) (C : Addr) : Prop where
  o : OexC K C
  ga : PySem.W.findIn K (.ref C) "__getattribute__" = some (some (.builtin "BaseException.__getattribute__"))
  gg : PySem.W.findIn K (.ref C) "__getattr__" = some none
  cl : PySem.W.findIn K (.ref C) "__class__" = some (some (.builtin "object.__class__"))
  hn : PySem.W.specialIn K (.builtin "object.__class__") "__get__" = some (some (.builtin "getset_descriptor.__get__"))
  ht : PySem.W.takesIn K (.builtin "object.__class__") = some true
  hm : PySem.W.mroIn K C (.type "object") = some true
theorem ErC.clsI {K : PySem.W.Frag} {C : Addr} (T : ErC K C) : (PySem.W.clsIn K C).isSome = true := by
  obtain ⟨nm, q, N, bs, bm, sn, sub, ab, col, dd, k0, k1, k2, k3, k5, hC, _⟩ := T.o.cls
  unfold PySem.W.clsIn
  rw [hC]
  rfl
theorem ErC.hd {K : PySem.W.Frag} {C : Addr} (T : ErC K C) : PySem.W.hasDictIn K C = true := by
  obtain ⟨nm, q, N, bs, bm, sn, sub, ab, col, dd, k0, k1, k2, k3, k5, hC, _⟩ := T.o.cls
  unfold PySem.W.hasDictIn PySem.W.clsIn
  rw [hC]
  rfl
inductive TyZ (K : PySem.W.Frag) (H : Hp) : V → Value → Prop where
  | base {x : V} {t : Value} (h : TyX K H x t) : TyZ K H x t
  | exc {a C d : Addr} {fs : List (Str × V)} (e : H a = some (exo a C (some d))) (ed : H d = some (exd d fs)) (T : ErC K C) : TyZ K H (.ref a) (.ref C)
  | excN {a C : Addr} (e : H a = some (exo a C none)) (T : ErC K C) : TyZ K H (.ref a) (.ref C)
section
variable {X : Cx} {pins : List (Addr × Obj)} {σ : L2.St} {H : Hp} {s : Shared}
theorem kit_ofZ {x : V} {u t : Value} (I : Inv X pins σ H s) (rx : RelV x u) (ty : TyZ X.K H x t) :
    ∃ P : Heap → Prop, PySem.W.KitX X.K u t P ∧ P s.heap ∧ u ≠ .builtin "__main__.__loader__#opaque" := by
  cases ty with
  | base b => exact kit_of I rx b
  | @exc a C d fs e ed T =>
    cases (show u = Value.ref a from rx)
    obtain ⟨t1, ho⟩ := exo_at I.hok e
    obtain ⟨mA, ⟨oD, es, ep, hoD, hrest⟩, rel⟩ := exd_at I.hok ed
    exact ⟨_, PySem.W.kitx_exc T.clsI T.ga T.gg T.o.exC T.cl T.hn T.ht T.hm,
      (⟨ho, rfl, rfl, hoD⟩ : PySem.W.InstAt s.heap a _ C (some oD)), fun z => nomatch z⟩
  | @excN a C e T =>
    cases (show u = Value.ref a from rx)
    obtain ⟨t1, ho⟩ := exo_at I.hok e
    exact ⟨_, PySem.W.kitx_exc T.clsI T.ga T.gg T.o.exC T.cl T.hn T.ht T.hm,
      (⟨ho, rfl, rfl, trivial⟩ : PySem.W.InstAt s.heap a _ C none), fun z => nomatch z⟩
end
def IsZ (K : PySem.W.Frag) (H : Hp) (x c : V) (b : Bool) : Prop := ∃ t : Value, TyZ K H x t ∧
  ((∃ u, ClsV c u ∧ PySem.W.kitOne K t u = some b) ∨
   (∃ (tp : Addr) (cs : List V) (us : List Value), c = .ref tp ∧ H tp = some (.tup cs) ∧ Paired ClsV cs us ∧ PySem.W.kitAny K t us = some b))
def rIsZ (K : PySem.W.Frag) : List V → Hp → VK → Prop := fun xs H Q => ∃ (x c : V) (b : Bool), xs = [x, c] ∧ IsZ K H x c b ∧ Q (.bl b) H
theorem call_isZ {X : Cx} : CallR X (.builtin "isinstance") (rIsZ X.K) := by
  intro pins s σ H xs us Q I r h
  obtain ⟨x, c, b, rfl, ⟨t, ty, way⟩, q⟩ := h
  obtain ⟨u1, u2, rfl, r1, r2⟩ := vals2 r
  obtain ⟨P, Z, p, hx⟩ := kit_ofZ I r1 ty
  rcases way with ⟨u, k, e⟩ | ⟨tp, cs, ws, rfl, hT, k, e⟩
  · have e2 := k.eq r2
    subst e2
    exact PySem.W.kia_one Z I.kIn p e hx fun tk => ⟨.bl b, H, I.tok tk, rfl, q⟩
  · cases (show u2 = Value.ref tp from r2)
    obtain ⟨_, its, rv, o, h1, h2, n, h3⟩ := (show ObjOk X.prog X.w H s.heap tp (.tup cs) from I.hok tp _ hT)
    have e3 := ClsV.all k rv
    subst e3
    obtain ⟨oc, od, dt, sl⟩ := o
    simp only at h2 h3
    subst h2 h3
    exact PySem.W.kia_tup Z I.kIn p h1 e hx fun tk => ⟨.bl b, H, I.tok tk, rfl, q⟩

def tExF (K : PySem.W.Frag) (f : Str) (te : TE) : TE := fun σ H Q => te σ H fun x H1 =>
  ∃ (a C d : Addr) (fs : List (Str × V)) (v : V), x = .ref a ∧ H1 a = some (exo a C (some d)) ∧ H1 d = some (exd d fs) ∧ ErC K C ∧
    PySem.W.findIn K (.ref C) f = some none ∧ fs.lookup f = some v ∧ Q v H1
theorem pe_exf {X : Cx} {e : Expr} {te : TE} {pos : Pos} {f : Str} (he : PE X e te)
    (hb : attributeBase e f X.env (eval e X.env) = eval e X.env := by rfl) : PE X (.Attribute e f pos) (tExF X.K f te) := by
  refine ⟨fun pins s σ H Q I h => ?_⟩
  refine attr_of hb (thn (he.run pins s σ H _ I h) fun u s1 hh => ?_)
  obtain ⟨x, H1, I1, rx, a, C, d, fs, v, ex, ea, ed, T, hno, hl, q⟩ := hh
  subst ex
  obtain rfl : u = Value.ref a := rx
  obtain ⟨t1, ho⟩ := exo_at I1.hok ea
  obtain ⟨mA, hns, hr⟩ := exd_at I1.hok ed
  obtain ⟨od, hod, hlk⟩ := lookIn_ns hns
  obtain ⟨u, hu, ru⟩ := RelO.some_of (v := v) (o := mA f) (by rw [← hl]; exact hr f)
  have J : PySem.W.InstAt s1.heap a _ C (some od) := ⟨ho, rfl, rfl, hod⟩
  exact HandSPX.exc_get I1.kIn J T.ga T.gg T.o.exC (PySem.W.findObj_own T.hd hno rfl (by rw [hlk, hu])) (handed_of ru)
    ⟨v, H1, I1.tok _, ru, q⟩

def spI (C : Addr) (fs : List Str) : Sp := fun vs H Q _ => ∃ (a : Addr) (ws : List V),
  vs = .ref a :: ws ∧ ws.length = fs.length ∧ H a = some (exo a C none) ∧
  ∀ d, H d = none → d ≠ a → Q .non (upd (upd H d (exd d (fs.zip ws).reverse)) a (exo a C (some d)))
section
variable {P : Program} {w : World} {K : PySem.W.Frag} {mg : Str → Option Value} {base : Heap} {C f : Addr} {fd : FuncData}
variable {qual g g1 g2 : Str} {params : Arguments} {scope : Scope} {p1 p2 p3 p4 q1 q2 q3 q4 : Pos}
theorem vis_of {N ps : List Str} {sc : Scope} (S : FnScope N ps sc) {x : Str} (h : x ∈ ps) : Vis sc x := by
  rcases S.par x h with q | q
  · exact .inl q
  · exact .inr (.inl q)
theorem init1 (F : FunD K "__init__" qual params [.Assign [.Attribute (.Name "self" p1) g p2] (.Name g p3) p4] scope [] [] f fd)
    (S : FnScope ["self", g] ["self", g] scope) (T : OexC K C) (hn : PySem.W.findIn K (.ref C) g = some none)
    (h1 : (g == ("__debug__" : Str)) = false) (h2 : (g == ("__classdict__" : Str)) = false) :
    FnOk P w K mg base CX0 1 f fd ["self", g] (spI C [g]) := by
  refine F.ok S (fun vs H Q E h => ?_) (fun cdv A outer s H vs Q E hr h => ⟨_, pss_one (ps_ost (pe_var (i := 0) rfl (vis_of S (by simp))) (pe_var (i := 1) rfl (vis_of S (by simp)) h1 h2)), ?_⟩)
  · obtain ⟨a, ws, rfl, hl, _⟩ := h
    exact congrArg Nat.succ hl
  · obtain ⟨a, ws, rfl, hl, ha, k⟩ := h
    match ws, hl with
    | [v], _ =>
      exact ⟨_, rfl, _, rfl, a, C, rfl, T, hn, .inl ⟨ha, fun d n ne => k d n ne⟩⟩
theorem init2 (F : FunD K "__init__" qual params [.Assign [.Attribute (.Name "self" p1) g1 p2] (.Name g1 p3) p4,
      .Assign [.Attribute (.Name "self" q1) g2 q2] (.Name g2 q3) q4] scope [] [] f fd)
    (S : FnScope ["self", g1, g2] ["self", g1, g2] scope) (T : OexC K C) (hn1 : PySem.W.findIn K (.ref C) g1 = some none) (hn2 : PySem.W.findIn K (.ref C) g2 = some none)
    (h1 : (g1 == ("__debug__" : Str)) = false) (h2 : (g1 == ("__classdict__" : Str)) = false)
    (h3 : (g2 == ("__debug__" : Str)) = false) (h4 : (g2 == ("__classdict__" : Str)) = false) :
    FnOk P w K mg base CX0 1 f fd ["self", g1, g2] (spI C [g1, g2]) := by
  refine F.ok S (fun vs H Q E h => ?_) (fun cdv A outer s H vs Q E hr h => ⟨_, pss_cons (ps_ost (pe_var (i := 0) rfl (vis_of S (by simp))) (pe_var (i := 1) rfl (vis_of S (by simp)) h1 h2))
    (pss_one (ps_ost (pe_var (i := 0) rfl (vis_of S (by simp))) (pe_var (i := 2) rfl (vis_of S (by simp)) h3 h4))), ?_⟩)
  · obtain ⟨a, ws, rfl, hl, _⟩ := h
    exact congrArg Nat.succ hl
  · obtain ⟨a, ws, rfl, hl, ha, k⟩ := h
    match ws, hl with
    | [v, u], _ =>
      refine ⟨_, rfl, _, rfl, a, C, rfl, T, hn1, .inl ⟨ha, fun d n ne => ?_⟩⟩
      refine ⟨_, rfl, _, rfl, a, C, rfl, T, hn2, .inr ⟨d, [(g1, v)], upd_same, ?_, by show 1 ≤ 900; decide, ?_⟩⟩
      · rw [upd_ne ne, upd_same]
      · have e : upd (upd (upd H d (exd d [(g1, v)])) a (exo a C (some d))) d (exd d [(g2, u), (g1, v)])
            = upd (upd H d (exd d [(g2, u), (g1, v)])) a (exo a C (some d)) := by
          funext b
          unfold upd
          by_cases hb : b = d
          · have hba : ¬ b = a := fun z => ne (hb.symm.trans z)
            simp [hb, ne]
          · simp [hb]
        show Q .non (upd (upd (upd H d (exd d [(g1, v)])) a (exo a C (some d))) d (exd d [(g2, u), (g1, v)]))
        rw [e]
        exact k d n ne
structure ErMk (P : Program) (w : World) (K : PySem.W.Frag) (mg : Str → Option Value) (base : Heap) (x : Str) (C : Addr) (fs : List Str) : Prop where
  gl : mg x = some (.ref C)
  er : ErC K C
  ini : ∃ (fI : Addr) (fd : FuncData), PySem.W.findIn K (.ref C) "__init__" = some (some (.ref fI)) ∧ PySem.W.typeIn K (.ref fI) = some (.type "function") ∧
    FnOk P w K mg base CX0 1 fI fd (("self" : Str) :: fs) (spI C fs) ∧ Binds K fd (("self" : Str) :: fs) [] ∧
    (∀ (s : Shared) (u : Value) (ws : List Value), ws.length = fs.length → BindsTo s fd ⟨[u], fs.reverse.zip ws⟩ ((("self" : Str) :: fs).zip (u :: ws.reverse)))
end
def tEr (C : Addr) (fs : List Str) (t : TA) : TE := fun σ H Q => t σ H fun vs H1 => vs.length = fs.length ∧ vs.length ≤ 1000 ∧
  ∀ a d, H1 a = none → H1 d = none → d ≠ a → Q (.ref a) (upd (upd H1 d (exd d (fs.zip vs).reverse)) a (exo a C (some d)))
def tErK (C : Addr) (fs : List Str) (t : TA) : TE := fun σ H Q => t σ H fun vs H1 => vs.length = fs.length ∧
  ∀ a d, H1 a = none → H1 d = none → d ≠ a → Q (.ref a) (upd (upd H1 d (exd d (fs.zip vs.reverse).reverse)) a (exo a C (some d)))
section
variable {X : Cx} {x : Str} {C : Addr} {fs : List Str} {j : Nat} {p pos : Pos} {e : Expr} {es : List Expr} {kws : List Keyword} {t : TA}
theorem run_er {pins : List (Addr × Obj)} {σ : L2.St} {H : Hp} {s : Shared} {Q : VK} {us : List Value} {kw : List (Str × Value)} {vs : List V} {ks : List Value}
    (M : ErMk X.prog X.w X.K X.mg X.base x C fs) (hr : Room 2 X.A) (I : Inv X pins σ H s) (r : Vals vs ks) (hl : vs.length = fs.length) (hu : us.length ≤ 1000)
    (hb : ∀ (fd : FuncData) (s : Shared) (u : Value), Binds X.K fd (("self" : Str) :: fs) [] → (∀ (s : Shared) (u : Value) (ws : List Value), ws.length = fs.length → BindsTo s fd ⟨[u], fs.reverse.zip ws⟩ ((("self" : Str) :: fs).zip (u :: ws.reverse))) →
      X.K.In s.heap → BindsTo s fd ⟨u :: us, kw⟩ ((("self" : Str) :: fs).zip (u :: ks)))
    (h : ∀ a d, H a = none → H d = none → d ≠ a → Q (.ref a) (upd (upd H d (exd d (fs.zip vs).reverse)) a (exo a C (some d)))) :
    wpAny (model X.prog X.w) X.A (call (.ref C) us kw) (EP X pins σ Q) X.xe s := by
  obtain ⟨fI, fd, iC, tI, F1, b1, b2⟩ := M.ini
  have T := M.er.o
  obtain ⟨nm, q, N, bs, bm, sn, sub, ab, col, dd, k0, k1, k2, k3, k5, hC, hbm⟩ := T.cls
  obtain ⟨hp, g, dr, tk, os⟩ := s
  have hsz : hp.objs.size ≤ hp.objs.size + 1 := Nat.le_succ _
  have hn : H (hp.objs.size + 1) = none := I.hok.fresh hsz
  have kk : ∀ b o, hp.get? b = some o → ((hp.push (PySem.W.kdv_tup us)).push (PySem.HandSPX.excO C hp.objs.size)).get? b = some o :=
    fun b o e => Heap.get?_push_of_some _ (Heap.get?_push_of_some _ e)
  have hget : ((hp.push (PySem.W.kdv_tup us)).push (PySem.HandSPX.excO C hp.objs.size)).get? (hp.objs.size + 1) = some (PySem.HandSPX.excO C hp.objs.size) := by heap_get
  have I2 : Inv X pins σ (upd H (hp.objs.size + 1) (exo (hp.objs.size + 1) C none)) ⟨(hp.push (PySem.W.kdv_tup us)).push (PySem.HandSPX.excO C hp.objs.size), g, dr, tk, os⟩ :=
    I.laid (t' := tk) (a := hp.objs.size + 1) (o := exo (hp.objs.size + 1) C none) (h' := (hp.push (PySem.W.kdv_tup us)).push (PySem.HandSPX.excO C hp.objs.size)) kk hsz (exo_ok hget)
  have r2 : Vals (V.ref (hp.objs.size + 1) :: vs) (Value.ref (hp.objs.size + 1) :: ks) := .cons rfl r
  have hus : us.length ≤ sizeLine := by rw [sizeLine_eq]; omega
  have hq : spI C fs (.ref (hp.objs.size + 1) :: vs) (upd H (hp.objs.size + 1) (exo (hp.objs.size + 1) C none)) (fun v H2 => v = .non ∧ Q (.ref (hp.objs.size + 1)) H2) (fun _ _ _ => False) := by
    refine ⟨_, vs, rfl, hl, upd_same, fun d n ne => ⟨rfl, ?_⟩⟩
    rw [upd_ne ne] at n
    have e : upd (upd (upd H (hp.objs.size + 1) (exo (hp.objs.size + 1) C none)) d (exd d (fs.zip vs).reverse)) (hp.objs.size + 1) (exo (hp.objs.size + 1) C (some d))
        = upd (upd H d (exd d (fs.zip vs).reverse)) (hp.objs.size + 1) (exo (hp.objs.size + 1) C (some d)) := by
      funext b
      unfold upd
      by_cases hb : b = hp.objs.size + 1
      · simp [hb]
      · simp [hb]
    rw [e]
    exact h _ d hn n ne
  have hr1 : Room (1 + 1) X.A := hr
  refine wpAny_call (callK F.excBase_ValueError (fun Y => PySem.HandSPX.refsVE_contains Y bm hbm) (I.kIn _ _ hC) (PySem.W.looks_findIn I.kIn iC)
    (fun self => PySem.W.bind_fn I.kIn self tI) hus
    (codeAny_mono (F1.run _ X.stack _ _ ⟨Value.ref (hp.objs.size + 1) :: us, kw⟩ (Value.ref (hp.objs.size + 1) :: ks) _ _ (fun _ _ _ => False) (hr1.make C us kw) (I2.env0.make C us kw)
      (hb fd _ _ b1 b2 I2.kIn) r2 hq) fun r s' hq' => ?_))
  cases r with
  | error er => exact hq'.elim
  | ok fl =>
    cases fl with
    | ret u =>
      obtain ⟨v, H2, J, rv, ev, q2⟩ := I2.after hq'
      subst ev
      exact ⟨rv, V.ref (hp.objs.size + 1), H2, J, rfl, q2⟩
    | next => exact False.elim hq'
    | brk => exact False.elim hq'
    | cont => exact False.elim hq'
theorem pe_er (M : ErMk X.prog X.w X.K X.mg X.base x C fs) (hr : Room j X.A) (hk : 2 ≤ j) (hg : Gl X x) (ha : PA X (e :: es) t)
    (hdb : (x == ("__debug__" : Str)) = false := by decide) (he : starEach (e :: es) X.env = (false, eval e X.env) :: starEach es X.env := by rfl)
    (hpl : (backTo pos (starEach es X.env)).any (·.1) = false := by rfl) : PE X (.Call (.Name x p) (e :: es) [] pos) (tEr C fs t) := by
  refine ⟨fun pins s σ H Q I h => ?_⟩
  refine wpAny_Call_Name_kw (ld_glob I hg M.gl ?_ hdb)
  refine PySem.W.callWith_K (h₀ := X.base) I.ok.mod.kin M.er.o.kC (thn (ha.run pos pins s σ H _ I h) fun us s1 ⟨vs, H1, I1, r, hl, hz, q⟩ => ⟨I1.kIn, ?_⟩) he hpl
  refine run_er (us := us) M (hr.mono hk) I1 r hl (by rw [← r.length]; exact hz) (fun fd s u b1 _ X1 => ?_) q
  have e1 : (u :: us).length = (("self" : Str) :: fs).length := by
    show us.length + 1 = fs.length + 1
    rw [← r.length, hl]
  have z := b1 s (u :: us) X1 (by rw [List.append_nil]; exact e1)
  rw [List.append_nil] at z
  exact z
theorem pe_erK {ks : List Str} (M : ErMk X.prog X.w X.K X.mg X.base x C fs) (hr : Room j X.A) (hk : 2 ≤ j) (hg : Gl X x) (hkw : PK X kws t) (hrev : ks = fs.reverse)
    (hall : (backToKw pos (keywordEach kws X.env)).all (·.1.isSome) = true := by rfl) (hks : (backToKw pos (keywordEach kws X.env)).filterMap (·.1) = ks := by rfl)
    (hdb : (x == ("__debug__" : Str)) = false := by decide)
    (hpl : ((backTo pos (starEach [] X.env)).any (·.1) || (backToKw pos (keywordEach kws X.env)).any (·.1.isNone)) = false := by rfl) :
    PE X (.Call (.Name x p) [] kws pos) (tErK C fs t) := by
  refine ⟨fun pins s σ H Q I h => ?_⟩
  refine wpAny_Call_Name_kw (ld_glob I hg M.gl ?_ hdb)
  refine PySem.W.callWith_KW0 (h₀ := X.base) I.ok.mod.kin M.er.o.kC hall (thn (hkw.run pos pins s σ H _ I h) fun ws s1 ⟨zs, H1, I1, r, hl, q⟩ => ⟨I1.kIn, ?_⟩) hpl
  rw [hks, hrev]
  have rr : Vals zs.reverse ws.reverse := by
    have aux : ∀ {xs : List V} {us : List Value}, Vals xs us → Vals xs.reverse us.reverse := by
      intro xs us r
      induction r with
      | nil => exact .nil
      | cons a b ih =>
        rw [List.reverse_cons, List.reverse_cons]
        exact ih.append (.cons a .nil)
    exact aux r
  refine run_er (us := []) M (hr.mono hk) I1 rr (by rw [List.length_reverse]; exact hl) (by decide) (fun fd s u _ b2 X1 => ?_) q
  exact b2 s u ws (by rw [← r.length]; exact hl)
end

structure MroIs (K : PySem.W.Frag) (C : Addr) (m : List Value) : Prop where
  ex : ∃ cd, PySem.W.clsIn K C = some cd ∧ cd.mro = .ref C :: m
theorem kit_ref {K : PySem.W.Frag} {C D : Addr} {m : List Value} (h : MroIs K C m) (TD : ErC K D) :
    PySem.W.kitOne K (.ref C) (.ref D) = some (decide (C = D) || m.contains (.ref D)) := by
  obtain ⟨cd, e1, e2⟩ := h.ex
  unfold PySem.W.kitOne PySem.W.kitCls PySem.W.subIn PySem.W.mroIn
  by_cases c : C = D
  · subst c
    simp
  · have n1 : (Value.ref C == Value.ref D) = false := by
      rw [beq_eq_false_iff_ne]
      exact fun z => c (Value.ref.inj z)
    have n2 : (Value.ref D == Value.ref C) = false := by
      rw [beq_eq_false_iff_ne]
      exact fun z => c (Value.ref.inj z).symm
    have n3 : ((PySem.W.clsIn K D).isSome && PySem.W.typeIn K (.ref D) == some (.type "type")) = true := by
      rw [TD.clsI, TD.o.tyC]
      rfl
    rw [n1, if_neg (by decide)]
    dsimp only
    rw [if_pos n3, e1, Option.bind_some, e2, if_neg (by simp), List.contains_cons, n2, decide_eq_false c]
theorem kit_bt {K : PySem.W.Frag} {C : Addr} {m : List Value} {T : String} (h : MroIs K C m) (ht : PySem.W.kitMeta T = true) :
    PySem.W.kitOne K (.ref C) (.type T) = some (m.contains (.type T)) := by
  obtain ⟨cd, e1, e2⟩ := h.ex
  unfold PySem.W.kitOne PySem.W.kitCls PySem.W.subIn PySem.W.mroIn
  have n1 : (Value.ref C == Value.type T) = false := by
    rw [beq_eq_false_iff_ne]
    exact fun z => nomatch z
  have n2 : (Value.type T == Value.ref C) = false := by
    rw [beq_eq_false_iff_ne]
    exact fun z => nomatch z
  rw [n1, if_neg (by decide)]
  dsimp only
  rw [if_pos ht, e1, Option.bind_some, e2, if_neg (by simp), List.contains_cons, n2, Bool.false_or]
theorem kitAny_false {K : PySem.W.Frag} {t : Value} : ∀ {cs : List Value}, (∀ c ∈ cs, PySem.W.kitOne K t c = some false) → PySem.W.kitAny K t cs = some false
  | [], _ => rfl
  | c :: r, h => kitAny_cons (h c List.mem_cons_self) (fun _ => kitAny_false fun d hd => h d (List.mem_cons_of_mem _ hd)) (fun z => nomatch z)
theorem kitAny_true {K : PySem.W.Frag} {t : Value} : ∀ {cs : List Value}, (∀ c ∈ cs, ∃ b, PySem.W.kitOne K t c = some b) → (∃ c ∈ cs, PySem.W.kitOne K t c = some true) → PySem.W.kitAny K t cs = some true
  | [], _, h => by
    obtain ⟨c, hc, _⟩ := h
    cases hc
  | c :: r, h, k => by
    obtain ⟨b, e⟩ := h c List.mem_cons_self
    refine kitAny_cons e (fun q => kitAny_true (fun d hd => h d (List.mem_cons_of_mem _ hd)) ?_) (fun _ => rfl)
    obtain ⟨d, hd, e2⟩ := k
    rcases List.mem_cons.mp hd with z | z
    · subst z
      rw [e2, q] at e
      cases e
    · exact ⟨d, z, e2⟩
theorem clsv_refs : ∀ Ds : List Addr, Paired ClsV (Ds.map V.ref) (Ds.map Value.ref)
  | [] => .nil
  | D :: r => .cons (.own D) (clsv_refs r)
abbrev above (S : Addr) : List Value := [.ref S, .type "ValueError", .type "Exception", .type "BaseException", .type "object"]
abbrev aboveS : List Value := [.type "ValueError", .type "Exception", .type "BaseException", .type "object"]
def ErrAt (K : PySem.W.Frag) (H : Hp) (a C : Addr) : Prop := ErC K C ∧ (H a = some (exo a C none) ∨ ∃ (d : Addr) (fs : List (Str × V)), H a = some (exo a C (some d)) ∧ H d = some (exd d fs))
theorem ErrAt.ty {K : PySem.W.Frag} {H : Hp} {a C : Addr} (h : ErrAt K H a C) : TyZ K H (.ref a) (.ref C) := by
  obtain ⟨T, e | ⟨d, fs, e, ed⟩⟩ := h
  · exact .excN e T
  · exact .exc e ed T
theorem ErrAt.keep {K : PySem.W.Frag} {H H' : Hp} {a C : Addr} (h : ErrAt K H a C) (k : ∀ b o, H b = some o → H' b = some o) : ErrAt K H' a C := by
  obtain ⟨T, e | ⟨d, fs, e, ed⟩⟩ := h
  · exact ⟨T, .inl (k _ _ e)⟩
  · exact ⟨T, .inr ⟨d, fs, k _ _ e, k _ _ ed⟩⟩
theorem ErrAt.there {K : PySem.W.Frag} {H : Hp} {a C : Addr} (h : ErrAt K H a C) : ∃ o, H a = Option.some o := by
  obtain ⟨T, e | ⟨d, fs, e, ed⟩⟩ := h
  · exact ⟨_, e⟩
  · exact ⟨_, e⟩
theorem er_new {H : Hp} {a d C : Addr} {K : PySem.W.Frag} {fs : List (Str × V)} (T : ErC K C) (ha : H a = none) (hd : H d = none) (ne : d ≠ a) :
    ErrAt K (upd (upd H d (exd d fs)) a (exo a C (some d))) a C ∧ (∀ b o, H b = Option.some o → upd (upd H d (exd d fs)) a (exo a C (some d)) b = Option.some o) :=
  ⟨⟨T, .inr ⟨d, fs, upd_same, by rw [upd_ne ne]; exact upd_same⟩⟩, fun b o e => by rw [upd_ne (ne_of_none e ha), upd_ne (ne_of_none e hd)]; exact e⟩
structure Er0 (K : PySem.W.Frag) (mg : Str → Option Value) (x : Str) (C : Addr) : Prop where
  gl : mg x = some (.ref C)
  er : ErC K C
  ex : PySem.W.excIn K C aboveS "ValueError.__new__" = true
def tEr0 (C : Addr) : TE := fun _ H Q => ∀ a, H a = none → Q (.ref a) (upd H a (exo a C none))
theorem pe_er0 {X : Cx} {x : Str} {C : Addr} {p pos : Pos} (M : Er0 X.K X.mg x C) (hg : Gl X x) (hdb : (x == ("__debug__" : Str)) = false := by decide) :
    PE X (.Call (.Name x p) [] [] pos) (tEr0 C) := by
  refine ⟨fun pins s σ H Q I h => ?_⟩
  refine wpAny_Call_Name_kw (ld_glob I hg M.gl ?_ hdb)
  refine PySem.W.callWith_K0 I.kIn M.er.o.kC ?_
  obtain ⟨bm, N, nm, qn, bs, hdct, sn, sub, ab, col, dd, k0, k1, k2, k3, k5, mN, hC, hN, hni, T⟩ := exc_obj I.kIn M.ex
  refine wpAny_call_exc_subT F.excBase_ValueError T hC hN hni (fun h' a hm => ?_) (by show 0 ≤ sizeLine; exact Nat.zero_le _)
  have hn : H a = none := I.hok.gone hm.new
  obtain ⟨t, ht, _, _⟩ := hm.there
  exact ⟨.ref a, upd H a (exo a C none), I.laidN hm.keeps hm.new hn (exo_ok ht), rfl, h a hn⟩
end SpE

set_option maxHeartbeats 4000000
namespace SpE
open PySem PySem.Spec PyProof.Rows L2
open C8 (Cal pe_c)
theorem bt_isinstance : bootBuiltins "isinstance" = some (.builtin "isinstance") := by decide +kernel
theorem bt_len : bootBuiltins "len" = some (.builtin "len") := by decide +kernel
theorem bt_abs : bootBuiltins "abs" = some (.builtin "abs") := by decide +kernel
theorem bt_all : bootBuiltins "all" = some (.builtin "all") := by decide +kernel
theorem bt_any : bootBuiltins "any" = some (.builtin "any") := by decide +kernel
theorem bt_max : bootBuiltins "max" = some (.builtin "max") := by decide +kernel
theorem bt_min : bootBuiltins "min" = some (.builtin "min") := by decide +kernel
theorem bt_int : bootBuiltins "int" = some (.type "int") := by decide +kernel
theorem bt_str : bootBuiltins "str" = some (.type "str") := by decide +kernel
theorem bt_bool : bootBuiltins "bool" = some (.type "bool") := by decide +kernel
theorem bt_list : bootBuiltins "list" = some (.type "list") := by decide +kernel
theorem bt_tuple : bootBuiltins "tuple" = some (.type "tuple") := by decide +kernel
theorem bt_dict : bootBuiltins "dict" = some (.type "dict") := by decide +kernel
theorem bt_ValueError : bootBuiltins "ValueError" = some (.type "ValueError") := by decide +kernel
theorem bt_KeyError : bootBuiltins "KeyError" = some (.type "KeyError") := by decide +kernel
theorem bt_IndexError : bootBuiltins "IndexError" = some (.type "IndexError") := by decide +kernel
theorem bt_TypeError : bootBuiltins "TypeError" = some (.type "TypeError") := by decide +kernel
structure Blt (mg : Str → Option Value) : Prop where
  isinstance : mg "isinstance" = none
  len : mg "len" = none
  abs : mg "abs" = none
  all : mg "all" = none
  any : mg "any" = none
  max : mg "max" = none
  min : mg "min" = none
  int : mg "int" = none
  str : mg "str" = none
  bool : mg "bool" = none
  list : mg "list" = none
  tuple : mg "tuple" = none
  dict : mg "dict" = none
  range : mg "range" = none
  zip : mg "zip" = none
  ValueError : mg "ValueError" = none
  KeyError : mg "KeyError" = none
  IndexError : mg "IndexError" = none
  TypeError : mg "TypeError" = none
def bltNames : List Str := ["isinstance", "len", "abs", "all", "any", "max", "min", "int", "str", "bool", "list", "tuple", "dict", "range", "zip", "ValueError", "KeyError", "IndexError", "TypeError"]
theorem blt_of {mg : Str → Option Value} (h : ∀ x ∈ bltNames, mg x = none) : Blt mg := by
  constructor <;> exact h _ (by decide)
abbrev DefOf (K : PySem.W.Frag) (x : Str) (st : Stmt) (f : Addr) (fd : FuncData) : Prop := FunD K x x (defArgs st) (defBody st) (defScope st) [] [] f fd
section
variable {P : Program} {w : World} {K : PySem.W.Frag} {mg : Str → Option Value} {base : Heap}
theorem cal_of {x : Str} {st : Stmt} {f : Addr} {fd : FuncData} {N ps : List Str} {k : Nat} {sp : Sp} (F : DefOf K x st f fd) (g : mg x = some (.ref f)) (b : Binds K fd ps [])
    (S : FnScope N ps (defScope st)) (len : ∀ vs H Q E, sp vs H Q E → vs.length = ps.length)
    (hbody : ∀ (cdv : Value) (A : Around) (outer : List Env) (s : Shared) (H : Hp) (vs : List V) (Q : VK) (E : XK), Room k (A.deeper (envOfC x (defScope st) s.heap.objs.size f cdv)) → sp vs H Q E →
      ∃ t, PSs (cxOf CX0 P w K mg base N x (defScope st) f cdv A outer s H E).nox (defBody st) t ∧ t { nx := fun _ H' => Q .non H', rt := Q } (start N vs) H) :
    Cal P w K mg base (k + 1) x sp [] := by
  refine ⟨f, fd, ps, [], F.ok S len (fun cdv A outer s H vs Q E hr h => ?_), g, F.kp, b, .nil⟩
  obtain ⟨t, h1, h2⟩ := hbody cdv A outer s H vs Q E hr h
  exact ⟨t, h1.nox, h2⟩
end
structure StA (H : Hp) (a b : Addr) (c : Nat) : Prop where
  ex : ∃ (d n m : Int) (ns : List Int), H a = some (.lst [.ref b, .int d, .int n, .int m]) ∧ H b = some (.lst (ns.map V.int)) ∧ 0 ≤ d ∧ 0 ≤ n ∧ n ≤ c ∧ 0 ≤ m ∧ m < 2147483647
theorem StA.ne {H : Hp} {a b : Addr} {c : Nat} (h : StA H a b c) : a ≠ b := by
  obtain ⟨d, n, m, ns, ha, hb, _⟩ := h.ex
  intro e
  subst e
  rw [ha] at hb
  have z := HO.lst.inj (Option.some.inj hb)
  cases ns with
  | nil => cases z
  | cons x r => cases z
theorem StA.mono {H : Hp} {a b : Addr} {c c' : Nat} (h : StA H a b c) (l : c ≤ c') : StA H a b c' := by
  obtain ⟨d, n, m, ns, ha, hb, h1, h2, h3, h4, h5⟩ := h.ex
  exact ⟨d, n, m, ns, ha, hb, h1, h2, by omega, h4, h5⟩
theorem StA.keep {H H' : Hp} {a b : Addr} {c : Nat} (h : StA H a b c) (k : ∀ x o, H x = some o → H' x = some o) : StA H' a b c := by
  obtain ⟨d, n, m, ns, ha, hb, r⟩ := h.ex
  exact ⟨d, n, m, ns, k _ _ ha, k _ _ hb, r⟩
theorem StA.keepB {H H' : Hp} {a b : Addr} {c : Nat} (h : StA H a b c) (k : H' a = H a) (k2 : H' b = H b) : StA H' a b c := by
  obtain ⟨d, n, m, ns, ha, hb, r⟩ := h.ex
  exact ⟨d, n, m, ns, k.trans ha, k2.trans hb, r⟩
def SameB (a b : Addr) (H H' : Hp) : Prop := ∀ x o, x ≠ a → x ≠ b → H x = some o → H' x = some o
theorem SameB.refl (a b : Addr) (H : Hp) : SameB a b H H := fun _ _ _ _ h => h
theorem SameB.trans {a b : Addr} {H H1 H2 : Hp} (h : SameB a b H H1) (k : SameB a b H1 H2) : SameB a b H H2 := fun x o n m e => k x o n m (h x o n m e)
theorem sameB_of {a b : Addr} {H H' : Hp} (h : Same H H') : SameB a b H H' := fun x o _ _ e => h x o e
theorem same_upd {H : Hp} {p : Addr} {o : HO} (n : H p = none) : Same H (upd H p o) := fun b u e => by rw [upd_ne (ne_of_none e n)]; exact e
theorem sameB_a {a b : Addr} {H : Hp} {o : HO} : SameB a b H (upd H a o) := fun x u n _ e => by rw [upd_ne n]; exact e
theorem sameB_b {a b : Addr} {H : Hp} {o : HO} : SameB a b H (upd H b o) := fun x u _ n e => by rw [upd_ne n]; exact e
def spStart (K : PySem.W.Frag) : Sp := fun vs H Q _ => ∃ (l : Addr) (ns : List Int), vs = [.ref l] ∧ SqL K H l (ns.map V.int) ∧
  ∀ a b H', H a = none → H b = none → StA H' a b 0 → Same H H' → Q (.ref a) H'
def spPick : Sp := fun vs H Q _ => ∃ (a b : Addr) (c : Nat) (many : Int), vs = [.ref a, .int many] ∧ StA H a b c ∧ c < 1099511627776 ∧ 1 ≤ many ∧ many < 1073741824 ∧
  ∀ r H', 0 ≤ r → r < many → StA H' a b (c + 1) → SameB a b H H' → Q (.int r) H'
theorem dp_ints {K : PySem.W.Frag} {H : Hp} : ∀ ns : List Int, DpAll K H (ns.map V.int) (ns.map PyData.int)
  | [] => .nil
  | n :: r => .cons (.int n) (dp_ints r)
theorem eqv_ints_nil : ∀ ns : List Int, PyData.eqv (.list (ns.map PyData.int)) (.list []) = ns.isEmpty
  | [] => by simp [PyData.eqv, PyData.eqvAll]
  | n :: r => by simp [PyData.eqv, PyData.eqvAll]
theorem while_k {c : TT} {tb : TS} {D : Ends} {σ : L2.St} {H : Hp} (W : Nat → L2.St → Hp → Prop) (B : L2.St → Hp → Prop) (m0 : Nat) (h0 : W m0 σ H)
    (step : ∀ m σ H, W m σ H → ∀ (NX : L2.St → Hp → Prop), (∀ σ' H', B σ' H' → NX σ' H') → c σ H fun b H1 => if b = true then ∃ N : L2.St → Hp → Prop,
      (∀ σ' H', N σ' H' → ∃ m', m' < m ∧ W m' σ' H') ∧ tb { D with nx := N, ct := N, bk := NX } σ H1 else NX σ H1)
    (fin : ∀ σ H, B σ H → D.nx σ H) : tWhile c tb D σ H := ⟨W, ⟨m0, h0⟩, fun m σ H h => step m σ H h D.nx fin⟩
theorem fm0 (x : Int) {m : Int} (h : 0 < m) : 0 ≤ x.fmod m := by
  rw [Int.fmod_eq_emod_of_nonneg x (by omega)]
  exact Int.emod_nonneg _ (by omega)
theorem fm1 (x : Int) {m : Int} (h : 0 < m) : x.fmod m < m := by
  rw [Int.fmod_eq_emod_of_nonneg x (by omega)]
  exact Int.emod_lt_of_pos _ h
theorem lc_zipL {K : PySem.W.Frag} {a b : Addr} {xs ys : List V} {g : TG} {tt : TT} {te : TE} {vs : List Nat} {σ : L2.St} {H1 : Hp} {D : Addr} {Qd : Hp → Prop} (hl : xs.length = ys.length) (Pv : Nat → Hp → Prop)
    (h0 : Pv 0 (upd H1 D (.lst []))) (hq : ∀ i H, Pv i H → SqL K H a xs ∧ SqL K H b ys)
    (hs : ∀ (i : Nat) (x y : V) (T : Addr) (H : Hp), xs[i]? = some x → ys[i]? = some y → Pv i H → H T = none → g (.ref T) (wipe σ vs) (upd H T (.tup [x, y])) fun σ2 H2 => wipe σ2 vs = wipe σ vs ∧ tt σ2 H2 fun b H3 =>
      if b = true then te σ2 H3 fun y H4 => ∃ acc, H4 D = some (.lst acc) ∧ acc.length < sizeLine ∧ Pv (i + 1) (upd H4 D (.lst (acc ++ [y]))) else Pv (i + 1) H3) (hd : ∀ H, Pv xs.length H → Qd H) :
    ∃ W : Nat → Nat → Hp → Prop, (∃ m, W 0 m (upd H1 D (.lst []))) ∧ ∀ i m H, W i m H →
      ((Itz K a b).stop i H ∧ Qd H) ∨ ((Itz K a b).go i H ∧ ∃ Nx : Hp → Prop, (∀ H', Nx H' → ∃ m', m' < m ∧ W (i + 1) m' H') ∧ ∀ x H', (Itz K a b).yld i H x H' → g x (wipe σ vs) H' fun σ2 H2 => wipe σ2 vs = wipe σ vs ∧ tt σ2 H2 fun b H3 =>
        if b = true then te σ2 H3 fun y H4 => ∃ acc, H4 D = some (.lst acc) ∧ acc.length < sizeLine ∧ Nx (upd H4 D (.lst (acc ++ [y]))) else Nx H3) := by
  refine ⟨fun i m H => m = xs.length - i ∧ i ≤ xs.length ∧ Pv i H, ⟨xs.length, rfl, Nat.zero_le _, h0⟩, ?_⟩
  rintro i m H ⟨rfl, hi, p⟩
  obtain ⟨qx, qy⟩ := hq i H p
  by_cases hlt : i < xs.length
  · have hx : xs[i]? = some xs[i] := List.getElem?_eq_getElem hlt
    have hlt2 : i < ys.length := by omega
    have hy : ys[i]? = some ys[i] := List.getElem?_eq_getElem hlt2
    refine .inr ⟨⟨xs, ys, _, _, qx, qy, hx, hy⟩, Pv (i + 1), fun H' p' => ⟨xs.length - (i + 1), by omega, rfl, hlt, p'⟩, fun v H' y => ?_⟩
    obtain ⟨T, x', y', rfl, hT, rfl, f1, f2⟩ := y
    exact hs i x' y' T H (f1 xs qx) (f2 ys qy) p hT
  · have e : i = xs.length := by omega
    subst e
    exact .inl ⟨⟨xs, ys, qx, qy, Or.inl (Nat.le_refl _)⟩, hd H p⟩
theorem lc_zipT {K : PySem.W.Frag} {a b : Addr} {xs ys : List V} {g : TG} {tt : TT} {te : TE} {vs : List Nat} {σ : L2.St} {H1 : Hp} {D : Addr} {Qd : Hp → Prop} (hl : xs.length = ys.length) (Pv : Nat → Hp → Prop)
    (h0 : Pv 0 (upd H1 D (.lst []))) (hq : ∀ i H, Pv i H → SqT K H a xs ∧ SqT K H b ys)
    (hs : ∀ (i : Nat) (x y : V) (T : Addr) (H : Hp), xs[i]? = some x → ys[i]? = some y → Pv i H → H T = none → g (.ref T) (wipe σ vs) (upd H T (.tup [x, y])) fun σ2 H2 => wipe σ2 vs = wipe σ vs ∧ tt σ2 H2 fun b H3 =>
      if b = true then te σ2 H3 fun y H4 => ∃ acc, H4 D = some (.lst acc) ∧ acc.length < sizeLine ∧ Pv (i + 1) (upd H4 D (.lst (acc ++ [y]))) else Pv (i + 1) H3) (hd : ∀ H, Pv xs.length H → Qd H) :
    ∃ W : Nat → Nat → Hp → Prop, (∃ m, W 0 m (upd H1 D (.lst []))) ∧ ∀ i m H, W i m H →
      ((RZ.ItzT K a b).stop i H ∧ Qd H) ∨ ((RZ.ItzT K a b).go i H ∧ ∃ Nx : Hp → Prop, (∀ H', Nx H' → ∃ m', m' < m ∧ W (i + 1) m' H') ∧ ∀ x H', (RZ.ItzT K a b).yld i H x H' → g x (wipe σ vs) H' fun σ2 H2 => wipe σ2 vs = wipe σ vs ∧ tt σ2 H2 fun b H3 =>
        if b = true then te σ2 H3 fun y H4 => ∃ acc, H4 D = some (.lst acc) ∧ acc.length < sizeLine ∧ Nx (upd H4 D (.lst (acc ++ [y]))) else Nx H3) := by
  refine ⟨fun i m H => m = xs.length - i ∧ i ≤ xs.length ∧ Pv i H, ⟨xs.length, rfl, Nat.zero_le _, h0⟩, ?_⟩
  rintro i m H ⟨rfl, hi, p⟩
  obtain ⟨qx, qy⟩ := hq i H p
  by_cases hlt : i < xs.length
  · have hx : xs[i]? = some xs[i] := List.getElem?_eq_getElem hlt
    have hlt2 : i < ys.length := by omega
    have hy : ys[i]? = some ys[i] := List.getElem?_eq_getElem hlt2
    refine .inr ⟨⟨xs, ys, _, _, qx, qy, hx, hy⟩, Pv (i + 1), fun H' p' => ⟨xs.length - (i + 1), by omega, rfl, hlt, p'⟩, fun v H' y => ?_⟩
    obtain ⟨T, x', y', rfl, hT, rfl, f1, f2⟩ := y
    exact hs i x' y' T H (f1 xs qx) (f2 ys qy) p hT
  · have e : i = xs.length := by omega
    subst e
    exact .inl ⟨⟨xs, ys, qx, qy, Or.inl (Nat.le_refl _)⟩, hd H p⟩
theorem lc_keys {d : Addr} {o : Obj} {kvs : List (Key × V)} {g : TG} {tt : TT} {te : TE} {vs : List Nat} {σ : L2.St} {H1 : Hp} {D : Addr} {Qd : Hp → Prop} (Pv : Nat → Hp → Prop)
    (h0 : Pv 0 (upd H1 D (.lst []))) (hq : ∀ i H, Pv i H → H d = some (.frz o (.dK kvs)))
    (hs : ∀ (i : Nat) (k : Key) (v : V) (H : Hp), kvs[i]? = some (k, v) → Pv i H → g (kV k) (wipe σ vs) H fun σ2 H2 => wipe σ2 vs = wipe σ vs ∧ tt σ2 H2 fun b H3 =>
      if b = true then te σ2 H3 fun y H4 => ∃ acc, H4 D = some (.lst acc) ∧ acc.length < sizeLine ∧ Pv (i + 1) (upd H4 D (.lst (acc ++ [y]))) else Pv (i + 1) H3) (hd : ∀ H, Pv kvs.length H → Qd H) :
    ∃ W : Nat → Nat → Hp → Prop, (∃ m, W 0 m (upd H1 D (.lst []))) ∧ ∀ i m H, W i m H →
      ((Itk d o kvs).stop i H ∧ Qd H) ∨ ((Itk d o kvs).go i H ∧ ∃ Nx : Hp → Prop, (∀ H', Nx H' → ∃ m', m' < m ∧ W (i + 1) m' H') ∧ ∀ x H', (Itk d o kvs).yld i H x H' → g x (wipe σ vs) H' fun σ2 H2 => wipe σ2 vs = wipe σ vs ∧ tt σ2 H2 fun b H3 =>
        if b = true then te σ2 H3 fun y H4 => ∃ acc, H4 D = some (.lst acc) ∧ acc.length < sizeLine ∧ Nx (upd H4 D (.lst (acc ++ [y]))) else Nx H3) := by
  refine ⟨fun i m H => m = kvs.length - i ∧ i ≤ kvs.length ∧ Pv i H, ⟨kvs.length, rfl, Nat.zero_le _, h0⟩, ?_⟩
  rintro i m H ⟨rfl, hi, p⟩
  have q := hq i H p
  by_cases hlt : i < kvs.length
  · refine .inr ⟨⟨q, hlt⟩, Pv (i + 1), fun H' p' => ⟨kvs.length - (i + 1), by omega, rfl, hlt, p'⟩, fun v H' y => ?_⟩
    obtain ⟨e, k, v', e2, e3⟩ := y
    subst e e3
    exact hs i k v' _ e2 p
  · have e : i = kvs.length := by omega
    subst e
    exact .inl ⟨⟨q, Nat.le_refl _⟩, hd H p⟩
def tLock2 (t : TE) : TE := fun σ H Q => tLockE t σ H Q ∨ t σ H Q
theorem pe_lock2 {X : Cx} {e : Expr} {t : TE} (h : PE X e t) : PE X e (tLock2 t) :=
  ⟨fun pins s σ H Q I hw => hw.elim ((pe_lock h).run pins s σ H Q I) (h.run pins s σ H Q I)⟩
theorem seqIndex0 (n : Nat) : seqIndex? 0 (n + 1) = some 0 := by
  unfold seqIndex?
  simp
def pickW (a b : Addr) (many n : Int) (H0 : Hp) : Nat → L2.St → Hp → Prop := fun m σ H => ∃ (vc : Option V) (d s : Int) (ns : List Int),
  σ = [some (.ref a), some (.int many), vc, none, none] ∧ m = ns.length ∧ H a = some (.lst [.ref b, .int d, .int n, .int s]) ∧ H b = some (.lst (ns.map V.int)) ∧
  0 ≤ d ∧ 0 ≤ s ∧ s < 2147483647 ∧ SameB a b H0 H
def pickB (a b : Addr) (many n : Int) (H0 : Hp) : L2.St → Hp → Prop := fun σ H => ∃ m, pickW a b many n H0 m σ H
section
variable {X : Cx} {K : PySem.W.Frag}
theorem ix_listK (h : X.K = K) : IxR X (rIxL K) := by subst h; exact ix_list
theorem ix_tupK (h : X.K = K) : IxR X (rIxT K) := by subst h; exact ix_tup
theorem call_isZK (h : X.K = K) : CallR X (.builtin "isinstance") (rIsZ K) := by subst h; exact call_isZ
def rLenSeq (K : PySem.W.Frag) : List V → Hp → VK → Prop := fun xs H Q => ∃ p ys, xs = [.ref p] ∧ (SqL K H p ys ∨ SqT K H p ys) ∧ Q (.int ys.length) H
theorem call_len_seqK (h : X.K = K) : CallR X (.builtin "len") (rLenSeq K) := by subst h; exact call_len_seq
def rListOf (K : PySem.W.Frag) : List V → Hp → VK → Prop := fun xs H Q => ∃ p ys, xs = [.ref p] ∧ (SqL K H p ys ∨ SqT K H p ys) ∧ ∀ l, H l = none → Q (.ref l) (upd H l (.lst ys))
theorem call_list_ofK (h : X.K = K) : CallR X (.type "list") (rListOf K) := by subst h; exact call_list_of
theorem cr_allK (h : X.K = K) (hc : X.calm = true) : CallR X (.builtin "all") (rAll K) := by subst h; exact cr_all hc
theorem op_eqDK (h : X.K = K) (hu : X.A.units + 64 < cLine) : OpR X (compareOp .Eq) (rEqD K) := by subst h; exact op_eqD hu
theorem op_neDK (h : X.K = K) (hu : X.A.units + 64 < cLine) : OpR X (compareOp .NotEq) (rNeD K) := by subst h; exact op_neD hu
theorem pe_exfK {e : Expr} {te : TE} {pos : Pos} {f : Str} (h : X.K = K) (he : PE X e te)
    (hb : attributeBase e f X.env (eval e X.env) = eval e X.env := by rfl) : PE X (.Attribute e f pos) (tExF K f te) := by subst h; exact pe_exf he hb
end
end SpE

set_option maxHeartbeats 4000000
namespace SpE
open PySem PySem.Spec PyProof.Rows L2
open C8 (Cal pe_c)
def keyD : Key → PyData
  | .inl i => .int i
  | .inr x => .str x
mutual
inductive Dt (K : PySem.W.Frag) (H : Hp) : V → PyData → Prop
  | non : Dt K H .non .none
  | bl (b : Bool) : Dt K H (.bl b) (.bool b)
  | int (i : Int) : Dt K H (.int i) (.int i)
  | str (x : Str) : Dt K H (.str x) (.str x)
  | lst {a : Addr} {xs : List V} {ds : List PyData} (q : SqL K H a xs) (z : xs.length ≤ sizeLine) (h : DtAll K H xs ds) : Dt K H (.ref a) (.list ds)
  | tup {a : Addr} {xs : List V} {ds : List PyData} (q : SqT K H a xs) (z : xs.length ≤ sizeLine) (h : DtAll K H xs ds) : Dt K H (.ref a) (.tuple ds)
  | dct {a : Addr} {kvs : List (Key × V)} {ds : List (PyData × PyData)} (q : Rd H a (.dK kvs)) (n : (kvs.map (·.1)).Nodup) (z : kvs.length ≤ sizeLine)
      (e : ds.map (·.1) = kvs.map fun p => keyD p.1) (h : DtAll K H (kvs.map (·.2)) (ds.map (·.2))) : Dt K H (.ref a) (.dict ds)
inductive DtAll (K : PySem.W.Frag) (H : Hp) : List V → List PyData → Prop
  | nil : DtAll K H [] []
  | cons {v : V} {vs : List V} {d : PyData} {ds : List PyData} : Dt K H v d → DtAll K H vs ds → DtAll K H (v :: vs) (d :: ds)
end
def SameR (H H' : Hp) : Prop := ∀ a u, Rd H a u → Rd H' a u
theorem sameR_of {H H' : Hp} (s : Same H H') : SameR H H' := fun a u r => by
  rcases r with r | ⟨o, r⟩
  · exact .inl (s _ _ r)
  · exact .inr ⟨o, s _ _ r⟩
theorem sqL_r {K : PySem.W.Frag} {H H' : Hp} {a : Addr} {xs : List V} (s : SameR H H') (h : SqL K H a xs) : SqL K H' a xs := h.elim (fun z => .inl (s _ _ z)) .inr
theorem sqT_r {K : PySem.W.Frag} {H H' : Hp} {a : Addr} {xs : List V} (s : SameR H H') (h : SqT K H a xs) : SqT K H' a xs := h.elim (fun z => .inl (s _ _ z)) .inr
section
variable {K : PySem.W.Frag} {H H' : Hp}
mutual
theorem Dt.keepR (s : SameR H H') : ∀ {v : V} {d : PyData}, Dt K H v d → Dt K H' v d
  | _, _, .non => .non
  | _, _, .bl b => .bl b
  | _, _, .int i => .int i
  | _, _, .str x => .str x
  | _, _, .lst q z h => .lst (sqL_r s q) z (DtAll.keepR s h)
  | _, _, .tup q z h => .tup (sqT_r s q) z (DtAll.keepR s h)
  | _, _, .dct q n z e h => .dct (s _ _ q) n z e (DtAll.keepR s h)
theorem DtAll.keepR (s : SameR H H') : ∀ {vs : List V} {ds : List PyData}, DtAll K H vs ds → DtAll K H' vs ds
  | _, _, .nil => .nil
  | _, _, .cons h t => .cons (Dt.keepR s h) (DtAll.keepR s t)
end
theorem Dt.keep (s : Same H H') {v : V} {d : PyData} (h : Dt K H v d) : Dt K H' v d := h.keepR (sameR_of s)
theorem DtAll.keep (s : Same H H') {vs : List V} {ds : List PyData} (h : DtAll K H vs ds) : DtAll K H' vs ds := h.keepR (sameR_of s)
theorem DtAll.length : ∀ {vs : List V} {ds : List PyData}, DtAll K H vs ds → vs.length = ds.length
  | _, _, .nil => rfl
  | _, _, .cons _ t => congrArg Nat.succ t.length
theorem DtAll.get : ∀ {vs : List V} {ds : List PyData} {i : Nat} {v : V}, DtAll K H vs ds → vs[i]? = some v → ∃ d, ds[i]? = some d ∧ Dt K H v d
  | _, _, _, _, .nil, e => by simp at e
  | _, _, 0, _, .cons h _, e => by
    have e' := Option.some.inj e
    subst e'
    exact ⟨_, rfl, h⟩
  | _, _, i + 1, _, .cons _ t, e => DtAll.get (i := i) t e
theorem DtAll.append : ∀ {vs ws : List V} {ds es : List PyData}, DtAll K H vs ds → DtAll K H ws es → DtAll K H (vs ++ ws) (ds ++ es)
  | _, _, _, _, .nil, t => t
  | _, _, _, _, .cons h t, u => .cons h (DtAll.append t u)
theorem dt_key (k : Key) : Dt K H (kV k) (keyD k) := by
  cases k with
  | inl i => exact .int i
  | inr x => exact .str x
theorem dt_keys : ∀ kvs : List (Key × V), DtAll K H (kvs.map fun p => kV p.1) (kvs.map fun p => keyD p.1)
  | [] => .nil
  | p :: r => .cons (dt_key p.1) (dt_keys r)
def tyN : PyData → String
  | .none => "NoneType"
  | .bool _ => "bool"
  | .int _ => "int"
  | .str _ => "str"
  | .list _ => "list"
  | .tuple _ => "tuple"
  | .dict _ => "dict"
theorem ty_sqL {a : Addr} {xs : List V} (h : SqL K H a xs) : TyZ K H (.ref a) (.type "list") := by
  rcases h with (h | ⟨o, h⟩) | ⟨o, its, n, h, c, _⟩
  · exact .base (.base (.lst h))
  · exact .base (.base (.frz h))
  · exact .base (.kList h c)
theorem ty_sqT {a : Addr} {xs : List V} (h : SqT K H a xs) : TyZ K H (.ref a) (.type "tuple") := by
  rcases h with (h | ⟨o, h⟩) | ⟨o, its, n, h, c, _⟩
  · exact .base (.base (.tup h))
  · exact .base (.fTuple h)
  · exact .base (.kTuple h c)
theorem ty_dK {a : Addr} {kvs : List (Key × V)} (h : Rd H a (.dK kvs)) : TyZ K H (.ref a) (.type "dict") := by
  rcases h with h | ⟨o, h⟩
  · exact .base (.base (.dK h))
  · exact .base (.fDict h)
theorem Dt.ty {v : V} {d : PyData} (h : Dt K H v d) : TyZ K H v (.type (tyN d)) := by
  cases h with
  | non => exact .base (.base .non)
  | bl b => exact .base (.base (.bl b))
  | int i => exact .base (.base (.int i))
  | str x => exact .base (.base (.str x))
  | lst q _ _ => exact ty_sqL q
  | tup q _ _ => exact ty_sqT q
  | dct q _ _ _ _ => exact ty_dK q
theorem kb_NoneType_bool : kitB "NoneType" "bool" = some false := by decide +kernel
theorem kb_NoneType_int : kitB "NoneType" "int" = some false := by decide +kernel
theorem kb_NoneType_str : kitB "NoneType" "str" = some false := by decide +kernel
theorem kb_NoneType_list : kitB "NoneType" "list" = some false := by decide +kernel
theorem kb_NoneType_tuple : kitB "NoneType" "tuple" = some false := by decide +kernel
theorem kb_NoneType_dict : kitB "NoneType" "dict" = some false := by decide +kernel
theorem kb_bool_bool : kitB "bool" "bool" = some true := by decide +kernel
theorem kb_bool_int : kitB "bool" "int" = some true := by decide +kernel
theorem kb_bool_str : kitB "bool" "str" = some false := by decide +kernel
theorem kb_bool_list : kitB "bool" "list" = some false := by decide +kernel
theorem kb_bool_tuple : kitB "bool" "tuple" = some false := by decide +kernel
theorem kb_bool_dict : kitB "bool" "dict" = some false := by decide +kernel
theorem kb_int_bool : kitB "int" "bool" = some false := by decide +kernel
theorem kb_int_int : kitB "int" "int" = some true := by decide +kernel
theorem kb_int_str : kitB "int" "str" = some false := by decide +kernel
theorem kb_int_list : kitB "int" "list" = some false := by decide +kernel
theorem kb_int_tuple : kitB "int" "tuple" = some false := by decide +kernel
theorem kb_int_dict : kitB "int" "dict" = some false := by decide +kernel
theorem kb_str_bool : kitB "str" "bool" = some false := by decide +kernel
theorem kb_str_int : kitB "str" "int" = some false := by decide +kernel
theorem kb_str_str : kitB "str" "str" = some true := by decide +kernel
theorem kb_str_list : kitB "str" "list" = some false := by decide +kernel
theorem kb_str_tuple : kitB "str" "tuple" = some false := by decide +kernel
theorem kb_str_dict : kitB "str" "dict" = some false := by decide +kernel
theorem kb_list_bool : kitB "list" "bool" = some false := by decide +kernel
theorem kb_list_int : kitB "list" "int" = some false := by decide +kernel
theorem kb_list_str : kitB "list" "str" = some false := by decide +kernel
theorem kb_list_list : kitB "list" "list" = some true := by decide +kernel
theorem kb_list_tuple : kitB "list" "tuple" = some false := by decide +kernel
theorem kb_list_dict : kitB "list" "dict" = some false := by decide +kernel
theorem kb_tuple_bool : kitB "tuple" "bool" = some false := by decide +kernel
theorem kb_tuple_int : kitB "tuple" "int" = some false := by decide +kernel
theorem kb_tuple_str : kitB "tuple" "str" = some false := by decide +kernel
theorem kb_tuple_list : kitB "tuple" "list" = some false := by decide +kernel
theorem kb_tuple_tuple : kitB "tuple" "tuple" = some true := by decide +kernel
theorem kb_tuple_dict : kitB "tuple" "dict" = some false := by decide +kernel
theorem kb_dict_bool : kitB "dict" "bool" = some false := by decide +kernel
theorem kb_dict_int : kitB "dict" "int" = some false := by decide +kernel
theorem kb_dict_str : kitB "dict" "str" = some false := by decide +kernel
theorem kb_dict_list : kitB "dict" "list" = some false := by decide +kernel
theorem kb_dict_tuple : kitB "dict" "tuple" = some false := by decide +kernel
theorem kb_dict_dict : kitB "dict" "dict" = some true := by decide +kernel
theorem isz1 {v : V} {d : PyData} {T : String} {b : Bool} (h : Dt K H v d) (e : kitB (tyN d) T = some b) : IsZ K H v (.ty T) b :=
  ⟨_, h.ty, .inl ⟨_, .ty T, kit_ty e⟩⟩
theorem isz2 {v : V} {d : PyData} {T U : String} {b c : Bool} {p : Addr} (h : Dt K H v d) (hp : H p = some (.tup [.ty T, .ty U])) (e : kitB (tyN d) T = some b) (e2 : kitB (tyN d) U = some c) : IsZ K H v (.ref p) (b || c) := by
  refine ⟨_, h.ty, .inr ⟨p, [.ty T, .ty U], [.type T, .type U], rfl, hp, .cons (.ty T) (.cons (.ty U) .nil), ?_⟩⟩
  refine kitAny_cons (kit_ty e) (fun hb => ?_) (fun hb => by rw [hb]; rfl)
  rw [hb, Bool.false_or]
  refine kitAny_cons (kit_ty e2) (fun hc => ?_) (fun hc => hc)
  rw [hc]
  exact kitAny_nil
end
mutual
def dep : PyData → Nat
  | .list ds => 1 + depAll ds
  | .tuple ds => 1 + depAll ds
  | .dict ds => 2 + depKV ds
  | _ => 0
def depAll : List PyData → Nat
  | [] => 0
  | d :: r => max (dep d) (depAll r)
def depKV : List (PyData × PyData) → Nat
  | [] => 0
  | p :: r => max (dep p.2) (depKV r)
end
theorem depAll_get : ∀ {ds : List PyData} {i : Nat} {d : PyData}, ds[i]? = some d → dep d ≤ depAll ds
  | [], _, _, h => by simp at h
  | e :: r, 0, d, h => by
    have h' := Option.some.inj h
    subst h'
    rw [depAll]
    exact Nat.le_max_left _ _
  | e :: r, i + 1, d, h => by
    rw [depAll]
    exact Nat.le_trans (depAll_get (ds := r) (i := i) h) (Nat.le_max_right _ _)
theorem depKV_map : ∀ ds : List (PyData × PyData), depAll (ds.map (·.2)) = depKV ds
  | [] => by rw [depKV]; rfl
  | p :: r => by rw [List.map_cons, depAll, depKV, depKV_map r]
theorem depAll_keys : ∀ kvs : List (Key × V), depAll (kvs.map fun p => keyD p.1) = 0
  | [] => rfl
  | p :: r => by
    have e : dep (keyD p.1) = 0 := by
      cases p.1 <;> rfl
    rw [List.map_cons, depAll, depAll_keys r, e]
    rfl
def spSame (K : PySem.W.Frag) (n : Nat) : Sp := fun vs H Q _ => ∃ (x y : V) (d : PyData), vs = [x, y] ∧ Dt K H x d ∧ Dt K H y d ∧ dep d < n ∧ ∀ H', Same H H' → Q (.bl true) H'
theorem valV_of {κ : Type} [DecidableEq κ] : ∀ {kvs : List (κ × V)} {i : Nat} {k : κ} {v : V}, (kvs.map (·.1)).Nodup → kvs[i]? = some (k, v) → valV kvs k = some v
  | [], _, _, _, _, h => by simp at h
  | p :: r, 0, k, v, _, h => by
    have h' := Option.some.inj h
    subst h'
    exact valV_pos rfl
  | p :: r, i + 1, k, v, nd, h => by
    have nd' := List.nodup_cons.mp (show (p.1 :: r.map (·.1)).Nodup from nd)
    have hm : k ∈ r.map (·.1) := List.mem_map.mpr ⟨(k, v), List.mem_of_getElem? (show r[i]? = some (k, v) from h), rfl⟩
    rw [valV_neg (fun e => nd'.1 (by rw [e]; exact hm))]
    exact valV_of nd'.2 (show r[i]? = some (k, v) from h)
theorem keyD_inj {a b : Key} (h : keyD a = keyD b) : a = b := by
  cases a <;> cases b <;> first | (cases h; done) | skip
  · exact congrArg Sum.inl (PyData.int.inj h)
  · exact congrArg Sum.inr (PyData.str.inj h)
theorem keys_eq : ∀ {ks ls : List (Key × V)}, (ks.map fun p => keyD p.1) = (ls.map fun p => keyD p.1) → ks.map (·.1) = ls.map (·.1)
  | [], [], _ => rfl
  | [], _ :: _, h => by cases h
  | _ :: _, [], h => by cases h
  | p :: r, q :: s, h => by
    have h' := List.cons.inj (show keyD p.1 :: (r.map fun p => keyD p.1) = keyD q.1 :: (s.map fun p => keyD p.1) from h)
    rw [List.map_cons, List.map_cons, keyD_inj h'.1, keys_eq h'.2]
end SpE

set_option maxHeartbeats 4000000
namespace SpE
open PySem PySem.Spec PyProof.Rows L2 He
def namedBy (g : Addr → Option Obj) (as : List Addr) : List Addr := as.flatMap fun a => match g a with
  | some o => refsO o
  | none => []
def levels (g : Addr → Option Obj) : Nat → List Addr → List Addr
  | 0, as => as
  | n + 1, as => as ++ levels g n (namedBy g as)
def obsYG (n : Nat) (fa : List Fa) (fn : List DefD) (ex : PySem.W.Frag → Bool) (g : Addr → Option Obj) : AlD × Bool :=
  (fun K => (obsD fa fn K, ex K)) (frG g (levels g n [mainGlobals]))
def hookY (n : Nat) (fa : List Fa) (fn : List DefD) (ex : PySem.W.Frag → Bool) : PySem.W.Hook where
  α := AlD × Bool
  obs := fun s => obsYG n fa fn ex s.heap.get?
  val := fun _ => (valD fn, true)
  says := fun _ h => ∃ K : PySem.W.Frag, K.In h ∧ SaysD fa fn K ∧ ex K = true
  of := fun _ _ e => ⟨_, frG_in, congrArg Prod.fst e, congrArg Prod.snd e⟩
  keeps := fun _ _ _ ⟨K, hK, c⟩ k => ⟨K, PySem.W.Frag.In.keeps hK k, c⟩
theorem obsY_eq {n : Nat} {fa : List Fa} {fn : List DefD} {ex : PySem.W.Frag → Bool} {g : Addr → Option Obj} {s : Shared} (h : ∀ a, g a = s.heap.get? a) :
    obsYG n fa fn ex g = (hookY n fa fn ex).obs s := by
  have e : g = s.heap.get? := funext h
  rw [e] <;> rfl
def erB (K : PySem.W.Frag) (C : Addr) (m : List Value) : Bool :=
  (match K.lookup C with
    | some ⟨.type "type", _, .cls cd, sl⟩ => cd.mro == (.ref C :: m) && (cd.hasDict && (!cd.hasDel && (match sl.toList with
      | [_, _, _, _, some (.builtin n), _] => n == "ValueError.__new__"
      | _ => false)))
    | _ => false) &&
  (eqO (PySem.W.findIn K (.ref C) "__setattr__") (some (some (.builtin "object.__setattr__"))) &&
  (PySem.W.keepIn K (.ref C) && (decide (PySem.W.typeIn K (.ref C) = some (.type "type")) &&
  (eqO (PySem.W.findIn K (.ref C) "__getattribute__") (some (some (.builtin "BaseException.__getattribute__"))) &&
  (eqO (PySem.W.findIn K (.ref C) "__getattr__") (some none) &&
  (eqO (PySem.W.findIn K (.ref C) "__class__") (some (some (.builtin "object.__class__"))) &&
  (eqO (PySem.W.specialIn K (.builtin "object.__class__") "__get__") (some (some (.builtin "getset_descriptor.__get__"))) &&
  decide (PySem.W.takesIn K (.builtin "object.__class__") = some true))))))))
theorem erB_ok {K : PySem.W.Frag} {C : Addr} {m : List Value} (h : erB K C m = true) (hm : PySem.HandSPX.refsVE m = true) (hb : m.contains (.type "BaseException") = true) (ho : m.contains (.type "object") = true) :
    ErC K C ∧ MroIs K C m := by
  unfold erB at h
  obtain ⟨h0, h⟩ := Bool.and_eq_true_iff.mp h
  obtain ⟨h1, h⟩ := Bool.and_eq_true_iff.mp h
  obtain ⟨h2, h⟩ := Bool.and_eq_true_iff.mp h
  obtain ⟨h3, h⟩ := Bool.and_eq_true_iff.mp h
  obtain ⟨h4, h⟩ := Bool.and_eq_true_iff.mp h
  obtain ⟨h5, h⟩ := Bool.and_eq_true_iff.mp h
  obtain ⟨h6, h⟩ := Bool.and_eq_true_iff.mp h
  obtain ⟨h7, h8⟩ := Bool.and_eq_true_iff.mp h
  split at h0
  · rename_i dd cd sl ho'
    obtain ⟨e1, h0⟩ := Bool.and_eq_true_iff.mp h0
    obtain ⟨e2, h0⟩ := Bool.and_eq_true_iff.mp h0
    obtain ⟨e3, hx⟩ := Bool.and_eq_true_iff.mp h0
    clear h0
    split at hx
    · rename_i k0 k1 k2 k3 n k5 hs
      obtain ⟨nm, bs, mro, ns, qn, hd, sn, sub, ab, col, del⟩ := cd
      dsimp only at e1 e2 e3
      have e1 := beq_iff_eq.mp e1
      have e3 : del = false := by simpa using e3
      have e0 := beq_iff_eq.mp hx
      subst e1 e2 e3 e0
      have hsl : sl = #[k0, k1, k2, k3, some (.builtin "ValueError.__new__"), k5] := by
        obtain ⟨l⟩ := sl
        simp only at hs
        rw [hs]
      subst hsl
      have hcl : PySem.W.clsIn K C = some { name := nm, bases := bs, mro := .ref C :: m, ns := ns, qualname := qn, hasDict := true, slotNames := sn, subclasses := sub, abstract := ab, collection := col, hasDel := false } := by
        unfold PySem.W.clsIn
        rw [ho'] <;> rfl
      have sub1 : ∀ T, m.contains (.type T) = true → PySem.W.mroIn K C (.type T) = some true := fun T hT => by
        unfold PySem.W.mroIn
        rw [hcl, Option.bind_some, if_neg (by simp), List.contains_cons, hT, Bool.or_true]
      exact ⟨⟨⟨⟨nm, qn, ns, bs, m, sn, sub, ab, col, dd, k0, k1, k2, k3, k5, ho', hm⟩, eqO_ok h1, sub1 _ hb, of_decide_eq_true h3, h2⟩, eqO_ok h4, eqO_ok h5, eqO_ok h6, eqO_ok h7, of_decide_eq_true h8, sub1 _ ho⟩, ⟨_, hcl, rfl⟩⟩
    · cases hx
  · cases h0
section
variable {P : Program} {w : World} {K : PySem.W.Frag} {mg : Str → Option Value} {base : Heap} {C : Addr} {fd : FuncData} {x qual g g1 g2 : Str} {params : Arguments} {scope : Scope} {p1 p2 p3 p4 q1 q2 q3 q4 : Pos}
theorem ermk1 (F : FunD K "__init__" qual params [.Assign [.Attribute (.Name "self" p1) g p2] (.Name g p3) p4] scope [] [] (ma K C "__init__") fd)
    (S : FnScope ["self", g] ["self", g] scope) (gl : mg x = some (.ref C)) (T : ErC K C) (hn : PySem.W.findIn K (.ref C) g = some none)
    (hi : PySem.W.findIn K (.ref C) "__init__" = some (some (.ref (ma K C "__init__")))) (ti : PySem.W.typeIn K (.ref (ma K C "__init__")) = some (.type "function"))
    (h1 : (g == ("__debug__" : Str)) = false) (h2 : (g == ("__classdict__" : Str)) = false)
    (b1 : ∀ (kV doc pm : Value) (an : Option Addr) (cdv ct : Value) (us : List Value), us.length = (["self", g] : List Str).length → bindArgs (PySem.W.fnOf "__init__" qual params [.Assign [.Attribute (.Name "self" p1) g p2] (.Name g p3) p4] scope .none kV doc pm an cdv ct) ⟨us, []⟩ = pure ((["self", g] : List Str).zip us))
    (b2 : ∀ (kV doc pm : Value) (an : Option Addr) (cdv ct : Value) (u v : Value), bindArgs (PySem.W.fnOf "__init__" qual params [.Assign [.Attribute (.Name "self" p1) g p2] (.Name g p3) p4] scope .none kV doc pm an cdv ct) ⟨[u], [(g, v)]⟩ = pure [(("self" : Str), u), (g, v)]) :
    ErMk P w K mg base x C [g] := by
  refine ⟨gl, T, _, fd, hi, ti, init1 F S T.o hn h1 h2, F.bindsN b1, fun s u ws hl => ?_⟩
  obtain ⟨oc, od, dV, kV, doc, pm, an, cdv, ct, osl, rfl, lk, hcd, hD, hK⟩ := F.ex
  rcases hD with ⟨_, rfl⟩ | ⟨e, _⟩
  · match ws, hl with
    | [v], _ => exact .of_eq (b2 kV doc pm an cdv ct u v)
  · exact absurd rfl e
theorem ermk2 (F : FunD K "__init__" qual params [.Assign [.Attribute (.Name "self" p1) g1 p2] (.Name g1 p3) p4, .Assign [.Attribute (.Name "self" q1) g2 q2] (.Name g2 q3) q4] scope [] [] (ma K C "__init__") fd)
    (S : FnScope ["self", g1, g2] ["self", g1, g2] scope) (gl : mg x = some (.ref C)) (T : ErC K C) (hn1 : PySem.W.findIn K (.ref C) g1 = some none) (hn2 : PySem.W.findIn K (.ref C) g2 = some none)
    (hi : PySem.W.findIn K (.ref C) "__init__" = some (some (.ref (ma K C "__init__")))) (ti : PySem.W.typeIn K (.ref (ma K C "__init__")) = some (.type "function"))
    (h1 : (g1 == ("__debug__" : Str)) = false) (h2 : (g1 == ("__classdict__" : Str)) = false) (h3 : (g2 == ("__debug__" : Str)) = false) (h4 : (g2 == ("__classdict__" : Str)) = false)
    (b1 : ∀ (kV doc pm : Value) (an : Option Addr) (cdv ct : Value) (us : List Value), us.length = (["self", g1, g2] : List Str).length → bindArgs (PySem.W.fnOf "__init__" qual params [.Assign [.Attribute (.Name "self" p1) g1 p2] (.Name g1 p3) p4, .Assign [.Attribute (.Name "self" q1) g2 q2] (.Name g2 q3) q4] scope .none kV doc pm an cdv ct) ⟨us, []⟩ = pure ((["self", g1, g2] : List Str).zip us))
    (b2 : ∀ (kV doc pm : Value) (an : Option Addr) (cdv ct : Value) (u v z : Value), bindArgs (PySem.W.fnOf "__init__" qual params [.Assign [.Attribute (.Name "self" p1) g1 p2] (.Name g1 p3) p4, .Assign [.Attribute (.Name "self" q1) g2 q2] (.Name g2 q3) q4] scope .none kV doc pm an cdv ct) ⟨[u], [(g2, v), (g1, z)]⟩ = pure [(("self" : Str), u), (g1, z), (g2, v)]) :
    ErMk P w K mg base x C [g1, g2] := by
  refine ⟨gl, T, _, fd, hi, ti, init2 F S T.o hn1 hn2 h1 h2 h3 h4, F.bindsN b1, fun s u ws hl => ?_⟩
  obtain ⟨oc, od, dV, kV, doc, pm, an, cdv, ct, osl, rfl, lk, hcd, hD, hK⟩ := F.ex
  rcases hD with ⟨_, rfl⟩ | ⟨e, _⟩
  · match ws, hl with
    | [v, z], _ => exact .of_eq (b2 kV doc pm an cdv ct u v z)
  · exact absurd rfl e
end
abbrev ErTab : Type := List (Str × List Str)
def exTab (S : Str) (none0 : List Str) (tab : ErTab) (K : PySem.W.Frag) : Bool :=
  erB K (ga K S) aboveS && ((none0.all fun x => PySem.W.excIn K (ga K x) aboveS "ValueError.__new__") &&
  ((none0.all fun x => x == S || erB K (ga K x) (above (ga K S))) &&
  ((tab.all fun p => erB K (ga K p.1) (above (ga K S)) && ((p.2.all fun f => eqO (PySem.W.findIn K (.ref (ga K p.1)) f) (some none)) &&
    (eqO (PySem.W.findIn K (.ref (ga K p.1)) "__init__") (some (some (.ref (ma K (ga K p.1) "__init__")))) && decide (PySem.W.typeIn K (.ref (ma K (ga K p.1) "__init__")) = some (.type "function"))))) &&
  decide ((ga K S :: (none0.filter (· != S) ++ tab.map (·.1)).map (ga K)).Nodup))))
structure ErFacts (S : Str) (none0 : List Str) (tab : ErTab) (K : PySem.W.Frag) : Prop where
  s : ErC K (ga K S) ∧ MroIs K (ga K S) aboveS
  n : ∀ x ∈ none0, PySem.W.excIn K (ga K x) aboveS "ValueError.__new__" = true
  m : ∀ x ∈ none0, x ≠ S → ErC K (ga K x) ∧ MroIs K (ga K x) (above (ga K S))
  c : ∀ p ∈ tab, ErC K (ga K p.1) ∧ MroIs K (ga K p.1) (above (ga K S))
  f : ∀ p ∈ tab, ∀ f ∈ p.2, PySem.W.findIn K (.ref (ga K p.1)) f = some none
  i : ∀ p ∈ tab, PySem.W.findIn K (.ref (ga K p.1)) "__init__" = some (some (.ref (ma K (ga K p.1) "__init__"))) ∧ PySem.W.typeIn K (.ref (ma K (ga K p.1) "__init__")) = some (.type "function")
  nd : (ga K S :: (none0.filter (· != S) ++ tab.map (·.1)).map (ga K)).Nodup
theorem exTab_ok {S : Str} {none0 : List Str} {tab : ErTab} {K : PySem.W.Frag} (h : exTab S none0 tab K = true) : ErFacts S none0 tab K := by
  unfold exTab at h
  obtain ⟨h1, h⟩ := Bool.and_eq_true_iff.mp h
  obtain ⟨h2, h⟩ := Bool.and_eq_true_iff.mp h
  obtain ⟨h3, h⟩ := Bool.and_eq_true_iff.mp h
  obtain ⟨h4, h5⟩ := Bool.and_eq_true_iff.mp h
  have k4 := List.all_eq_true.mp h4
  refine ⟨erB_ok h1 (by decide +kernel) (by decide +kernel) (by decide +kernel), List.all_eq_true.mp h2, fun x hx hS => ?_, fun p hp => ?_, fun p hp f hf => ?_, fun p hp => ?_, of_decide_eq_true h5⟩
  · have q := List.all_eq_true.mp h3 x hx
    rcases Bool.or_eq_true_iff.mp q with z | z
    · exact absurd (beq_iff_eq.mp z) hS
    · exact erB_ok z (show PySem.HandSPX.refsVE aboveS = true by decide +kernel) (by simp) (by simp)
  · obtain ⟨q, _⟩ := Bool.and_eq_true_iff.mp (k4 p hp)
    exact erB_ok q (show PySem.HandSPX.refsVE aboveS = true by decide +kernel) (by simp) (by simp)
  · obtain ⟨_, q⟩ := Bool.and_eq_true_iff.mp (k4 p hp)
    obtain ⟨q, _⟩ := Bool.and_eq_true_iff.mp q
    exact eqO_ok (List.all_eq_true.mp q f hf)
  · obtain ⟨_, q⟩ := Bool.and_eq_true_iff.mp (k4 p hp)
    obtain ⟨_, q⟩ := Bool.and_eq_true_iff.mp q
    obtain ⟨q1, q2⟩ := Bool.and_eq_true_iff.mp q
    exact ⟨eqO_ok q1, of_decide_eq_true q2⟩
structure Below (S : Addr) (K : PySem.W.Frag) (C : Addr) : Prop where
  er : ErC K C
  m : MroIs K C (above S) ∨ (C = S ∧ MroIs K C aboveS)
section
variable {S C D a : Addr} {K : PySem.W.Frag} {H : Hp}
theorem kit_er (h : Below S K C) (TD : ErC K D) (n : D ≠ S) : PySem.W.kitOne K (.ref C) (.ref D) = some (decide (C = D)) := by
  have n1 : (Value.ref D == Value.ref S) = false := by
    rw [beq_eq_false_iff_ne]
    exact fun z => n (Value.ref.inj z)
  rcases h.m with m | ⟨_, m⟩
  · rw [kit_ref m TD]
    simp [List.contains_cons, n1]
    exact fun z => absurd z n
  · rw [kit_ref m TD]
    simp
theorem kit_erS (h : Below S K C) (TS : ErC K S) : PySem.W.kitOne K (.ref C) (.ref S) = some true := by
  rcases h.m with m | ⟨rfl, m⟩
  · rw [kit_ref m TS]
    simp
  · rw [kit_ref m TS]
    simp
theorem kit_erT {T : String} (h : Below S K C) (ht : PySem.W.kitMeta T = true) : PySem.W.kitOne K (.ref C) (.type T) = some (aboveS.contains (.type T)) := by
  rcases h.m with m | ⟨_, m⟩
  · rw [kit_bt m ht]
    simp
  · rw [kit_bt m ht]
theorem isz_er (e : ErrAt K H a C) (h : Below S K C) (TD : ErC K D) (n : D ≠ S) : IsZ K H (.ref a) (.ref D) (decide (C = D)) := ⟨_, e.ty, .inl ⟨_, .own D, kit_er h TD n⟩⟩
theorem isz_erS (e : ErrAt K H a C) (h : Below S K C) (TS : ErC K S) : IsZ K H (.ref a) (.ref S) true := ⟨_, e.ty, .inl ⟨_, .own S, kit_erS h TS⟩⟩
theorem isz_erB {T : String} (e : ErrAt K H a C) (h : Below S K C) (ht : PySem.W.kitMeta T = true) : IsZ K H (.ref a) (.ty T) (aboveS.contains (.type T)) := ⟨_, e.ty, .inl ⟨_, .ty T, kit_erT h ht⟩⟩
theorem isz_erN {tp : Addr} {cs : List V} {us : List Value} (e : ErrAt K H a C) (hp : H tp = some (.tup cs)) (p : Paired ClsV cs us) (k : ∀ c ∈ us, PySem.W.kitOne K (.ref C) c = some false) : IsZ K H (.ref a) (.ref tp) false :=
  ⟨_, e.ty, .inr ⟨tp, cs, us, rfl, hp, p, kitAny_false k⟩⟩
end
def kindsOf (l : List Addr) (C : Addr) (n : Nat) : List Int := ((List.range n).filter fun k => decide (some C = l[k]?)).map Int.ofNat
theorem kindsOf_succ (l : List Addr) (C : Addr) (n : Nat) : kindsOf l C (n + 1) = if some C = l[n]? then kindsOf l C n ++ [(n : Int)] else kindsOf l C n := by
  unfold kindsOf
  rw [List.range_succ, List.filter_append, List.map_append]
  by_cases h : some C = l[n]?
  · simp [h]
  · simp [h]
theorem kindsOf_length (l : List Addr) (C : Addr) (n : Nat) : (kindsOf l C n).length ≤ n := by
  induction n with
  | zero => exact Nat.le_refl _
  | succ n ih =>
    rw [kindsOf_succ]
    split
    · rw [List.length_append]
      exact Nat.succ_le_succ ih
    · omega
theorem kindsOf_none {l : List Addr} {C : Addr} (h : C ∉ l) (n : Nat) : kindsOf l C n = [] := by
  induction n with
  | zero => rfl
  | succ n ih =>
    rw [kindsOf_succ, if_neg (fun e => h (List.mem_of_getElem? e.symm)), ih]
theorem kindsOf_at {l : List Addr} {C : Addr} {i : Nat} (nd : l.Nodup) (h : l[i]? = some C) : ∀ n, kindsOf l C n = if i < n then [(i : Int)] else []
  | 0 => rfl
  | n + 1 => by
    rw [kindsOf_succ, kindsOf_at nd h n]
    by_cases e : i = n
    · subst e
      rw [if_pos h.symm, if_neg (Nat.lt_irrefl _), if_pos (Nat.lt_succ_self _)]
      rfl
    · have hn : ¬ some C = l[n]? := fun q => e (nd_ix nd h q.symm)
      rw [if_neg hn]
      by_cases c : i < n
      · rw [if_pos c, if_pos (by omega)]
      · rw [if_neg c, if_neg (by omega)]
theorem inj_map {α β : Type} {f : α → β} : ∀ {l : List α}, (l.map f).Nodup → ∀ {x y : α}, x ∈ l → y ∈ l → f x = f y → x = y
  | [], _, x, y, h, _, _ => by cases h
  | a :: l, nd, x, y, hx, hy, e => by
    obtain ⟨n1, n2⟩ := List.nodup_cons.mp (show (f a :: l.map f).Nodup from nd)
    rcases List.mem_cons.mp hx with z1 | k1
    · rcases List.mem_cons.mp hy with z2 | k2
      · rw [z1, z2]
      · exact absurd (List.mem_map.mpr ⟨y, k2, by rw [← e, z1]⟩) n1
    · rcases List.mem_cons.mp hy with z2 | k2
      · exact absurd (List.mem_map.mpr ⟨x, k1, by rw [e, z2]⟩) n1
      · exact inj_map n2 k1 k2 e
def erAll (S : Str) (none0 : List Str) (tab : ErTab) : List Str := S :: (none0.filter (· != S) ++ tab.map (·.1))
section
variable {S : Str} {none0 : List Str} {tab : ErTab} {K : PySem.W.Frag} {x y : Str}
theorem ErFacts.inj (h : ErFacts S none0 tab K) (hx : x ∈ erAll S none0 tab) (hy : y ∈ erAll S none0 tab) (e : ga K x = ga K y) : x = y :=
  inj_map (f := ga K) (l := erAll S none0 tab) h.nd hx hy e
theorem ErFacts.ne (h : ErFacts S none0 tab K) (hx : x ∈ erAll S none0 tab) (hy : y ∈ erAll S none0 tab) (n : x ≠ y) : ga K x ≠ ga K y := fun e => n (h.inj hx hy e)
theorem ErFacts.below (h : ErFacts S none0 tab K) (hx : x ∈ erAll S none0 tab) : Below (ga K S) K (ga K x) := by
  rcases List.mem_cons.mp hx with rfl | hx
  · exact ⟨h.s.1, .inr ⟨rfl, h.s.2⟩⟩
  · rcases List.mem_append.mp hx with hx | hx
    · obtain ⟨h1, h2⟩ := List.mem_filter.mp hx
      obtain ⟨e, m⟩ := h.m x h1 (by simpa using h2)
      exact ⟨e, .inl m⟩
    · obtain ⟨p, hp, rfl⟩ := List.mem_map.mp hx
      obtain ⟨e, m⟩ := h.c p hp
      exact ⟨e, .inl m⟩
theorem isz_erNs (h : ErFacts S none0 tab K) {H : Hp} {a C tp : Addr} {ns : List Str} (e : ErrAt K H a C) (b : Below (ga K S) K C) (hp : H tp = some (.tup (ns.map fun x => V.ref (ga K x))))
    (m : ∀ x ∈ ns, x ∈ erAll S none0 tab ∧ x ≠ S) (n : ∀ x ∈ ns, C ≠ ga K x) : IsZ K H (.ref a) (.ref tp) false := by
  refine isz_erN e (by rw [hp]; exact congrArg (fun z => some (HO.tup z)) (List.map_map (f := ga K) (g := V.ref) (l := ns)).symm) (clsv_refs (ns.map (ga K))) fun c hc => ?_
  obtain ⟨D, hD, rfl⟩ := List.mem_map.mp hc
  obtain ⟨x, hx, rfl⟩ := List.mem_map.mp hD
  obtain ⟨m1, m2⟩ := m x hx
  rw [kit_er b (h.below m1).er (h.ne m1 List.mem_cons_self m2), decide_eq_false (n x hx)]
end
def Errs (K : PySem.W.Frag) (S : Addr) (p : Addr → Prop) (H : Hp) (es : List Addr) : Prop := ∀ e ∈ es, ∃ C, ErrAt K H e C ∧ Below S K C ∧ p C
section
variable {K : PySem.W.Frag} {S C a l : Addr} {p : Addr → Prop} {H H' : Hp} {es : List Addr} {xs ys : List V}
theorem Errs.nil : Errs K S p H [] := fun e h => by cases h
theorem Errs.keep (h : Errs K S p H es) (s : Same H H') : Errs K S p H' es := fun e he => by
  obtain ⟨C, h1, h2, h3⟩ := h e he
  exact ⟨C, h1.keep s, h2, h3⟩
theorem Errs.snoc (h : Errs K S p H es) (e : ErrAt K H a C) (b : Below S K C) (q : p C) : Errs K S p H (es ++ [a]) := fun e' he => by
  rcases List.mem_append.mp he with he | he
  · exact h e' he
  · rw [List.mem_singleton.mp he]
    exact ⟨C, e, b, q⟩
theorem exo_lst {e C : Addr} {d : Option Addr} {xs : List V} : exo e C d ≠ .lst xs := fun z => by
  have z' : HO.ext _ = HO.lst xs := z
  cases z'
theorem exd_lst {e : Addr} {fs : List (Str × V)} {xs : List V} : exd e fs ≠ .lst xs := fun z => by
  have z' : HO.ext _ = HO.lst xs := z
  cases z'
theorem ErrAt.setL (h : ErrAt K H a C) (hl : H l = some (.lst xs)) : ErrAt K (upd H l (.lst ys)) a C := by
  obtain ⟨T, e | ⟨d, fs, e, ed⟩⟩ := h
  · exact ⟨T, .inl (by rw [upd_ne (ne_of e hl exo_lst)]; exact e)⟩
  · exact ⟨T, .inr ⟨d, fs, by rw [upd_ne (ne_of e hl exo_lst)]; exact e, by rw [upd_ne (ne_of ed hl exd_lst)]; exact ed⟩⟩
theorem Errs.setL (h : Errs K S p H es) (hl : H l = some (.lst xs)) : Errs K S p (upd H l (.lst ys)) es := fun e he => by
  obtain ⟨C, h1, h2, h3⟩ := h e he
  exact ⟨C, h1.setL hl, h2, h3⟩
end
theorem same_setL {H H' : Hp} {l : Addr} {o : HO} (n : H l = none) (s : Same H H') : Same H (upd H' l o) := fun b u e => by
  rw [upd_ne (ne_of_none e n)]
  exact s b u e
end SpE

set_option maxHeartbeats 4000000
namespace SpE
open PySem PySem.Spec PyProof.Rows L2 He
structure SaysZ (fa : List Fa) (fn : List DefD) (tf : List Defn) (ex : PySem.W.Frag → Bool) (h : Heap) (K : PySem.W.Frag) : Prop where
  d : SaysD fa fn K
  more : ex K = true
  hd : ∀ p ∈ tf, PySem.W.codeHdIn K (cT K p).1 (cT K p).2 = true
  out : ∀ p ∈ tf, K.lookup (cT K p).2 = none
  empty : ∀ p ∈ tf, h.get? (cT K p).2 = some { cls := .none, data := .fields #[] }
def obsZG (n : Nat) (fa : List Fa) (fn : List DefD) (tf : List Defn) (ex : PySem.W.Frag → Bool) (g : Addr → Option Obj) : AlD × Bool :=
  (fun K => (obsD fa fn K, ex K && tabsB g tf K)) (frT g (levels g n [mainGlobals]))
theorem saysZ_of {n : Nat} {fa : List Fa} {fn : List DefD} {tf : List Defn} {ex : PySem.W.Frag → Bool} {h : Heap} (e : obsZG n fa fn tf ex h.get? = (valD fn, true)) : SaysZ fa fn tf ex h (frT h.get? (levels h.get? n [mainGlobals])) := by
  have e1 : obsD fa fn (frT h.get? (levels h.get? n [mainGlobals])) = valD fn := congrArg Prod.fst e
  have e2 : (ex (frT h.get? (levels h.get? n [mainGlobals])) && tabsB h.get? tf (frT h.get? (levels h.get? n [mainGlobals]))) = true := congrArg Prod.snd e
  obtain ⟨h1, h2⟩ := Bool.and_eq_true_iff.mp e2
  have key : ∀ p ∈ tf, PySem.W.codeHdIn (frT h.get? (levels h.get? n [mainGlobals])) (cT (frT h.get? (levels h.get? n [mainGlobals])) p).1 (cT (frT h.get? (levels h.get? n [mainGlobals])) p).2 = true ∧ ∃ o, h.get? (cT (frT h.get? (levels h.get? n [mainGlobals])) p).2 = some o ∧ emptyTab o = true := fun p hp => by
    obtain ⟨h3, h4⟩ := Bool.and_eq_true_iff.mp (List.all_eq_true.mp h2 p hp)
    refine ⟨h3, ?_⟩
    cases q : h.get? (cT (frT h.get? (levels h.get? n [mainGlobals])) p).2 with
    | none =>
      rw [q] at h4
      cases h4
    | some o =>
      rw [q] at h4
      exact ⟨o, rfl, h4⟩
  exact ⟨e1, h1, fun p hp => (key p hp).1, fun p hp => by
    obtain ⟨_, o, q, z⟩ := key p hp
    exact frT_none q z, fun p hp => by
    obtain ⟨_, o, q, z⟩ := key p hp
    rw [q, emptyTab_eq z]⟩
def hookZ (n : Nat) (fa : List Fa) (fn : List DefD) (tf : List Defn) (ex : PySem.W.Frag → Bool) : PySem.W.Hook where
  α := AlD × Bool
  obs := fun s => obsZG n fa fn tf ex s.heap.get?
  val := fun _ => (valD fn, true)
  says := fun _ h => ∃ K : PySem.W.Frag, K.In h ∧ SaysZ fa fn tf ex h K
  of := fun _ _ e => ⟨_, frT_in, saysZ_of e⟩
  keeps := fun _ _ _ ⟨K, hK, c⟩ k => ⟨K, PySem.W.Frag.In.keeps hK k, ⟨c.d, c.more, c.hd, c.out, fun p hp => k _ _ (c.empty p hp)⟩⟩
theorem obsZ_eq {n : Nat} {fa : List Fa} {fn : List DefD} {tf : List Defn} {ex : PySem.W.Frag → Bool} {g : Addr → Option Obj} {s : Shared} (h : ∀ a, g a = s.heap.get? a) :
    obsZG n fa fn tf ex g = (hookZ n fa fn tf ex).obs s := by
  have e : g = s.heap.get? := funext h
  rw [e] <;> rfl
theorem bindsKw {K : PySem.W.Frag} {x qual : Str} {params : Arguments} {body : List Stmt} {scope : Scope} {kws : List (Str × V)} {f : Addr} {fd : FuncData} {ps ks : List Str} {n : Nat} (F : FunD K x qual params body scope [] kws f fd)
    (h : ∀ (kV doc pm : Value) (an : Option Addr) (cdv ct : Value) (us : List Value), us.length = n → bindArgs (PySem.W.fnOf x qual params body scope .none kV doc pm an cdv ct) ⟨[], ks.zip us⟩ = pure (ps.zip us.reverse)) :
    ∀ (s : Shared) (us : List Value), us.length = n → BindsTo s fd ⟨[], ks.zip us⟩ (ps.zip us.reverse) := fun s us hl => by
  obtain ⟨oc, od, dV, kV, doc, pm, an, cdv, ct, osl, rfl, lk, hcd, hD, hK⟩ := F.ex
  rcases hD with ⟨_, rfl⟩ | ⟨e, _⟩
  · exact .of_eq (h kV doc pm an cdv ct us hl)
  · exact absurd rfl e
end SpE

set_option maxHeartbeats 4000000
namespace SpE
open PySem PySem.Spec PyProof.Rows L2 He
def Fld (K : PySem.W.Frag) (H : Hp) (e : Addr) (f : Str) (v : V) : Prop := ∃ (C d : Addr) (fs : List (Str × V)), H e = some (exo e C (some d)) ∧ H d = some (exd d fs) ∧ ErC K C ∧ PySem.W.findIn K (.ref C) f = some none ∧ fs.lookup f = some v
section
variable {K : PySem.W.Frag} {H H' H1 : Hp} {e C D m : Addr} {f : Str} {v : V} {es : List Addr} {Qd : Hp → Prop}
theorem Fld.keep (h : Fld K H e f v) (s : Same H H') : Fld K H' e f v := by
  obtain ⟨C, d, fs, a, b, r⟩ := h
  exact ⟨C, d, fs, s _ _ a, s _ _ b, r⟩
theorem fld_lc {σ : L2.St} {j : Nat} (hw : ∀ x, wipe ((wipe σ [j]).set j x) [j] = wipe σ [j]) (hj : ∀ x, ((wipe σ [j]).set j (some x))[j]? = some (some x))
    (hm : H1 m = some (.lst (es.map V.ref))) (hD : H1 D = none) (hF : ∀ e ∈ es, Fld K H1 e f v) (z : es.length ≤ 1000)
    (hd : ∀ H', Same H1 H' → H' D = some (.lst (List.replicate es.length v)) → Qd H') :
    ∃ W : Nat → Nat → Hp → Prop, (∃ m, W 0 m (upd H1 D (.lst []))) ∧ ∀ i k H, W i k H →
      ((Itl K m).stop i H ∧ Qd H) ∨ ((Itl K m).go i H ∧ ∃ Nx : Hp → Prop, (∀ H', Nx H' → ∃ m', m' < k ∧ W (i + 1) m' H') ∧ ∀ x H', (Itl K m).yld i H x H' → gName j x (wipe σ [j]) H' fun σ2 H2 => wipe σ2 [j] = wipe σ [j] ∧ tYes σ2 H2 fun b H3 =>
        if b = true then tExF K f (tVar j) σ2 H3 fun y H4 => ∃ acc, H4 D = some (.lst acc) ∧ acc.length < sizeLine ∧ Nx (upd H4 D (.lst (acc ++ [y]))) else Nx H3) := by
  refine lc_list (xs := es.map V.ref) (fun i H' => i ≤ es.length ∧ H' D = some (.lst (List.replicate i v)) ∧ Same H1 H') ⟨Nat.zero_le _, upd_same, same_upd hD⟩ (fun i H' _ h => SqL.of (h.2.2 _ _ hm)) ?_ (fun H' h => hd H' h.2.2 ?_)
  · rintro i x H' hx ⟨hi, hD', s⟩
    obtain ⟨e, he, rfl⟩ := List.mem_map.mp (List.mem_of_getElem? hx)
    obtain ⟨C, d, fs, a, b, T, n, l⟩ := hF e he
    have hlt : i < es.length := by
      have q := (List.getElem?_eq_some_iff.mp hx).1
      rw [List.length_map] at q
      exact q
    refine ⟨hw _, _, hj _, e, C, d, fs, v, rfl, s _ _ a, s _ _ b, T, n, l, _, hD', ?_, hlt, ?_, same_setL hD s⟩
    · rw [List.length_replicate, sizeLine_eq]
      omega
    · rw [upd_same, List.replicate_succ']
  · have e2 := h.2.1
    rw [List.length_map] at e2
    exact e2
theorem two_errs {a1 d1 a2 d2 : Addr} {fs gs : List (Str × V)} (T : ErC K C) (ha1 : H a1 = none) (hd1 : H d1 = none) (n1 : d1 ≠ a1)
    (ha2 : (upd (upd H d1 (exd d1 fs)) a1 (exo a1 C (some d1))) a2 = none) (hd2 : (upd (upd H d1 (exd d1 fs)) a1 (exo a1 C (some d1))) d2 = none) (n2 : d2 ≠ a2)
    (hm : (upd (upd (upd (upd H d1 (exd d1 fs)) a1 (exo a1 C (some d1))) d2 (exd d2 gs)) a2 (exo a2 C (some d2))) m = none) :
    ∃ G, upd (upd (upd (upd (upd H d1 (exd d1 fs)) a1 (exo a1 C (some d1))) d2 (exd d2 gs)) a2 (exo a2 C (some d2))) m (.lst [.ref a1, .ref a2]) = G ∧
      Same H G ∧ G m = some (.lst ([a1, a2].map V.ref)) ∧ H m = none ∧ (∀ e ∈ [a1, a2], ErrAt K G e C) ∧
      ∀ f v, PySem.W.findIn K (.ref C) f = some none → fs.lookup f = some v → gs.lookup f = some v → ∀ e ∈ [a1, a2], Fld K G e f v := by
  refine ⟨_, rfl, ?_⟩
  generalize hG1 : upd (upd H d1 (exd d1 fs)) a1 (exo a1 C (some d1)) = G1 at *
  have s1 : Same H G1 := by
    rw [← hG1]
    exact (er_new (K := K) T ha1 hd1 n1).2
  have g1 : G1 a1 = some (exo a1 C (some d1)) := by rw [← hG1]; exact upd_same
  have g1d : G1 d1 = some (exd d1 fs) := by rw [← hG1, upd_ne n1]; exact upd_same
  generalize hG2 : upd (upd G1 d2 (exd d2 gs)) a2 (exo a2 C (some d2)) = G2 at *
  have s2 : Same G1 G2 := by
    rw [← hG2]
    exact (er_new (K := K) T ha2 hd2 n2).2
  have g2 : G2 a2 = some (exo a2 C (some d2)) := by rw [← hG2]; exact upd_same
  have g2d : G2 d2 = some (exd d2 gs) := by rw [← hG2, upd_ne n2]; exact upd_same
  have s3 : Same G2 (upd G2 m (.lst [.ref a1, .ref a2])) := same_upd hm
  have hmH : H m = none := by
    cases e : H m with
    | none => rfl
    | some o => rw [s2 _ _ (s1 _ _ e)] at hm; cases hm
  have c1 := s3 _ _ (s2 _ _ g1)
  have c1d := s3 _ _ (s2 _ _ g1d)
  have c2 := s3 _ _ g2
  have c2d := s3 _ _ g2d
  refine ⟨(s1.trans s2).trans s3, upd_same, hmH, fun e he => ?_, fun f v hf l1 l2 e he => ?_⟩
  · rcases List.mem_cons.mp he with rfl | he
    · exact ⟨T, .inr ⟨_, _, c1, c1d⟩⟩
    · rw [List.mem_singleton.mp he]
      exact ⟨T, .inr ⟨_, _, c2, c2d⟩⟩
  · rcases List.mem_cons.mp he with rfl | he
    · exact ⟨_, _, _, c1, c1d, T, hf, l1⟩
    · rw [List.mem_singleton.mp he]
      exact ⟨_, _, _, c2, c2d, T, hf, l2⟩
end
inductive Thing (H : Hp) : V → Nat → Prop where
  | non {n : Nat} : Thing H .non n
  | bl {n : Nat} (b : Bool) : Thing H (.bl b) n
  | int {n : Nat} (i : Int) : Thing H (.int i) n
  | str {n : Nat} (x : Str) : Thing H (.str x) n
  | tup {n : Nat} {p : Addr} {k : Int} (h : H p = some (.tup [.int 1, .int k])) : Thing H (.ref p) n
  | lst {n : Nat} {p q : Addr} {k : Int} (h : H p = some (.lst (.int k :: .ref q :: List.replicate n (.str "more")))) (hq : H q = some (.lst [.int 1])) : Thing H (.ref p) n
  | dct {n : Nat} {p : Addr} {k : Int} (h : H p = some (.dK ((.inr "a", .int k) :: if n = 0 then [] else [(.inr "more", .int 1)]))) : Thing H (.ref p) n
section
variable {K : PySem.W.Frag} {H H' : Hp} {v : V} {n : Nat}
theorem Thing.keep (s : Same H H') (h : Thing H v n) : Thing H' v n := by
  cases h with
  | non => exact .non
  | bl b => exact .bl b
  | int i => exact .int i
  | str x => exact .str x
  | tup h => exact .tup (s _ _ h)
  | lst h hq => exact .lst (s _ _ h) (s _ _ hq)
  | dct h => exact .dct (s _ _ h)
theorem dt_more (n : Nat) : DtAll K H (List.replicate n (.str "more")) (List.replicate n (.str "more")) := by
  induction n with
  | zero => exact .nil
  | succ n ih => exact .cons (.str _) ih
theorem dep_more (n : Nat) : depAll (List.replicate n (.str "more")) = 0 := by
  induction n with
  | zero => rw [List.replicate_zero, depAll]
  | succ n ih => rw [List.replicate_succ, depAll, ih, dep] <;> first | rfl | simp
theorem Thing.dt (h : Thing H v n) (z : n ≤ 1000) : ∃ d, Dt K H v d ∧ dep d < 3 := by
  cases h with
  | non => exact ⟨_, .non, by rw [dep] <;> first | decide | simp⟩
  | bl b => exact ⟨_, .bl b, by rw [dep] <;> first | decide | simp⟩
  | int i => exact ⟨_, .int i, by rw [dep] <;> first | decide | simp⟩
  | str x => exact ⟨_, .str x, by rw [dep] <;> first | decide | simp⟩
  | @tup _ p k h => exact ⟨.tuple [.int 1, .int k], .tup (SqT.of h) (by show 2 ≤ sizeLine; decide) (.cons (.int _) (.cons (.int _) .nil)), by simp [dep, depAll]⟩
  | @lst _ p q k h hq =>
    refine ⟨.list (.int k :: .list [.int 1] :: List.replicate n (.str "more")), .lst (SqL.of h) ?_ (.cons (.int _) (.cons (.lst (SqL.of hq) (by show 1 ≤ sizeLine; decide) (.cons (.int _) .nil)) (dt_more n))), ?_⟩
    · rw [List.length_cons, List.length_cons, List.length_replicate, sizeLine_eq]
      omega
    · simp [dep, depAll, dep_more]
  | @dct _ p k h =>
    by_cases e : n = 0
    · rw [if_pos e] at h
      exact ⟨.dict [(.str "a", .int k)], .dct (Rd.of h) (by show ([.inr "a"] : List Key).Nodup; decide +kernel) (by show 1 ≤ sizeLine; decide) rfl (.cons (.int _) .nil), by simp [dep, depKV]⟩
    · rw [if_neg e] at h
      exact ⟨.dict [(.str "a", .int k), (.str "more", .int 1)], .dct (Rd.of h) (by show ([.inr "a", .inr "more"] : List Key).Nodup; decide +kernel) (by show 2 ≤ sizeLine; decide) rfl (.cons (.int _) (.cons (.int _) .nil)), by simp [dep, depKV]⟩
end
def SameT (v : V) (H H' : Hp) : Prop := ∀ x o, v ≠ .ref x → H x = some o → H' x = some o
theorem SameT.refl (v : V) (H : Hp) : SameT v H H := fun _ _ _ h => h
theorem SameT.trans {v : V} {H H1 H2 : Hp} (h : SameT v H H1) (k : SameT v H1 H2) : SameT v H H2 := fun x o n e => k x o n (h x o n e)
theorem sameT_of {v : V} {H H' : Hp} (s : Same H H') : SameT v H H' := fun x o _ e => s x o e
theorem sameT_upd {p : Addr} {H : Hp} {o : HO} : SameT (.ref p) H (upd H p o) := fun x u n e => by
  rw [upd_ne (fun z => n (congrArg V.ref z).symm)]
  exact e
def spObject : Sp := fun vs H Q _ => ∃ (a b : Addr) (c : Nat), vs = [.ref a] ∧ StA H a b c ∧ c < 1000000000 ∧
  ∀ v H' k, k ≤ 10 → StA H' a b (c + k) → SameB a b H H' → Thing H' v 0 → (∀ p, v = .ref p → H p = none) → Q v H'
theorem none_of {H H' : Hp} {a : Addr} (s : Same H H') (h : H' a = none) : H a = none := by
  cases e : H a with
  | none => rfl
  | some o => rw [s _ _ e] at h; cases h
theorem StA.neA {H : Hp} {a b p : Addr} {c : Nat} (h : StA H a b c) (n : H p = none) : p ≠ a := by
  obtain ⟨d, k, m, ns, ha, hb, _⟩ := h.ex
  exact (ne_of_none ha n).symm
theorem StA.neB {H : Hp} {a b p : Addr} {c : Nat} (h : StA H a b c) (n : H p = none) : p ≠ b := by
  obtain ⟨d, k, m, ns, ha, hb, _⟩ := h.ex
  exact (ne_of_none hb n).symm
theorem noneB {H H' : Hp} {a b p : Addr} {c : Nat} (s : SameB a b H H') (S : StA H' a b c) (n : H' p = none) : H p = none := by
  cases e : H p with
  | none => rfl
  | some o =>
    rw [s p o (S.neA n) (S.neB n) e] at n
    cases n
theorem small_log {i : Int} (h : 0 ≤ i) (k : i < 1000) : i.natAbs.log2 < 1920 := by
  have := Nat.log2_le_self i.natAbs
  omega
theorem small_txt {i : Int} (h : 0 ≤ i) (k : i < 99) : ("w" : Str).length + (Str.ofString (toString i)).length ≤ sizeLine := by
  have e : ∀ n : Fin 99, ("w" : Str).length + (Str.ofString (toString (n.val : Int))).length ≤ sizeLine := by decide +kernel
  have := e ⟨i.toNat, by omega⟩
  rw [show ((⟨i.toNat, by omega⟩ : Fin 99).val : Int) = i from Int.toNat_of_nonneg h] at this
  exact this
theorem Thing.notNew {H : Hp} {v : V} {n : Nat} {p : Addr} (h : Thing H v n) (k : H p = none) : v ≠ .ref p := fun e => by
  subst e
  cases h with
  | tup h => rw [h] at k; cases k
  | lst h _ => rw [h] at k; cases k
  | dct h => rw [h] at k; cases k
def spObj2 : Sp := fun vs H Q _ => ∃ (a b : Addr) (c : Nat), vs = [.ref a] ∧ StA H a b c ∧ c < 1000000000 ∧
  ∀ v H' k, k ≤ 10 → StA H' a b (c + k) → SameB a b H H' → (∀ H2, (∀ x o, H x = none → H' x = some o → H2 x = some o) → Thing H2 v 0) → (∀ p, v = .ref p → H p = none) → Q v H'
theorem StA.keepT {H H' : Hp} {a b : Addr} {c : Nat} {v : V} (h : StA H a b c) (s : SameT v H H') (na : v ≠ .ref a) (nb : v ≠ .ref b) : StA H' a b c := by
  obtain ⟨d, n, m, ns, ha, hb, r⟩ := h.ex
  exact ⟨d, n, m, ns, s _ _ na ha, s _ _ nb hb, r⟩
end SpE

set_option maxHeartbeats 4000000
namespace SpE
open PySem PySem.Spec PyProof.Rows L2 L2H HotX
def Cau (p : Addr × Obj) (C d : Addr) : Prop := p.2.cls = .ref C ∧ p.2.dict = some d ∧ ∃ vs, p.2.data = .fields vs
def IsP (K : PySem.W.Frag) (H : Hp) (a C d : Addr) (x c : V) (b : Bool) : Prop := x = .ref a ∧ (∃ fs : List (Str × V), H d = some (.xd fs)) ∧ ErC K C ∧
  ((∃ u, ClsV c u ∧ PySem.W.kitOne K (.ref C) u = some b) ∨
   (∃ (tp : Addr) (cs : List V) (us : List Value), c = .ref tp ∧ H tp = some (.tup cs) ∧ Paired ClsV cs us ∧ PySem.W.kitAny K (.ref C) us = some b))
def rIsP (K : PySem.W.Frag) (a C d : Addr) : List V → Hp → VK → Prop := fun xs H Q => ∃ (x c : V) (b : Bool), xs = [x, c] ∧ IsP K H a C d x c b ∧ Q (.bl b) H
theorem call_isP {X : Cx} {K : PySem.W.Frag} {p : Addr × Obj} {C d : Addr} (hK : X.K = K) (hp : p ∈ X.pn) (z : Cau p C d) : CallR X (.builtin "isinstance") (rIsP K p.1 C d) := by
  subst hK
  intro pins s σ H xs us Q I r h
  obtain ⟨x, c, b, rfl, ⟨rfl, ⟨fs, ed⟩, T, way⟩, q⟩ := h
  obtain ⟨u1, u2, rfl, r1, r2⟩ := vals2 r
  cases (show u1 = Value.ref p.1 from r1)
  have hx : ObjOk X.prog X.w H s.heap d (.xd fs) := I.hok d _ ed
  obtain ⟨mA, ⟨oD, es, ep, hoD, hrest⟩, rel⟩ := hx
  have ho := (I.pin p (List.mem_append_left _ hp)).1
  obtain ⟨z1, z2, vs, z3⟩ := z
  have J : PySem.W.InstAt s.heap p.1 p.2 C (some oD) := ⟨ho, z1, by unfold PySem.W.notCls; rw [z3], by rw [z2]; exact hoD⟩
  have kx : PySem.W.KitX X.K (.ref p.1) (.ref C) (fun h => PySem.W.InstAt h p.1 p.2 C (some oD)) := PySem.W.kitx_exc T.clsI T.ga T.gg T.o.exC T.cl T.hn T.ht T.hm
  rcases way with ⟨u, k, e⟩ | ⟨tp, cs, ws, rfl, hT, k, e⟩
  · have e2 := k.eq r2
    subst e2
    exact PySem.W.kia_one kx I.kIn J e (fun z => nomatch z) fun tk => ⟨.bl b, H, I.tok tk, rfl, q⟩
  · cases (show u2 = Value.ref tp from r2)
    obtain ⟨_, its, rv, o, h1, h2, n, h3⟩ := (show ObjOk X.prog X.w H s.heap tp (.tup cs) from I.hok tp _ hT)
    have e3 := ClsV.all k rv
    subst e3
    obtain ⟨oc, od, dt, sl⟩ := o
    simp only at h2 h3
    subst h2 h3
    exact PySem.W.kia_tup kx I.kIn J h1 e (fun z => nomatch z) fun tk => ⟨.bl b, H, I.tok tk, rfl, q⟩
theorem isp_er {K : PySem.W.Frag} {H : Hp} {a C d S D : Addr} {fs : List (Str × V)} (e : H d = some (.xd fs)) (h : Below S K C) (TD : ErC K D) (n : D ≠ S) : IsP K H a C d (.ref a) (.ref D) (decide (C = D)) :=
  ⟨rfl, ⟨fs, e⟩, h.er, .inl ⟨_, .own D, kit_er h TD n⟩⟩
structure FnP (p : Addr × Obj) (P : Program) (w : World) (K : PySem.W.Frag) (mg : Str → Option Value) (base : Heap) (k : Nat) (f : Addr) (fd : FuncData) (ps : List Str) (sp : Sp) : Prop where
  len : ∀ vs H Q E, sp vs H Q E → vs.length = ps.length
  go : ∀ (A : Around) (outer : List Env) (s : Shared) (H : Hp) (us : List Value) (vs : List V) (Q : VK), RoomH k A → Hot1 A p → PinOk outer H s p → Env0 P w K mg base A outer s H → BindsTo s fd ⟨us, []⟩ (ps.zip us) → Vals vs us →
    sp vs H Q (fun _ _ _ => False) → codeAny (model P w) A (.call (.ref f) ⟨us, []⟩) (CR CX0 outer P w H s Q fun _ _ _ => False) s
theorem fnP_of {p : Addr × Obj} {P : Program} {w : World} {K : PySem.W.Frag} {mg : Str → Option Value} {base : Heap} {k : Nat} {f : Addr} {fd : FuncData} {x qual : Str} {params : Arguments} {body : List Stmt} {scope : Scope} {N ps : List Str} {sp : Sp}
    (F : FunD K x qual params body scope [] [] f fd) (S : FnScope N ps scope) (len : ∀ vs H Q E, sp vs H Q E → vs.length = ps.length)
    (hbody : ∀ (cdv : Value) (A : Around) (outer : List Env) (s : Shared) (H : Hp) (vs : List V) (Q : VK), Hot1 A p → RoomH k (A.deeper (envOfC qual scope s.heap.objs.size f cdv)) → sp vs H Q (fun _ _ _ => False) →
      ∃ t, PSs (cxH CX0 P w K mg base N qual scope f cdv A outer s H (fun _ _ _ => False) p) body t ∧ t { nx := fun _ H' => Q .non H', rt := Q } (L2.start N vs) H) :
    FnP p P w K mg base (k + 1) f fd ps sp := by
  obtain ⟨oc, od, dV, kV, doc, pm, an, cdv, ct, osl, rfl, lk, hcd, _, _⟩ := F.ex
  refine ⟨len, fun A outer s H us vs Q room hot pin e0 bind r h => ?_⟩
  have hlen := len _ _ _ _ h
  have inK : K.In s.heap := e0.mod.kin.keeps fun b o e => (e0.bs b o e).1
  have par : ∀ y ∈ ps.zip us, scope.names.lookup y.1 = some .local ∨ (scope.names.lookup y.1 = some .cell ∧ ((cellsFrom (s.heap.objs.size + 1) scope.names []).lookup y.1).isSome = true) := by
    rintro ⟨n, v⟩ hy
    exact (S.par n (List.of_mem_zip hy).1).imp id fun q => ⟨q, PySem.W.cellsFrom_some _ _ _ (.inl q)⟩
  refine codeAny_call_function room.depth (inK _ _ lk) rfl S.co S.gen rfl (PySem.W.codeRec_of inK hcd) (bind _ _ _ _ ?_)
  refine wpAny_newFunctionEnv_cells S.kind par fun env henv s1 ic => ?_
  subst henv
  refine ⟨(e0.mod.nolimit.keeps fun b o e => (e0.bs b o e).1).keeps ic.toInCall.keep, codeAny_func ?_⟩
  obtain ⟨t, rule, rd⟩ := hbody cdv A outer s H vs Q hot (room.deeper _) h
  refine wpAny_mono (rule.run [] s1 _ H _ (inv_startH (CX := CX0) (E := fun _ _ _ => False) S pin e0 hlen r ic) rd) (fun fl s' q => ?_) fun _ _ q => q
  match fl, q with
  | .ret u, ⟨v, _, H', J, rv, q⟩ => exact ⟨v, H', J.os, J.bare, J.base, J.hok, rv, q⟩
  | .next, ⟨_, H', J, q⟩ => exact ⟨V.non, H', J.os, J.bare, J.base, J.hok, rfl, q⟩
  | .brk, ⟨_, _, _, q⟩ => exact q.elim
  | .cont, ⟨_, _, _, q⟩ => exact q.elim
theorem pe_callP {X : Cx} {p : Addr × Obj} {k : Nat} {f : Addr} {fd : FuncData} {ps : List Str} {sp : Sp} {x : Str} {q pos : Pos} {e : Expr} {es : List Expr} {t : TA} (F : FnP p X.prog X.w X.K X.mg X.base k f fd ps sp) (hr : RoomH k X.A) (hp : p ∈ X.pn) (hot : Hot1 X.A p)
    (hg : Gl X x) (hm : X.mg x = some (.ref f)) (hk : PySem.W.keepIn X.K (.ref f) = true) (hb : Binds X.K fd ps []) (ha : PA X (e :: es) t)
    (hdb : (x == ("__debug__" : Str)) = false := by decide) (he : starEach (e :: es) X.env = (false, eval e X.env) :: starEach es X.env := by rfl) (hpl : (backTo pos (starEach es X.env)).any (·.1) = false := by rfl) :
    PE X (.Call (.Name x q) (e :: es) [] pos) (tCallS sp (fun _ _ _ _ => False) t) := by
  refine ⟨fun pins s σ H Q I h => ?_⟩
  refine wpAny_Call_Name_kw (ld_glob I hg hm (PySem.W.callWith_K (h₀ := X.base) I.ok.mod.kin hk (thn (ha.run pos pins s σ H _ I h) fun us s1 hh => ?_) he hpl) hdb)
  obtain ⟨vs, H1, I1, r, hsp⟩ := hh
  refine ⟨I1.kIn, ?_⟩
  have hlen : us.length = ps.length := by rw [← r.length]; exact F.len _ _ _ _ hsp
  have b := hb s1 us I1.kIn (by rw [List.append_nil]; exact hlen)
  rw [List.append_nil] at b
  obtain ⟨p1, p2, p3, p4, p5⟩ := I1.pin p (List.mem_append_left _ hp)
  have pin : PinOk X.stack H1 s1 p := ⟨p1, p2, fun hm => (List.mem_cons.mp (I1.stkSub p.1 hm)).elim p3 p4, p5⟩
  refine wpAny_call (codeAny_mono (F.go X.A X.stack s1 H1 us vs Q hr hot pin I1.env0 b r hsp) fun res s' hres => ?_)
  match res, hres with
  | .ok (.ret u), hres => exact I1.after hres
abbrev blkP (X : Cx) (s : Shared) (H : Hp) (scope : Scope) (cenv : Env) (fp : List Addr) : Cx := { X.blk s H scope cenv fp with pn := X.pn }
theorem inv_pn {B : Cx} {l : List (Addr × Obj)} {σ : L2.St} {H : Hp} {s : Shared} (I : Inv B [] σ H s) (k : ∀ p ∈ l, s.heap.get? p.1 = some p.2 ∧ H p.1 = none ∧ p.1 ≠ B.env.locals ∧ p.1 ∉ B.fs ∧ ∀ v, p.2.data ≠ .cell v) : Inv { B with pn := l } [] σ H s := by
  obtain ⟨⟨a1, a2, a3, a4, a5, a6, a7, a8, a9, a10, a11, a12, a13, a14, a15, a16, a17, a18⟩, b1, b2, b3, b4, b5, b6, b7, _, b9, b10⟩ := I
  exact ⟨⟨a1, a2, a3, a4, a5, a6, a7, a8, a9, a10, a11, a12, a13, a14, a15, a16, a17, a18⟩, b1, b2, b3, b4, b5, b6, b7, fun p hp => k p (by rw [List.append_nil] at hp; exact hp), b9, b10⟩
section
variable {X : Cx} {elt tg iter : Expr} {ifs : List Expr} {scope : Scope} {own : List (Str × Nat)} {pos : Pos} {wi : TI} {g : TG} {tt : TT} {te : TE}
theorem pe_lcP (hc : HotC X) (hN : X.N.Nodup) (hi : PIH X tg iter wi) (ok : BlkOk X.N X.env.scope scope own)
    (hg : ∀ s H C cl fp, PG (blkP X s H scope (compEnvC scope cl C X.env) fp) tg g) (ht : ∀ s H C cl fp, PTs (blkP X s H scope (compEnvC scope cl C X.env) fp) ifs tt)
    (he : ∀ s H C cl fp, PE (blkP X s H scope (compEnvC scope cl C X.env) fp) elt te) (hs : ∀ x, foldedSetIterable iter X.env x = pure x := by intro _; rfl) :
    PE X (.ListComp elt [⟨tg, iter, ifs, 0⟩] scope pos) (tLc wi g tt te (own.map (·.2))) := by
  refine ⟨fun pins s σ H Q I rd => ?_⟩
  rw [eval_ListComp]
  have cellOf : ∀ y ∈ scope.names, y.2 = .free → ∃ c, X.env.cells.lookup y.1 = some c := fun y hy e => I.ok.has _ (ok.free y hy e)
  refine wpAny_comprehension_free (use := none) rfl hs (closure_ok cellOf) ok.kind (fun y hy e => (ok.uniq y hy).trans (congrArg some e)) (thn (hi.run pins s σ H _ I rd) fun v s1 h1 => thn h1 fun itv s2 h2 => ?_)
  obtain ⟨it, fp, tn, J, H2, rfl, I2, T, at2, free2, rd2⟩ := h2
  refine wpAny_newObj_type (newEnv_comp ?_) (Nat.zero_le sizeLine)
  generalize eD : s2.heap.objs.size = D
  have noD : H2 D = none := I2.hok.fresh (Nat.le_of_eq eD)
  obtain ⟨W, ⟨m, w0⟩, turn⟩ := rd2 D noD
  generalize eS : ({ s2 with heap := s2.heap.push { cls := .type "list", data := .seq ([] : List Value).toArray } } : Shared) = sL
  have hL : sL.heap = s2.heap.push { cls := .type "list", data := .seq ([] : List Value).toArray } := by rw [← eS]
  have kL : ∀ b o, s2.heap.get? b = some o → sL.heap.get? b = some o := fun b o e => by rw [hL]; exact Heap.get?_push_of_some _ e
  have IL : Inv X pins σ (upd H2 D (.lst [])) sL := by
    have z := I2.laid (a := D) (o := .lst []) (h' := s2.heap.push { cls := .type "list", data := .seq ([] : List Value).toArray }) (t' := s2.toks) (fun b o e => Heap.get?_push_of_some _ e) (Nat.le_of_eq eD) ⟨Nat.zero_le _, [], 0, .nil, by rw [← eD]; exact Heap.get?_push_size _ rfl⟩
    rw [← eS]
    exact z
  have old : ∀ b ∈ fp, b < s2.heap.objs.size := fun b hb => let ⟨_, e, _⟩ := T.obj _ _ at2 b hb; Heap.lt_size e
  have freeL : ∀ b ∈ fp, FpOk X pins (upd H2 D (.lst [])) b ∧ b < sL.heap.objs.size := fun b hb =>
    ⟨⟨(upd_ne (by rw [← eD]; exact Nat.ne_of_lt (old b hb))).trans (free2 b hb).1, (free2 b hb).2⟩, by rw [hL, Heap.size_push]; exact Nat.lt_succ_of_lt (old b hb)⟩
  have atL := T.keep _ _ _ at2 fun b _ o e => kL b o e
  have B0 := block_start IL ok hN freeL
  have rg := hg sL (upd H2 D (.lst [])) sL.heap.objs.size (cellsFrom (sL.heap.objs.size + 1) scope.names (cloFrom X.env.cells scope.names [])) fp
  have rt := ht sL (upd H2 D (.lst [])) sL.heap.objs.size (cellsFrom (sL.heap.objs.size + 1) scope.names (cloFrom X.env.cells scope.names [])) fp
  have re := he sL (upd H2 D (.lst [])) sL.heap.objs.size (cellsFrom (sL.heap.objs.size + 1) scope.names (cloFrom X.env.cells scope.names [])) fp
  show codeAny _ _ (.compStart (.ListComp elt [⟨tg, iter, ifs, 0⟩] scope pos) 0 (.ref it) (.ref D) (compEnvC scope (cellsFrom (sL.heap.objs.size + 1) scope.names (cloFrom X.env.cells scope.names [])) sL.heap.objs.size X.env)) (compPost (model X.prog X.w) X.A X.xe none _ (.ref D) sL.heap.objs.size) { sL with heap := pushCells (sL.heap.push { cls := .type "dict", data := .dict #[] }) scope.names }
  generalize eE : compEnvC scope (cellsFrom (sL.heap.objs.size + 1) scope.names (cloFrom X.env.cells scope.names [])) sL.heap.objs.size X.env = ce at B0 rg rt re ⊢
  have locE : ce.locals = sL.heap.objs.size := by rw [← eE]; rfl
  generalize eH : upd H2 D (.lst []) = HL at IL B0 rg rt re w0 freeL
  generalize eB : ({ sL with heap := pushCells (sL.heap.push { cls := .type "dict", data := .dict #[] }) scope.names } : Shared) = sB at B0 ⊢
  have kB : ∀ b o, sL.heap.get? b = some o → sB.heap.get? b = some o := fun b o e => by rw [← eB]; exact pushCells_keeps _ _ _ _ (Heap.get?_push_of_some _ e)
  have atB := T.keep _ _ _ atL fun b _ o e => kB b o e
  have noFp : ∀ b ∈ fp, HL b = none := fun b hb => (freeL b hb).1.1
  have pinX : ∀ p ∈ X.pn, sB.heap.get? p.1 = some p.2 ∧ HL p.1 = none ∧ p.1 ≠ (X.blk sL HL scope ce fp).env.locals ∧ p.1 ∉ (X.blk sL HL scope ce fp).fs ∧ ∀ v, p.2.data ≠ .cell v := fun p hp => by
    obtain ⟨p1, p2, p3, p4, p5⟩ := IL.pin p (List.mem_append_left _ hp)
    refine ⟨kB _ _ p1, p2, fun z => ?_, fun hm => (List.mem_cons.mp (IL.stkSub p.1 hm)).elim p3 p4, p5⟩
    have z' : p.1 = sL.heap.objs.size := z.trans locE
    exact absurd (Heap.lt_size p1) (by rw [z']; exact Nat.lt_irrefl _)
  have BP : Inv (blkP X sL HL scope ce fp) [] (wipe σ (own.map (·.2))) HL sB := inv_pn B0 pinX
  have hcB : HotC (blkP X sL HL scope ce fp) := hc
  have stays : ∀ {σ' : L2.St} {H' : Hp} {s' : Shared}, Inv (blkP X sL HL scope ce fp) [] σ' H' s' → (∀ b ∈ fp, H' b = none) → ∀ b ∈ fp, FpOk (blkP X sL HL scope ce fp) [] H' b := fun {σ' H' s'} J no b hb =>
    ⟨no b hb, (J.ok.exf b hb).1, J.ok.exfs b hb, .inl hb, fun x c e => (J.ok.exf b hb).2 x c e, fun p hp => by
      rw [List.append_nil] at hp
      exact (freeL b hb).1.2.2.2.2.2 p (List.mem_append_left _ hp)⟩
  have loop : codeAny (model X.prog X.w) X.A (.compLoop (.ListComp elt [⟨tg, iter, ifs, 0⟩] scope pos) 0 (.ref it) (.ref D) ce) (compPost (model X.prog X.w) X.A X.xe none (EP X pins σ Q) (.ref D) sL.heap.objs.size) sB := by
    refine compLoop_any (fun n s' => ∃ i H', Inv (blkP X sL HL scope ce fp) [] (wipe σ (own.map (·.2))) H' s' ∧ tn i s'.heap ∧ (∀ b ∈ fp, H' b = none) ∧ W i n H') (fun n sA hA => ?_) m ⟨0, HL, BP, atB, noFp, w0⟩
    obtain ⟨i, HA, IA, atA, noA, wA⟩ := hA
    cases turn i n HA wA with
    | inl stop =>
      refine thnF (T.done (blkP X sL HL scope ce fp) rfl rfl rfl hcB i [] sA _ HA (fun _ _ => False) IA (stays IA noA) atA stop.1) fun r s6 hr => ?_
      obtain ⟨rfl, I6⟩ := hr
      have back : Inv X pins σ HA s6 := IL.call' (ch := fp) I6.os I6.base I6.hok I6.bare fun b hb => ⟨(freeL b hb).1.2.2.2.1, (freeL b hb).1.2.1, (freeL b hb).1.2.2.2.2.1, (freeL b hb).1.2.2.2.2.2⟩
      have noC : HA sL.heap.objs.size = none := by
        rw [← locE]
        exact I6.free
      obtain ⟨mm, hn, _⟩ := I6.loc
      rw [show (blkP X sL HL scope ce fp).env.locals = sL.heap.objs.size from locE] at hn
      obtain ⟨f0, f1, f2, f3, f4, f5⟩ := IL.fpOk (Nat.le_refl _) noC
      exact ⟨mm, hn, fun h'' same => ⟨.ref D, HA, back.turned (t' := s6.toks) (fun b o hb e => (same.2 b hb).trans e) f0 f1 f3 f4 f5, rfl, stop.2⟩⟩
    | inr more =>
      obtain ⟨go, Nx, less, step⟩ := more
      refine thnF (T.item (blkP X sL HL scope ce fp) rfl rfl rfl hcB i [] sA _ HA (fun _ _ => False) IA (stays IA noA) atA go) fun r s6 hr => ?_
      obtain ⟨u, rfl, h6⟩ := hr
      refine thnF h6 fun _ s7 h7 => ?_
      obtain ⟨x, H7, I7, rx, yl, at7, no7⟩ := h7
      refine thnF (rg.run _ s7 _ H7 x u _ (I7.pinned (stays I7 no7) (T.obj _ _ at7)) rx (step x H7 yl)) fun _ s8 h8 => ?_
      obtain ⟨σ8, H8, I8, ew, rd8⟩ := h8
      refine thnF (rt.run _ s8 σ8 H8 _ I8 rd8) fun b s9 h9 => ?_
      obtain ⟨H9, I9, rd9⟩ := h9
      have next : ∀ {s' : Shared} {H' : Hp}, Inv (blkP X sL HL scope ce fp) ([] ++ pinsAt fp s7.heap) σ8 H' s' → Nx H' → ∃ n', n' < n ∧ ∃ i H', Inv (blkP X sL HL scope ce fp) [] (wipe σ (own.map (·.2))) H' s' ∧ tn i s'.heap ∧ (∀ b ∈ fp, H' b = none) ∧ W i n' H' := fun {s' H'} J nx => by
        obtain ⟨n', lt, w'⟩ := less H' nx
        have there : ∀ b ∈ fp, ∀ o, s7.heap.get? b = some o → s'.heap.get? b = some o ∧ H' b = none := fun b hb o e =>
          let z := J.pin (b, o) (List.mem_append_right _ (List.mem_append_right _ (mem_pinsAt hb e)))
          ⟨z.1, z.2.1⟩
        refine ⟨n', lt, i + 1, H', (J.unpinned (pins := [])).weak (by rw [← ew, wipe_length]) (fun j v e => (wipe_some (show (wipe σ8 (own.map (·.2)))[j]? = some (some v) by rw [ew]; exact e)).1), T.keep _ _ _ at7 fun b hb o e => (there b hb o e).1, fun b hb => ?_, w'⟩
        obtain ⟨o, e, _⟩ := T.obj _ _ at7 b hb
        exact (there b hb o e).2
      match b, rd9 with
      | false, rd9 => exact next I9 (by simpa using rd9)
      | true, rd9 =>
        have rd9 : te σ8 H9 fun y H4 => ∃ acc, H4 D = some (.lst acc) ∧ acc.length < sizeLine ∧ Nx (upd H4 D (.lst (acc ++ [y]))) := by simpa using rd9
        refine thnF (re.run _ s9 σ8 H9 _ I9 rd9) fun z s10 h10 => ?_
        obtain ⟨y, H10, I10, ry, acc, hD10, lt10, nx⟩ := h10
        exact app_ok (X := blkP X sL HL scope ce fp) I10 hD10 lt10 ry fun s11 I11 => next I11 nx
  exact codeAny_compStart_list loop (T.self X.A 0 _ _ _ atB loop)
end
def tMkE (C : Addr) (fs : List Str) (t : TA) : L2.St → Hp → XK → Prop := fun σ H Q => t σ H fun vs H1 => vs.length = fs.length ∧ vs.length ≤ 1000 ∧ ∀ d, H1 d = none → Q (.ref C) (some d) (upd H1 d (.xd (fs.zip vs).reverse))
theorem pmk_er {X : Cx} {x : Str} {C : Addr} {fs : List Str} {j : Nat} {p pos : Pos} {e : Expr} {es : List Expr} {t : TA} (M : ErMk X.prog X.w X.K X.mg X.base x C fs) (hr : Room j X.A) (hk : 2 ≤ j) (hg : Gl X x) (ha : PA X (e :: es) t)
    (hdb : (x == ("__debug__" : Str)) = false := by decide) (he : starEach (e :: es) X.env = (false, eval e X.env) :: starEach es X.env := by rfl) (hpl : (backTo pos (starEach es X.env)).any (·.1) = false := by rfl) :
    L2N.PMk X (.Call (.Name x p) (e :: es) [] pos) (tMkE C fs t) := by
  intro pins s σ H Q I h
  refine wpAny_Call_Name_kw (ld_glob I hg M.gl (PySem.W.callWith_K (h₀ := X.base) I.ok.mod.kin M.er.o.kC (thn (ha.run pos pins s σ H _ I h) fun us s1 hh => ?_) he hpl) hdb)
  obtain ⟨vs, H1, I1, r, hl, hz, q⟩ := hh
  refine ⟨I1.kIn, ?_⟩
  obtain ⟨fI, fd, iC, tI, F1, b1, _⟩ := M.ini
  have T := M.er.o
  obtain ⟨nm, qn, N, bs, bm, sn, sub, ab, col, dd, k0, k1, k2, k3, k5, hC, hbm⟩ := T.cls
  obtain ⟨hp, gs, dr, tk, os⟩ := s1
  have ge : hp.objs.size ≤ hp.objs.size + 1 := Nat.le_succ _
  have new : H1 (hp.objs.size + 1) = none := I1.hok.fresh ge
  have keep : ∀ b o, hp.get? b = some o → ((hp.push (PySem.W.kdv_tup us)).push (PySem.HandSPX.excO C hp.objs.size)).get? b = some o := fun b o z => Heap.get?_push_of_some _ (Heap.get?_push_of_some _ z)
  have I2 : Inv X pins σ (upd H1 (hp.objs.size + 1) (exo (hp.objs.size + 1) C none)) ⟨(hp.push (PySem.W.kdv_tup us)).push (PySem.HandSPX.excO C hp.objs.size), gs, dr, tk, os⟩ :=
    I1.laid (t' := tk) (a := hp.objs.size + 1) keep ge (exo_ok (t1 := hp.objs.size) (by heap_get))
  have args : (us).length ≤ sizeLine := by rw [← r.length, sizeLine_eq]; omega
  have bind := b1 ⟨(hp.push (PySem.W.kdv_tup us)).push (PySem.HandSPX.excO C hp.objs.size), gs, dr, tk, os⟩ (Value.ref (hp.objs.size + 1) :: us) I2.kIn (by
    rw [List.append_nil]
    show us.length + 1 = fs.length + 1
    rw [← r.length, hl])
  rw [List.append_nil] at bind
  have made : spI C fs (.ref (hp.objs.size + 1) :: vs) (upd H1 (hp.objs.size + 1) (exo (hp.objs.size + 1) C none))
      (fun v H2 => v = .non ∧ ∃ d, H2 (hp.objs.size + 1) = some (exo (hp.objs.size + 1) C (some d)) ∧ H2 d = some (exd d (fs.zip vs).reverse) ∧ H1 d = none ∧ Q (.ref C) (some d) (upd (del H2 (hp.objs.size + 1)) d (.xd (fs.zip vs).reverse))) (fun _ _ _ => False) := by
    refine ⟨_, vs, rfl, hl, upd_same, fun d nd ne => ⟨rfl, d, upd_same, by rw [upd_ne ne]; exact upd_same, by rw [upd_ne ne] at nd; exact nd, ?_⟩⟩
    rw [upd_ne ne] at nd
    have eq : upd (del (upd (upd (upd H1 (hp.objs.size + 1) (exo (hp.objs.size + 1) C none)) d (exd d (fs.zip vs).reverse)) (hp.objs.size + 1) (exo (hp.objs.size + 1) C (some d))) (hp.objs.size + 1)) d (.xd (fs.zip vs).reverse) = upd H1 d (.xd (fs.zip vs).reverse) := by
      funext b
      unfold upd del
      by_cases hb : b = d
      · simp [hb]
      · by_cases ha : b = hp.objs.size + 1
        · simp only [ha, new]
          simp [fun z => ne (Eq.symm z)]
        · simp [hb, ha]
    rw [eq]
    exact q d nd
  have room : Room (1 + 1) X.A := hr.mono hk
  refine wpAny_call (callK F.excBase_ValueError (fun Y => PySem.HandSPX.refsVE_contains Y bm hbm) (I1.kIn _ _ hC) (PySem.W.looks_findIn I1.kIn iC) (fun self => PySem.W.bind_fn I1.kIn self tI) args
    (codeAny_mono (F1.run _ X.stack _ _ ⟨_, []⟩ _ _ _ (fun _ _ _ => False) (room.make C us []) (I2.env0.make C us []) bind (show Vals (V.ref (hp.objs.size + 1) :: vs) (Value.ref (hp.objs.size + 1) :: us) from .cons rfl r) made) fun res s' hres => ?_))
  match res, hres with
  | .ok (.ret u), hres =>
    obtain ⟨v, H2, os2, bare2, un2, hok2, rv, ev, d, ea, ed, nd, qd⟩ := hres
    subst ev
    obtain ⟨h2, g2, d2, t2, os'⟩ := s'
    obtain ⟨t0, G, J, kG, noG, hoe, na⟩ := mk_end0 (d2 := d2) (t2 := t2) I1 ge keep un2 hok2 os2 bare2 ea ed nd
    refine ⟨rv, _, _, _, ⟨G, g2, d2, t2, os'⟩, _, .ref C, some d, rfl, J, kG, noG, hoe, ⟨rfl, rfl, fun ws hw => ?_⟩, rfl, rfl, na, rfl, bare2, raises_own T.exC T.tyC, qd⟩
    cases hw
    rfl
theorem pss_ex {X : Cx} {ss : List Stmt} {ι : Type} {p : ι → Prop} {t : ι → TS} (h : ∀ i, p i → PSs X ss (t i)) : PSs X ss (fun D σ H => ∃ i, p i ∧ t i D σ H) :=
  ⟨fun pins s σ H D I ⟨i, a, q⟩ => (h i a).run pins s σ H D I q⟩
theorem takesN {X : Cx} : L2N.Takes X (fun _ _ _ _ => False) := fun _ _ x => by
  obtain ⟨_, _, _, _, _, _, _, _, _, _, _, _, _, _, _, _, _, w⟩ := x
theorem exm_er {K : PySem.W.Frag} {C S : Addr} (m : MroIs K C (above S)) (TS : ErC K S) : PySem.W.exmOne K (.ref C) (.ref S) = some true := by
  obtain ⟨cd, e1, e2⟩ := m.ex
  have n : ((PySem.W.clsIn K S).isSome && PySem.W.typeIn K (.ref S) == some (.type "type")) = true := by
    rw [TS.clsI, TS.o.tyC]
    rfl
  unfold PySem.W.exmOne
  rw [TS.o.exC, if_pos (by decide)]
  unfold PySem.W.kitCls PySem.W.subIn PySem.W.mroIn
  dsimp only
  rw [if_pos n, e1, Option.bind_some, e2, if_neg (by simp)]
  try simp
theorem hot_suite {A : Around} {a : Addr} {oe : Obj} {cls : Value} {d : Option Addr} (z : L2N.Zn cls d oe) (f : ∃ vs, oe.data = .fields vs) : Hot1 (A.mark (some (.ref a))) (a, oe) := by
  obtain ⟨vs, e⟩ := f
  exact ⟨rfl, vs, e, z.2.2 vs e⟩
theorem cau_of {a C dd : Addr} {oe : Obj} {cls : Value} {d : Option Addr} (z : L2N.Zn cls d oe) (f : ∃ vs, oe.data = .fields vs) (e : cls = .ref C ∧ d = some dd) : Cau (a, oe) C dd := ⟨z.1.trans e.1, z.2.1.trans e.2, f⟩
end SpE

set_option maxHeartbeats 4000000
namespace SpE
open PySem PySem.Spec PyProof.Rows L2
abbrev Ends.gone (D : Ends) (i : Nat) : Ends := { nx := fun σ H => D.nx (σ.set i none) H, rt := D.rt, bk := fun σ H => D.bk (σ.set i none) H, ct := fun σ H => D.ct (σ.set i none) H }
def wAsMany (K : PySem.W.Frag) (i : Nat) (D : Ends) : List (Value × (Addr → Value → Option Addr → TS)) → WX
  | [] => fun _ _ _ _ => False
  | (c, ts) :: r => fun cls d σ H => ∃ b, PySem.W.exmOne K cls c = some b ∧ (b = true → ∀ a, H a = none → ts a cls d (Ends.gone D i) (σ.set i (some (.ref a))) H) ∧ (b = false → wAsMany K i D r cls d σ H)
inductive AsOk (X : Cx) (n : Str) : List ExceptHandler → List (Value × (Addr → Value → Option Addr → TS)) → Prop
  | nil : AsOk X n [] []
  | cons {x : Str} {c : Value} {ts : Addr → Value → Option Addr → TS} {b₀ : Stmt} {suite : List Stmt} {np pos' : Pos} {hds : List ExceptHandler} {l : List (Value × (Addr → Value → Option Addr → TS))} (names : Names X x c)
      (rule : ∀ (a : Addr) (oe : Obj) (cls : Value) (d : Option Addr) (pn : List (Addr × Obj)), Zc cls d oe → (∃ vs, oe.data = .fields vs) → PSs (X.suite a ((a, oe) :: pn)) (b₀ :: suite) (ts a cls d)) (more : AsOk X n hds l) :
      AsOk X n (.ExceptHandler (some (.Name x np)) (some n) (b₀ :: suite) pos' :: hds) ((c, ts) :: l)
section
variable {X : Cx} {n : Str} {i : Nat} {body : List Stmt} {h₀ : ExceptHandler} {hds : List ExceptHandler} {l : List (Value × (Addr → Value → Option Addr → TS))} {pos : Pos} {tb : WX → TS}
theorem ps_try_asMany (hs : X.stack = X.env :: X.outer) (hf : X.env.frame = some X.env.locals) (hN : X.N.Nodup) (hi : X.N[i]? = some n) (hln : X.env.kindOf n = some .local)
    (hb : ∀ (W : WX) (pn : List (Addr × Obj)) (xe : Value → Shared → Prop), Takes (X.tr pn xe) W → PassesOwn (model X.prog X.w) X.A X.env xe → PSs (X.tr pn xe) body (tb W))
    (hh : AsOk X n (h₀ :: hds) l) : PS X (.Try body (h₀ :: hds) [] [] pos) (fun D σ H => tb (wAsMany X.K i D l) D σ H) := by
  refine ⟨fun pins s σ H D I rd => wpAny_Try_except ?_⟩
  have ok := I.ok
  have frames : X.A.frames = some (X.env :: X.outer) := ok.frames.trans (congrArg some hs)
  have run := (hb (wAsMany X.K i D l) (X.pn ++ pins) (fun e s₁ => wpAny (model X.prog X.w) X.A (noteFrame e X.env) (fun _ s₂ => wpAny (model X.prog X.w) X.A (setFlight e none) (fun _ s₃ =>
    wpAny (model X.prog X.w) X.A (handleBy e X.env (h₀ :: hds)) (SP X pins D) X.xe s₃) X.xe s₂) X.xe s₁) (fun u s' air => ?_) PassesOwn.looking).run [] s σ H D (I.toTry _) rd
  · refine wpAny_mono run (fun fl s1 q => ?_) fun _ _ q => q
    match fl, q with
    | .next, ⟨σ1, H1, J, q⟩ => exact wpAny_execs_nil ⟨σ1, H1, J.ofTry ok, q⟩
    | .brk, ⟨σ1, H1, J, q⟩ => exact ⟨σ1, H1, J.ofTry ok, q⟩
    | .cont, ⟨σ1, H1, J, q⟩ => exact ⟨σ1, H1, J.ofTry ok, q⟩
    | .ret u, ⟨v, σ1, H1, J, r, q⟩ => exact ⟨v, σ1, H1, J.ofTry ok, r, q⟩
  · obtain ⟨a, B, sI, pins', σ1, H1, cls, d, rfl, J0, nb, up, sky, na, os, ag, wish⟩ := air
    have J : Inv X pins σ1 H1 sI := J0.ofTry ok
    rw [show X.stack = X.env :: X.outer from hs] at sky
    refine Sky.land Zc.steady frames hf sky fun h3 fl up3 => ?_
    have J3 : Inv X pins σ1 H1 { s' with heap := h3 } := J.landed nb fl.1 (up.trans up3) os ag
    obtain ⟨oe, vs, at3, z3, f3⟩ := fl.there
    have off : ∀ env ∈ X.env :: X.outer, env.frame ≠ some a := fun env he z => by
      obtain ⟨_, o', e', hnf⟩ := fl.2.2.1.mem (List.mem_filterMap.mpr ⟨env, he, z⟩)
      rw [at3] at e'
      cases e'
      exact hnf _ f3
    have nL : a ≠ X.env.locals := fun z => off X.env List.mem_cons_self (by rw [hf, z])
    have nF : a ∉ X.fs := fun hm => by
      obtain ⟨env, he, z⟩ := List.mem_filterMap.mp hm
      exact off env (List.mem_cons_of_mem _ he) z
    have S3 := J3.suite at3 f3 na nL nF
    clear rd
    revert wish
    generalize h₀ :: hds = hs' at hh
    induction hh with
    | nil => exact fun w => w.elim
    | @cons x c ts b₀ suite np pos' hds' l' names rule more ih =>
      rintro ⟨b, eb, yes, no⟩
      refine wpAny_handleBy_cons (codeAny_handlers_test ?_) (fun z => by cases z)
      have ty : PySem.W.Looks (model X.prog X.w) h3 (typeOf (.ref a)) cls := fun A Q E s k q => wpAny_typeOf_ref (k _ _ at3) (by rw [z3.1]; exact q)
      have hit := PySem.W.exm_one (M := model X.prog X.w) J3.kIn ty eb
      have look : ∀ {Q : Value → Shared → Prop} {E : Value → Shared → Prop}, Q c { s' with heap := h3 } → wpAny (model X.prog X.w) (X.A.mark (some (.ref a))) (eval (.Name x np) X.env) Q E { s' with heap := h3 } := by
        intro Q E q
        rcases names with ⟨hg, hd, hm | ⟨hm, hv, hn⟩⟩
        · exact ld_glob (X := X.suite a ((a, oe) :: (X.pn ++ pins))) S3 hg hm q hd
        · exact ld_blt (X := X.suite a ((a, oe) :: (X.pn ++ pins))) S3 hg hm hv q hn hd
      refine look (hit.here ?_)
      match b, eb, yes, no with
      | false, _, _, no =>
        show wpAny _ X.A (handleBy (.ref a) X.env hds') _ _ _
        exact ih (no rfl)
      | true, _, yes, _ =>
        refine codeAny_handlers_suite_as (HandSPX.lands_againZ fl fun h4 fl4 up4 => ?_)
        have J4 : Inv X pins σ1 H1 { s' with heap := h4 } := J.landed nb fl4.1 ((up.trans up3).trans up4) os ag
        obtain ⟨oe4, vs4, at4, z4, f4⟩ := fl4.there
        refine store_ok (X := X.suite a ((a, oe4) :: (X.pn ++ pins))) (v := .ref a) (J4.suite at4 f4 na nL nF) hN hi (.inl hln) rfl (fun s5 S5 => ?_) (.inr hln)
        refine wpAny_mono ((rule a oe4 cls d (X.pn ++ pins) z4 ⟨_, f4⟩).run [] s5 _ H1 _ S5 (yes rfl a na)) (fun fl6 s6 q => ?_) fun _ _ z => z.elim
        have bye : ∀ {σ6 : L2.St} {H6 : Hp} {Q : Shared → Prop}, Inv (X.suite a ((a, oe4) :: (X.pn ++ pins))) [] σ6 H6 s6 → (∀ s7, Inv X pins (σ6.set i none) H6 s7 → Q s7) →
            wpAny (model X.prog X.w) X.A (do bindName X.env n .none; unbindBehindTheSuite X.env n pos') (fun _ s7 => Q s7) X.xe s6 := fun {σ6 H6 Q} S6 k => gone_ok (S6.unsuite ok) hN hi hln k
        match fl6, q with
        | .next, ⟨σ6, H6, S6, q⟩ => exact bye S6 fun s7 J7 => ⟨_, _, J7, q⟩
        | .brk, ⟨σ6, H6, S6, q⟩ => exact bye S6 fun s7 J7 => ⟨_, _, J7, q⟩
        | .cont, ⟨σ6, H6, S6, q⟩ => exact bye S6 fun s7 J7 => ⟨_, _, J7, q⟩
        | .ret u, ⟨v, σ6, H6, S6, r, q⟩ => exact bye S6 fun s7 J7 => ⟨_, _, _, J7, r, q⟩
end
theorem pmk_plain {X : Cx} {e : Expr} {t : L2.St → Hp → XK → Prop} (h : L2N.PMk X e t) : L2.PMk X e t := fun pins s σ H Q I q =>
  wpAny_mono (h pins s σ H Q I q) (fun _ _ ⟨a, oe, vs, sI, H', cls, d, e1, J, k, n, o, z, f, c, na, os, b, r, q⟩ => ⟨a, oe, vs, sI, H', cls, d, e1, J, k, n, o, z.zc, f, c, na, os, b, r, q⟩) fun _ _ q => q
structure HeldX (P : Program) (w : World) (K : PySem.W.Frag) (mg : Str → Option Value) (base : Heap) (k : Nat) (f : Addr) (ks : List Str) (sp : Sp) : Prop where
  ex : ∃ (fd : FuncData) (ps : List Str), FnOk P w K mg base (L2.CX P w) k f fd ps sp ∧ PySem.W.keepIn K (.ref f) = true ∧ Binds K fd ps [] ∧
    ks = ps.reverse ∧ ∀ (s : Shared) (us : List Value), us.length = ps.length → BindsTo s fd ⟨[], ps.reverse.zip us⟩ (ps.zip us.reverse)
structure CalX (P : Program) (w : World) (K : PySem.W.Frag) (mg : Str → Option Value) (base : Heap) (k : Nat) (x : Str) (ks : List Str) (sp : Sp) : Prop where
  ex : ∃ f, mg x = some (.ref f) ∧ HeldX P w K mg base k f ks sp
section
variable {P : Program} {w : World} {K : PySem.W.Frag} {mg : Str → Option Value} {base : Heap}
theorem calX_of {x : Str} {st : Stmt} {f : Addr} {fd : FuncData} {N ps : List Str} {k : Nat} {sp : Sp} (F : DefOf K x st f fd) (g : mg x = some (.ref f)) (b : Binds K fd ps [])
    (b2 : ∀ (s : Shared) (us : List Value), us.length = ps.length → BindsTo s fd ⟨[], ps.reverse.zip us⟩ (ps.zip us.reverse))
    (S : FnScope N ps (defScope st)) (len : ∀ vs H Q E, sp vs H Q E → vs.length = ps.length)
    (hbody : ∀ (cdv : Value) (A : Around) (outer : List Env) (s : Shared) (H : Hp) (vs : List V) (Q : VK) (E : XK), Room k (A.deeper (envOfC x (defScope st) s.heap.objs.size f cdv)) → sp vs H Q E →
      ∃ t, PSs (cxOf (L2.CX P w) P w K mg base N x (defScope st) f cdv A outer s H E) (defBody st) t ∧ t { nx := fun _ H' => Q .non H', rt := Q } (start N vs) H) :
    CalX P w K mg base (k + 1) x ps.reverse sp := ⟨f, g, fd, ps, F.ok S len hbody, F.kp, b, rfl, b2⟩
end
theorem vals_rev : ∀ {vs : List V} {us : List Value}, Vals vs us → Vals vs.reverse us.reverse := by
  intro vs us r
  induction r with
  | nil => exact .nil
  | cons a b ih =>
    rw [List.reverse_cons, List.reverse_cons]
    exact ih.append (.cons a .nil)
abbrev Lets (X : Cx) (E : L2.St → XK) : Prop := ∀ σ, PassesAt (L2.CX X.prog X.w) X σ (E σ)
theorem lets_none {X : Cx} : Lets X (fun _ _ _ _ => False) := fun _ _ _ _ _ _ _ c => by
  obtain ⟨_, _, _, _, _, _, _, _, _, _, _, _, z⟩ := c
  exact z.elim
theorem lets_try {X : Cx} {W : WX} (tk : Takes X W) : Lets X (WE W) := fun σ => passAt tk σ
section
variable {X : Cx} {k j i : Nat} {ks : List Str} {sp : Sp} {E : L2.St → XK} {x : Str} {p pos : Pos} {e : Expr} {es : List Expr} {kws : List Keyword} {t : TA}
theorem run_held {pins : List (Addr × Obj)} {σ : L2.St} {H : Hp} {s : Shared} {Q : VK} {us : List Value} {vs : List V} {f : Addr} (F : HeldX X.prog X.w X.K X.mg X.base k f ks sp) (hr : Room k X.A) (hx : Lets X E) (I : Inv X pins σ H s) (r : Vals vs us) (h : sp vs H Q (E σ)) :
    wpAny (model X.prog X.w) X.A (call (.ref f) us) (EP X pins σ Q) X.xe s := by
  obtain ⟨fd, ps, F, _, b, _⟩ := F.ex
  exact run_fnS F hr b (hx σ) I r h
theorem run_heldK {pins : List (Addr × Obj)} {σ : L2.St} {H : Hp} {s : Shared} {Q : VK} {us : List Value} {vs : List V} {f : Addr} (F : HeldX X.prog X.w X.K X.mg X.base k f ks sp) (hr : Room k X.A) (hx : Lets X E) (I : Inv X pins σ H s) (r : Vals vs us) (h : sp vs.reverse H Q (E σ)) :
    wpAny (model X.prog X.w) X.A (call (.ref f) [] (ks.zip us)) (EP X pins σ Q) X.xe s := by
  obtain ⟨fd, ps, G, _, _, rfl, b⟩ := F.ex
  have l := G.len _ _ _ _ h
  rw [List.length_reverse, r.length] at l
  refine wpAny_call (codeAny_mono (G.run X.A X.stack s H ⟨[], ps.reverse.zip us⟩ us.reverse vs.reverse Q (E σ) hr I.env0 (b s us l) (vals_rev r) h) fun res s' q => ?_)
  match res, q with
  | .error er, q => exact hx σ pins H s er s' I q
  | .ok (.ret u), q => exact I.after q
theorem pe_x (c : CalX X.prog X.w X.K X.mg X.base k x ks sp) (hr : Room j X.A) (hk : k ≤ j) (hx : Lets X E) (hg : Gl X x) (ha : PA X (e :: es) t)
    (hdb : (x == ("__debug__" : Str)) = false := by decide) (he : starEach (e :: es) X.env = (false, eval e X.env) :: starEach es X.env := by rfl) (hpl : (backTo pos (starEach es X.env)).any (·.1) = false := by rfl) :
    PE X (.Call (.Name x p) (e :: es) [] pos) (tCallS sp E t) := by
  obtain ⟨f, hm, F⟩ := c.ex
  obtain ⟨fd, ps, F', kp, b, _⟩ := F.ex
  exact pe_callS F' (hr.mono hk) hg hm kp b hx ha hdb he hpl
theorem pe_xK (c : CalX X.prog X.w X.K X.mg X.base k x ks sp) (hr : Room j X.A) (hk : k ≤ j) (hx : Lets X E) (hg : Gl X x) (hkw : PK X kws t)
    (hall : (backToKw pos (keywordEach kws X.env)).all (·.1.isSome) = true := by rfl) (hks : (backToKw pos (keywordEach kws X.env)).filterMap (·.1) = ks := by rfl)
    (hdb : (x == ("__debug__" : Str)) = false := by decide) (hpl : ((backTo pos (starEach [] X.env)).any (·.1) || (backToKw pos (keywordEach kws X.env)).any (·.1.isNone)) = false := by rfl) :
    PE X (.Call (.Name x p) [] kws pos) (tCallS (fun vs => sp vs.reverse) E t) := by
  obtain ⟨f, hm, F⟩ := c.ex
  obtain ⟨fd, ps, F', kp, b, _⟩ := F.ex
  refine ⟨fun pins s σ H Q I h => wpAny_Call_Name_kw (ld_glob I hg hm (PySem.W.callWith_KW0 (h₀ := X.base) I.ok.mod.kin kp hall (thn (hkw.run pos pins s σ H _ I h) fun us s1 hh => ?_) hpl) hdb)⟩
  obtain ⟨vs, H1, I1, r, q⟩ := hh
  refine ⟨I1.kIn, ?_⟩
  rw [hks]
  exact run_heldK F (hr.mono hk) hx I1 r q
def tCallY (P : Program) (w : World) (K : PySem.W.Frag) (mg : Str → Option Value) (base : Heap) (k i : Nat) (E : L2.St → XK) (t : TA) : TE := fun σ H Q => ∃ (f : Addr) (ks : List Str) (sp : Sp), σ[i]? = some (some (.ref f)) ∧ HeldX P w K mg base k f ks sp ∧ t σ H fun vs H1 => sp vs H1 Q (E σ)
theorem pe_y (hr : Room j X.A) (hk : k ≤ j) (hx : Lets X E) (hN : X.N[i]? = some x) (hv : Vis X.env.scope x) (ha : PA X (e :: es) t)
    (hdb : (x == ("__debug__" : Str)) = false := by decide) (hcd : (x == ("__classdict__" : Str)) = false := by decide) (he : starEach (e :: es) X.env = (false, eval e X.env) :: starEach es X.env := by rfl) (hpl : (backTo pos (starEach es X.env)).any (·.1) = false := by rfl) :
    PE X (.Call (.Name x p) (e :: es) [] pos) (tCallY X.prog X.w X.K X.mg X.base k i E t) := by
  refine ⟨fun pins s σ H Q I h => ?_⟩
  obtain ⟨f, ks, sp, hs, F, ht⟩ := h
  obtain ⟨fd, ps, F', kp, b, _⟩ := F.ex
  refine wpAny_Call_Name_kw (thn ((pe_var (pos := p) hN hv hdb hcd).run pins s σ H (fun v H1 => v = .ref f ∧ H1 = H) I ⟨.ref f, hs, rfl, rfl⟩) fun u s1 hh => ?_)
  obtain ⟨v, H1, I1, r1, rfl, rfl⟩ := hh
  cases r1
  refine PySem.W.callWith_K (h₀ := X.base) I.ok.mod.kin kp (thn (ha.run pos pins s1 σ _ _ I1 ht) fun us s2 hh => ?_) he hpl
  obtain ⟨vs, H2, I2, r, q⟩ := hh
  exact ⟨I2.kIn, run_held F (hr.mono hk) hx I2 r q⟩
def tCallYK (P : Program) (w : World) (K : PySem.W.Frag) (mg : Str → Option Value) (base : Heap) (k i : Nat) (ks : List Str) (E : L2.St → XK) (t : TA) : TE := fun σ H Q => ∃ (f : Addr) (sp : Sp), σ[i]? = some (some (.ref f)) ∧ HeldX P w K mg base k f ks sp ∧ t σ H fun vs H1 => sp vs.reverse H1 Q (E σ)
theorem pe_yK (hr : Room j X.A) (hk : k ≤ j) (hx : Lets X E) (hN : X.N[i]? = some x) (hv : Vis X.env.scope x) (hkw : PK X kws t)
    (hall : (backToKw pos (keywordEach kws X.env)).all (·.1.isSome) = true := by rfl) (hks : (backToKw pos (keywordEach kws X.env)).filterMap (·.1) = ks := by rfl)
    (hdb : (x == ("__debug__" : Str)) = false := by decide) (hcd : (x == ("__classdict__" : Str)) = false := by decide) (hpl : ((backTo pos (starEach [] X.env)).any (·.1) || (backToKw pos (keywordEach kws X.env)).any (·.1.isNone)) = false := by rfl) :
    PE X (.Call (.Name x p) [] kws pos) (tCallYK X.prog X.w X.K X.mg X.base k i ks E t) := by
  refine ⟨fun pins s σ H Q I h => ?_⟩
  obtain ⟨f, sp, hs, F, ht⟩ := h
  obtain ⟨fd, ps, F', kp, b, _⟩ := F.ex
  refine wpAny_Call_Name_kw (thn ((pe_var (pos := p) hN hv hdb hcd).run pins s σ H (fun v H1 => v = .ref f ∧ H1 = H) I ⟨.ref f, hs, rfl, rfl⟩) fun u s1 hh => ?_)
  obtain ⟨v, H1, I1, r1, rfl, rfl⟩ := hh
  cases r1
  refine PySem.W.callWith_KW0 (h₀ := X.base) I.ok.mod.kin kp hall (thn (hkw.run pos pins s1 σ _ _ I1 ht) fun us s2 hh => ?_) hpl
  obtain ⟨vs, H2, I2, r, q⟩ := hh
  refine ⟨I2.kIn, ?_⟩
  rw [hks]
  exact run_heldK F (hr.mono hk) hx I2 r q
end
end SpE

set_option maxHeartbeats 4000000
namespace K01
def qn (p n : Int) : Int × Int := (p.fdiv (if n < 0 then -(Int.gcd p n : Int) else (Int.gcd p n : Int)), n.fdiv (if n < 0 then -(Int.gcd p n : Int) else (Int.gcd p n : Int)))
def Okq (q : Int × Int) : Prop := 1 ≤ q.2 ∧ Int.gcd q.1 q.2 = 1
theorem gcd_pos {p n : Int} (h : n ≠ 0) : 0 < Int.gcd p n := Int.gcd_pos_iff.mpr (.inr h)
theorem qn_pos {p n : Int} (h : 0 < n) : qn p n = (p / (Int.gcd p n : Int), n / (Int.gcd p n : Int)) := by
  unfold qn
  rw [if_neg (by omega)]
  rw [Int.fdiv_eq_ediv_of_nonneg _ (by omega), Int.fdiv_eq_ediv_of_nonneg _ (by omega)]
theorem qn_neg {p n : Int} (h : n < 0) : qn p n = (-(p / (Int.gcd p n : Int)), -(n / (Int.gcd p n : Int))) := by
  unfold qn
  rw [if_pos h]
  rw [Int.fdiv_eq_ediv_of_dvd (by rw [Int.neg_dvd]; exact Int.gcd_dvd_left _ _), Int.fdiv_eq_ediv_of_dvd (by rw [Int.neg_dvd]; exact Int.gcd_dvd_right _ _), Int.ediv_neg, Int.ediv_neg]
theorem qn_ok {p n : Int} (h : n ≠ 0) : Okq (qn p n) := by
  have g := gcd_pos (p := p) h
  have e := Int.gcd_ediv_gcd_ediv_gcd g
  have d : (Int.gcd p n : Int) * (n / (Int.gcd p n : Int)) = n := Int.mul_ediv_cancel' (Int.gcd_dvd_right _ _)
  have g' : (0 : Int) < (Int.gcd p n : Int) := by omega
  rcases Int.lt_trichotomy n 0 with c | c | c
  · rw [qn_neg c]
    refine ⟨?_, ?_⟩
    · show 1 ≤ -(n / (Int.gcd p n : Int))
      have : n / (Int.gcd p n : Int) < 0 := by
        rcases Int.lt_or_le (n / (Int.gcd p n : Int)) 0 with z | z
        · exact z
        · have := Int.mul_nonneg (Int.le_of_lt g') z
          omega
      omega
    · show Int.gcd (-(p / (Int.gcd p n : Int))) (-(n / (Int.gcd p n : Int))) = 1
      rw [Int.neg_gcd, Int.gcd_neg]
      exact e
  · exact absurd c h
  · rw [qn_pos c]
    refine ⟨?_, e⟩
    show 1 ≤ n / (Int.gcd p n : Int)
    have : 0 < n / (Int.gcd p n : Int) := by
      rcases Int.lt_or_le 0 (n / (Int.gcd p n : Int)) with z | z
      · exact z
      · have := Int.mul_nonpos_of_nonneg_of_nonpos (Int.le_of_lt g') z
        omega
    omega
theorem qn_sgn {p n : Int} (h : 0 < n) : ((qn p n).1 = 0 ↔ p = 0) ∧ (0 < (qn p n).1 ↔ 0 < p) := by
  have g := gcd_pos (p := p) (n := n) (by omega)
  have g' : (0 : Int) < (Int.gcd p n : Int) := by omega
  have d : (Int.gcd p n : Int) * (p / (Int.gcd p n : Int)) = p := Int.mul_ediv_cancel' (Int.gcd_dvd_left _ _)
  rw [qn_pos h]
  show (p / (Int.gcd p n : Int) = 0 ↔ p = 0) ∧ (0 < p / (Int.gcd p n : Int) ↔ 0 < p)
  generalize p / (Int.gcd p n : Int) = x at d
  generalize (Int.gcd p n : Int) = y at d g'
  refine ⟨⟨fun z => by rw [z] at d; omega, fun z => ?_⟩, ⟨fun z => ?_, fun z => ?_⟩⟩
  · rw [z] at d
    rcases Int.mul_eq_zero.mp d with q | q
    · omega
    · exact q
  · rw [← d]
    exact Int.mul_pos g' z
  · rcases Int.lt_or_le 0 x with q | q
    · exact q
    · have := Int.mul_nonpos_of_nonneg_of_nonpos (Int.le_of_lt g') q
      omega
theorem gcd_turn {a b : Nat} (h : b ≠ 0) : Nat.gcd b (a % b) = Nat.gcd a b := by
  rw [Nat.gcd_comm b (a % b), ← Nat.gcd_rec b a, Nat.gcd_comm]
theorem fmod_nat {a b : Nat} : ((a : Int)).fmod (b : Int) = ((a % b : Nat) : Int) := by
  rw [Int.fmod_eq_emod_of_nonneg _ (by omega)]
  rfl
end K01

set_option maxHeartbeats 4000000
namespace K01
open PySem PySem.Spec PyProof.Rows L2 SpE He
open C8 (Cal pe_c)
def top (i : Nat) : Stmt := PySem.Challenge.pw_sameproof_k01_whole_quotients.main.body.getD i (.Pass ⟨0, 0, 0, 0⟩)
abbrev s_is_integer : Stmt := top 1
abbrev s_is_list : Stmt := top 2
abbrev s_is_row : Stmt := top 3
abbrev s_is_text : Stmt := top 4
abbrev s_common_divisor : Stmt := top 14
abbrev s_made : Stmt := top 15
abbrev s_is_quotient : Stmt := top 16
abbrev s_quotient_of : Stmt := top 17
abbrev s_need_quotient : Stmt := top 18
abbrev s_need_two : Stmt := top 19
abbrev s_added : Stmt := top 20
abbrev s_multiplied : Stmt := top 21
abbrev s_negated : Stmt := top 22
abbrev s_sign_of : Stmt := top 23
abbrev s_plus : Stmt := top 24
abbrev s_less : Stmt := top 25
abbrev s_times : Stmt := top 26
abbrev s_over : Stmt := top 27
abbrev s_compared : Stmt := top 28
abbrev s_opposite : Stmt := top 29
abbrev s_text_of_quotient : Stmt := top 30
abbrev s_quotient_text : Stmt := top 31
abbrev s_numeral_in : Stmt := top 32
abbrev s_quotient_in : Stmt := top 33
abbrev s_read_quotient : Stmt := top 34
abbrev s_law_divisor : Stmt := top 36
abbrev s_law_q : Stmt := top 37
abbrev s_law_q_add : Stmt := top 38
abbrev s_law_q_mul : Stmt := top 39
abbrev s_law_q_text : Stmt := top 40
abbrev s_law_start : Stmt := top 41
abbrev s_law_pick : Stmt := top 42
abbrev s_law_one : Stmt := top 43
abbrev s_law_mixed : Stmt := top 44
abbrev s_law_same : Stmt := top 45
abbrev s_law_copy : Stmt := top 46
abbrev s_law_loose : Stmt := top 47
abbrev s_law_told : Stmt := top 48
abbrev s_law_some_q : Stmt := top 49
abbrev s_law_q_read : Stmt := top 50
abbrev s_law : Stmt := top 51
def tab : ErTab := ([("BadOther", ["other"]), ("BadParts", ["p", "n"]), ("BadQuotient", ["q"]), ("BadQuotientText", ["text"])] : List (Str × List Str))
def none0 : List Str := (["SameError"] : List Str)
structure Txt (P : Program) (w : World) (K : PySem.W.Frag) (mg : Str → Option Value) (base : Heap) : Prop extends Blt mg where
  er : ErFacts "SameError" none0 tab K
  e_SameError : Er0 K mg "SameError" (ga K "SameError")
  e_BadOther : ErMk P w K mg base "BadOther" (ga K "BadOther") ["other"]
  e_BadParts : ErMk P w K mg base "BadParts" (ga K "BadParts") ["p", "n"]
  e_BadQuotient : ErMk P w K mg base "BadQuotient" (ga K "BadQuotient") ["q"]
  e_BadQuotientText : ErMk P w K mg base "BadQuotientText" (ga K "BadQuotientText") ["text"]
section
variable {P : Program} {w : World} {K : PySem.W.Frag} {mg : Str → Option Value} {base : Heap} {f : Addr} {fd : FuncData}
theorem sc_law_pick : FnScope ["state", "many", "cell", "digit", "mixed"] ["state", "many"] (defScope s_law_pick) := ⟨rfl, rfl, rfl, by decide +kernel, rfl, by decide +kernel, by decide +kernel⟩
theorem ok_pick (T : Blt mg) (F : DefOf K "_law_pick" s_law_pick f fd) (g : mg "_law_pick" = some (.ref f)) (b : Binds K fd ["state", "many"] []) : Cal P w K mg base 1 "_law_pick" spPick [] := by
  refine cal_of F g b sc_law_pick (fun vs H Q E h => ?_) (fun cdv A outer s H vs Q E hr h => ?_)
  · obtain ⟨a, b, c, many, rfl, _⟩ := h
    rfl
  · obtain ⟨a, b, c, many, rfl, hS, hc, hm1, hm2, k⟩ := h
    have hne := hS.ne
    obtain ⟨d, n, m, ns, ha, hb, h1, h2, h3, h4, h5⟩ := hS.ex
    refine ⟨_, pss_cons (ps_asg (pe_op op_add (pe_ix ix_list (pv 0) (pe_int) (fun _ _ => rfl)) (pe_int)) (pg_sub (pv 0) (pe_int) set_list))
  (pss_cons (ps_while PassesOwn.never (PW.pt (pw_and (pt_cmpR op_eq (pe_ix ix_list (pv 0) (pe_int) (fun _ _ => rfl)) (pe_int) (nomark _)) (pw_and1 (pt_cmpR (op_neD hr.units) (pe_ix ix_list (pv 0) (pe_int) (fun _ _ => rfl)) (pe_lst (pa_nil)) (nomark _))))) (pss_cons (ps_set (i := 2) sc_law_pick.nd rfl (Or.inl rfl) (pe_callB call_abs rfl T.abs bt_abs (pa_cons (pe_bm PySem.F.plainAttrs_list PySem.F.slot_list_pop PySem.F.type_list_pop mt_popAt (pe_ix ix_list (pv 0) (pe_int) (fun _ _ => rfl)) (pa_cons (pe_int) pa_nil)) pa_nil)))
  (pss_cons (ps_asg (pe_op op_modN (pe_callTy call_int1 rfl T.int bt_int (pa_cons (pe_op op_add (pe_op op_add (pe_op op_mul (pe_ix ix_list (pv 0) (pe_int) (fun _ _ => rfl)) (pe_int)) (pv 2)) (pe_int)) pa_nil)) (pe_int)) (pg_sub (pv 0) (pe_int) set_list))
  (pss_one (ps_asg (pe_ifExp (pt_cmpR op_ge (pv 2) (pe_op op_pow (pe_int) (pe_int)) (nomark _)) (pv 2) (pe_int)) (pg_sub (pv 0) (pe_int) set_list))))))
  (pss_cons (ps_if (pt_cmpR op_gt (pe_ix ix_list (pv 0) (pe_int) (fun _ _ => rfl)) (pe_int) (nomark _)) (pss_cons (ps_set (i := 3) sc_law_pick.nd rfl (Or.inl rfl) (pe_op op_modN (pe_callTy call_int1 rfl T.int bt_int (pa_cons (pe_ix ix_list (pv 0) (pe_int) (fun _ _ => rfl)) pa_nil)) (pv 1)))
  (pss_cons (ps_asg (pe_op op_fdivN (pe_ix ix_list (pv 0) (pe_int) (fun _ _ => rfl)) (pv 1)) (pg_sub (pv 0) (pe_int) set_list))
  (pss_one (ps_ret (pv 3))))) (pss_nil))
  (pss_cons (ps_set (i := 4) sc_law_pick.nd rfl (Or.inl rfl) (pe_op op_modN (pe_callTy call_int1 rfl T.int bt_int (pa_cons (pe_op op_pow (pe_op op_add (pe_op op_add (pe_ix ix_list (pv 0) (pe_int) (fun _ _ => rfl)) (pe_op op_mul (pe_int) (pe_ix ix_list (pv 0) (pe_int) (fun _ _ => rfl)))) (pe_int)) (pe_int)) pa_nil)) (pe_int)))
  (pss_one (ps_ret (pe_op op_modN (pe_op op_modN (pe_callTy call_int1 rfl T.int bt_int (pa_cons (pe_op op_pow (pe_op op_add (pe_op op_add (pe_op op_mul (pv 4) (pe_int)) (pe_op op_mul (pe_int) (pe_ix ix_list (pv 0) (pe_int) (fun _ _ => rfl)))) (pe_int)) (pe_int)) pa_nil)) (pe_int)) (pv 1))))))), ?_⟩
    -- state[2] = state[2] + 1
    refine ⟨_, rfl, a, _, 2, _, rfl, rfl, SqL.of ha, rfl, n, 1, rfl, rfl, _, rfl, a, _, 2, 2, rfl, rfl, ha, rfl, ?_⟩
    -- the loop
    refine while_k (pickW a b many (n + 1) H) (pickB a b many (n + 1) H) ns.length ⟨none, d, m, ns, rfl, rfl, upd_same, by rw [upd_ne hne.symm]; exact hb, h1, h4, h5, sameB_a⟩ ?_ ?_
    · rintro m1 σ H1 ⟨vc, d, s, ns, rfl, rfl, ha, hb, h1, h4, h5, sB⟩ NX fx
      refine ⟨_, rfl, a, _, 1, _, rfl, rfl, SqL.of ha, rfl, rfl, _, rfl, ?_⟩
      by_cases hd : d = 0
      · subst hd
        refine iteT ⟨_, rfl, a, _, 0, _, rfl, rfl, SqL.of ha, rfl, by show 0 ≤ sizeLine; decide, fun p hp => ?_⟩
        have hpa : a ≠ p := ne_of_none ha hp
        have hpb : b ≠ p := ne_of_none hb hp
        have ha' : upd H1 p (.lst []) a = some (.lst [.ref b, .int 0, .int (n + 1), .int s]) := by rw [upd_ne hpa]; exact ha
        have hb' : upd H1 p (.lst []) b = some (.lst (ns.map V.int)) := by rw [upd_ne hpb]; exact hb
        have sB' : SameB a b H (upd H1 p (.lst [])) := sB.trans (sameB_of (same_upd hp))
        refine ⟨.list (ns.map PyData.int), .list [], .lst (SqL.of hb') (dp_ints ns), .lst (SqL.of upd_same) .nil, PySem.W.ke_shaped_ints ns, by decide, _, rfl, ?_⟩
        rw [eqv_ints_nil]
        cases ns with
        | nil => exact iteF (fx _ _ ⟨_, vc, 0, s, [], rfl, rfl, ha', hb', h1, h4, h5, sB'⟩)
        | cons z r =>
          refine iteT ⟨fun σ' H' => ∃ m', m' < (z :: r).length ∧ pickW a b many (n + 1) H m' σ' H', fun _ _ h => h, ?_⟩
          -- cell = abs(state[0].pop(0))
          refine ⟨_, rfl, a, _, 0, _, rfl, rfl, SqL.of ha', rfl, .inl ⟨rfl, _, SqL.of hb'⟩, b, _, 0, 0, V.int z, rfl, rfl, hb', by decide, by decide, seqIndex0 _, rfl, z, rfl, ?_⟩
          have hba : b ≠ a := hne.symm
          have ha2 : upd (upd H1 p (.lst [])) b (.lst ((V.int z :: r.map V.int).eraseIdx 0)) a = some (.lst [.ref b, .int 0, .int (n + 1), .int s]) := by rw [upd_ne hne]; exact ha'
          have hb2 : upd (upd H1 p (.lst [])) b (.lst ((V.int z :: r.map V.int).eraseIdx 0)) b = some (.lst (r.map V.int)) := upd_same
          -- state[3] = int(state[3] * 6151 + cell + 5) % 2147483647
          refine ⟨_, rfl, a, _, 3, _, rfl, rfl, SqL.of ha2, rfl, _, _, rfl, rfl, .inl ⟨by omega, by omega⟩, _, rfl, _, _, rfl, rfl, _, _, rfl, rfl, .inl ⟨_, rfl, _, _, rfl, rfl, (by show (2147483647 : Int) ≠ 0; decide), _, rfl, a, _, 3, 3, rfl, rfl, ha2, rfl, ?_⟩⟩
          -- state[1] = cell if cell >= 10 ** 18 else 0
          refine ⟨_, rfl, _, _, rfl, rfl, ⟨by decide, by decide, by decide⟩, _, _, rfl, rfl, _, rfl, ?_⟩
          have zc : 0 ≤ (if z < 0 then -z else z) := by split <;> omega
          dsimp only
          generalize hcell : (if z < 0 then -z else z) = cell at zc ⊢
          generalize hs2 : (s * 6151 + cell + 5).fmod 2147483647 = s2
          have s20 : 0 ≤ s2 := by rw [← hs2]; exact fm0 _ (by decide)
          have s21 : s2 < 2147483647 := by rw [← hs2]; exact fm1 _ (by decide)
          refine ite2 (fun _ => ?_) (fun _ => ?_)
          · refine ⟨_, rfl, _, rfl, a, _, 1, 1, rfl, rfl, upd_same, rfl, r.length, Nat.lt_succ_self _, _, cell, s2, r, rfl, rfl, ?_, ?_, zc, s20, s21, ?_⟩
            · exact upd_same
            · rw [upd_ne hba, upd_ne hba]; exact hb2
            · exact ((sB'.trans sameB_b).trans sameB_a).trans sameB_a
          · refine ⟨_, rfl, a, _, 1, 1, rfl, rfl, upd_same, rfl, r.length, Nat.lt_succ_self _, _, 0, s2, r, rfl, rfl, ?_, ?_, by decide, s20, s21, ?_⟩
            · exact upd_same
            · rw [upd_ne hba, upd_ne hba]; exact hb2
            · exact ((sB'.trans sameB_b).trans sameB_a).trans sameB_a
      · rw [decide_eq_false (fun z => hd (V.int.inj z))]
        exact iteF (iteF (fx _ _ ⟨_, vc, d, s, ns, rfl, rfl, ha, hb, h1, h4, h5, sB⟩))
    · rintro σ H1 ⟨m1, vc, d, s, ns, rfl, rfl, ha, hb, h1, h4, h5, sB⟩
      -- if state[1] > 0
      refine ⟨_, rfl, a, _, 1, _, rfl, rfl, SqL.of ha, rfl, _, _, rfl, rfl, _, rfl, ?_⟩
      have hba : b ≠ a := hne.symm
      have mod0 : ∀ x : Int, 0 ≤ x.fmod many := fun x => fm0 x (by omega)
      have mod1 : ∀ x : Int, x.fmod many < many := fun x => fm1 x (by omega)
      refine ite2 (fun _ => ?_) (fun _ => ?_)
      · -- digit = int(state[1]) % many; state[1] = state[1] // many; return digit
        refine ⟨_, rfl, a, _, 1, _, rfl, rfl, SqL.of ha, rfl, .inl ⟨_, rfl, _, rfl, _, _, rfl, rfl, by omega, ?_⟩⟩
        refine ⟨_, rfl, a, _, 1, _, rfl, rfl, SqL.of ha, rfl, _, rfl, _, _, rfl, rfl, ⟨by omega, by omega⟩, _, rfl, a, _, 1, 1, rfl, rfl, ha, rfl, ?_⟩
        refine ⟨_, rfl, k _ _ (mod0 _) (mod1 _) ⟨d.fdiv many, n + 1, s, ns, upd_same, by rw [upd_ne hba]; exact hb, ?_, by omega, by omega, h4, h5⟩ (sB.trans sameB_a)⟩
        rw [Int.fdiv_eq_ediv_of_nonneg _ (by omega)]
        exact Int.ediv_nonneg h1 (by omega)
      · -- mixed = .., return ..
        refine ⟨_, rfl, a, _, 3, _, rfl, rfl, SqL.of ha, rfl, _, rfl, a, _, 2, _, rfl, rfl, SqL.of ha, rfl, _, _, rfl, rfl, .inl ⟨by decide, by decide⟩, _, _, rfl, rfl, _, _, rfl, rfl, _, _, rfl, rfl, ⟨by decide, by decide, ?_⟩, .inl ⟨_, rfl, _, _, rfl, rfl, (by show (2147483629 : Int) ≠ 0; decide), ?_⟩⟩
        · show (s + 7907 * (n + 1) + 104723).natAbs < 2 ^ 64
          omega
        · dsimp only
          generalize hx : Int.fmod _ 2147483629 = mixed
          have x0 : 0 ≤ mixed := by rw [← hx]; exact fm0 _ (by decide)
          have x1 : mixed < 2147483629 := by rw [← hx]; exact fm1 _ (by decide)
          refine ⟨_, rfl, _, _, rfl, rfl, .inl ⟨by omega, by omega⟩, _, rfl, a, _, 2, _, rfl, rfl, SqL.of ha, rfl, _, _, rfl, rfl, .inl ⟨by decide, by decide⟩, _, _, rfl, rfl, _, _, rfl, rfl, _, _, rfl, rfl, ⟨by decide, by decide, ?_⟩, .inl ⟨_, rfl, _, _, rfl, rfl, (by show (1000000007 : Int) ≠ 0; decide), _, rfl, _, _, rfl, rfl, by omega, ?_⟩⟩
          · show (mixed * 48271 + 30011 * (n + 1) + 31).natAbs < 2 ^ 64
            omega
          · exact k _ _ (mod0 _) (mod1 _) ⟨d, n + 1, s, ns, ha, hb, h1, by omega, by omega, h4, h5⟩ sB
end
end K01

set_option maxHeartbeats 4000000
namespace K01
open PySem PySem.Spec PyProof.Rows L2 SpE He
open C8 (Cal pe_c)
section
variable {P : Program} {w : World} {K : PySem.W.Frag} {mg : Str → Option Value} {base : Heap} {f : Addr} {fd : FuncData}
def spGcd : Sp := fun vs H Q _ => ∃ (a b : Int), vs = [.int a, .int b] ∧ Q (.int (Int.gcd a b)) H
def gcdW (a0 b0 : Nat) (H0 : Hp) : Nat → L2.St → Hp → Prop := fun m σ H => ∃ (a b : Nat), σ = [some (.int a), some (.int b)] ∧ m = b ∧ Nat.gcd a b = Nat.gcd a0 b0 ∧ H = H0
def gcdB (a0 b0 : Nat) (H0 : Hp) : L2.St → Hp → Prop := fun σ H => σ = [some (.int (Nat.gcd a0 b0)), some (.int 0)] ∧ H = H0
theorem log_62 {n : Nat} (h : n < 4611686018427387904) : n.log2 < 9000 := by
  by_cases e : n = 0
  · subst e
    decide
  · have z : n.log2 < 62 := (Nat.log2_lt e).mpr (by show n < 2 ^ 62; exact h)
    omega
theorem gcd_le {p n : Int} (h : n ≠ 0) (z : n.natAbs < 4611686018427387904) : Int.gcd p n < 4611686018427387904 := by
  have a := Nat.le_of_dvd (by omega) (Int.gcd_dvd_natAbs_right p n)
  omega
theorem op_fdivG {X : Cx} : OpR X (binaryOp .FloorDiv) (rI (fun _ j => j ≠ 0 ∧ j.natAbs.log2 < 9000) fun i j => .int (i.fdiv j)) := opI fun _ _ _ _ _ _ _ hc q => floordiv_int hc.1 q (.inl (PyProof.noPylong_of_log2 hc.2))
theorem abs_nat (a : Int) : (if a < 0 then -a else a) = (a.natAbs : Int) := by omega
theorem sc_common_divisor : FnScope ["one", "two"] ["one", "two"] (defScope s_common_divisor) := ⟨rfl, rfl, rfl, by decide +kernel, rfl, by decide +kernel, by decide +kernel⟩
theorem ok_common_divisor (T : Blt mg) (F : DefOf K "common_divisor" s_common_divisor f fd) (g : mg "common_divisor" = some (.ref f)) (b : Binds K fd ["one", "two"] []) : Cal P w K mg base 1 "common_divisor" spGcd [] := by
  refine cal_of F g b sc_common_divisor (fun vs H Q E h => ?_) (fun cdv A outer s H vs Q E hr h => ?_)
  · obtain ⟨a, b, rfl, _⟩ := h
    rfl
  · obtain ⟨a, b, rfl, k⟩ := h
    refine ⟨_, pss_cons (ps_par (i := 0) (j := 1) rfl sc_common_divisor.nd rfl rfl (by decide) rfl rfl (pa_cons (pe_callB call_abs rfl T.abs bt_abs (pa_cons (pv 0) pa_nil)) (pa_cons (pe_callB call_abs rfl T.abs bt_abs (pa_cons (pv 1) pa_nil)) pa_nil)) rfl)
  (pss_cons (ps_while PassesOwn.never (pt_cmpR op_ne (pv 1) (pe_int) (nomark _)) (pss_one (ps_par (i := 0) (j := 1) rfl sc_common_divisor.nd rfl rfl (by decide) rfl rfl (pa_cons (pv 1) (pa_cons (pe_op op_modN (pv 0) (pv 1)) pa_nil)) rfl)))
  (pss_one (ps_ret (pv 0)))), ?_⟩
    refine ⟨_, rfl, a, rfl, _, rfl, b, rfl, _, _, rfl, ?_⟩
    rw [abs_nat a, abs_nat b]
    refine while_k (gcdW a.natAbs b.natAbs H) (gcdB a.natAbs b.natAbs H) b.natAbs ⟨_, _, rfl, rfl, rfl, rfl⟩ ?_ ?_
    · rintro m σ H1 ⟨x, y, rfl, rfl, hg, rfl⟩ NX fx
      refine ⟨_, rfl, rfl, _, rfl, ?_⟩
      by_cases hy : m = 0
      · subst hy
        exact iteF (fx _ _ ⟨by rw [← hg, Nat.gcd_zero_right]; rfl, rfl⟩)
      · have hn : (!decide (V.int (m : Int) = V.int 0)) = true := by
          rw [decide_eq_false (fun z => hy (by have := V.int.inj z; omega))]
          rfl
        rw [hn]
        refine iteT ⟨fun σ' H' => ∃ m', m' < m ∧ gcdW a.natAbs b.natAbs H1 m' σ' H', fun _ _ h => h, ?_⟩
        refine ⟨_, rfl, _, rfl, _, rfl, _, _, rfl, rfl, (by show (m : Int) ≠ 0; omega), _, _, rfl, ?_⟩
        dsimp only
        rw [fmod_nat]
        exact ⟨x % m, Nat.mod_lt _ (by omega), m, x % m, rfl, rfl, by rw [gcd_turn hy]; exact hg, rfl⟩
    · rintro σ H1 ⟨rfl, rfl⟩
      exact ⟨_, rfl, k⟩
theorem sc_law_divisor : FnScope ["one", "two"] ["one", "two"] (defScope s_law_divisor) := ⟨rfl, rfl, rfl, by decide +kernel, rfl, by decide +kernel, by decide +kernel⟩
theorem ok_law_divisor (T : Blt mg) (F : DefOf K "_law_divisor" s_law_divisor f fd) (g : mg "_law_divisor" = some (.ref f)) (b : Binds K fd ["one", "two"] []) : Cal P w K mg base 1 "_law_divisor" spGcd [] := by
  refine cal_of F g b sc_law_divisor (fun vs H Q E h => ?_) (fun cdv A outer s H vs Q E hr h => ?_)
  · obtain ⟨a, b, rfl, _⟩ := h
    rfl
  · obtain ⟨a, b, rfl, k⟩ := h
    refine ⟨_, pss_cons (ps_par (i := 0) (j := 1) rfl sc_law_divisor.nd rfl rfl (by decide) rfl rfl (pa_cons (pe_callB call_abs rfl T.abs bt_abs (pa_cons (pv 0) pa_nil)) (pa_cons (pe_callB call_abs rfl T.abs bt_abs (pa_cons (pv 1) pa_nil)) pa_nil)) rfl)
  (pss_cons (ps_while PassesOwn.never (pt_cmpR op_ne (pv 1) (pe_int) (nomark _)) (pss_one (ps_par (i := 0) (j := 1) rfl sc_law_divisor.nd rfl rfl (by decide) rfl rfl (pa_cons (pv 1) (pa_cons (pe_op op_modN (pv 0) (pv 1)) pa_nil)) rfl)))
  (pss_one (ps_ret (pv 0)))), ?_⟩
    refine ⟨_, rfl, a, rfl, _, rfl, b, rfl, _, _, rfl, ?_⟩
    rw [abs_nat a, abs_nat b]
    refine while_k (gcdW a.natAbs b.natAbs H) (gcdB a.natAbs b.natAbs H) b.natAbs ⟨_, _, rfl, rfl, rfl, rfl⟩ ?_ ?_
    · rintro m σ H1 ⟨x, y, rfl, rfl, hg, rfl⟩ NX fx
      refine ⟨_, rfl, rfl, _, rfl, ?_⟩
      by_cases hy : m = 0
      · subst hy
        exact iteF (fx _ _ ⟨by rw [← hg, Nat.gcd_zero_right]; rfl, rfl⟩)
      · have hn : (!decide (V.int (m : Int) = V.int 0)) = true := by
          rw [decide_eq_false (fun z => hy (by have := V.int.inj z; omega))]
          rfl
        rw [hn]
        refine iteT ⟨fun σ' H' => ∃ m', m' < m ∧ gcdW a.natAbs b.natAbs H1 m' σ' H', fun _ _ h => h, ?_⟩
        refine ⟨_, rfl, _, rfl, _, rfl, _, _, rfl, rfl, (by show (m : Int) ≠ 0; omega), _, _, rfl, ?_⟩
        dsimp only
        rw [fmod_nat]
        exact ⟨x % m, Nat.mod_lt _ (by omega), m, x % m, rfl, rfl, by rw [gcd_turn hy]; exact hg, rfl⟩
    · rintro σ H1 ⟨rfl, rfl⟩
      exact ⟨_, rfl, k⟩
def spMk : Sp := fun vs H Q _ => ∃ (p n : Int), vs = [.int p, .int n] ∧ n ≠ 0 ∧ n.natAbs < 4611686018427387904 ∧ ∀ t, H t = none → Q (.ref t) (upd H t (.tup [.int (qn p n).1, .int (qn p n).2]))
theorem sc_made : FnScope ["p", "n", "divisor"] ["p", "n"] (defScope s_made) := ⟨rfl, rfl, rfl, by decide +kernel, rfl, by decide +kernel, by decide +kernel⟩
theorem ok_made (C_common_divisor : Cal P w K mg base 1 "common_divisor" spGcd []) (F : DefOf K "made" s_made f fd) (g : mg "made" = some (.ref f)) (b : Binds K fd ["p", "n"] []) : Cal P w K mg base 2 "made" spMk [] := by
  refine cal_of F g b sc_made (fun vs H Q E h => ?_) (fun cdv A outer s H vs Q E hr h => ?_)
  · obtain ⟨p, n, rfl, _⟩ := h
    rfl
  · obtain ⟨p, n, rfl, hn, hz, k⟩ := h
    refine ⟨_, pss_cons (ps_set (i := 2) sc_made.nd rfl (Or.inl rfl) (pe_c C_common_divisor hr (by first | decide | omega) rfl (pa_cons (pv 0) (pa_cons (pv 1) pa_nil))))
  (pss_cons (ps_if (pt_cmpR op_lt (pv 1) (pe_int) (nomark _)) (pss_one (ps_set (i := 2) sc_made.nd rfl (Or.inl rfl) (pe_un un_neg (pv 2)))) (pss_nil))
  (pss_one (ps_ret (pe_tup (pa_cons (pe_op op_fdivG (pv 0) (pv 2)) (pa_cons (pe_op op_fdivG (pv 1) (pv 2)) pa_nil)))))), ?_⟩
    have gp := gcd_pos (p := p) hn
    have gl := gcd_le (p := p) hn hz
    refine ⟨_, rfl, _, rfl, p, n, rfl, ?_⟩
    refine ⟨_, rfl, _, _, rfl, rfl, _, rfl, ?_⟩
    by_cases c : n < 0
    · refine ite2 (fun _ => ?_) fun z => absurd (decide_eq_true c) z
      refine ⟨_, rfl, _, rfl, ?_⟩
      refine ⟨_, rfl, _, rfl, _, _, rfl, rfl, (by show -((Int.gcd p n : Nat) : Int) ≠ 0 ∧ _; exact ⟨by omega, log_62 (by omega)⟩), _, rfl, _, rfl, _, _, rfl, rfl, (by show -((Int.gcd p n : Nat) : Int) ≠ 0 ∧ _; exact ⟨by omega, log_62 (by omega)⟩), by show 2 ≤ sizeLine; decide, fun t ht => ?_⟩
      have e := k t ht
      unfold qn at e
      rw [if_pos c] at e
      exact e
    · refine ite2 (fun z => absurd (of_decide_eq_true z) c) fun _ => ?_
      refine ⟨_, rfl, _, rfl, _, _, rfl, rfl, (by show ((Int.gcd p n : Nat) : Int) ≠ 0 ∧ _; exact ⟨by omega, log_62 (by omega)⟩), _, rfl, _, rfl, _, _, rfl, rfl, (by show ((Int.gcd p n : Nat) : Int) ≠ 0 ∧ _; exact ⟨by omega, log_62 (by omega)⟩), by show 2 ≤ sizeLine; decide, fun t ht => ?_⟩
      have e := k t ht
      unfold qn at e
      rw [if_neg c] at e
      exact e
theorem sc_law_q : FnScope ["p", "n", "d"] ["p", "n"] (defScope s_law_q) := ⟨rfl, rfl, rfl, by decide +kernel, rfl, by decide +kernel, by decide +kernel⟩
theorem ok_law_q (C_law_divisor : Cal P w K mg base 1 "_law_divisor" spGcd []) (F : DefOf K "_law_q" s_law_q f fd) (g : mg "_law_q" = some (.ref f)) (b : Binds K fd ["p", "n"] []) : Cal P w K mg base 2 "_law_q" spMk [] := by
  refine cal_of F g b sc_law_q (fun vs H Q E h => ?_) (fun cdv A outer s H vs Q E hr h => ?_)
  · obtain ⟨p, n, rfl, _⟩ := h
    rfl
  · obtain ⟨p, n, rfl, hn, hz, k⟩ := h
    refine ⟨_, pss_cons (ps_set (i := 2) sc_law_q.nd rfl (Or.inl rfl) (pe_op op_mul (pe_c C_law_divisor hr (by first | decide | omega) rfl (pa_cons (pv 0) (pa_cons (pv 1) pa_nil))) (pe_ifExp (pt_cmpR op_gt (pv 1) (pe_int) (nomark _)) (pe_int) (pe_un un_neg (pe_int)))))
  (pss_one (ps_ret (pe_tup (pa_cons (pe_op op_fdivG (pv 0) (pv 2)) (pa_cons (pe_op op_fdivG (pv 1) (pv 2)) pa_nil))))), ?_⟩
    have gp := gcd_pos (p := p) hn
    have gl := gcd_le (p := p) hn hz
    refine ⟨_, rfl, _, rfl, p, n, rfl, ?_⟩
    refine ⟨_, rfl, _, _, rfl, rfl, _, rfl, ?_⟩
    by_cases c : n < 0
    · refine ite2 (fun z => absurd (of_decide_eq_true z) (by omega)) fun _ => ?_
      refine ⟨_, rfl, _, _, rfl, rfl, .inr (by decide), ?_⟩
      dsimp only
      rw [show ((Int.gcd p n : Nat) : Int) * -1 = -((Int.gcd p n : Nat) : Int) by omega]
      refine ⟨_, rfl, _, rfl, _, _, rfl, rfl, (by show -((Int.gcd p n : Nat) : Int) ≠ 0 ∧ _; exact ⟨by omega, log_62 (by omega)⟩), _, rfl, _, rfl, _, _, rfl, rfl, (by show -((Int.gcd p n : Nat) : Int) ≠ 0 ∧ _; exact ⟨by omega, log_62 (by omega)⟩), by show 2 ≤ sizeLine; decide, fun t ht => ?_⟩
      have e := k t ht
      unfold qn at e
      rw [if_pos c] at e
      exact e
    · refine ite2 (fun _ => ?_) fun z => absurd (decide_eq_true (show (0 : Int) < n by omega)) z
      refine ⟨_, _, rfl, rfl, .inr (by decide), ?_⟩
      dsimp only
      rw [Int.mul_one]
      refine ⟨_, rfl, _, rfl, _, _, rfl, rfl, (by show ((Int.gcd p n : Nat) : Int) ≠ 0 ∧ _; exact ⟨by omega, log_62 (by omega)⟩), _, rfl, _, rfl, _, _, rfl, rfl, (by show ((Int.gcd p n : Nat) : Int) ≠ 0 ∧ _; exact ⟨by omega, log_62 (by omega)⟩), by show 2 ≤ sizeLine; decide, fun t ht => ?_⟩
      have e := k t ht
      unfold qn at e
      rw [if_neg c] at e
      exact e
end
end K01

set_option maxHeartbeats 4000000
namespace K01
open PySem PySem.Spec PyProof.Rows L2 SpE He
open C8 (Cal pe_c)
def isI : PyData → Bool
  | .int _ => true
  | _ => false
def isS : PyData → Bool
  | .str _ => true
  | _ => false
def isL : PyData → Bool
  | .list _ => true
  | .tuple _ => true
  | _ => false
def isRow : PyData → Int → Bool
  | .list ds, m => decide ((ds.length : Int) = m)
  | .tuple ds, m => decide ((ds.length : Int) = m)
  | _, _ => false
def isQ2 : PyData → PyData → Bool
  | .int p, .int n => decide (1 ≤ n) && decide (Int.gcd p n = 1)
  | _, _ => false
def isQs : List PyData → Bool
  | [a, b] => isQ2 a b
  | _ => false
def isQd : PyData → Bool
  | .list ds => isQs ds
  | .tuple ds => isQs ds
  | _ => false
section
variable {P : Program} {w : World} {K : PySem.W.Frag} {mg : Str → Option Value} {base : Heap} {f : Addr} {fd : FuncData}
theorem dec_i {i j : Int} : decide (V.int i = V.int j) = decide (i = j) := by
  rw [Bool.eq_iff_iff]
  simp
def spP (K : PySem.W.Frag) (p : PyData → Bool) : Sp := fun vs H Q _ => ∃ (v : V) (d : PyData), vs = [v] ∧ Dt K H v d ∧ ∀ H', Same H H' → Q (.bl (p d)) H'
def spRow (K : PySem.W.Frag) : Sp := fun vs H Q _ => ∃ (v : V) (d : PyData) (m : Int), vs = [v, .int m] ∧ Dt K H v d ∧ ∀ H', Same H H' → Q (.bl (isRow d m)) H'
theorem int_i (d : PyData) : ∃ b, kitB (tyN d) "int" = some b ∧ ∃ c, kitB (tyN d) "bool" = some c ∧ isI d = (b && !c) := by
  cases d with
  | none => exact ⟨_, kb_NoneType_int, _, kb_NoneType_bool, rfl⟩
  | bool b => exact ⟨_, kb_bool_int, _, kb_bool_bool, rfl⟩
  | int i => exact ⟨_, kb_int_int, _, kb_int_bool, rfl⟩
  | str x => exact ⟨_, kb_str_int, _, kb_str_bool, rfl⟩
  | list l => exact ⟨_, kb_list_int, _, kb_list_bool, rfl⟩
  | tuple l => exact ⟨_, kb_tuple_int, _, kb_tuple_bool, rfl⟩
  | dict l => exact ⟨_, kb_dict_int, _, kb_dict_bool, rfl⟩
theorem str_s (d : PyData) : kitB (tyN d) "str" = some (isS d) := by
  cases d with
  | none => exact kb_NoneType_str
  | bool b => exact kb_bool_str
  | int i => exact kb_int_str
  | str x => exact kb_str_str
  | list l => exact kb_list_str
  | tuple l => exact kb_tuple_str
  | dict l => exact kb_dict_str
theorem lst_l (d : PyData) : ∃ b, kitB (tyN d) "list" = some b ∧ ∃ c, kitB (tyN d) "tuple" = some c ∧ isL d = (b || c) := by
  cases d with
  | none => exact ⟨_, kb_NoneType_list, _, kb_NoneType_tuple, rfl⟩
  | bool b => exact ⟨_, kb_bool_list, _, kb_bool_tuple, rfl⟩
  | int i => exact ⟨_, kb_int_list, _, kb_int_tuple, rfl⟩
  | str x => exact ⟨_, kb_str_list, _, kb_str_tuple, rfl⟩
  | list l => exact ⟨_, kb_list_list, _, kb_list_tuple, rfl⟩
  | tuple l => exact ⟨_, kb_tuple_list, _, kb_tuple_tuple, rfl⟩
  | dict l => exact ⟨_, kb_dict_list, _, kb_dict_tuple, rfl⟩
theorem sc_is_integer : FnScope ["thing"] ["thing"] (defScope s_is_integer) := ⟨rfl, rfl, rfl, by decide +kernel, rfl, by decide +kernel, by decide +kernel⟩
theorem ok_is_integer (T : Blt mg) (F : DefOf K "is_integer" s_is_integer f fd) (g : mg "is_integer" = some (.ref f)) (b : Binds K fd ["thing"] []) : Cal P w K mg base 1 "is_integer" (spP K isI) [] := by
  refine cal_of F g b sc_is_integer (fun vs H Q E h => ?_) (fun cdv A outer s H vs Q E hr h => ?_)
  · obtain ⟨v, d, rfl, _⟩ := h
    rfl
  · obtain ⟨v, d, rfl, hd, k⟩ := h
    refine ⟨_, pss_one (ps_ret (pe_and (pe_callB call_isZ rfl T.isinstance bt_isinstance (pa_cons (pv 0) (pa_cons (pe_bltn (v := .ty "int") rfl T.int bt_int rfl) pa_nil))) (pe_one (pe_not (pe_callB call_isZ rfl T.isinstance bt_isinstance (pa_cons (pv 0) (pa_cons (pe_bltn (v := .ty "bool") rfl T.bool bt_bool rfl) pa_nil))))))), ?_⟩
    dsimp only [cxOf, Cx.nox, Cx.wish]
    obtain ⟨b1, e1, c1, e2, e3⟩ := int_i d
    have k := k H (Same.refl H)
    rw [e3] at k
    refine ⟨_, rfl, _, _, _, rfl, isz1 hd e1, _, rfl, ?_⟩
    cases b1 with
    | false => exact iteF k
    | true => exact iteT ⟨_, rfl, _, _, _, rfl, isz1 hd e2, _, rfl, k⟩
theorem sc_is_list : FnScope ["thing"] ["thing"] (defScope s_is_list) := ⟨rfl, rfl, rfl, by decide +kernel, rfl, by decide +kernel, by decide +kernel⟩
theorem ok_is_list (T : Blt mg) (F : DefOf K "is_list" s_is_list f fd) (g : mg "is_list" = some (.ref f)) (b : Binds K fd ["thing"] []) : Cal P w K mg base 1 "is_list" (spP K isL) [] := by
  refine cal_of F g b sc_is_list (fun vs H Q E h => ?_) (fun cdv A outer s H vs Q E hr h => ?_)
  · obtain ⟨v, d, rfl, _⟩ := h
    rfl
  · obtain ⟨v, d, rfl, hd, k⟩ := h
    refine ⟨_, pss_one (ps_ret (pe_callB call_isZ rfl T.isinstance bt_isinstance (pa_cons (pv 0) (pa_cons (pe_tup (pa_cons (pe_bltn (v := .ty "list") rfl T.list bt_list rfl) (pa_cons (pe_bltn (v := .ty "tuple") rfl T.tuple bt_tuple rfl) pa_nil))) pa_nil)))), ?_⟩
    dsimp only [cxOf, Cx.nox, Cx.wish]
    obtain ⟨b1, e1, c1, e2, e3⟩ := lst_l d
    refine ⟨_, rfl, by show 2 ≤ sizeLine; decide, fun p hp => ⟨_, _, _, rfl, isz2 (hd.keep (same_upd hp)) upd_same e1 e2, ?_⟩⟩
    rw [← e3]
    exact k _ (same_upd hp)
theorem sc_is_text : FnScope ["thing"] ["thing"] (defScope s_is_text) := ⟨rfl, rfl, rfl, by decide +kernel, rfl, by decide +kernel, by decide +kernel⟩
theorem ok_is_text (T : Blt mg) (F : DefOf K "is_text" s_is_text f fd) (g : mg "is_text" = some (.ref f)) (b : Binds K fd ["thing"] []) : Cal P w K mg base 1 "is_text" (spP K isS) [] := by
  refine cal_of F g b sc_is_text (fun vs H Q E h => ?_) (fun cdv A outer s H vs Q E hr h => ?_)
  · obtain ⟨v, d, rfl, _⟩ := h
    rfl
  · obtain ⟨v, d, rfl, hd, k⟩ := h
    refine ⟨_, pss_one (ps_ret (pe_callB call_isZ rfl T.isinstance bt_isinstance (pa_cons (pv 0) (pa_cons (pe_bltn (v := .ty "str") rfl T.str bt_str rfl) pa_nil)))), ?_⟩
    dsimp only [cxOf, Cx.nox, Cx.wish]
    exact ⟨_, rfl, _, _, _, rfl, isz1 hd (str_s d), k H (Same.refl H)⟩
def SqA (K : PySem.W.Frag) (H : Hp) (a : Addr) (xs : List V) : Prop := SqL K H a xs ∨ SqT K H a xs
theorem SqA.keep {H H' : Hp} {a : Addr} {xs : List V} (s : Same H H') (h : SqA K H a xs) : SqA K H' a xs := h.imp (sqL_r (sameR_of s)) (sqT_r (sameR_of s))
theorem Dt.row {H : Hp} {v : V} {d : PyData} (h : Dt K H v d) (l : isL d = true) : ∃ (a : Addr) (xs : List V) (ds : List PyData), v = .ref a ∧ SqA K H a xs ∧ DtAll K H xs ds ∧ (∀ m, isRow d m = decide ((ds.length : Int) = m)) ∧ isQd d = isQs ds ∧ xs.length ≤ sizeLine := by
  cases h with
  | non => cases l
  | bl b => cases l
  | int i => cases l
  | str x => cases l
  | lst q z h => exact ⟨_, _, _, rfl, .inl q, h, fun _ => rfl, rfl, z⟩
  | tup q z h => exact ⟨_, _, _, rfl, .inr q, h, fun _ => rfl, rfl, z⟩
  | dct q n z e h => cases l
theorem isRow_no {d : PyData} {m : Int} (h : isL d = false) : isRow d m = false ∧ isQd d = false := by
  cases d <;> first | exact ⟨rfl, rfl⟩ | cases h
theorem sc_is_row : FnScope ["thing", "many"] ["thing", "many"] (defScope s_is_row) := ⟨rfl, rfl, rfl, by decide +kernel, rfl, by decide +kernel, by decide +kernel⟩
theorem ok_is_row (T : Blt mg) (C_is_list : Cal P w K mg base 1 "is_list" (spP K isL) []) (F : DefOf K "is_row" s_is_row f fd) (g : mg "is_row" = some (.ref f)) (b : Binds K fd ["thing", "many"] []) : Cal P w K mg base 2 "is_row" (spRow K) [] := by
  refine cal_of F g b sc_is_row (fun vs H Q E h => ?_) (fun cdv A outer s H vs Q E hr h => ?_)
  · obtain ⟨v, d, m, rfl, _⟩ := h
    rfl
  · obtain ⟨v, d, m, rfl, hd, k⟩ := h
    refine ⟨_, pss_one (ps_ret (pe_and (pe_c C_is_list hr (by first | decide | omega) rfl (pa_cons (pv 0) pa_nil)) (pe_one (pe_cmpR op_eq (pe_callB call_len_seq rfl T.len bt_len (pa_cons (pv 0) pa_nil)) (pv 1) (nomark _))))), ?_⟩
    dsimp only [cxOf, Cx.nox, Cx.wish]
    refine ⟨_, rfl, v, d, rfl, hd, fun H1 s1 => ⟨_, rfl, ?_⟩⟩
    cases e : isL d with
    | false =>
      rw [(isRow_no e).1] at k
      exact iteF (k H1 s1)
    | true =>
      obtain ⟨a, xs, ds, rfl, hs, hx, er, _, _⟩ := Dt.row hd e
      rw [er, ← hx.length] at k
      refine iteT ⟨_, rfl, a, _, rfl, hs.keep s1, _, rfl, rfl, ?_⟩
      rw [dec_i]
      exact k H1 s1
theorem isQ2_no {a b : PyData} (h : isI a = false ∨ isI b = false) : isQ2 a b = false := by
  cases a <;> cases b <;> first | rfl | (rcases h with h | h <;> cases h)
theorem sc_is_quotient : FnScope ["thing"] ["thing"] (defScope s_is_quotient) := ⟨rfl, rfl, rfl, by decide +kernel, rfl, by decide +kernel, by decide +kernel⟩
theorem ok_is_quotient (T : Blt mg) (C_is_row : Cal P w K mg base 2 "is_row" (spRow K) []) (C_is_integer : Cal P w K mg base 1 "is_integer" (spP K isI) []) (C_common_divisor : Cal P w K mg base 1 "common_divisor" spGcd [])
    (F : DefOf K "is_quotient" s_is_quotient f fd) (g : mg "is_quotient" = some (.ref f)) (b : Binds K fd ["thing"] []) (b2 : ∀ (s : Shared) (us : List Value), us.length = (1 : Nat) → BindsTo s fd ⟨[], (["thing"] : List Str).zip us⟩ ((["thing"] : List Str).zip us.reverse)) :
    CalX P w K mg base 3 "is_quotient" ["thing"] (spP K isQd) := by
  refine calX_of (ps := ["thing"]) F g b b2 sc_is_quotient (fun vs H Q E h => ?_) (fun cdv A outer s H vs Q E hr h => ?_)
  · obtain ⟨v, d, rfl, _⟩ := h
    rfl
  · obtain ⟨v, d, rfl, hd, k⟩ := h
    refine ⟨_, pss_cons (ps_if (PW.pt (pw_or (pt_not (pt_val (pe_c C_is_row hr (by first | decide | omega) rfl (pa_cons (pv 0) (pa_cons (pe_int) pa_nil))))) (pw_or (pt_not (pt_val (pe_c C_is_integer hr (by first | decide | omega) rfl (pa_cons (pe_ix ix_seq (pv 0) (pe_int) (fun _ _ => rfl)) pa_nil)))) (pw_or1 (pt_not (pt_val (pe_c C_is_integer hr (by first | decide | omega) rfl (pa_cons (pe_ix ix_seq (pv 0) (pe_int) (fun _ _ => rfl)) pa_nil)))))))) (pss_one (ps_ret (pe_bl))) (pss_nil))
  (pss_one (ps_ret (pe_and (pe_cmpR op_ge (pe_ix ix_seq (pv 0) (pe_int) (fun _ _ => rfl)) (pe_int) (nomark _)) (pe_one (pe_cmpR op_eq (pe_c C_common_divisor hr (by first | decide | omega) rfl (pa_cons (pe_ix ix_seq (pv 0) (pe_int) (fun _ _ => rfl)) (pa_cons (pe_ix ix_seq (pv 0) (pe_int) (fun _ _ => rfl)) pa_nil))) (pe_int) (nomark _)))))), ?_⟩
    dsimp only [cxOf, Cx.nox, Cx.wish]
    refine ⟨_, rfl, v, d, 2, rfl, hd, fun H1 s1 => ⟨_, rfl, ?_⟩⟩
    cases e : isL d with
    | false =>
      rw [(isRow_no e).1]
      refine iteT ?_
      refine iteT ?_
      have k := k H1 s1
      rw [(isRow_no (m := 0) e).2] at k
      exact k
    | true =>
      obtain ⟨a, xs, ds, rfl, hs, hx, er, eq, _⟩ := Dt.row hd e
      rw [er]
      rw [eq] at k
      by_cases n2 : ds.length = 2
      · obtain ⟨d0, d1, rfl⟩ : ∃ d0 d1, ds = [d0, d1] := by
          match ds, n2 with
          | [x, y], _ => exact ⟨x, y, rfl⟩
        cases hx with
        | cons h0 hr1 =>
          cases hr1 with
          | cons h1 hr2 =>
            cases hr2
            refine iteF ?_
            rcases hs with hs | hs
            · refine ⟨_, rfl, (.inl ⟨a, _, 0, _, rfl, rfl, sqL_r (sameR_of s1) hs, rfl, _, d0, rfl, h0.keep s1, fun H2 s2 => ⟨_, rfl, ?_⟩⟩)⟩
              cases e0 : isI d0 with
              | false =>
                refine iteT (iteT ?_)
                have k := k H2 (s1.trans s2)
                rw [show isQs [d0, d1] = false from isQ2_no (.inl e0)] at k
                exact k
              | true =>
                refine iteF ⟨_, rfl, (.inl ⟨a, _, 1, _, rfl, rfl, sqL_r (sameR_of (s1.trans s2)) hs, rfl, _, d1, rfl, h1.keep (s1.trans s2), fun H3 s3 => ⟨_, rfl, ?_⟩⟩)⟩
                cases e1 : isI d1 with
                | false =>
                  refine iteT ?_
                  have k := k H3 ((s1.trans s2).trans s3)
                  rw [show isQs [d0, d1] = false from isQ2_no (.inr e1)] at k
                  exact k
                | true =>
                  refine iteF ?_
                  have s4 := (s1.trans s2).trans s3
                  cases h0 <;> first | (cases e0; done) | skip
                  cases h1 <;> first | (cases e1; done) | skip
                  rename_i p n _
                  have k := k H3 s4
                  refine ⟨_, rfl, (.inl ⟨a, _, 1, _, rfl, rfl, sqL_r (sameR_of s4) hs, rfl, _, _, rfl, rfl, _, rfl, ?_⟩)⟩
                  by_cases c : 1 ≤ n
                  · refine ite2 (fun _ => ?_) fun z => absurd (decide_eq_true c) z
                    refine ⟨_, rfl, (.inl ⟨a, _, 0, _, rfl, rfl, sqL_r (sameR_of s4) hs, rfl, _, rfl, (.inl ⟨a, _, 1, _, rfl, rfl, sqL_r (sameR_of s4) hs, rfl, p, n, rfl, rfl, ?_⟩)⟩)⟩
                    rw [show isQs [.int p, .int n] = decide ((Int.gcd p n : Int) = 1) by show (decide (1 ≤ n) && decide (Int.gcd p n = 1)) = _; rw [decide_eq_true c, Bool.true_and, Bool.eq_iff_iff]; simp; omega] at k
                    rw [dec_i]
                    exact k
                  · refine ite2 (fun z => absurd (of_decide_eq_true z) c) fun _ => ?_
                    rw [show isQs [.int p, .int n] = false by show (decide (1 ≤ n) && decide (Int.gcd p n = 1)) = _; rw [decide_eq_false c, Bool.false_and]] at k
                    exact k
            · refine ⟨_, rfl, (.inr (.inl ⟨a, _, 0, _, rfl, rfl, sqT_r (sameR_of s1) hs, rfl, _, d0, rfl, h0.keep s1, fun H2 s2 => ⟨_, rfl, ?_⟩⟩))⟩
              cases e0 : isI d0 with
              | false =>
                refine iteT (iteT ?_)
                have k := k H2 (s1.trans s2)
                rw [show isQs [d0, d1] = false from isQ2_no (.inl e0)] at k
                exact k
              | true =>
                refine iteF ⟨_, rfl, (.inr (.inl ⟨a, _, 1, _, rfl, rfl, sqT_r (sameR_of (s1.trans s2)) hs, rfl, _, d1, rfl, h1.keep (s1.trans s2), fun H3 s3 => ⟨_, rfl, ?_⟩⟩))⟩
                cases e1 : isI d1 with
                | false =>
                  refine iteT ?_
                  have k := k H3 ((s1.trans s2).trans s3)
                  rw [show isQs [d0, d1] = false from isQ2_no (.inr e1)] at k
                  exact k
                | true =>
                  refine iteF ?_
                  have s4 := (s1.trans s2).trans s3
                  cases h0 <;> first | (cases e0; done) | skip
                  cases h1 <;> first | (cases e1; done) | skip
                  rename_i p n _
                  have k := k H3 s4
                  refine ⟨_, rfl, (.inr (.inl ⟨a, _, 1, _, rfl, rfl, sqT_r (sameR_of s4) hs, rfl, _, _, rfl, rfl, _, rfl, ?_⟩))⟩
                  by_cases c : 1 ≤ n
                  · refine ite2 (fun _ => ?_) fun z => absurd (decide_eq_true c) z
                    refine ⟨_, rfl, (.inr (.inl ⟨a, _, 0, _, rfl, rfl, sqT_r (sameR_of s4) hs, rfl, _, rfl, (.inr (.inl ⟨a, _, 1, _, rfl, rfl, sqT_r (sameR_of s4) hs, rfl, p, n, rfl, rfl, ?_⟩))⟩))⟩
                    rw [show isQs [.int p, .int n] = decide ((Int.gcd p n : Int) = 1) by show (decide (1 ≤ n) && decide (Int.gcd p n = 1)) = _; rw [decide_eq_true c, Bool.true_and, Bool.eq_iff_iff]; simp; omega] at k
                    rw [dec_i]
                    exact k
                  · refine ite2 (fun z => absurd (of_decide_eq_true z) c) fun _ => ?_
                    rw [show isQs [.int p, .int n] = false by show (decide (1 ≤ n) && decide (Int.gcd p n = 1)) = _; rw [decide_eq_false c, Bool.false_and]] at k
                    exact k
      · rw [decide_eq_false (fun z => n2 (by omega))]
        refine iteT (iteT ?_)
        have k := k H1 s1
        rw [show isQs ds = false by
          match ds, n2 with
          | [], _ => rfl
          | [_], _ => rfl
          | [_, _], n2 => exact absurd rfl n2
          | _ :: _ :: _ :: _, _ => rfl] at k
        exact k
end
end K01

set_option maxHeartbeats 4000000
namespace K01
open PySem PySem.Spec PyProof.Rows L2 SpE He
open C8 (Cal pe_c)
section
variable {P : Program} {w : World} {K : PySem.W.Frag} {mg : Str → Option Value} {base : Heap} {f : Addr} {fd : FuncData}
def rIxA (K : PySem.W.Frag) : R2 := fun x y H Q => ∃ (p : Addr) (xs : List V) (i : Int) (v : V), x = .ref p ∧ y = .int i ∧ SqA K H p xs ∧ atI xs i = some v ∧ Q v H
theorem ix_sqA {X : Cx} (h : X.K = K) : IxR X (rIxA K) := by
  subst h
  intro value slice pins s σ H x y v u Q I rx ry q hs
  obtain ⟨p, xs, i, c, e1, e2, sq, e, q⟩ := q
  exact ix_seq value slice pins s σ H x y v u Q I rx ry (sq.elim (fun z => .inl ⟨p, xs, i, c, e1, e2, z, e, q⟩) fun z => .inr (.inl ⟨p, xs, i, c, e1, e2, z, e, q⟩)) hs
def QAt (K : PySem.W.Frag) (H : Hp) (v : V) (q : Int × Int) : Prop := ∃ a, v = .ref a ∧ SqA K H a [.int q.1, .int q.2]
theorem QAt.keep {H H' : Hp} {v : V} {q : Int × Int} (s : Same H H') (h : QAt K H v q) : QAt K H' v q := by
  obtain ⟨a, e, x⟩ := h
  exact ⟨a, e, x.keep s⟩
theorem isQs_q {H : Hp} {xs : List V} {ds : List PyData} (h : DtAll K H xs ds) (q : isQs ds = true) : ∃ r : Int × Int, xs = [.int r.1, .int r.2] ∧ ds = [.int r.1, .int r.2] ∧ Okq r := by
  match ds, h, q with
  | [a, b], .cons h0 (.cons h1 .nil), q =>
    have q2 : isQ2 a b = true := q
    match a, b, h0, h1, q2 with
    | .int p, .int n, .int _, .int _, q2 =>
      have z : (decide (1 ≤ n) && decide (Int.gcd p n = 1)) = true := q2
      obtain ⟨z1, z2⟩ := Bool.and_eq_true_iff.mp z
      exact ⟨(p, n), rfl, rfl, of_decide_eq_true z1, of_decide_eq_true z2⟩
theorem isQd_q {H : Hp} {v : V} {d : PyData} (h : Dt K H v d) (q : isQd d = true) : ∃ r, QAt K H v r ∧ Okq r := by
  cases e : isL d with
  | false =>
    rw [(isRow_no (m := 0) e).2] at q
    cases q
  | true =>
    obtain ⟨a, xs, ds, rfl, hs, hx, _, eq, _⟩ := Dt.row h e
    rw [eq] at q
    obtain ⟨r, rfl, _, o⟩ := isQs_q hx q
    exact ⟨r, ⟨a, rfl, hs⟩, o⟩
def ErrE (K : PySem.W.Frag) (C f : Str) (v : V) (H : Hp) (E : XK) : Prop := ∀ d H', Same H H' → H' d = some (.xd [(f, v)]) → E (.ref (ga K C)) (some d) H'
theorem ErrE.keep {C f : Str} {v : V} {H H' : Hp} {E : XK} (h : ErrE K C f v H E) (s : Same H H') : ErrE K C f v H' E := fun d H2 s2 e => h d H2 (s.trans s2) e
def spNeed (K : PySem.W.Frag) : Sp := fun vs H Q E => ∃ (v : V) (d : PyData), vs = [v] ∧ Dt K H v d ∧ (isQd d = false → ErrE K "BadQuotient" "q" v H E) ∧ (isQd d = true → ∀ H', Same H H' → Q .non H')
theorem sc_need_quotient : FnScope ["q"] ["q"] (defScope s_need_quotient) := ⟨rfl, rfl, rfl, by decide +kernel, rfl, by decide +kernel, by decide +kernel⟩
theorem ok_need_quotient (T : Txt P w K mg base) (C_is_quotient : CalX P w K mg base 3 "is_quotient" ["thing"] (spP K isQd)) (F : DefOf K "need_quotient" s_need_quotient f fd) (g : mg "need_quotient" = some (.ref f)) (b : Binds K fd ["q"] [])
    (b2 : ∀ (s : Shared) (us : List Value), us.length = (1 : Nat) → BindsTo s fd ⟨[], (["q"] : List Str).zip us⟩ ((["q"] : List Str).zip us.reverse)) : CalX P w K mg base 4 "need_quotient" ["q"] (spNeed K) := by
  refine calX_of (ps := ["q"]) F g b b2 sc_need_quotient (fun vs H Q E h => ?_) (fun cdv A outer s H vs Q E hr h => ?_)
  · obtain ⟨v, d, rfl, _⟩ := h
    rfl
  · obtain ⟨v, d, rfl, hd, k1, k2⟩ := h
    refine ⟨_, pss_one (ps_if (pt_not (pt_val (pe_x C_is_quotient hr (by first | decide | omega) lets_none rfl (pa_cons (pv 0) pa_nil)))) (pss_one (ps_raise rfl (takes_of rfl rfl rfl rfl) (pmk_plain (pmk_er T.e_BadQuotient hr (by first | decide | omega) rfl (pa_cons (pv 0) pa_nil))))) (pss_nil)), ?_⟩
    refine ⟨_, rfl, v, d, rfl, hd, fun H1 s1 => ⟨_, rfl, ?_⟩⟩
    cases e : isQd d with
    | true => exact iteF (k2 e H1 s1)
    | false =>
      refine iteT ⟨_, rfl, rfl, by show 1 ≤ 1000; decide, fun x hx => ?_⟩
      exact k1 e x _ (s1.trans (same_upd hx)) upd_same
def spNeed2 (K : PySem.W.Frag) : Sp := fun vs H Q E => ∃ (v u : V) (d e : PyData), vs = [v, u] ∧ Dt K H v d ∧ Dt K H u e ∧ (isQd d = false → ErrE K "BadQuotient" "q" v H E) ∧ (isQd d = true → isQd e = false → ErrE K "BadOther" "other" u H E) ∧ (isQd d = true → isQd e = true → ∀ H', Same H H' → Q .non H')
theorem sc_need_two : FnScope ["q", "other"] ["q", "other"] (defScope s_need_two) := ⟨rfl, rfl, rfl, by decide +kernel, rfl, by decide +kernel, by decide +kernel⟩
theorem ok_need_two (T : Txt P w K mg base) (C_is_quotient : CalX P w K mg base 3 "is_quotient" ["thing"] (spP K isQd)) (C_need_quotient : CalX P w K mg base 4 "need_quotient" ["q"] (spNeed K)) (F : DefOf K "need_two" s_need_two f fd) (g : mg "need_two" = some (.ref f)) (b : Binds K fd ["q", "other"] [])
    (b2 : ∀ (s : Shared) (us : List Value), us.length = (2 : Nat) → BindsTo s fd ⟨[], (["other", "q"] : List Str).zip us⟩ ((["q", "other"] : List Str).zip us.reverse)) : CalX P w K mg base 5 "need_two" ["other", "q"] (spNeed2 K) := by
  refine calX_of (ps := ["q", "other"]) F g b b2 sc_need_two (fun vs H Q E h => ?_) (fun cdv A outer s H vs Q E hr h => ?_)
  · obtain ⟨v, u, d, e, rfl, _⟩ := h
    rfl
  · obtain ⟨v, u, d, e, rfl, hd, he, k1, k2, k3⟩ := h
    refine ⟨_, pss_cons (ps_expr (pe_x C_need_quotient hr (by first | decide | omega) (lets_try (takes_of rfl rfl rfl rfl)) rfl (pa_cons (pv 0) pa_nil)))
  (pss_one (ps_if (pt_not (pt_val (pe_x C_is_quotient hr (by first | decide | omega) lets_none rfl (pa_cons (pv 1) pa_nil)))) (pss_one (ps_raise rfl (takes_of rfl rfl rfl rfl) (pmk_plain (pmk_er T.e_BadOther hr (by first | decide | omega) rfl (pa_cons (pv 1) pa_nil))))) (pss_nil))), ?_⟩
    refine ⟨_, rfl, v, d, rfl, hd, k1, fun hq H1 s1 => ?_⟩
    refine ⟨_, rfl, u, e, rfl, he.keep s1, fun H2 s2 => ⟨_, rfl, ?_⟩⟩
    cases e2 : isQd e with
    | true => exact iteF (k3 hq e2 H2 (s1.trans s2))
    | false =>
      refine iteT ⟨_, rfl, rfl, by show 1 ≤ 1000; decide, fun x hx => ?_⟩
      exact k2 hq e2 x _ ((s1.trans s2).trans (same_upd hx)) upd_same
def Sm (q : Int × Int) : Prop := -1073741824 < q.1 ∧ q.1 < 1073741824 ∧ 1 ≤ q.2 ∧ q.2 < 1073741824
def addv (q r : Int × Int) : Int × Int := qn (q.1 * r.2 + r.1 * q.2) (q.2 * r.2)
def mulv (q r : Int × Int) : Int × Int := qn (q.1 * r.1) (q.2 * r.2)
def divv (q r : Int × Int) : Int × Int := qn (q.1 * r.2) (q.2 * r.1)
def negv (q : Int × Int) : Int × Int := (-q.1, q.2)
def sgnv (i : Int) : Int := if i = 0 then 0 else if 0 < i then 1 else -1
theorem mul_lt {a b : Int} (ha : a.natAbs < 1073741824) (hb : b.natAbs < 1073741824) : (a * b).natAbs < 4611686018427387904 := by
  rw [Int.natAbs_mul]
  have h1 : a.natAbs * b.natAbs ≤ 1073741823 * 1073741823 := Nat.mul_le_mul (by omega) (by omega)
  omega
def spTwo (K : PySem.W.Frag) (r : Int × Int → Int × Int → Int × Int) (c : Int × Int → Int × Int → Prop) : Sp := fun vs H Q _ => ∃ (v u : V) (q o : Int × Int), vs = [v, u] ∧ QAt K H v q ∧ QAt K H u o ∧ Sm q ∧ Sm o ∧ c q o ∧
  ∀ t H', Same H H' → H' t = some (.tup [.int (r q o).1, .int (r q o).2]) → Q (.ref t) H'
theorem sc_negated : FnScope ["q"] ["q"] (defScope s_negated) := ⟨rfl, rfl, rfl, by decide +kernel, rfl, by decide +kernel, by decide +kernel⟩
theorem ok_negated (F : DefOf K "negated" s_negated f fd) (g : mg "negated" = some (.ref f)) (b : Binds K fd ["q"] []) :
    Cal P w K mg base 1 "negated" (fun vs H Q _ => ∃ (v : V) (q : Int × Int), vs = [v] ∧ QAt K H v q ∧ ∀ t H', Same H H' → H' t = some (.tup [.int (negv q).1, .int (negv q).2]) → Q (.ref t) H') [] := by
  refine cal_of F g b sc_negated (fun vs H Q E h => ?_) (fun cdv A outer s H vs Q E hr h => ?_)
  · obtain ⟨v, q, rfl, _⟩ := h
    rfl
  · obtain ⟨v, q, rfl, ⟨a, rfl, hs⟩, k⟩ := h
    refine ⟨_, pss_one (ps_ret (pe_tup (pa_cons (pe_un un_neg (pe_ix (ix_sqA (K := K) rfl) (pv 0) (pe_int) (fun _ _ => rfl))) (pa_cons (pe_ix (ix_sqA (K := K) rfl) (pv 0) (pe_int) (fun _ _ => rfl)) pa_nil)))), ?_⟩
    exact ⟨_, rfl, a, _, 0, _, rfl, rfl, hs, rfl, _, rfl, _, rfl, a, _, 1, _, rfl, rfl, hs, rfl, by show 2 ≤ sizeLine; decide, fun t ht => k t _ (same_upd ht) upd_same⟩
theorem sc_sign_of : FnScope ["q"] ["q"] (defScope s_sign_of) := ⟨rfl, rfl, rfl, by decide +kernel, rfl, by decide +kernel, by decide +kernel⟩
theorem ok_sign_of (F : DefOf K "sign_of" s_sign_of f fd) (g : mg "sign_of" = some (.ref f)) (b : Binds K fd ["q"] []) :
    Cal P w K mg base 1 "sign_of" (fun vs H Q _ => ∃ (v : V) (q : Int × Int), vs = [v] ∧ QAt K H v q ∧ Q (.int (sgnv q.1)) H) [] := by
  refine cal_of F g b sc_sign_of (fun vs H Q E h => ?_) (fun cdv A outer s H vs Q E hr h => ?_)
  · obtain ⟨v, q, rfl, _⟩ := h
    rfl
  · obtain ⟨v, q, rfl, ⟨a, rfl, hs⟩, k⟩ := h
    refine ⟨_, pss_one (ps_ret (pe_ifExp (pt_cmpR op_eq (pe_ix (ix_sqA (K := K) rfl) (pv 0) (pe_int) (fun _ _ => rfl)) (pe_int) (nomark _)) (pe_int) (pe_ifExp (pt_cmpR op_gt (pe_ix (ix_sqA (K := K) rfl) (pv 0) (pe_int) (fun _ _ => rfl)) (pe_int) (nomark _)) (pe_int) (pe_un un_neg (pe_int))))), ?_⟩
    refine ⟨_, rfl, a, _, 0, _, rfl, rfl, hs, rfl, rfl, _, rfl, ?_⟩
    unfold sgnv at k
    by_cases c : q.1 = 0
    · rw [if_pos c] at k
      exact ite2 (fun _ => k) fun z => absurd (decide_eq_true (congrArg V.int c)) z
    · rw [if_neg c] at k
      refine ite2 (fun z => absurd (V.int.inj (of_decide_eq_true z)) c) fun _ => ?_
      refine ⟨_, rfl, a, _, 0, _, rfl, rfl, hs, rfl, _, _, rfl, rfl, _, rfl, ?_⟩
      by_cases c2 : 0 < q.1
      · rw [if_pos c2] at k
        exact ite2 (fun _ => k) fun z => absurd (decide_eq_true c2) z
      · rw [if_neg c2] at k
        exact ite2 (fun z => absurd (of_decide_eq_true z) c2) fun _ => ⟨_, rfl, k⟩
theorem sc_added : FnScope ["q", "other"] ["q", "other"] (defScope s_added) := ⟨rfl, rfl, rfl, by decide +kernel, rfl, by decide +kernel, by decide +kernel⟩
theorem ok_added (C_made : Cal P w K mg base 2 "made" spMk []) (F : DefOf K "added" s_added f fd) (g : mg "added" = some (.ref f)) (b : Binds K fd ["q", "other"] []) : Cal P w K mg base 3 "added" (spTwo K addv fun _ _ => True) [] := by
  refine cal_of F g b sc_added (fun vs H Q E h => ?_) (fun cdv A outer s H vs Q E hr h => ?_)
  · obtain ⟨v, u, q, o, rfl, _⟩ := h
    rfl
  · obtain ⟨v, u, q, o, rfl, ⟨a, rfl, hs⟩, ⟨a2, rfl, ho⟩, ⟨q1, q2, q3, q4⟩, ⟨o1, o2, o3, o4⟩, _, k⟩ := h
    refine ⟨_, pss_one (ps_ret (pe_c C_made hr (by first | decide | omega) rfl (pa_cons (pe_op op_add (pe_op op_mul (pe_ix (ix_sqA (K := K) rfl) (pv 0) (pe_int) (fun _ _ => rfl)) (pe_ix (ix_sqA (K := K) rfl) (pv 1) (pe_int) (fun _ _ => rfl))) (pe_op op_mul (pe_ix (ix_sqA (K := K) rfl) (pv 1) (pe_int) (fun _ _ => rfl)) (pe_ix (ix_sqA (K := K) rfl) (pv 0) (pe_int) (fun _ _ => rfl)))) (pa_cons (pe_op op_mul (pe_ix (ix_sqA (K := K) rfl) (pv 0) (pe_int) (fun _ _ => rfl)) (pe_ix (ix_sqA (K := K) rfl) (pv 1) (pe_int) (fun _ _ => rfl))) pa_nil)))), ?_⟩
    refine ⟨_, rfl, a, _, 0, _, rfl, rfl, hs, rfl, _, rfl, a2, _, 1, _, rfl, rfl, ho, rfl, _, _, rfl, rfl, .inl (by constructor <;> omega), ?_⟩
    refine ⟨_, rfl, a2, _, 0, _, rfl, rfl, ho, rfl, _, rfl, a, _, 1, _, rfl, rfl, hs, rfl, _, _, rfl, rfl, .inl (by constructor <;> omega), _, _, rfl, rfl, ?_⟩
    refine ⟨_, rfl, a, _, 1, _, rfl, rfl, hs, rfl, _, rfl, a2, _, 1, _, rfl, rfl, ho, rfl, _, _, rfl, rfl, .inl (by constructor <;> omega), ?_⟩
    refine ⟨_, _, rfl, ?_, mul_lt (by omega) (by omega), fun t ht => k t _ (same_upd ht) upd_same⟩
    have := Int.mul_pos (show 0 < q.2 by omega) (show 0 < o.2 by omega)
    omega
theorem sc_multiplied : FnScope ["q", "other"] ["q", "other"] (defScope s_multiplied) := ⟨rfl, rfl, rfl, by decide +kernel, rfl, by decide +kernel, by decide +kernel⟩
theorem ok_multiplied (C_made : Cal P w K mg base 2 "made" spMk []) (F : DefOf K "multiplied" s_multiplied f fd) (g : mg "multiplied" = some (.ref f)) (b : Binds K fd ["q", "other"] []) : Cal P w K mg base 3 "multiplied" (spTwo K mulv fun _ _ => True) [] := by
  refine cal_of F g b sc_multiplied (fun vs H Q E h => ?_) (fun cdv A outer s H vs Q E hr h => ?_)
  · obtain ⟨v, u, q, o, rfl, _⟩ := h
    rfl
  · obtain ⟨v, u, q, o, rfl, ⟨a, rfl, hs⟩, ⟨a2, rfl, ho⟩, ⟨q1, q2, q3, q4⟩, ⟨o1, o2, o3, o4⟩, _, k⟩ := h
    refine ⟨_, pss_one (ps_ret (pe_c C_made hr (by first | decide | omega) rfl (pa_cons (pe_op op_mul (pe_ix (ix_sqA (K := K) rfl) (pv 0) (pe_int) (fun _ _ => rfl)) (pe_ix (ix_sqA (K := K) rfl) (pv 1) (pe_int) (fun _ _ => rfl))) (pa_cons (pe_op op_mul (pe_ix (ix_sqA (K := K) rfl) (pv 0) (pe_int) (fun _ _ => rfl)) (pe_ix (ix_sqA (K := K) rfl) (pv 1) (pe_int) (fun _ _ => rfl))) pa_nil)))), ?_⟩
    refine ⟨_, rfl, a, _, 0, _, rfl, rfl, hs, rfl, _, rfl, a2, _, 0, _, rfl, rfl, ho, rfl, _, _, rfl, rfl, .inl (by constructor <;> omega), ?_⟩
    refine ⟨_, rfl, a, _, 1, _, rfl, rfl, hs, rfl, _, rfl, a2, _, 1, _, rfl, rfl, ho, rfl, _, _, rfl, rfl, .inl (by constructor <;> omega), ?_⟩
    refine ⟨_, _, rfl, ?_, mul_lt (by omega) (by omega), fun t ht => k t _ (same_upd ht) upd_same⟩
    have := Int.mul_pos (show 0 < q.2 by omega) (show 0 < o.2 by omega)
    omega
end
end K01

set_option maxHeartbeats 4000000
namespace K01
open PySem PySem.Spec PyProof.Rows L2 SpE He
open C8 (Cal pe_c)
section
variable {P : Program} {w : World} {K : PySem.W.Frag} {mg : Str → Option Value} {base : Heap} {f : Addr} {fd : FuncData}
def tupD (q : Int × Int) : PyData := .tuple [.int q.1, .int q.2]
theorem dt_tup {H : Hp} {t : Addr} {q : Int × Int} (h : H t = some (.tup [.int q.1, .int q.2])) : Dt K H (.ref t) (tupD q) := .tup (SqT.of h) (by show 2 ≤ sizeLine; decide) (.cons (.int _) (.cons (.int _) .nil))
theorem qat_tup {H : Hp} {t : Addr} {q : Int × Int} (h : H t = some (.tup [.int q.1, .int q.2])) : QAt K H (.ref t) q := ⟨t, rfl, .inr (SqT.of h)⟩
def spPub (K : PySem.W.Frag) (ok : V → Hp → VK → XK → Int × Int → Int × Int → Prop) : Sp := fun vs H Q E => ∃ (v u : V) (d e : PyData), vs = [v, u] ∧ Dt K H v d ∧ Dt K H u e ∧ (isQd d = false → ErrE K "BadQuotient" "q" v H E) ∧ (isQd d = true → isQd e = false → ErrE K "BadOther" "other" u H E) ∧
  (isQd d = true → isQd e = true → ∃ q o, QAt K H v q ∧ QAt K H u o ∧ Sm q ∧ Sm o ∧ ok u H Q E q o)
def okR (K : PySem.W.Frag) (r : Int × Int → Int × Int → PyData) : V → Hp → VK → XK → Int × Int → Int × Int → Prop := fun _ H Q _ q o => ∀ w H', Same H H' → Dt K H' w (r q o) → Q w H'
theorem Sm.neg {q : Int × Int} (h : Sm q) : Sm (negv q) := by
  obtain ⟨a, b, c, d⟩ := h
  exact ⟨by show -1073741824 < -q.1; omega, by show -q.1 < 1073741824; omega, c, d⟩
theorem sc_plus : FnScope ["q", "other"] ["q", "other"] (defScope s_plus) := ⟨rfl, rfl, rfl, by decide +kernel, rfl, by decide +kernel, by decide +kernel⟩
theorem ok_plus (T : Txt P w K mg base) (C_need_two : CalX P w K mg base 5 "need_two" ["other", "q"] (spNeed2 K)) (C_added : Cal P w K mg base 3 "added" (spTwo K addv fun _ _ => True) [])
    (F : DefOf K "plus" s_plus f fd) (g : mg "plus" = some (.ref f)) (b : Binds K fd ["q", "other"] []) (b2 : ∀ (s : Shared) (us : List Value), us.length = (2 : Nat) → BindsTo s fd ⟨[], (["other", "q"] : List Str).zip us⟩ ((["q", "other"] : List Str).zip us.reverse)) : CalX P w K mg base 6 "plus" ["other", "q"] (spPub K (okR K fun q o => tupD (addv q o))) := by
  refine calX_of (ps := ["q", "other"]) F g b b2 sc_plus (fun vs H Q E h => ?_) (fun cdv A outer s H vs Q E hr h => ?_)
  · obtain ⟨v, u, d, e, rfl, _⟩ := h
    rfl
  · obtain ⟨v, u, d, e, rfl, hd, he, k1, k2, k3⟩ := h
    refine ⟨_, pss_cons (ps_expr (pe_x C_need_two hr (by first | decide | omega) (lets_try (takes_of rfl rfl rfl rfl)) rfl (pa_cons (pv 0) (pa_cons (pv 1) pa_nil))))
  (pss_one (ps_ret (pe_c C_added hr (by first | decide | omega) rfl (pa_cons (pv 0) (pa_cons (pv 1) pa_nil))))), ?_⟩
    refine ⟨_, rfl, _, rfl, v, u, d, e, rfl, hd, he, k1, k2, fun hq he2 H1 s1 => ?_⟩
    obtain ⟨q, o, hq, ho, mq, mo, k⟩ := k3 hq he2
    exact ⟨_, rfl, _, rfl, v, u, q, o, rfl, hq.keep s1, ho.keep s1, mq, mo, True.intro, fun t H' s' ht => k _ H' (s1.trans s') (dt_tup ht)⟩
theorem sc_less : FnScope ["q", "other"] ["q", "other"] (defScope s_less) := ⟨rfl, rfl, rfl, by decide +kernel, rfl, by decide +kernel, by decide +kernel⟩
theorem ok_less (T : Txt P w K mg base) (C_need_two : CalX P w K mg base 5 "need_two" ["other", "q"] (spNeed2 K)) (C_added : Cal P w K mg base 3 "added" (spTwo K addv fun _ _ => True) []) (C_negated : Cal P w K mg base 1 "negated" (fun vs H Q _ => ∃ (v : V) (q : Int × Int), vs = [v] ∧ QAt K H v q ∧ ∀ t H', Same H H' → H' t = some (.tup [.int (negv q).1, .int (negv q).2]) → Q (.ref t) H') [])
    (F : DefOf K "less" s_less f fd) (g : mg "less" = some (.ref f)) (b : Binds K fd ["q", "other"] []) (b2 : ∀ (s : Shared) (us : List Value), us.length = (2 : Nat) → BindsTo s fd ⟨[], (["other", "q"] : List Str).zip us⟩ ((["q", "other"] : List Str).zip us.reverse)) : CalX P w K mg base 6 "less" ["other", "q"] (spPub K (okR K fun q o => tupD (addv q (negv o)))) := by
  refine calX_of (ps := ["q", "other"]) F g b b2 sc_less (fun vs H Q E h => ?_) (fun cdv A outer s H vs Q E hr h => ?_)
  · obtain ⟨v, u, d, e, rfl, _⟩ := h
    rfl
  · obtain ⟨v, u, d, e, rfl, hd, he, k1, k2, k3⟩ := h
    refine ⟨_, pss_cons (ps_expr (pe_x C_need_two hr (by first | decide | omega) (lets_try (takes_of rfl rfl rfl rfl)) rfl (pa_cons (pv 0) (pa_cons (pv 1) pa_nil))))
  (pss_one (ps_ret (pe_c C_added hr (by first | decide | omega) rfl (pa_cons (pv 0) (pa_cons (pe_c C_negated hr (by first | decide | omega) rfl (pa_cons (pv 1) pa_nil)) pa_nil))))), ?_⟩
    refine ⟨_, rfl, _, rfl, v, u, d, e, rfl, hd, he, k1, k2, fun hq he2 H1 s1 => ?_⟩
    obtain ⟨q, o, hq, ho, mq, mo, k⟩ := k3 hq he2
    exact ⟨_, rfl, _, rfl, u, o, rfl, ho.keep s1, fun t2 H2 s2 h2 => ⟨v, _, q, negv o, rfl, (hq.keep s1).keep s2, qat_tup h2, mq, mo.neg, True.intro, fun t H' s' ht => k _ H' ((s1.trans s2).trans s') (dt_tup ht)⟩⟩
theorem sc_times : FnScope ["q", "other"] ["q", "other"] (defScope s_times) := ⟨rfl, rfl, rfl, by decide +kernel, rfl, by decide +kernel, by decide +kernel⟩
theorem ok_times (T : Txt P w K mg base) (C_need_two : CalX P w K mg base 5 "need_two" ["other", "q"] (spNeed2 K)) (C_multiplied : Cal P w K mg base 3 "multiplied" (spTwo K mulv fun _ _ => True) [])
    (F : DefOf K "times" s_times f fd) (g : mg "times" = some (.ref f)) (b : Binds K fd ["q", "other"] []) (b2 : ∀ (s : Shared) (us : List Value), us.length = (2 : Nat) → BindsTo s fd ⟨[], (["other", "q"] : List Str).zip us⟩ ((["q", "other"] : List Str).zip us.reverse)) : CalX P w K mg base 6 "times" ["other", "q"] (spPub K (okR K fun q o => tupD (mulv q o))) := by
  refine calX_of (ps := ["q", "other"]) F g b b2 sc_times (fun vs H Q E h => ?_) (fun cdv A outer s H vs Q E hr h => ?_)
  · obtain ⟨v, u, d, e, rfl, _⟩ := h
    rfl
  · obtain ⟨v, u, d, e, rfl, hd, he, k1, k2, k3⟩ := h
    refine ⟨_, pss_cons (ps_expr (pe_x C_need_two hr (by first | decide | omega) (lets_try (takes_of rfl rfl rfl rfl)) rfl (pa_cons (pv 0) (pa_cons (pv 1) pa_nil))))
  (pss_one (ps_ret (pe_c C_multiplied hr (by first | decide | omega) rfl (pa_cons (pv 0) (pa_cons (pv 1) pa_nil))))), ?_⟩
    refine ⟨_, rfl, _, rfl, v, u, d, e, rfl, hd, he, k1, k2, fun hq he2 H1 s1 => ?_⟩
    obtain ⟨q, o, hq, ho, mq, mo, k⟩ := k3 hq he2
    exact ⟨_, rfl, _, rfl, v, u, q, o, rfl, hq.keep s1, ho.keep s1, mq, mo, True.intro, fun t H' s' ht => k _ H' (s1.trans s') (dt_tup ht)⟩
theorem sc_compared : FnScope ["q", "other"] ["q", "other"] (defScope s_compared) := ⟨rfl, rfl, rfl, by decide +kernel, rfl, by decide +kernel, by decide +kernel⟩
theorem ok_compared (T : Txt P w K mg base) (C_need_two : CalX P w K mg base 5 "need_two" ["other", "q"] (spNeed2 K)) (C_added : Cal P w K mg base 3 "added" (spTwo K addv fun _ _ => True) []) (C_negated : Cal P w K mg base 1 "negated" (fun vs H Q _ => ∃ (v : V) (q : Int × Int), vs = [v] ∧ QAt K H v q ∧ ∀ t H', Same H H' → H' t = some (.tup [.int (negv q).1, .int (negv q).2]) → Q (.ref t) H') []) (C_sign_of : Cal P w K mg base 1 "sign_of" (fun vs H Q _ => ∃ (v : V) (q : Int × Int), vs = [v] ∧ QAt K H v q ∧ Q (.int (sgnv q.1)) H) [])
    (F : DefOf K "compared" s_compared f fd) (g : mg "compared" = some (.ref f)) (b : Binds K fd ["q", "other"] []) (b2 : ∀ (s : Shared) (us : List Value), us.length = (2 : Nat) → BindsTo s fd ⟨[], (["other", "q"] : List Str).zip us⟩ ((["q", "other"] : List Str).zip us.reverse)) : CalX P w K mg base 6 "compared" ["other", "q"] (spPub K (okR K fun q o => .int (sgnv (addv q (negv o)).1))) := by
  refine calX_of (ps := ["q", "other"]) F g b b2 sc_compared (fun vs H Q E h => ?_) (fun cdv A outer s H vs Q E hr h => ?_)
  · obtain ⟨v, u, d, e, rfl, _⟩ := h
    rfl
  · obtain ⟨v, u, d, e, rfl, hd, he, k1, k2, k3⟩ := h
    refine ⟨_, pss_cons (ps_expr (pe_x C_need_two hr (by first | decide | omega) (lets_try (takes_of rfl rfl rfl rfl)) rfl (pa_cons (pv 0) (pa_cons (pv 1) pa_nil))))
  (pss_one (ps_ret (pe_c C_sign_of hr (by first | decide | omega) rfl (pa_cons (pe_c C_added hr (by first | decide | omega) rfl (pa_cons (pv 0) (pa_cons (pe_c C_negated hr (by first | decide | omega) rfl (pa_cons (pv 1) pa_nil)) pa_nil))) pa_nil)))), ?_⟩
    refine ⟨_, rfl, _, rfl, v, u, d, e, rfl, hd, he, k1, k2, fun hq he2 H1 s1 => ?_⟩
    obtain ⟨q, o, hq, ho, mq, mo, k⟩ := k3 hq he2
    exact ⟨_, rfl, _, rfl, u, o, rfl, ho.keep s1, fun t2 H2 s2 h2 => ⟨v, _, q, negv o, rfl, (hq.keep s1).keep s2, qat_tup h2, mq, mo.neg, True.intro, fun t H' s' ht => ⟨_, addv q (negv o), rfl, qat_tup ht, k _ H' ((s1.trans s2).trans s') (.int _)⟩⟩⟩
def okO (K : PySem.W.Frag) : V → Hp → VK → XK → Int × Int → Int × Int → Prop := fun u H Q E q o => (o.1 = 0 → ErrE K "BadOther" "other" u H E) ∧ (o.1 ≠ 0 → ∀ w H', Same H H' → Dt K H' w (tupD (divv q o)) → Q w H')
theorem sc_over : FnScope ["q", "other"] ["q", "other"] (defScope s_over) := ⟨rfl, rfl, rfl, by decide +kernel, rfl, by decide +kernel, by decide +kernel⟩
theorem ok_over (T : Txt P w K mg base) (C_need_two : CalX P w K mg base 5 "need_two" ["other", "q"] (spNeed2 K)) (C_made : Cal P w K mg base 2 "made" spMk [])
    (F : DefOf K "over" s_over f fd) (g : mg "over" = some (.ref f)) (b : Binds K fd ["q", "other"] []) (b2 : ∀ (s : Shared) (us : List Value), us.length = (2 : Nat) → BindsTo s fd ⟨[], (["other", "q"] : List Str).zip us⟩ ((["q", "other"] : List Str).zip us.reverse)) : CalX P w K mg base 6 "over" ["other", "q"] (spPub K (okO K)) := by
  refine calX_of (ps := ["q", "other"]) F g b b2 sc_over (fun vs H Q E h => ?_) (fun cdv A outer s H vs Q E hr h => ?_)
  · obtain ⟨v, u, d, e, rfl, _⟩ := h
    rfl
  · obtain ⟨v, u, d, e, rfl, hd, he, k1, k2, k3⟩ := h
    refine ⟨_, pss_cons (ps_expr (pe_x C_need_two hr (by first | decide | omega) (lets_try (takes_of rfl rfl rfl rfl)) rfl (pa_cons (pv 0) (pa_cons (pv 1) pa_nil))))
  (pss_cons (ps_if (pt_cmpR op_eq (pe_ix (ix_sqA (K := K) rfl) (pv 1) (pe_int) (fun _ _ => rfl)) (pe_int) (nomark _)) (pss_one (ps_raise rfl (takes_of rfl rfl rfl rfl) (pmk_plain (pmk_er T.e_BadOther hr (by first | decide | omega) rfl (pa_cons (pv 1) pa_nil))))) (pss_nil))
  (pss_one (ps_ret (pe_c C_made hr (by first | decide | omega) rfl (pa_cons (pe_op op_mul (pe_ix (ix_sqA (K := K) rfl) (pv 0) (pe_int) (fun _ _ => rfl)) (pe_ix (ix_sqA (K := K) rfl) (pv 1) (pe_int) (fun _ _ => rfl))) (pa_cons (pe_op op_mul (pe_ix (ix_sqA (K := K) rfl) (pv 0) (pe_int) (fun _ _ => rfl)) (pe_ix (ix_sqA (K := K) rfl) (pv 1) (pe_int) (fun _ _ => rfl))) pa_nil)))))), ?_⟩
    refine ⟨_, rfl, _, rfl, v, u, d, e, rfl, hd, he, k1, k2, fun hq he2 H1 s1 => ?_⟩
    obtain ⟨q, o, hq, ho, mq, mo, k⟩ := k3 hq he2
    obtain ⟨a, rfl, hs⟩ := hq.keep s1
    obtain ⟨a2, rfl, hso⟩ := ho.keep s1
    obtain ⟨q1, q2, q3, q4⟩ := mq
    obtain ⟨o1, o2, o3, o4⟩ := mo
    refine ⟨_, rfl, a2, _, 0, _, rfl, rfl, hso, rfl, rfl, _, rfl, ?_⟩
    by_cases c : o.1 = 0
    · refine ite2 (fun _ => ?_) fun z => absurd (decide_eq_true (congrArg V.int c)) z
      exact ⟨_, rfl, rfl, by show 1 ≤ 1000; decide, fun x hx => k.1 c x _ (s1.trans (same_upd hx)) upd_same⟩
    · refine ite2 (fun z => absurd (V.int.inj (of_decide_eq_true z)) c) fun _ => ?_
      refine ⟨_, rfl, a, _, 0, _, rfl, rfl, hs, rfl, _, rfl, a2, _, 1, _, rfl, rfl, hso, rfl, _, _, rfl, rfl, .inl (by constructor <;> omega), ?_⟩
      refine ⟨_, rfl, a, _, 1, _, rfl, rfl, hs, rfl, _, rfl, a2, _, 0, _, rfl, rfl, hso, rfl, _, _, rfl, rfl, .inl (by constructor <;> omega), ?_⟩
      exact ⟨_, _, rfl, fun z => (Int.mul_eq_zero.mp z).elim (fun y => by omega) c, mul_lt (by omega) (by omega), fun t ht => k.2 c _ _ (s1.trans (same_upd ht)) (dt_tup upd_same)⟩
def spOne (K : PySem.W.Frag) (r : Int × Int → PyData) (c : Int × Int → Prop) : Sp := fun vs H Q E => ∃ (v : V) (d : PyData), vs = [v] ∧ Dt K H v d ∧ (isQd d = false → ErrE K "BadQuotient" "q" v H E) ∧ (isQd d = true → ∃ q, QAt K H v q ∧ c q ∧ ∀ w H', Same H H' → Dt K H' w (r q) → Q w H')
theorem sc_opposite : FnScope ["q"] ["q"] (defScope s_opposite) := ⟨rfl, rfl, rfl, by decide +kernel, rfl, by decide +kernel, by decide +kernel⟩
theorem ok_opposite (T : Txt P w K mg base) (C_need_quotient : CalX P w K mg base 4 "need_quotient" ["q"] (spNeed K)) (C_negated : Cal P w K mg base 1 "negated" (fun vs H Q _ => ∃ (v : V) (q : Int × Int), vs = [v] ∧ QAt K H v q ∧ ∀ t H', Same H H' → H' t = some (.tup [.int (negv q).1, .int (negv q).2]) → Q (.ref t) H') [])
    (F : DefOf K "opposite" s_opposite f fd) (g : mg "opposite" = some (.ref f)) (b : Binds K fd ["q"] []) (b2 : ∀ (s : Shared) (us : List Value), us.length = (1 : Nat) → BindsTo s fd ⟨[], (["q"] : List Str).zip us⟩ ((["q"] : List Str).zip us.reverse)) : CalX P w K mg base 5 "opposite" ["q"] (spOne K (fun q => tupD (negv q)) fun _ => True) := by
  refine calX_of (ps := ["q"]) F g b b2 sc_opposite (fun vs H Q E h => ?_) (fun cdv A outer s H vs Q E hr h => ?_)
  · obtain ⟨v, d, rfl, _⟩ := h
    rfl
  · obtain ⟨v, d, rfl, hd, k1, k2⟩ := h
    refine ⟨_, pss_cons (ps_expr (pe_x C_need_quotient hr (by first | decide | omega) (lets_try (takes_of rfl rfl rfl rfl)) rfl (pa_cons (pv 0) pa_nil)))
  (pss_one (ps_ret (pe_c C_negated hr (by first | decide | omega) rfl (pa_cons (pv 0) pa_nil)))), ?_⟩
    refine ⟨_, rfl, v, d, rfl, hd, k1, fun hq H1 s1 => ?_⟩
    obtain ⟨q, hq, _, k⟩ := k2 hq
    exact ⟨_, rfl, v, q, rfl, hq.keep s1, fun t H' s' ht => k _ H' (s1.trans s') (dt_tup ht)⟩
end
end K01

set_option maxHeartbeats 4000000
namespace K01
open PySem PySem.Spec PyProof.Rows L2 SpE He
open C8 (Cal pe_c)
section
variable {P : Program} {w : World} {K : PySem.W.Frag} {mg : Str → Option Value} {base : Heap} {f : Addr} {fd : FuncData}
theorem sc_law_start : FnScope ["script"] ["script"] (defScope s_law_start) := ⟨rfl, rfl, rfl, by decide +kernel, rfl, by decide +kernel, by decide +kernel⟩
theorem ok_start (T : Blt mg) (F : DefOf K "_law_start" s_law_start f fd) (g : mg "_law_start" = some (.ref f)) (b : Binds K fd ["script"] []) : Cal P w K mg base 1 "_law_start" (spStart K) [] := by
  refine cal_of F g b sc_law_start (fun vs H Q E h => ?_) (fun cdv A outer s H vs Q E hr h => ?_)
  · obtain ⟨l, ns, rfl, _⟩ := h
    rfl
  · obtain ⟨l, ns, rfl, hS, k⟩ := h
    refine ⟨_, pss_one (ps_ret (pe_lst (pa_cons (pe_callTy call_list_of rfl T.list bt_list (pa_cons (pv 0) pa_nil)) (pa_cons (pe_int) (pa_cons (pe_int) (pa_cons (pe_int) pa_nil)))))), ?_⟩
    refine ⟨_, rfl, l, _, rfl, .inl hS, fun b hb => ⟨by show 4 ≤ sizeLine; decide, fun a ha => ?_⟩⟩
    have hab : a ≠ b := fun e => by
      rw [e, upd_same] at ha
      cases ha
    have ha0 : H a = none := by
      rw [upd_ne hab] at ha
      exact ha
    refine k a b _ ha0 hb ⟨0, 0, 29, ns, upd_same, ?_, by decide, by decide, by decide, by decide, by decide⟩ ((same_upd hb).trans (same_upd ha))
    rw [upd_ne hab.symm, upd_same]
theorem sc_law_same : FnScope ["found", "due", "key", "mine", "theirs"] ["found", "due"] (defScope s_law_same) := ⟨rfl, rfl, rfl, by decide +kernel, rfl, by decide +kernel, by decide +kernel⟩
theorem ok_same (T : Blt mg) (F : DefOf K "_law_same" s_law_same f fd) (g : mg "_law_same" = some (.ref f)) (b : Binds K fd ["found", "due"] []) : ∀ n, Cal P w K mg base (n + 1) "_law_same" (spSame K n) []
  | 0 => by
    refine cal_of F g b sc_law_same (fun vs H Q E h => ?_) (fun cdv A outer s H vs Q E hr h => ?_)
    · obtain ⟨x, y, d, _, _, _, h, _⟩ := h
      exact absurd h (Nat.not_lt_zero _)
    · obtain ⟨x, y, d, _, _, _, h, _⟩ := h
      exact absurd h (Nat.not_lt_zero _)
  | n + 1 => by
    have C_law_same := ok_same T F g b n
    refine cal_of F g b sc_law_same (fun vs H Q E h => ?_) (fun cdv A outer s H vs Q E hr h => ?_)
    · obtain ⟨x, y, d, rfl, _⟩ := h
      rfl
    · obtain ⟨x, y, d, rfl, hx, hy, hn, k⟩ := h
      refine ⟨_, pss_cons (ps_if (pt_val (pe_callB call_isZ rfl T.isinstance bt_isinstance (pa_cons (pv 1) (pa_cons (pe_tup (pa_cons (pe_bltn (v := .ty "list") rfl T.list bt_list rfl) (pa_cons (pe_bltn (v := .ty "tuple") rfl T.tuple bt_tuple rfl) pa_nil))) pa_nil)))) (pss_cons (ps_if (PW.pt (pw_or (pt_cmpR op_ne (pe_callB call_isZ rfl T.isinstance bt_isinstance (pa_cons (pv 0) (pa_cons (pe_bltn (v := .ty "list") rfl T.list bt_list rfl) pa_nil))) (pe_callB call_isZ rfl T.isinstance bt_isinstance (pa_cons (pv 1) (pa_cons (pe_bltn (v := .ty "list") rfl T.list bt_list rfl) pa_nil))) (nomark _)) (pw_or1 (pt_cmpR op_ne (pe_callB call_isZ rfl T.isinstance bt_isinstance (pa_cons (pv 0) (pa_cons (pe_bltn (v := .ty "tuple") rfl T.tuple bt_tuple rfl) pa_nil))) (pe_callB call_isZ rfl T.isinstance bt_isinstance (pa_cons (pv 1) (pa_cons (pe_bltn (v := .ty "tuple") rfl T.tuple bt_tuple rfl) pa_nil))) (nomark _))))) (pss_one (ps_ret (pe_bl))) (pss_nil))
  (pss_one (ps_ret (pe_and (pe_cmpR op_eq (pe_callB call_len_seq rfl T.len bt_len (pa_cons (pv 0) pa_nil)) (pe_callB call_len_seq rfl T.len bt_len (pa_cons (pv 1) pa_nil)) (nomark _)) (pe_one (pe_callB (cr_all rfl) rfl T.all bt_all (pa_cons (pe_lc (own := [("mine", 3), ("theirs", 4)]) (g := gTup K 2 (gCons (gName 3) (gCons (gName 4) (gNil)))) (tt := tYes) rfl sc_law_same.nd (RZ.pi_zipA rfl T.zip (pa_cons (pv 0) (pa_cons (pv 1) pa_nil))) (blkOk_by (own := [("mine", 3), ("theirs", 4)]) (N := ["found", "due", "key", "mine", "theirs"]) (sc := defScope s_law_same) (by decide +kernel)) (fun _ _ _ _ _ => pg_tup rfl (pgs_cons (pg_name (i := 3) sc_law_same.nd rfl (Or.inl rfl)) (pgs_cons (pg_name (i := 4) sc_law_same.nd rfl (Or.inl rfl)) pgs_nil))) (fun _ _ _ _ _ => pts_nil) (fun _ _ _ _ _ => pe_c C_law_same hr (by first | decide | omega) rfl (pa_cons (pv 3) (pa_cons (pv 4) pa_nil)))) pa_nil))))))) (pss_nil))
  (pss_cons (ps_if (pt_val (pe_callB call_isZ rfl T.isinstance bt_isinstance (pa_cons (pv 1) (pa_cons (pe_bltn (v := .ty "dict") rfl T.dict bt_dict rfl) pa_nil)))) (pss_cons (ps_if (PW.pt (pw_or (pt_not (pt_val (pe_callB call_isZ rfl T.isinstance bt_isinstance (pa_cons (pv 0) (pa_cons (pe_bltn (v := .ty "dict") rfl T.dict bt_dict rfl) pa_nil))))) (pw_or1 (pt_not (pt_val (pe_c C_law_same hr (by first | decide | omega) rfl (pa_cons (pe_callTy (call_listD rfl) rfl T.list bt_list (pa_cons (pv 0) pa_nil)) (pa_cons (pe_callTy (call_listD rfl) rfl T.list bt_list (pa_cons (pv 1) pa_nil)) pa_nil)))))))) (pss_one (ps_ret (pe_bl))) (pss_nil))
  (pss_one (ps_ret (pe_callB (cr_all rfl) rfl T.all bt_all (pa_cons (pe_lock2 (pe_lc (own := [("key", 2)]) (g := gName 2) (tt := tYes) rfl sc_law_same.nd (pi_keys (pv 1)) (blkOk_by (own := [("key", 2)]) (N := ["found", "due", "key", "mine", "theirs"]) (sc := defScope s_law_same) (by decide +kernel)) (fun _ _ _ _ _ => pg_name (i := 2) sc_law_same.nd rfl (Or.inl rfl)) (fun _ _ _ _ _ => pts_nil) (fun _ _ _ _ _ => pe_c C_law_same hr (by first | decide | omega) rfl (pa_cons (pe_dget (hu_of hr) (pv 0) (pv 2) (fun _ _ => rfl)) (pa_cons (pe_dget (hu_of hr) (pv 1) (pv 2) (fun _ _ => rfl)) pa_nil))))) pa_nil))))) (pss_nil))
  (pss_cons (ps_if (pt_cmpR op_isN (pv 1) (pe_non) (nomark _)) (pss_one (ps_ret (pe_cmpR op_isN (pv 0) (pe_non) (nomark _)))) (pss_nil))
  (pss_cons (ps_if (pt_val (pe_callB call_isZ rfl T.isinstance bt_isinstance (pa_cons (pv 1) (pa_cons (pe_bltn (v := .ty "bool") rfl T.bool bt_bool rfl) pa_nil)))) (pss_one (ps_ret (pe_and (pe_callB call_isZ rfl T.isinstance bt_isinstance (pa_cons (pv 0) (pa_cons (pe_bltn (v := .ty "bool") rfl T.bool bt_bool rfl) pa_nil))) (pe_one (pe_cmpR op_eq (pv 0) (pv 1) (nomark _)))))) (pss_nil))
  (pss_cons (ps_if (pt_val (pe_callB call_isZ rfl T.isinstance bt_isinstance (pa_cons (pv 1) (pa_cons (pe_bltn (v := .ty "int") rfl T.int bt_int rfl) pa_nil)))) (pss_one (ps_ret (pe_and (pe_callB call_isZ rfl T.isinstance bt_isinstance (pa_cons (pv 0) (pa_cons (pe_bltn (v := .ty "int") rfl T.int bt_int rfl) pa_nil))) (pe_and (pe_not (pe_callB call_isZ rfl T.isinstance bt_isinstance (pa_cons (pv 0) (pa_cons (pe_bltn (v := .ty "bool") rfl T.bool bt_bool rfl) pa_nil)))) (pe_one (pe_cmpR op_eq (pv 0) (pv 1) (nomark _))))))) (pss_nil))
  (pss_one (ps_ret (pe_and (pe_callB call_isZ rfl T.isinstance bt_isinstance (pa_cons (pv 0) (pa_cons (pe_bltn (v := .ty "str") rfl T.str bt_str rfl) pa_nil))) (pe_one (pe_cmpR op_eq (pv 0) (pv 1) (nomark _)))))))))), ?_⟩
      dsimp only [cxOf, Cx.nox, Cx.wish]
      -- isinstance(due, (list, tuple))
      refine ⟨_, rfl, by show 2 ≤ sizeLine; decide, fun p hp => ?_⟩
      have sp := same_upd (o := .tup [.ty "list", .ty "tuple"]) hp
      have hx1 := hx.keep sp
      have hy1 := hy.keep sp
      have fin : ∀ H', Same (upd H p (.tup [.ty "list", .ty "tuple"])) H' → Q (.bl true) H' := fun H' z => k H' (sp.trans z)
      generalize hH1 : upd H p (.tup [.ty "list", .ty "tuple"]) = H1 at hx1 hy1 fin
      have hpp : H1 p = some (.tup [.ty "list", .ty "tuple"]) := by rw [← hH1]; exact upd_same
      clear hx hy sp k hH1 hp
      cases d with
      | none =>
        cases hx1
        refine ⟨_, _, _, rfl, isz2 hy1 hpp kb_NoneType_list kb_NoneType_tuple, ?_⟩
        refine ⟨_, rfl, iteF ?_⟩
        refine ⟨_, rfl, ⟨_, _, _, rfl, isz1 hy1 kb_NoneType_dict, ⟨_, rfl, iteF ?_⟩⟩⟩
        cases hy1
        exact ⟨_, rfl, rfl, _, rfl, iteT ⟨_, rfl, rfl, fin _ (Same.refl _)⟩⟩
      | bool v =>
        refine ⟨_, _, _, rfl, isz2 hy1 hpp kb_bool_list kb_bool_tuple, ?_⟩
        refine ⟨_, rfl, iteF ?_⟩
        refine ⟨_, rfl, ⟨_, _, _, rfl, isz1 hy1 kb_bool_dict, ⟨_, rfl, iteF ?_⟩⟩⟩
        refine ⟨_, rfl, rfl, _, rfl, ?_⟩
        have e : decide (y = V.non) = false := by cases hy1; rfl
        rw [e]
        refine iteF ⟨_, rfl, ⟨_, _, _, rfl, isz1 hy1 kb_bool_bool, ⟨_, rfl, iteT ?_⟩⟩⟩
        refine ⟨_, rfl, ⟨_, _, _, rfl, isz1 hx1 kb_bool_bool, ⟨_, rfl, iteT ?_⟩⟩⟩
        cases hx1
        cases hy1
        refine ⟨_, rfl, _, rfl, rfl, ?_⟩
        rw [decide_eq_true rfl]
        exact fin _ (Same.refl _)
      | int v =>
        refine ⟨_, _, _, rfl, isz2 hy1 hpp kb_int_list kb_int_tuple, ?_⟩
        refine ⟨_, rfl, iteF ?_⟩
        refine ⟨_, rfl, ⟨_, _, _, rfl, isz1 hy1 kb_int_dict, ⟨_, rfl, iteF ?_⟩⟩⟩
        refine ⟨_, rfl, rfl, _, rfl, ?_⟩
        have e : decide (y = V.non) = false := by cases hy1; rfl
        rw [e]
        refine iteF ⟨_, rfl, ⟨_, _, _, rfl, isz1 hy1 kb_int_bool, ⟨_, rfl, iteF ?_⟩⟩⟩
        refine ⟨_, rfl, ⟨_, _, _, rfl, isz1 hy1 kb_int_int, ⟨_, rfl, iteT ?_⟩⟩⟩
        refine ⟨_, rfl, ⟨_, _, _, rfl, isz1 hx1 kb_int_int, ⟨_, rfl, iteT ?_⟩⟩⟩
        refine ⟨_, rfl, ⟨_, _, _, rfl, isz1 hx1 kb_int_bool, ⟨_, rfl, _, rfl, iteT ?_⟩⟩⟩
        cases hx1
        cases hy1
        refine ⟨_, rfl, _, rfl, rfl, ?_⟩
        rw [decide_eq_true rfl]
        exact fin _ (Same.refl _)
      | str v =>
        refine ⟨_, _, _, rfl, isz2 hy1 hpp kb_str_list kb_str_tuple, ?_⟩
        refine ⟨_, rfl, iteF ?_⟩
        refine ⟨_, rfl, ⟨_, _, _, rfl, isz1 hy1 kb_str_dict, ⟨_, rfl, iteF ?_⟩⟩⟩
        refine ⟨_, rfl, rfl, _, rfl, ?_⟩
        have e : decide (y = V.non) = false := by cases hy1; rfl
        rw [e]
        refine iteF ⟨_, rfl, ⟨_, _, _, rfl, isz1 hy1 kb_str_bool, ⟨_, rfl, iteF ?_⟩⟩⟩
        refine ⟨_, rfl, ⟨_, _, _, rfl, isz1 hy1 kb_str_int, ⟨_, rfl, iteF ?_⟩⟩⟩
        refine ⟨_, rfl, ⟨_, _, _, rfl, isz1 hx1 kb_str_str, ⟨_, rfl, iteT ?_⟩⟩⟩
        cases hx1
        cases hy1
        refine ⟨_, rfl, _, rfl, rfl, ?_⟩
        rw [decide_eq_true rfl]
        exact fin _ (Same.refl _)
      | list ds =>
        refine ⟨_, _, _, rfl, isz2 hy1 hpp kb_list_list kb_list_tuple, ?_⟩
        refine ⟨_, rfl, iteT ?_⟩
        refine ⟨_, rfl, ⟨_, _, _, rfl, isz1 hx1 kb_list_list, ⟨_, rfl, ⟨_, _, _, rfl, isz1 hy1 kb_list_list, ⟨rfl, _, rfl, iteF ?_⟩⟩⟩⟩⟩
        refine ⟨_, rfl, ⟨_, _, _, rfl, isz1 hx1 kb_list_tuple, ⟨_, rfl, ⟨_, _, _, rfl, isz1 hy1 kb_list_tuple, ⟨rfl, _, rfl, iteF ?_⟩⟩⟩⟩⟩
        cases hx1 with
        | @lst a xs _ qx zx ax =>
        cases hy1 with
        | @lst a2 ys _ qy zy ay =>
        have lx := ax.length
        have ly := ay.length
        refine ⟨_, rfl, a, _, rfl, .inl qx, _, rfl, a2, _, rfl, .inl qy, rfl, _, rfl, ?_⟩
        rw [decide_eq_true (by rw [lx, ly])]
        refine iteT ?_
        refine ⟨_, rfl, _, rfl, a, a2, xs, ys, rfl, .inl ⟨qx, qy, fun D hD => lc_zipL (by rw [lx, ly]) (fun i H' => H' D = some (.lst (List.replicate i (.bl true))) ∧ Same H1 H')
          ⟨upd_same, same_upd hD⟩ (fun i H' h => ⟨sqL_r (sameR_of h.2) qx, sqL_r (sameR_of h.2) qy⟩) ?_ ?_⟩⟩
        · rintro i u v T' H' hu hv ⟨hD', s'⟩ hT
          obtain ⟨d, hd, hxd⟩ := ax.get hu
          obtain ⟨d', hd', hyd⟩ := ay.get hv
          rw [hd] at hd'
          cases hd'
          have sT := same_upd (o := .tup [u, v]) hT
          have dd := depAll_get hd
          rw [dep] at hn
          refine ⟨T', [u, v], rfl, SqT.of upd_same, rfl, _, _, rfl, _, _, rfl, rfl, rfl, ?_⟩
          refine ⟨_, rfl, _, rfl, u, v, d, rfl, hxd.keep (s'.trans sT), hyd.keep (s'.trans sT), by omega, fun H'' s'' => ?_⟩
          have s3 := (s'.trans sT).trans s''
          refine ⟨_, s'' _ _ (sT _ _ hD'), ?_, ?_, fun b o e => ?_⟩
          · rw [List.length_replicate]
            have := (List.getElem?_eq_some_iff.mp hu).1
            omega
          · rw [upd_same, List.replicate_succ']
          · rw [upd_ne (ne_of_none e hD)]
            exact s3 _ _ e
        · rintro H' ⟨hD', s'⟩
          refine ⟨D, List.replicate xs.length true, rfl, SqL.of ?_, ?_⟩
          · rw [hD', List.map_replicate]
          · rw [show (List.replicate xs.length true).all id = true by simp]
            exact fin _ s'
      | tuple ds =>
        refine ⟨_, _, _, rfl, isz2 hy1 hpp kb_tuple_list kb_tuple_tuple, ?_⟩
        refine ⟨_, rfl, iteT ?_⟩
        refine ⟨_, rfl, ⟨_, _, _, rfl, isz1 hx1 kb_tuple_list, ⟨_, rfl, ⟨_, _, _, rfl, isz1 hy1 kb_tuple_list, ⟨rfl, _, rfl, iteF ?_⟩⟩⟩⟩⟩
        refine ⟨_, rfl, ⟨_, _, _, rfl, isz1 hx1 kb_tuple_tuple, ⟨_, rfl, ⟨_, _, _, rfl, isz1 hy1 kb_tuple_tuple, ⟨rfl, _, rfl, iteF ?_⟩⟩⟩⟩⟩
        cases hx1 with
        | @tup a xs _ qx zx ax =>
        cases hy1 with
        | @tup a2 ys _ qy zy ay =>
        have lx := ax.length
        have ly := ay.length
        refine ⟨_, rfl, a, _, rfl, .inr qx, _, rfl, a2, _, rfl, .inr qy, rfl, _, rfl, ?_⟩
        rw [decide_eq_true (by rw [lx, ly])]
        refine iteT ?_
        refine ⟨_, rfl, _, rfl, a, a2, xs, ys, rfl, .inr ⟨qx, qy, fun D hD => lc_zipT (by rw [lx, ly]) (fun i H' => H' D = some (.lst (List.replicate i (.bl true))) ∧ Same H1 H')
          ⟨upd_same, same_upd hD⟩ (fun i H' h => ⟨sqT_r (sameR_of h.2) qx, sqT_r (sameR_of h.2) qy⟩) ?_ ?_⟩⟩
        · rintro i u v T' H' hu hv ⟨hD', s'⟩ hT
          obtain ⟨d, hd, hxd⟩ := ax.get hu
          obtain ⟨d', hd', hyd⟩ := ay.get hv
          rw [hd] at hd'
          cases hd'
          have sT := same_upd (o := .tup [u, v]) hT
          have dd := depAll_get hd
          rw [dep] at hn
          refine ⟨T', [u, v], rfl, SqT.of upd_same, rfl, _, _, rfl, _, _, rfl, rfl, rfl, ?_⟩
          refine ⟨_, rfl, _, rfl, u, v, d, rfl, hxd.keep (s'.trans sT), hyd.keep (s'.trans sT), by omega, fun H'' s'' => ?_⟩
          have s3 := (s'.trans sT).trans s''
          refine ⟨_, s'' _ _ (sT _ _ hD'), ?_, ?_, fun b o e => ?_⟩
          · rw [List.length_replicate]
            have := (List.getElem?_eq_some_iff.mp hu).1
            omega
          · rw [upd_same, List.replicate_succ']
          · rw [upd_ne (ne_of_none e hD)]
            exact s3 _ _ e
        · rintro H' ⟨hD', s'⟩
          refine ⟨D, List.replicate xs.length true, rfl, SqL.of ?_, ?_⟩
          · rw [hD', List.map_replicate]
          · rw [show (List.replicate xs.length true).all id = true by simp]
            exact fin _ s'
      | dict ds =>
        refine ⟨_, _, _, rfl, isz2 hy1 hpp kb_dict_list kb_dict_tuple, ?_⟩
        refine ⟨_, rfl, iteF ?_⟩
        refine ⟨_, rfl, ⟨_, _, _, rfl, isz1 hy1 kb_dict_dict, ⟨_, rfl, iteT ?_⟩⟩⟩
        refine ⟨_, rfl, ⟨_, _, _, rfl, isz1 hx1 kb_dict_dict, ⟨_, rfl, iteF ?_⟩⟩⟩
        cases hx1 with
        | @dct a kvs _ qx nx zx ex ax =>
        cases hy1 with
        | @dct a2 kws _ qy ny zy ey ay =>
        rw [dep] at hn
        have lx : kvs.length = ds.length := by
          have := ax.length
          rwa [List.length_map, List.length_map] at this
        have ly : kws.length = ds.length := by
          have := ay.length
          rwa [List.length_map, List.length_map] at this
        refine ⟨_, rfl, a, kvs, rfl, qx, fun p1 hp1 => ?_⟩
        have s1 := same_upd (o := .lst (kvs.map fun kv => kV kv.1)) hp1
        refine ⟨_, rfl, a2, kws, rfl, sameR_of s1 _ _ qy, fun p2 hp2 => ?_⟩
        have s2 := same_upd (o := .lst (kws.map fun kv => kV kv.1)) hp2
        refine ⟨.ref p1, .ref p2, .list (kvs.map fun q => keyD q.1), rfl, .lst (SqL.of (s2 _ _ upd_same)) (by rw [List.length_map]; exact zx) (dt_keys kvs),
          .lst (SqL.of upd_same) (by rw [List.length_map]; exact zy) (by rw [← ex, ey]; exact dt_keys kws), ?_, fun H3 s3 => ⟨_, rfl, iteF ?_⟩⟩
        · rw [dep, depAll_keys]
          omega
        · have s13 : Same H1 H3 := (s1.trans s2).trans s3
          have qx3 := sameR_of s13 _ _ qx
          have qy3 := sameR_of s13 _ _ qy
          have ax3 := ax.keep s13
          have ay3 := ay.keep s13
          have turns : ∀ (od : Obj) (HL : Hp), SameR H3 HL → HL a2 = some (.frz od (.dK kws)) → ∀ (Qd : V → Hp → Prop), (∀ D H', HL D = none → H' D = some (.lst (List.replicate kws.length (.bl true))) → Same HL H' → Qd (.ref D) H') →
              tLc (iKeys (tVar 1)) (gName 2) tYes (tCall (spSame K n) [] E0 (tCons (tDGet (tVar 0) (tVar 2)) (tCons (tDGet (tVar 1) (tVar 2)) tNil))) [2] [some (.ref a), some (.ref a2), none, none, none] HL Qd := by
            intro od HL sR hL Qd fin2
            refine ⟨_, rfl, a2, od, rfl, .inl ⟨kws, hL, fun D hD => lc_keys (fun i H' => H' D = some (.lst (List.replicate i (.bl true))) ∧ Same HL H') ⟨upd_same, same_upd hD⟩ (fun i H' h => h.2 _ _ hL) ?_ (fun H' h => fin2 D H' hD h.1 h.2)⟩⟩
            rintro i ky v H' hk ⟨hD', s'⟩
            have sRR : SameR H3 H' := fun b u r => sameR_of s' _ _ (sR _ _ r)
            have ke : kvs.map (·.1) = kws.map (·.1) := keys_eq (by rw [← ex, ey])
            have hi : i < kws.length := (List.getElem?_eq_some_iff.mp hk).1
            obtain ⟨u, hu⟩ : ∃ u, kvs[i]? = some (ky, u) := by
              have e1 : (kvs.map (·.1))[i]? = some ky := by rw [ke, List.getElem?_map, hk]; rfl
              rw [List.getElem?_map] at e1
              cases e2 : kvs[i]? with
              | none => rw [e2] at e1; cases e1
              | some p =>
                rw [e2] at e1
                obtain ⟨p1, p2⟩ := p
                cases (Option.some.inj e1)
                exact ⟨p2, rfl⟩
            obtain ⟨d, hd, hxd⟩ := ax3.get (i := i) (v := u) (by rw [List.getElem?_map, hu]; rfl)
            obtain ⟨d', hd', hyd⟩ := ay3.get (i := i) (v := v) (by rw [List.getElem?_map, hk]; rfl)
            rw [hd] at hd'
            cases hd'
            have dd := depAll_get hd
            rw [depKV_map] at dd
            refine ⟨rfl, ?_⟩
            refine ⟨_, rfl, _, rfl, a, u, rfl, .inl ⟨kvs, ky, sRR _ _ qx3, rfl, (valV_of nx hu).symm⟩, _, rfl, _, rfl, a2, v, rfl, .inl ⟨kws, ky, sRR _ _ qy3, rfl, (valV_of ny hk).symm⟩,
              u, v, d, rfl, hxd.keepR sRR, hyd.keepR sRR, by omega, fun H'' s'' => ?_⟩
            refine ⟨_, s'' _ _ hD', ?_, ?_, fun b o e => ?_⟩
            · rw [List.length_replicate]
              omega
            · rw [upd_same, List.replicate_succ']
            · rw [upd_ne (ne_of_none e hD)]
              exact s'' _ _ (s' _ _ e)
          have last : ∀ (D : Addr) (H' : Hp), H' D = some (.lst (List.replicate kws.length (.bl true))) → Same H1 H' → rAll K [.ref D] H' Q := fun D H' hD s => by
            refine ⟨D, List.replicate kws.length true, rfl, SqL.of (by rw [hD, List.map_replicate]), ?_⟩
            rw [show (List.replicate kws.length true).all id = true by simp]
            exact fin _ s
          rcases qy3 with q0 | ⟨od, q0⟩
          · refine .inl ⟨a2, .dK kws, q0, trivial, fun od => turns od _ (fun b u r => ?_) upd_same _ fun D H' hD hD' s' => ⟨s' _ _ upd_same, last _ _ ?_ ?_⟩⟩
            · by_cases hb : b = a2
              · subst hb
                rcases r with r | ⟨o, r⟩
                · rw [q0] at r
                  cases r
                  exact .inr ⟨od, upd_same⟩
                · rw [q0] at r
                  cases r
              · rcases r with r | ⟨o, r⟩
                · exact .inl (by rw [upd_ne hb]; exact r)
                · exact .inr ⟨o, by rw [upd_ne hb]; exact r⟩
            · rw [upd_ne (ne_of_none upd_same hD).symm]
              exact hD'
            · intro b o e
              by_cases hb : b = a2
              · rw [hb] at e ⊢
                rw [s13 _ _ e] at q0
                rw [upd_same, q0]
              · rw [upd_ne hb]
                exact s' _ _ (by rw [upd_ne hb]; exact s13 _ _ e)
          · exact .inr (turns od _ (fun _ _ r => r) q0 _ fun D H' hD hD' s' => last _ _ hD' (s13.trans s'))
theorem sc_law_q_add : FnScope ["q", "r"] ["q", "r"] (defScope s_law_q_add) := ⟨rfl, rfl, rfl, by decide +kernel, rfl, by decide +kernel, by decide +kernel⟩
theorem ok_law_q_add (C_law_q : Cal P w K mg base 2 "_law_q" spMk []) (F : DefOf K "_law_q_add" s_law_q_add f fd) (g : mg "_law_q_add" = some (.ref f)) (b : Binds K fd ["q", "r"] []) : Cal P w K mg base 3 "_law_q_add" (spTwo K addv fun _ _ => True) [] := by
  refine cal_of F g b sc_law_q_add (fun vs H Q E h => ?_) (fun cdv A outer s H vs Q E hr h => ?_)
  · obtain ⟨v, u, q, o, rfl, _⟩ := h
    rfl
  · obtain ⟨v, u, q, o, rfl, ⟨a, rfl, hs⟩, ⟨a2, rfl, ho⟩, ⟨q1, q2, q3, q4⟩, ⟨o1, o2, o3, o4⟩, _, k⟩ := h
    refine ⟨_, pss_one (ps_ret (pe_c C_law_q hr (by first | decide | omega) rfl (pa_cons (pe_op op_add (pe_op op_mul (pe_ix (ix_sqA (K := K) rfl) (pv 0) (pe_int) (fun _ _ => rfl)) (pe_ix (ix_sqA (K := K) rfl) (pv 1) (pe_int) (fun _ _ => rfl))) (pe_op op_mul (pe_ix (ix_sqA (K := K) rfl) (pv 1) (pe_int) (fun _ _ => rfl)) (pe_ix (ix_sqA (K := K) rfl) (pv 0) (pe_int) (fun _ _ => rfl)))) (pa_cons (pe_op op_mul (pe_ix (ix_sqA (K := K) rfl) (pv 0) (pe_int) (fun _ _ => rfl)) (pe_ix (ix_sqA (K := K) rfl) (pv 1) (pe_int) (fun _ _ => rfl))) pa_nil)))), ?_⟩
    refine ⟨_, rfl, a, _, 0, _, rfl, rfl, hs, rfl, _, rfl, a2, _, 1, _, rfl, rfl, ho, rfl, _, _, rfl, rfl, .inl (by constructor <;> omega), ?_⟩
    refine ⟨_, rfl, a2, _, 0, _, rfl, rfl, ho, rfl, _, rfl, a, _, 1, _, rfl, rfl, hs, rfl, _, _, rfl, rfl, .inl (by constructor <;> omega), _, _, rfl, rfl, ?_⟩
    refine ⟨_, rfl, a, _, 1, _, rfl, rfl, hs, rfl, _, rfl, a2, _, 1, _, rfl, rfl, ho, rfl, _, _, rfl, rfl, .inl (by constructor <;> omega), ?_⟩
    refine ⟨_, _, rfl, ?_, mul_lt (by omega) (by omega), fun t ht => k t _ (same_upd ht) upd_same⟩
    have := Int.mul_pos (show 0 < q.2 by omega) (show 0 < o.2 by omega)
    omega
theorem sc_law_q_mul : FnScope ["q", "r"] ["q", "r"] (defScope s_law_q_mul) := ⟨rfl, rfl, rfl, by decide +kernel, rfl, by decide +kernel, by decide +kernel⟩
theorem ok_law_q_mul (C_law_q : Cal P w K mg base 2 "_law_q" spMk []) (F : DefOf K "_law_q_mul" s_law_q_mul f fd) (g : mg "_law_q_mul" = some (.ref f)) (b : Binds K fd ["q", "r"] []) : Cal P w K mg base 3 "_law_q_mul" (spTwo K mulv fun _ _ => True) [] := by
  refine cal_of F g b sc_law_q_mul (fun vs H Q E h => ?_) (fun cdv A outer s H vs Q E hr h => ?_)
  · obtain ⟨v, u, q, o, rfl, _⟩ := h
    rfl
  · obtain ⟨v, u, q, o, rfl, ⟨a, rfl, hs⟩, ⟨a2, rfl, ho⟩, ⟨q1, q2, q3, q4⟩, ⟨o1, o2, o3, o4⟩, _, k⟩ := h
    refine ⟨_, pss_one (ps_ret (pe_c C_law_q hr (by first | decide | omega) rfl (pa_cons (pe_op op_mul (pe_ix (ix_sqA (K := K) rfl) (pv 0) (pe_int) (fun _ _ => rfl)) (pe_ix (ix_sqA (K := K) rfl) (pv 1) (pe_int) (fun _ _ => rfl))) (pa_cons (pe_op op_mul (pe_ix (ix_sqA (K := K) rfl) (pv 0) (pe_int) (fun _ _ => rfl)) (pe_ix (ix_sqA (K := K) rfl) (pv 1) (pe_int) (fun _ _ => rfl))) pa_nil)))), ?_⟩
    refine ⟨_, rfl, a, _, 0, _, rfl, rfl, hs, rfl, _, rfl, a2, _, 0, _, rfl, rfl, ho, rfl, _, _, rfl, rfl, .inl (by constructor <;> omega), ?_⟩
    refine ⟨_, rfl, a, _, 1, _, rfl, rfl, hs, rfl, _, rfl, a2, _, 1, _, rfl, rfl, ho, rfl, _, _, rfl, rfl, .inl (by constructor <;> omega), ?_⟩
    refine ⟨_, _, rfl, ?_, mul_lt (by omega) (by omega), fun t ht => k t _ (same_upd ht) upd_same⟩
    have := Int.mul_pos (show 0 < q.2 by omega) (show 0 < o.2 by omega)
    omega
def spSomeQ : Sp := fun vs H Q _ => ∃ (a b : Addr) (c : Nat), vs = [.ref a] ∧ StA H a b c ∧ c < 1000000000 ∧
  ∀ t H' (q : Int × Int) k, k ≤ 3 → StA H' a b (c + k) → SameB a b H H' → H t = none → H' t = some (.tup [.int q.1, .int q.2]) → Okq q → Sm q → Q (.ref t) H'
theorem qn_sm {p n : Int} (h1 : 1 ≤ n) (h2 : n < 1073741824) (h3 : -1073741824 < p) (h4 : p < 1073741824) : Sm (qn p n) := by
  have o := qn_ok (p := p) (n := n) (by omega)
  have g := gcd_pos (p := p) (n := n) (by omega)
  have d1 : (Int.gcd p n : Int) * (p / (Int.gcd p n : Int)) = p := Int.mul_ediv_cancel' (Int.gcd_dvd_left _ _)
  have d2 : (Int.gcd p n : Int) * (n / (Int.gcd p n : Int)) = n := Int.mul_ediv_cancel' (Int.gcd_dvd_right _ _)
  have le : ∀ {x y g : Int}, 1 ≤ g → g * x = y → x.natAbs ≤ y.natAbs := fun {x y g} hg e => by
    rw [← e, Int.natAbs_mul]
    exact Nat.le_mul_of_pos_left _ (by omega)
  have l1 := le (by omega) d1
  have l2 := le (by omega) d2
  have e := qn_pos (p := p) (n := n) (by omega)
  have o1 := o.1
  rw [e] at o1 ⊢
  exact ⟨by show -1073741824 < p / _; omega, by show p / _ < 1073741824; omega, o1, by show n / _ < 1073741824; omega⟩
theorem sc_law_some_q : FnScope ["state"] ["state"] (defScope s_law_some_q) := ⟨rfl, rfl, rfl, by decide +kernel, rfl, by decide +kernel, by decide +kernel⟩
theorem ok_some_q (C_law_pick : Cal P w K mg base 1 "_law_pick" spPick []) (C_law_q : Cal P w K mg base 2 "_law_q" spMk []) (F : DefOf K "_law_some_q" s_law_some_q f fd) (g : mg "_law_some_q" = some (.ref f)) (b : Binds K fd ["state"] []) : Cal P w K mg base 3 "_law_some_q" spSomeQ [] := by
  refine cal_of F g b sc_law_some_q (fun vs H Q E h => ?_) (fun cdv A outer s H vs Q E hr h => ?_)
  · obtain ⟨a, b, c, rfl, _⟩ := h
    rfl
  · obtain ⟨a, b, c, rfl, hS, hc, k⟩ := h
    refine ⟨_, pss_cons (ps_if (pt_cmpR op_eq (pe_c C_law_pick hr (by first | decide | omega) rfl (pa_cons (pv 0) (pa_cons (pe_int) pa_nil))) (pe_int) (nomark _)) (pss_one (ps_ret (pe_c C_law_q hr (by first | decide | omega) rfl (pa_cons (pe_op op_sub (pe_c C_law_pick hr (by first | decide | omega) rfl (pa_cons (pv 0) (pa_cons (pe_op op_pow (pe_int) (pe_int)) pa_nil))) (pe_op op_mul (pe_int) (pe_op op_pow (pe_int) (pe_int)))) (pa_cons (pe_op op_add (pe_int) (pe_c C_law_pick hr (by first | decide | omega) rfl (pa_cons (pv 0) (pa_cons (pe_op op_pow (pe_int) (pe_int)) pa_nil)))) pa_nil))))) (pss_nil))
  (pss_one (ps_ret (pe_c C_law_q hr (by first | decide | omega) rfl (pa_cons (pe_op op_sub (pe_c C_law_pick hr (by first | decide | omega) rfl (pa_cons (pv 0) (pa_cons (pe_int) pa_nil))) (pe_int)) (pa_cons (pe_op op_add (pe_int) (pe_c C_law_pick hr (by first | decide | omega) rfl (pa_cons (pv 0) (pa_cons (pe_int) pa_nil)))) pa_nil))))), ?_⟩
    refine ⟨_, rfl, a, b, c, _, rfl, hS, by omega, by decide, by decide, fun r0 H0 _ _ S0 B0 => ⟨rfl, _, rfl, ?_⟩⟩
    refine ite2 (fun _ => ?_) fun _ => ?_
    · have p9 : (10 : Int) ^ (9 : Int).toNat = 1000000000 := by decide
      have p8 : (10 : Int) ^ (8 : Int).toNat = 100000000 := by decide
      have p6 : (10 : Int) ^ (6 : Int).toNat = 1000000 := by decide
      refine ⟨_, rfl, _, _, rfl, rfl, ⟨by decide, by decide, by decide⟩, a, b, _, _, rfl, S0, by omega, by rw [p9]; decide, by rw [p9]; decide, fun r1 H1 ra rb S1 B1 => ?_⟩
      refine ⟨_, _, rfl, rfl, ⟨by decide, by decide, by decide⟩, _, _, rfl, rfl, .inl (by decide), _, _, rfl, rfl, ?_⟩
      refine ⟨_, rfl, _, _, rfl, rfl, ⟨by decide, by decide, by decide⟩, a, b, _, _, rfl, S1, by omega, by rw [p6]; decide, by rw [p6]; decide, fun r2 H2 rc rd S2 B2 => ?_⟩
      rw [p9] at rb
      rw [p6] at rd
      rw [p8]
      refine ⟨_, _, rfl, rfl, _, _, rfl, by omega, by omega, fun t ht => ?_⟩
      exact k t _ (qn (r1 - 5 * 100000000) (1 + r2)) 3 (by decide) (S2.keep (same_upd ht)) (((B0.trans B1).trans B2).trans (sameB_of (same_upd ht))) (noneB ((B0.trans B1).trans B2) S2 ht) upd_same (qn_ok (by omega)) (qn_sm (by omega) (by omega) (by omega) (by omega))
    · refine ⟨_, rfl, a, b, _, _, rfl, S0, by omega, by decide, by decide, fun r1 H1 ra rb S1 B1 => ⟨_, _, rfl, rfl, _, rfl, a, b, _, _, rfl, S1, by omega, by decide, by decide, fun r2 H2 rc rd S2 B2 => ?_⟩⟩
      refine ⟨_, _, rfl, rfl, _, _, rfl, by omega, by omega, fun t ht => ?_⟩
      exact k t _ (qn (r1 - 6) (1 + r2)) 3 (by decide) (S2.keep (same_upd ht)) (((B0.trans B1).trans B2).trans (sameB_of (same_upd ht))) (noneB ((B0.trans B1).trans B2) S2 ht) upd_same (qn_ok (by omega)) (qn_sm (by omega) (by omega) (by omega) (by omega))
end
end K01

set_option maxHeartbeats 4000000
namespace K01
open PySem PySem.Spec PyProof.Rows L2 SpE He
open C8 (Cal pe_c)
section
variable {P : Program} {w : World} {K : PySem.W.Frag} {mg : Str → Option Value} {base : Heap} {f : Addr} {fd : FuncData}
theorem sc_law_mixed : FnScope ["state", "things", "left", "found", "k"] ["state", "things"] (defScope s_law_mixed) := ⟨rfl, rfl, rfl, by decide +kernel, rfl, by decide +kernel, by decide +kernel⟩
theorem ok_mixed (F : DefOf K "_law_mixed" s_law_mixed f fd) (g : mg "_law_mixed" = some (.ref f)) (b : Binds K fd ["state", "things"] []) : Cal P w K mg base 1 "_law_mixed" (fun _ _ _ _ => False) [] :=
  cal_of F g b sc_law_mixed (fun _ _ _ _ h => h.elim) (fun _ _ _ _ _ _ _ _ _ h => h.elim)
def spLoose (K : PySem.W.Frag) : Nat → Sp
  | 0 => fun _ _ _ _ => False
  | n + 1 => fun vs H Q _ => ∃ (a b : Addr) (c : Nat) (v : V), vs = [.ref a, v] ∧ StA H a b c ∧ c < 1000000000 ∧
    ((∃ i, v = .int i ∧ ∀ H', Same H H' → Q v H') ∨
     (1 ≤ n ∧ ∃ (p : Addr) (q : Int × Int), v = .ref p ∧ H p = some (.tup [.int q.1, .int q.2]) ∧ ∀ w H' k, k ≤ 1 → StA H' a b (c + k) → SameB a b H H' → QAt K H' w q → w ≠ .ref a → w ≠ .ref b → Q w H'))
theorem sc_law_loose : FnScope ["state", "thing", "some", "found", "key", "one"] ["state", "thing"] (defScope s_law_loose) := ⟨rfl, rfl, rfl, by decide +kernel, rfl, by decide +kernel, by decide +kernel⟩
theorem ok_loose (T : Blt mg) (C_law_pick : Cal P w K mg base 1 "_law_pick" spPick []) (C_law_mixed : Cal P w K mg base 1 "_law_mixed" (fun _ _ _ _ => False) []) (F : DefOf K "_law_loose" s_law_loose f fd) (g : mg "_law_loose" = some (.ref f)) (b : Binds K fd ["state", "thing"] []) :
    ∀ n, Cal P w K mg base (n + 2) "_law_loose" (spLoose K n) []
  | 0 => cal_of F g b sc_law_loose (fun _ _ _ _ h => False.elim h) (fun _ _ _ _ _ _ _ _ _ h => False.elim h)
  | n + 1 => by
    have C_law_loose := ok_loose T C_law_pick C_law_mixed F g b n
    refine cal_of F g b sc_law_loose (fun vs H Q E h => ?_) (fun cdv A outer s H vs Q E hr h => ?_)
    · obtain ⟨a, b, c, v, rfl, _⟩ := h
      rfl
    · obtain ⟨a, b, c, v, rfl, hS, hc, k⟩ := h
      refine ⟨_, pss_cons (ps_if (pt_val (pe_callB call_isZ rfl T.isinstance bt_isinstance (pa_cons (pv 1) (pa_cons (pe_tup (pa_cons (pe_bltn (v := .ty "list") rfl T.list bt_list rfl) (pa_cons (pe_bltn (v := .ty "tuple") rfl T.tuple bt_tuple rfl) pa_nil))) pa_nil)))) (pss_cons (ps_setLc (i := 2) (own := [("one", 5)]) (g := gName 5) (tt := tYes) rfl sc_law_loose.nd rfl rfl (sw_true rfl rfl rfl (by decide +kernel)) (pi_tup (pv 1)) (blkOk_by (own := [("one", 5)]) (N := ["state", "thing", "some", "found", "key", "one"]) (sc := defScope s_law_loose) (by decide +kernel)) (fun _ _ _ _ _ => pg_name (i := 5) sc_law_loose.nd rfl (Or.inl rfl)) (fun _ _ _ _ _ => pts_nil) (fun _ _ _ _ _ => pe_c C_law_loose hr (by first | decide | omega) rfl (pa_cons (pv 0) (pa_cons (pv 5) pa_nil))))
  (pss_one (ps_ret (pe_ifExp (pt_cmpR op_eq (pe_c C_law_pick hr (by first | decide | omega) rfl (pa_cons (pv 0) (pa_cons (pe_int) pa_nil))) (pe_int) (nomark _)) (pv 2) (pe_callTy call_tuple_of rfl T.tuple bt_tuple (pa_cons (pv 2) pa_nil)))))) (pss_nil))
  (pss_cons (ps_if (pt_val (pe_callB call_isZ rfl T.isinstance bt_isinstance (pa_cons (pv 1) (pa_cons (pe_bltn (v := .ty "dict") rfl T.dict bt_dict rfl) pa_nil)))) (pss_cons (ps_set (i := 3) sc_law_loose.nd rfl (Or.inl rfl) (pe_dnewK))
  (pss_cons (ps_for PassesOwn.never rfl (pi_list (pe_c C_law_mixed hr (by first | decide | omega) rfl (pa_cons (pv 0) (pa_cons (pe_callTy call_list_of rfl T.list bt_list (pa_cons (pv 1) pa_nil)) pa_nil)))) (pg_name (i := 4) sc_law_loose.nd rfl (Or.inl rfl)) (pss_one (ps_asg (pe_c C_law_loose hr (by first | decide | omega) rfl (pa_cons (pv 0) (pa_cons (pe_dget (hu_of hr) (pv 1) (pv 4) (fun _ _ => rfl)) pa_nil))) (pg_sub (pv 3) (pv 4) (set_dict (hu_of hr))))))
  (pss_one (ps_ret (pv 3))))) (pss_nil))
  (pss_one (ps_ret (pv 1)))), ?_⟩
      dsimp only [cxOf, Cx.nox, Cx.wish]
      rcases k with ⟨i, rfl, k⟩ | ⟨hn, p, q, rfl, hp, k⟩
      · refine ⟨_, rfl, by show 2 ≤ sizeLine; decide, fun t ht => ⟨_, _, _, rfl, isz2 (.int i) upd_same kb_int_list kb_int_tuple, _, rfl, ?_⟩⟩
        refine iteF ⟨_, rfl, _, _, _, rfl, isz1 (.int i) kb_int_dict, _, rfl, ?_⟩
        exact iteF ⟨_, rfl, k _ (same_upd ht)⟩
      · obtain ⟨m, rfl⟩ : ∃ m, n = m + 1 := ⟨n - 1, by omega⟩
        refine ⟨_, rfl, by show 2 ≤ sizeLine; decide, fun t ht => ?_⟩
        have s1 := same_upd (o := .tup [.ty "list", .ty "tuple"]) ht
        have hp1 := s1 _ _ hp
        have ty : Dt K _ (.ref p) (tupD q) := dt_tup hp1
        refine ⟨_, _, _, rfl, isz2 ty upd_same kb_tuple_list kb_tuple_tuple, _, rfl, ?_⟩
        generalize upd H t _ = H1 at s1 hp1
        have S1 := hS.keep s1
        refine iteT ⟨_, rfl, p, rfl, ⟨_, SqT.of hp1⟩, fun D hD => lc_tup (xs := [.int q.1, .int q.2]) (fun i H' => H' D = some (.lst (([.int q.1, .int q.2] : List V).take i)) ∧ Same H1 H') ⟨upd_same, same_upd hD⟩ (fun i H' _ h => SqT.of (h.2 _ _ hp1)) ?_ ?_⟩
        · rintro i x H' hx ⟨hD', s'⟩
          have hi : i < 2 := (List.getElem?_eq_some_iff.mp hx).1
          obtain rfl | rfl : i = 0 ∨ i = 1 := by omega
          · obtain rfl : V.int q.1 = x := Option.some.inj hx
            exact ⟨rfl, _, rfl, _, rfl, a, b, c, _, rfl, S1.keep s', hc, .inl ⟨_, rfl, fun H2 s2 => ⟨_, s2 _ _ hD', by show 0 < sizeLine; decide, upd_same, same_setL hD (s'.trans s2)⟩⟩⟩
          · obtain rfl : V.int q.2 = x := Option.some.inj hx
            exact ⟨rfl, _, rfl, _, rfl, a, b, c, _, rfl, S1.keep s', hc, .inl ⟨_, rfl, fun H2 s2 => ⟨_, s2 _ _ hD', by show 1 < sizeLine; decide, upd_same, same_setL hD (s'.trans s2)⟩⟩⟩
        · rintro H' ⟨hD', s'⟩
          have hD' : H' D = some (.lst [.int q.1, .int q.2]) := hD'
          have S2 := S1.keep s'
          have nD : H D = none := none_of s1 hD
          refine ⟨_, rfl, a, b, c, _, rfl, S2, by omega, by decide, by decide, fun r H2 _ _ S3 B3 => ⟨rfl, _, rfl, ?_⟩⟩
          have hD2 := B3 D _ (hS.neA nD) (hS.neB nD) hD'
          have B := ((sameB_of (s1.trans s')).trans B3)
          refine ite2 (fun _ => ⟨_, rfl, k _ H2 1 (by decide) S3 B ⟨D, rfl, .inl (SqL.of hD2)⟩ (fun z => hS.neA nD (V.ref.inj z)) (fun z => hS.neB nD (V.ref.inj z))⟩) fun _ => ?_
          exact ⟨_, rfl, D, _, rfl, .inl ⟨SqL.of hD2, fun l hl => k _ _ 1 (by decide) (S3.keep (same_upd hl)) (B.trans (sameB_of (same_upd hl))) ⟨l, rfl, .inr (SqT.of upd_same)⟩ (fun z => S3.neA hl (V.ref.inj z)) (fun z => S3.neB hl (V.ref.inj z))⟩⟩
end
end K01

set_option maxHeartbeats 4000000
namespace K01
open PySem PySem.Spec PyProof.Rows L2 SpE He
open C8 (Cal pe_c)
section
variable {P : Program} {w : World} {K : PySem.W.Frag} {mg : Str → Option Value} {base : Heap} {f : Addr} {fd : FuncData}
def scD : PyData → Bool
  | .none => true
  | .bool _ => true
  | .int _ => true
  | .str _ => true
  | _ => false
def spCopy (K : PySem.W.Frag) : Nat → Sp
  | 0 => fun _ _ _ _ => False
  | n + 1 => fun vs H Q _ => ∃ (v : V) (d : PyData), vs = [v] ∧ Dt K H v d ∧ ((scD d = true ∧ ∀ H', Same H H' → Q v H') ∨
      (1 ≤ n ∧ (∃ ds, (d = .list ds ∨ d = .tuple ds) ∧ ∀ x ∈ ds, scD x = true) ∧ ∀ w H', Same H H' → Dt K H' w d → Q w H') ∨
      (d = .dict [] ∧ (∃ p, v = .ref p ∧ H p = some (.dK [])) ∧ ∀ w H', Same H H' → Dt K H' w d → Q w H'))
theorem scD_k {d : PyData} (h : scD d = true) : kitB (tyN d) "list" = some false ∧ kitB (tyN d) "tuple" = some false ∧ kitB (tyN d) "dict" = some false := by
  cases d with
  | none => exact ⟨kb_NoneType_list, kb_NoneType_tuple, kb_NoneType_dict⟩
  | bool b => exact ⟨kb_bool_list, kb_bool_tuple, kb_bool_dict⟩
  | int i => exact ⟨kb_int_list, kb_int_tuple, kb_int_dict⟩
  | str x => exact ⟨kb_str_list, kb_str_tuple, kb_str_dict⟩
  | list l => cases h
  | tuple l => cases h
  | dict l => cases h
theorem sc_law_copy : FnScope ["thing", "found", "key", "one"] ["thing"] (defScope s_law_copy) := ⟨rfl, rfl, rfl, by decide +kernel, rfl, by decide +kernel, by decide +kernel⟩
theorem ok_copy (T : Blt mg) (F : DefOf K "_law_copy" s_law_copy f fd) (g : mg "_law_copy" = some (.ref f)) (b : Binds K fd ["thing"] []) :
    ∀ n, Cal P w K mg base (n + 1) "_law_copy" (spCopy K n) []
  | 0 => cal_of F g b sc_law_copy (fun _ _ _ _ h => False.elim h) (fun _ _ _ _ _ _ _ _ _ h => False.elim h)
  | n + 1 => by
    have C_law_copy := ok_copy T F g b n
    refine cal_of F g b sc_law_copy (fun vs H Q E h => ?_) (fun cdv A outer s H vs Q E hr h => ?_)
    · obtain ⟨v, d, rfl, _⟩ := h
      rfl
    · obtain ⟨v, d, rfl, hd, k⟩ := h
      refine ⟨_, pss_cons (ps_if (pt_val (pe_callB call_isZ rfl T.isinstance bt_isinstance (pa_cons (pv 0) (pa_cons (pe_bltn (v := .ty "list") rfl T.list bt_list rfl) pa_nil)))) (pss_one (ps_ret (pe_lc (own := [("one", 3)]) (g := gName 3) (tt := tYes) rfl sc_law_copy.nd (pi_list (pv 0)) (blkOk_by (own := [("one", 3)]) (N := ["thing", "found", "key", "one"]) (sc := defScope s_law_copy) (by decide +kernel)) (fun _ _ _ _ _ => pg_name (i := 3) sc_law_copy.nd rfl (Or.inl rfl)) (fun _ _ _ _ _ => pts_nil) (fun _ _ _ _ _ => pe_c C_law_copy hr (by first | decide | omega) rfl (pa_cons (pv 3) pa_nil))))) (pss_nil))
  (pss_cons (ps_if (pt_val (pe_callB call_isZ rfl T.isinstance bt_isinstance (pa_cons (pv 0) (pa_cons (pe_bltn (v := .ty "tuple") rfl T.tuple bt_tuple rfl) pa_nil)))) (pss_one (ps_ret (pe_callTy call_tuple_of rfl T.tuple bt_tuple (pa_cons (pe_lc (own := [("one", 3)]) (g := gName 3) (tt := tYes) rfl sc_law_copy.nd (pi_tup (pv 0)) (blkOk_by (own := [("one", 3)]) (N := ["thing", "found", "key", "one"]) (sc := defScope s_law_copy) (by decide +kernel)) (fun _ _ _ _ _ => pg_name (i := 3) sc_law_copy.nd rfl (Or.inl rfl)) (fun _ _ _ _ _ => pts_nil) (fun _ _ _ _ _ => pe_c C_law_copy hr (by first | decide | omega) rfl (pa_cons (pv 3) pa_nil))) pa_nil)))) (pss_nil))
  (pss_cons (ps_if (pt_val (pe_callB call_isZ rfl T.isinstance bt_isinstance (pa_cons (pv 0) (pa_cons (pe_bltn (v := .ty "dict") rfl T.dict bt_dict rfl) pa_nil)))) (pss_cons (ps_set (i := 1) sc_law_copy.nd rfl (Or.inl rfl) (pe_dnewK))
  (pss_cons (ps_lock (ps_for PassesOwn.never rfl (pi_keys (pv 0)) (pg_name (i := 2) sc_law_copy.nd rfl (Or.inl rfl)) (pss_one (ps_asg (pe_c C_law_copy hr (by first | decide | omega) rfl (pa_cons (pe_dget (hu_of hr) (pv 0) (pv 2) (fun _ _ => rfl)) pa_nil)) (pg_sub (pv 1) (pv 2) (set_dict (hu_of hr)))))))
  (pss_one (ps_ret (pv 1))))) (pss_nil))
  (pss_one (ps_ret (pv 0))))), ?_⟩
      dsimp only [cxOf, Cx.nox, Cx.wish]
      rcases k with ⟨sc, k⟩ | ⟨hn, ⟨ds, eq, sc⟩, k⟩ | ⟨rfl, ⟨p, rfl, hp⟩, k⟩
      · obtain ⟨e1, e2, e3⟩ := scD_k sc
        refine ⟨_, rfl, _, _, _, rfl, isz1 hd e1, _, rfl, ?_⟩
        refine iteF ⟨_, rfl, _, _, _, rfl, isz1 hd e2, _, rfl, ?_⟩
        refine iteF ⟨_, rfl, _, _, _, rfl, isz1 hd e3, _, rfl, ?_⟩
        exact iteF ⟨_, rfl, k H (Same.refl H)⟩
      · obtain ⟨m, rfl⟩ : ∃ m, n = m + 1 := ⟨n - 1, by omega⟩
        rcases eq with rfl | rfl
        · cases hd with
          | @lst a xs _ hq hz hx =>
            refine ⟨_, rfl, _, _, _, rfl, isz1 (.lst hq hz hx) kb_list_list, _, rfl, ?_⟩
            refine iteT ⟨_, rfl, a, rfl, ⟨_, hq⟩, fun D hD => lc_list (xs := xs) (fun i H' => H' D = some (.lst (xs.take i)) ∧ Same H H') ⟨upd_same, same_upd hD⟩ (fun i H' _ h => sqL_r (sameR_of h.2) hq) ?_ ?_⟩
            · rintro i x H' hxi ⟨hD', s'⟩
              have hi := (List.getElem?_eq_some_iff.mp hxi).1
              obtain ⟨dx, hdx, tx⟩ := hx.get hxi
              refine ⟨rfl, _, rfl, x, dx, rfl, tx.keep s', .inl ⟨sc dx (List.mem_of_getElem? hdx), fun H2 s2 => ⟨_, s2 _ _ hD', ?_, ?_, same_setL hD (s'.trans s2)⟩⟩⟩
              · rw [List.length_take]
                omega
              · rw [upd_same, List.take_succ, hxi]
                rfl
            · rintro H' ⟨hD', s'⟩
              rw [List.take_length] at hD'
              exact k _ H' s' (.lst (SqL.of hD') hz (hx.keep s'))
        · cases hd with
          | @tup a xs _ hq hz hx =>
            refine ⟨_, rfl, _, _, _, rfl, isz1 (.tup hq hz hx) kb_tuple_list, _, rfl, ?_⟩
            refine iteF ⟨_, rfl, _, _, _, rfl, isz1 (.tup hq hz hx) kb_tuple_tuple, _, rfl, ?_⟩
            refine iteT ⟨_, rfl, a, rfl, ⟨_, hq⟩, fun D hD => lc_tup (xs := xs) (fun i H' => H' D = some (.lst (xs.take i)) ∧ Same H H') ⟨upd_same, same_upd hD⟩ (fun i H' _ h => sqT_r (sameR_of h.2) hq) ?_ ?_⟩
            · rintro i x H' hxi ⟨hD', s'⟩
              have hi := (List.getElem?_eq_some_iff.mp hxi).1
              obtain ⟨dx, hdx, tx⟩ := hx.get hxi
              refine ⟨rfl, _, rfl, x, dx, rfl, tx.keep s', .inl ⟨sc dx (List.mem_of_getElem? hdx), fun H2 s2 => ⟨_, s2 _ _ hD', ?_, ?_, same_setL hD (s'.trans s2)⟩⟩⟩
              · rw [List.length_take]
                omega
              · rw [upd_same, List.take_succ, hxi]
                rfl
            · rintro H' ⟨hD', s'⟩
              rw [List.take_length] at hD'
              refine ⟨D, xs, rfl, .inl ⟨SqL.of hD', fun l hl => ?_⟩⟩
              have s2 := same_upd (o := .tup xs) hl
              exact k _ _ (s'.trans s2) (.tup (SqT.of upd_same) hz (hx.keep (s'.trans s2)))
      · refine ⟨_, rfl, _, _, _, rfl, isz1 hd kb_dict_list, _, rfl, ?_⟩
        refine iteF ⟨_, rfl, _, _, _, rfl, isz1 hd kb_dict_tuple, _, rfl, ?_⟩
        refine iteF ⟨_, rfl, _, _, _, rfl, isz1 hd kb_dict_dict, _, rfl, ?_⟩
        refine iteT fun a ha => ?_
        have nap : p ≠ a := ne_of_none hp ha
        refine ⟨p, .dK [], by rw [upd_ne nap]; exact hp, True.intro, fun od => ?_⟩
        refine ⟨_, rfl, p, od, rfl, .inl ⟨[], upd_same, fun i _ σ' H' => i = 0 ∧ σ' = [some (.ref p), some (.ref a), none, none] ∧ H' = upd (upd H a (.dK [])) p (.frz od (.dK [])), ⟨0, rfl, rfl, rfl⟩, ?_⟩⟩
        rintro i m σ' H' ⟨rfl, rfl, rfl⟩
        refine .inl ⟨⟨upd_same, Nat.le_refl _⟩, upd_same, ?_⟩
        refine ⟨_, rfl, k _ _ ?_ ?_⟩
        · intro b o e
          by_cases c : b = p
          · subst c
            rw [upd_same, ← e, hp]
          · rw [upd_ne c, upd_ne c, upd_ne (ne_of_none e ha)]
            exact e
        · refine .dct (kvs := []) (Rd.of ?_) List.nodup_nil (Nat.zero_le _) rfl .nil
          rw [upd_ne nap.symm, upd_ne nap.symm, upd_same]
end
end K01

set_option maxHeartbeats 4000000
namespace K01
open PySem PySem.Spec PyProof.Rows L2 SpE He
open C8 (Cal pe_c)
section
variable {P : Program} {w : World} {K : PySem.W.Frag} {mg : Str → Option Value} {base : Heap} {f : Addr} {fd : FuncData}
def numS (i : Int) : Str := Str.ofString (toString i)
def textq (q : Int × Int) : Str := if q.2 = 1 then numS q.1 else numS q.1 ++ (("/" : Str) ++ numS q.2)
theorem app_nil (x : Str) : x ++ ("" : Str) = x := by
  show (⟨x.cps ++ ("" : Str).cps⟩ : Str) = x
  have e : ("" : Str).cps = #[] := by decide +kernel
  rw [e, Array.append_empty]
theorem app_assoc (x y z : Str) : (x ++ y) ++ z = x ++ (y ++ z) := by
  show (⟨(x.cps ++ y.cps) ++ z.cps⟩ : Str) = ⟨x.cps ++ (y.cps ++ z.cps)⟩
  rw [Array.append_assoc]
theorem app_len (x y : Str) : (x ++ y).length = x.length + y.length := by
  show (x.cps ++ y.cps).size = _
  rw [Array.size_append]
  rfl
theorem log_30 {i : Int} (h1 : -1073741824 < i) (h2 : i < 1073741824) : i.natAbs.log2 < 1920 := by
  by_cases e : i.natAbs = 0
  · rw [e]
    decide
  · have z : i.natAbs.log2 < 30 := (Nat.log2_lt e).mpr (by show i.natAbs < 2 ^ 30; omega)
    omega
theorem num_len {i : Int} (h1 : -1073741824 < i) (h2 : i < 1073741824) : (numS i).length ≤ 1921 := int_text_len_1921 (log_30 h1 h2)
theorem fits2 {q : Int × Int} (h : Sm q) : (numS q.1).length + (("/" : Str) ++ numS q.2).length ≤ sizeLine ∧ ("/" : Str).length + (numS q.2).length ≤ sizeLine ∧ (numS q.1).length + ("" : Str).length ≤ sizeLine ∧ (numS q.1).length + ("/" : Str).length ≤ sizeLine ∧ (numS q.1 ++ ("/" : Str)).length + (numS q.2).length ≤ sizeLine := by
  obtain ⟨a, b, c, d⟩ := h
  have h1 := num_len a b
  have h2 := num_len (i := q.2) (by omega) d
  have e1 : ("/" : Str).length = 1 := by decide +kernel
  have e0 : ("" : Str).length = 0 := by decide +kernel
  rw [app_len, app_len, e1, e0, sizeLine_eq]
  omega
def spText (K : PySem.W.Frag) : Sp := fun vs H Q _ => ∃ (v : V) (q : Int × Int), vs = [v] ∧ QAt K H v q ∧ Sm q ∧ Q (.str (textq q)) H
theorem sc_text_of_quotient : FnScope ["q"] ["q"] (defScope s_text_of_quotient) := ⟨rfl, rfl, rfl, by decide +kernel, rfl, by decide +kernel, by decide +kernel⟩
theorem ok_text_of (T : Blt mg) (F : DefOf K "text_of_quotient" s_text_of_quotient f fd) (g : mg "text_of_quotient" = some (.ref f)) (b : Binds K fd ["q"] []) : Cal P w K mg base 1 "text_of_quotient" (spText K) [] := by
  refine cal_of F g b sc_text_of_quotient (fun vs H Q E h => ?_) (fun cdv A outer s H vs Q E hr h => ?_)
  · obtain ⟨v, q, rfl, _⟩ := h
    rfl
  · obtain ⟨v, q, rfl, ⟨a, rfl, hs⟩, sm, k⟩ := h
    refine ⟨_, pss_one (ps_ret (pe_op op_add_str (pe_callTy call_str_int rfl T.str bt_str (pa_cons (pe_ix (ix_sqA (K := K) rfl) (pv 0) (pe_int) (fun _ _ => rfl)) pa_nil)) (pe_ifExp (pt_cmpR op_gt (pe_ix (ix_sqA (K := K) rfl) (pv 0) (pe_int) (fun _ _ => rfl)) (pe_int) (nomark _)) (pe_op op_add_str (pe_str) (pe_callTy call_str_int rfl T.str bt_str (pa_cons (pe_ix (ix_sqA (K := K) rfl) (pv 0) (pe_int) (fun _ _ => rfl)) pa_nil))) (pe_str)))), ?_⟩
    obtain ⟨f1, f2, f3, _, _⟩ := fits2 sm
    have sm' := sm
    obtain ⟨s1, s2, s3, s4⟩ := sm'
    refine ⟨_, rfl, a, _, 0, _, rfl, rfl, hs, rfl, q.1, rfl, log_30 s1 s2, ?_⟩
    refine ⟨_, rfl, a, _, 1, _, rfl, rfl, hs, rfl, _, _, rfl, rfl, _, rfl, ?_⟩
    unfold textq at k
    by_cases c : 1 < q.2
    · rw [if_neg (by omega)] at k
      refine ite2 (fun _ => ?_) fun z => absurd (decide_eq_true c) z
      exact ⟨_, rfl, a, _, 1, _, rfl, rfl, hs, rfl, q.2, rfl, log_30 (by omega) s4, _, _, rfl, rfl, f2, _, _, rfl, rfl, f1, k⟩
    · rw [if_pos (by omega)] at k
      refine ite2 (fun z => absurd (of_decide_eq_true z) c) fun _ => ?_
      refine ⟨_, _, rfl, rfl, f3, ?_⟩
      rw [app_nil]
      exact k
theorem sc_law_q_text : FnScope ["q"] ["q"] (defScope s_law_q_text) := ⟨rfl, rfl, rfl, by decide +kernel, rfl, by decide +kernel, by decide +kernel⟩
theorem ok_law_q_text (T : Blt mg) (F : DefOf K "_law_q_text" s_law_q_text f fd) (g : mg "_law_q_text" = some (.ref f)) (b : Binds K fd ["q"] []) : Cal P w K mg base 1 "_law_q_text" (spText K) [] := by
  refine cal_of F g b sc_law_q_text (fun vs H Q E h => ?_) (fun cdv A outer s H vs Q E hr h => ?_)
  · obtain ⟨v, q, rfl, _⟩ := h
    rfl
  · obtain ⟨v, q, rfl, ⟨a, rfl, hs⟩, sm, k⟩ := h
    refine ⟨_, pss_one (ps_ret (pe_ifExp (pt_cmpR op_eq (pe_ix (ix_sqA (K := K) rfl) (pv 0) (pe_int) (fun _ _ => rfl)) (pe_int) (nomark _)) (pe_callTy call_str_int rfl T.str bt_str (pa_cons (pe_ix (ix_sqA (K := K) rfl) (pv 0) (pe_int) (fun _ _ => rfl)) pa_nil)) (pe_op op_add_str (pe_op op_add_str (pe_callTy call_str_int rfl T.str bt_str (pa_cons (pe_ix (ix_sqA (K := K) rfl) (pv 0) (pe_int) (fun _ _ => rfl)) pa_nil)) (pe_str)) (pe_callTy call_str_int rfl T.str bt_str (pa_cons (pe_ix (ix_sqA (K := K) rfl) (pv 0) (pe_int) (fun _ _ => rfl)) pa_nil))))), ?_⟩
    obtain ⟨_, _, _, f4, f5⟩ := fits2 sm
    have sm' := sm
    obtain ⟨s1, s2, s3, s4⟩ := sm'
    refine ⟨_, rfl, a, _, 1, _, rfl, rfl, hs, rfl, rfl, _, rfl, ?_⟩
    unfold textq at k
    by_cases c : q.2 = 1
    · rw [if_pos c] at k
      refine ite2 (fun _ => ?_) fun z => absurd (decide_eq_true (congrArg V.int c)) z
      exact ⟨_, rfl, a, _, 0, _, rfl, rfl, hs, rfl, q.1, rfl, log_30 s1 s2, k⟩
    · rw [if_neg c] at k
      refine ite2 (fun z => absurd (V.int.inj (of_decide_eq_true z)) c) fun _ => ?_
      refine ⟨_, rfl, a, _, 0, _, rfl, rfl, hs, rfl, q.1, rfl, log_30 s1 s2, _, _, rfl, rfl, f4, ?_⟩
      refine ⟨_, rfl, a, _, 1, _, rfl, rfl, hs, rfl, q.2, rfl, log_30 (by omega) s4, _, _, rfl, rfl, f5, ?_⟩
      rw [← app_assoc] at k
      exact k
theorem sc_quotient_text : FnScope ["q"] ["q"] (defScope s_quotient_text) := ⟨rfl, rfl, rfl, by decide +kernel, rfl, by decide +kernel, by decide +kernel⟩
theorem ok_quotient_text (T : Txt P w K mg base) (C_need_quotient : CalX P w K mg base 4 "need_quotient" ["q"] (spNeed K)) (C_text_of_quotient : Cal P w K mg base 1 "text_of_quotient" (spText K) [])
    (F : DefOf K "quotient_text" s_quotient_text f fd) (g : mg "quotient_text" = some (.ref f)) (b : Binds K fd ["q"] []) (b2 : ∀ (s : Shared) (us : List Value), us.length = (1 : Nat) → BindsTo s fd ⟨[], (["q"] : List Str).zip us⟩ ((["q"] : List Str).zip us.reverse)) :
    CalX P w K mg base 5 "quotient_text" ["q"] (spOne K (fun q => .str (textq q)) Sm) := by
  refine calX_of (ps := ["q"]) F g b b2 sc_quotient_text (fun vs H Q E h => ?_) (fun cdv A outer s H vs Q E hr h => ?_)
  · obtain ⟨v, d, rfl, _⟩ := h
    rfl
  · obtain ⟨v, d, rfl, hd, k1, k2⟩ := h
    refine ⟨_, pss_cons (ps_expr (pe_x C_need_quotient hr (by first | decide | omega) (lets_try (takes_of rfl rfl rfl rfl)) rfl (pa_cons (pv 0) pa_nil)))
  (pss_one (ps_ret (pe_c C_text_of_quotient hr (by first | decide | omega) rfl (pa_cons (pv 0) pa_nil)))), ?_⟩
    refine ⟨_, rfl, v, d, rfl, hd, k1, fun hq H1 s1 => ?_⟩
    obtain ⟨q, hq, sm, k⟩ := k2 hq
    exact ⟨_, rfl, v, q, rfl, hq.keep s1, sm, k _ H1 s1 (.str _)⟩
def inD (c : Nat) : Bool := decide (c ∈ ("0123456789" : Str).cps.toList)
def numIn (x : Str) : Option Int := if x = "" then none else if x.cps.toList.all inD = false then none else if x.cps[0]? = some 48 ∧ x ≠ "0" then none else PySem.intText? x
theorem inD_dig {c : Nat} (h : inD c = true) : 48 ≤ c ∧ c ≤ 57 := by
  have e : ("0123456789" : Str).cps.toList = [48, 49, 50, 51, 52, 53, 54, 55, 56, 57] := by decide +kernel
  unfold inD at h
  rw [e] at h
  have h := of_decide_eq_true h
  simp only [List.mem_cons, List.not_mem_nil, or_false] at h
  omega
theorem int_in {x : Str} (h : x ≠ "") (a : x.cps.toList.all inD = true) (l : x.length ≤ 640) : ∃ n : Nat, PySem.intText? x = some (n : Int) :=
  ⟨_, PySem.intText_digits (fun c hc => inD_dig (List.all_eq_true.mp a c hc)) (fun z => h (by
    obtain ⟨⟨cs⟩⟩ := x
    have z : cs = [] := z
    subst z
    decide +kernel)) (by omega)⟩
def numV (x : Str) : V := match numIn x with
  | some n => .int n
  | none => .non
theorem sc_numeral_in : FnScope ["text", "sign"] ["text"] (defScope s_numeral_in) := ⟨rfl, rfl, rfl, by decide +kernel, rfl, by decide +kernel, by decide +kernel⟩
theorem ok_numeral_in (T : Blt mg) (gD : ∃ tk, mg "DIGITS" = some (.str "0123456789" tk)) (F : DefOf K "numeral_in" s_numeral_in f fd) (g : mg "numeral_in" = some (.ref f)) (b : Binds K fd ["text"] []) :
    Cal P w K mg base 1 "numeral_in" (fun vs H Q _ => ∃ x : Str, vs = [.str x] ∧ x.length ≤ 640 ∧ ∀ H', Same H H' → Q (numV x) H') [] := by
  obtain ⟨tk, gD⟩ := gD
  refine cal_of F g b sc_numeral_in (fun vs H Q E h => ?_) (fun cdv A outer s H vs Q E hr h => ?_)
  · obtain ⟨x, rfl, _⟩ := h
    rfl
  · obtain ⟨x, rfl, hx, k⟩ := h
    refine ⟨_, pss_cons (ps_if (PW.pt (pw_or (pt_cmpR op_eq (pv 0) (pe_str) (nomark _)) (pw_or (pt_not (pt_val (pe_callB (cr_all rfl) rfl T.all bt_all (pa_cons (pe_lc (own := [("sign", 1)]) (g := gName 1) (tt := tYes) rfl sc_numeral_in.nd (pi_str (pv 0)) (blkOk_by (own := [("sign", 1)]) (N := ["text", "sign"]) (sc := defScope s_numeral_in) (by decide +kernel)) (fun _ _ _ _ _ => pg_name (i := 1) sc_numeral_in.nd rfl (Or.inl rfl)) (fun _ _ _ _ _ => pts_nil) (fun _ _ _ _ _ => pe_cmpR op_inS (pv 1) (pe_glob (v := .str "0123456789") rfl gD ⟨tk, rfl⟩) rfl)) pa_nil)))) (pw_or1 (PW.pt (pw_and (pt_cmpR op_eq (pe_ix ix_str (pv 0) (pe_int) (fun _ _ => rfl)) (pe_str) (nomark _)) (pw_and1 (pt_cmpR op_ne (pv 0) (pe_str) (nomark _))))))))) (pss_one (ps_ret (pe_non))) (pss_nil))
  (pss_one (ps_ret (pe_callTy call_int_str rfl T.int bt_int (pa_cons (pv 0) pa_nil)))), ?_⟩
    dsimp only [cxOf, Cx.nox, Cx.wish]
    unfold numV numIn at k
    refine ⟨_, rfl, rfl, _, rfl, ?_⟩
    by_cases h0 : x = ""
    · rw [if_pos h0] at k
      refine ite2 (fun _ => ?_) fun z => absurd (decide_eq_true (congrArg V.str h0)) z
      exact iteT (k H (Same.refl H))
    · rw [if_neg h0] at k
      refine ite2 (fun z => absurd (V.str.inj (of_decide_eq_true z)) h0) fun _ => ?_
      refine ⟨_, rfl, x, rfl, fun D hD => lc_it walk_str (fun i H' => H' D = some (.lst ((x.cps.toList.take i).map fun c => V.bl (inD c))) ∧ Same H H') ⟨upd_same, same_upd hD⟩ (fun _ _ _ _ => True.intro) ?_ ?_⟩
      · rintro i y H1 H2 hi ⟨d', s'⟩ ⟨rfl, c, hc, rfl⟩
        refine ⟨rfl, _, rfl, c, _, rfl, rfl, _, d', ?_, ?_, same_setL hD s'⟩
        · rw [List.length_map, List.length_take, sizeLine_eq]
          have : x.length = x.cps.toList.length := (Array.length_toList).symm
          omega
        · rw [upd_same, List.take_succ, Array.getElem?_toList, hc, List.map_append]
          rfl
      · rintro H1 ⟨d', s'⟩
        rw [← Array.length_toList, List.take_length] at d'
        refine ⟨D, x.cps.toList.map inD, rfl, SqL.of (by rw [List.map_map]; exact d'), _, rfl, ?_⟩
        have ea : (x.cps.toList.map inD).all id = x.cps.toList.all inD := by rw [List.all_map]; rfl
        rw [ea]
        cases e : x.cps.toList.all inD with
        | false =>
          rw [if_pos e] at k
          exact iteT (iteT (k H1 s'))
        | true =>
          rw [if_neg (by rw [e]; decide)] at k
          obtain ⟨n, en⟩ := int_in h0 e hx
          obtain ⟨c, hc⟩ : ∃ c, x.cps[0]? = some c := by
            cases q : x.cps[0]? with
            | some c => exact ⟨c, rfl⟩
            | none =>
              exfalso
              obtain ⟨a⟩ := x
              have z : a.size ≤ 0 := Array.getElem?_eq_none_iff.mp q
              have z2 : a = #[] := Array.eq_empty_of_size_eq_zero (by omega)
              subst z2
              exact h0 (by decide +kernel)
          refine iteF ⟨_, rfl, x, 0, c, rfl, rfl, by rw [sizeLine_eq]; omega, atI_nat (j := 0) (by rw [Array.getElem?_toList]; exact hc), rfl, _, rfl, ?_⟩
          have z48 : (Str.mk #[48]) = ("0" : Str) := by decide +kernel
          by_cases c48 : c = 48
          · subst c48
            refine ite2 (fun _ => ?_) fun z => absurd (decide_eq_true (congrArg V.str z48)) z
            refine ⟨_, rfl, rfl, _, rfl, ?_⟩
            by_cases x0 : x = "0"
            · rw [if_neg (fun z => z.2 x0), en] at k
              rw [decide_eq_true (congrArg V.str x0)]
              exact iteF ⟨_, rfl, x, n, rfl, en, hx, k H1 s'⟩
            · rw [if_pos ⟨hc, x0⟩] at k
              rw [decide_eq_false (fun z => x0 (V.str.inj z))]
              exact iteT (k H1 s')
          · rw [if_neg (fun z => c48 (Option.some.inj (hc.symm.trans z.1))), en] at k
            refine ite2 (fun z => ?_) fun _ => ?_
            · exfalso
              have e1 := V.str.inj (of_decide_eq_true z)
              rw [← z48] at e1
              have e2 := congrArg (fun s : Str => s.cps[0]?) e1
              exact c48 (Option.some.inj e2)
            · exact iteF ⟨_, rfl, x, n, rfl, en, hx, k H1 s'⟩
end
end K01

set_option maxHeartbeats 4000000
namespace K01
open PySem PySem.Spec PyProof.Rows L2 SpE He
open C8 (Cal pe_c)
section
variable {P : Program} {w : World} {K : PySem.W.Frag} {mg : Str → Option Value} {base : Heap} {f : Addr} {fd : FuncData}
def minusS (x : Str) : Bool := decide (cutS x none (some 1) = "-")
def bodyS (x : Str) : Str := if minusS x = true then cutS x (some 1) none else x
def quotP (parts : List Str) : Option (Int × Int) := match parts with
  | [a] => (numIn (bodyS a)).bind fun n => if minusS a = true ∧ n = 0 then none else some (if minusS a = true then -n else n, 1)
  | [a, b] => (numIn (bodyS a)).bind fun n => (numIn b).bind fun m => if minusS a = true ∧ n = 0 then none else if m < 2 ∨ Int.gcd n m ≠ 1 then none else some (if minusS a = true then -n else n, m)
  | _ => none
theorem quotP1 (a : Str) : quotP [a] = (numIn (bodyS a)).bind fun n => if minusS a = true ∧ n = 0 then none else some (if minusS a = true then -n else n, 1) := rfl
theorem quotP2 (a b : Str) : quotP [a, b] = (numIn (bodyS a)).bind fun n => (numIn b).bind fun m => if minusS a = true ∧ n = 0 then none else if m < 2 ∨ Int.gcd n m ≠ 1 then none else some (if minusS a = true then -n else n, m) := rfl
theorem quotP3 (a b c : Str) (r : List Str) : quotP (a :: b :: c :: r) = none := rfl
theorem minus_dec (a : Str) : decide (V.str (cutS a none (some 1)) = V.str "-") = minusS a := by
  unfold minusS
  rw [Bool.eq_iff_iff]
  simp
def quotIn (x : Str) : Option (Int × Int) := quotP (PySem.Txt.split x "/")
def spQin (K : PySem.W.Frag) : Sp := fun vs H Q _ => ∃ x : Str, vs = [.str x] ∧ x.length ≤ 640 ∧ (quotIn x = none → ∀ H', Same H H' → Q .non H') ∧ (∀ q, quotIn x = some q → ∀ t H', Same H H' → H' t = some (.tup [.int q.1, .int q.2]) → Q (.ref t) H')
theorem sc_quotient_in : FnScope ["text", "parts", "first", "second"] ["text"] (defScope s_quotient_in) := ⟨rfl, rfl, rfl, by decide +kernel, rfl, by decide +kernel, by decide +kernel⟩
theorem ok_quotient_in (T : Blt mg) (C_numeral_in : Cal P w K mg base 1 "numeral_in" (fun vs H Q _ => ∃ x : Str, vs = [.str x] ∧ x.length ≤ 640 ∧ ∀ H', Same H H' → Q (numV x) H') []) (C_common_divisor : Cal P w K mg base 1 "common_divisor" spGcd [])
    (F : DefOf K "quotient_in" s_quotient_in f fd) (g : mg "quotient_in" = some (.ref f)) (b : Binds K fd ["text"] []) : Cal P w K mg base 2 "quotient_in" (spQin K) [] := by
  refine cal_of F g b sc_quotient_in (fun vs H Q E h => ?_) (fun cdv A outer s H vs Q E hr h => ?_)
  · obtain ⟨x, rfl, _⟩ := h
    rfl
  · obtain ⟨x, rfl, hx, k1, k2⟩ := h
    refine ⟨_, pss_cons (ps_set (i := 1) sc_quotient_in.nd rfl (Or.inl rfl) (pe_bm PySem.F.plainAttrs_str PySem.F.slot_str_split PySem.F.type_str_split mt_split (pv 0) (pa_cons (pe_str) pa_nil)))
  (pss_cons (ps_set (i := 2) sc_quotient_in.nd rfl (Or.inl rfl) (pe_c C_numeral_in hr (by first | decide | omega) rfl (pa_cons (pe_ifExp (pt_cmpR op_eq (pe_slice sl_str (pe_ix ix_list (pv 1) (pe_int) (fun _ _ => rfl)) (po_none) (po_some (pe_int))) (pe_str) (nomark _)) (pe_slice sl_str (pe_ix ix_list (pv 1) (pe_int) (fun _ _ => rfl)) (po_some (pe_int)) (po_none)) (pe_ix ix_list (pv 1) (pe_int) (fun _ _ => rfl))) pa_nil)))
  (pss_cons (ps_set (i := 3) sc_quotient_in.nd rfl (Or.inl rfl) (pe_ifExp (pt_cmpR op_eq (pe_callB call_len_seq rfl T.len bt_len (pa_cons (pv 1) pa_nil)) (pe_int) (nomark _)) (pe_int) (pe_c C_numeral_in hr (by first | decide | omega) rfl (pa_cons (pe_ix ix_list (pv 1) (pe_int) (fun _ _ => rfl)) pa_nil))))
  (pss_cons (ps_if (PW.pt (pw_or (pt_cmpR op_gt (pe_callB call_len_seq rfl T.len bt_len (pa_cons (pv 1) pa_nil)) (pe_int) (nomark _)) (pw_or (pt_cmpR op_isN (pv 2) (pe_non) (nomark _)) (pw_or (pt_cmpR op_isN (pv 3) (pe_non) (nomark _)) (pw_or1 (PW.pt (pw_and (pt_cmpR op_eq (pe_slice sl_str (pe_ix ix_list (pv 1) (pe_int) (fun _ _ => rfl)) (po_none) (po_some (pe_int))) (pe_str) (nomark _)) (pw_and1 (pt_cmpR op_eq (pv 2) (pe_int) (nomark _)))))))))) (pss_one (ps_ret (pe_non))) (pss_nil))
  (pss_cons (ps_if (PW.pt (pw_and (pt_cmpR op_eq (pe_callB call_len_seq rfl T.len bt_len (pa_cons (pv 1) pa_nil)) (pe_int) (nomark _)) (pw_and1 (PW.pt (pw_or (pt_cmpR op_lt (pv 3) (pe_int) (nomark _)) (pw_or1 (pt_cmpR op_ne (pe_c C_common_divisor hr (by first | decide | omega) rfl (pa_cons (pv 2) (pa_cons (pv 3) pa_nil))) (pe_int) (nomark _)))))))) (pss_one (ps_ret (pe_non))) (pss_nil))
  (pss_one (ps_ret (pe_tup (pa_cons (pe_ifExp (pt_cmpR op_eq (pe_slice sl_str (pe_ix ix_list (pv 1) (pe_int) (fun _ _ => rfl)) (po_none) (po_some (pe_int))) (pe_str) (nomark _)) (pe_un un_neg (pv 2)) (pv 2)) (pa_cons (pv 3) pa_nil))))))))), ?_⟩
    dsimp only [cxOf, Cx.nox, Cx.wish]
    have pos := split_pos x "/"
    have short : ∀ p ∈ PySem.Txt.split x "/", p.length ≤ 640 := fun p hp => Nat.le_trans (part_short hp) hx
    unfold quotIn at k1 k2
    refine ⟨_, rfl, rfl, x, "/", rfl, rfl, by decide +kernel, by rw [sizeLine_eq]; omega, fun p hp => ?_⟩
    have s1 := same_upd (o := .lst ((PySem.Txt.split x "/").map V.str)) hp
    have hp1 : upd H p (.lst ((PySem.Txt.split x "/").map V.str)) p = some (.lst ((PySem.Txt.split x "/").map V.str)) := upd_same
    generalize upd H p (.lst ((PySem.Txt.split x "/").map V.str)) = H1 at s1 hp1 ⊢
    generalize PySem.Txt.split x "/" = ps at *
    obtain ⟨a, r, rfl⟩ : ∃ a r, ps = a :: r := by
      cases ps with
      | nil => exact absurd pos (by decide)
      | cons a r => exact ⟨a, r, rfl⟩
    have la := short a List.mem_cons_self
    have cut : ∀ lo hi, (cutS a lo hi).length ≤ 640 := fun lo hi => Nat.le_trans (cutS_length a lo hi) la
    -- first
    refine ⟨_, rfl, p, _, 0, _, rfl, rfl, SqL.of hp1, atI_nat (j := 0) rfl, ?_⟩
    have le : a.length ≤ sizeLine := by rw [sizeLine_eq]; omega
    have i0 : atI ((a :: r).map V.str) 0 = some (.str a) := atI_nat (j := 0) rfl
    refine ⟨1, rfl, a, rfl, le, rfl, _, rfl, ?_⟩
    by_cases hm : cutS a none (some 1) = "-"
    · refine ite2 (fun _ => ?_) fun z => absurd (decide_eq_true (congrArg V.str hm)) z
      have em : minusS a = true := decide_eq_true hm
      refine ⟨_, rfl, p, _, 0, _, rfl, rfl, SqL.of hp1, i0, 1, rfl, a, rfl, le, _, rfl, cut _ _, fun H2 s2 => ?_⟩
      rw [show cutS a (some 1) none = bodyS a by unfold bodyS; rw [if_pos em]]
      have hp2 := s2 _ _ hp1
      have s12 := s1.trans s2
      cases r with
      | nil =>
        have L1 : SqL K H2 p [V.str a] := SqL.of hp2
        refine ⟨_, rfl, p, _, rfl, .inl L1, rfl, _, rfl, ?_⟩
        refine ite2 (fun _ => ?_) fun z => absurd (decide_eq_true rfl) z
        refine ⟨_, rfl, p, _, rfl, .inl L1, _, _, rfl, rfl, _, rfl, ?_⟩
        refine ite2 (fun z => absurd (of_decide_eq_true z) (by show ¬ (2 : Int) < 1; decide)) fun _ => ?_
        rw [quotP1] at k1 k2
        unfold numV
        cases en : numIn (bodyS a) with
        | none =>
          rw [en] at k1
          refine ⟨_, rfl, rfl, _, rfl, ?_⟩
          refine ite2 (fun _ => ?_) fun z => absurd (decide_eq_true rfl) z
          exact iteT (k1 rfl H2 s12)
        | some n =>
          rw [en] at k1 k2
          have k1 : (if minusS a = true ∧ n = 0 then none else some (if minusS a = true then -n else n, (1 : Int))) = none → ∀ H', Same H H' → Q .non H' := k1
          have k2 : ∀ q, (if minusS a = true ∧ n = 0 then none else some (if minusS a = true then -n else n, (1 : Int))) = some q → ∀ t H', Same H H' → H' t = some (.tup [.int q.1, .int q.2]) → Q (.ref t) H' := k2
          refine ⟨_, rfl, rfl, _, rfl, ?_⟩
          refine ite2 (fun z => absurd (of_decide_eq_true z) (fun y => by cases y)) fun _ => ?_
          refine ⟨_, rfl, rfl, _, rfl, ?_⟩
          refine ite2 (fun z => absurd (of_decide_eq_true z) (fun y => by cases y)) fun _ => ?_
          refine ⟨_, rfl, p, _, 0, _, rfl, rfl, L1, i0, 1, rfl, a, rfl, le, rfl, _, rfl, ?_⟩
          rw [minus_dec, em]
          refine iteT ⟨_, rfl, rfl, _, rfl, ?_⟩
          by_cases hn : n = 0
          · refine ite2 (fun _ => ?_) fun z => absurd (decide_eq_true (congrArg V.int hn)) z
            refine iteT (B := True) ?_
            exact k1 (if_pos ⟨em, hn⟩) H2 s12
          · have hn2 : ¬ (minusS a = true ∧ n = 0) := fun z => hn z.2
            refine ite2 (fun z => absurd (V.int.inj (of_decide_eq_true z)) hn) fun _ => ?_
            rw [if_neg hn2] at k1 k2
            refine ⟨_, rfl, p, _, rfl, .inl L1, rfl, _, rfl, ?_⟩
            refine ite2 (fun z => absurd (V.int.inj (of_decide_eq_true z)) (fun y => by cases y)) fun _ => ?_
            refine ⟨_, rfl, p, _, 0, _, rfl, rfl, L1, i0, 1, rfl, a, rfl, le, rfl, _, rfl, ?_⟩
            rw [minus_dec, em]
            refine iteT ⟨_, rfl, n, rfl, _, rfl, by show 2 ≤ sizeLine; decide, fun t ht => ?_⟩
            rw [em] at k2; exact k2 _ rfl t _ (s12.trans (same_upd ht)) upd_same
      | cons b r2 =>
        have lb := short b (List.mem_cons_of_mem _ List.mem_cons_self)
        cases r2 with
        | cons c r3 =>
          have L1 : SqL K H2 p (V.str a :: V.str b :: V.str c :: r3.map V.str) := SqL.of hp2
          refine ⟨_, rfl, p, _, rfl, .inl L1, rfl, _, rfl, ?_⟩
          refine ite2 (fun z => absurd (V.int.inj (of_decide_eq_true z)) (by rw [List.length_cons, List.length_cons]; omega)) fun _ => ?_
          refine ⟨_, rfl, p, _, 1, _, rfl, rfl, L1, atI_nat (j := 1) rfl, b, rfl, lb, fun H3 s3 => ?_⟩
          refine ⟨_, rfl, p, _, rfl, .inl (SqL.of (s3 _ _ hp2)), _, _, rfl, rfl, _, rfl, ?_⟩
          refine ite2 (fun _ => ?_) fun z => absurd (decide_eq_true (by show (2 : Int) < ((r3.map V.str).length + 1 + 1 + 1 : Nat); omega)) z
          exact iteT (k1 rfl H3 (s12.trans s3))
        | nil =>
          have L0 : SqL K H2 p [V.str a, V.str b] := SqL.of hp2
          refine ⟨_, rfl, p, _, rfl, .inl L0, rfl, _, rfl, ?_⟩
          refine ite2 (fun z => absurd (V.int.inj (of_decide_eq_true z)) (fun y => by cases y)) fun _ => ?_
          refine ⟨_, rfl, p, _, 1, _, rfl, rfl, L0, atI_nat (j := 1) rfl, b, rfl, lb, fun H3 s3 => ?_⟩
          have L1 : SqL K H3 p [V.str a, V.str b] := SqL.of (s3 _ _ hp2)
          have s13 := s12.trans s3
          refine ⟨_, rfl, p, _, rfl, .inl L1, _, _, rfl, rfl, _, rfl, ?_⟩
          refine ite2 (fun z => absurd (of_decide_eq_true z) (by show ¬ (2 : Int) < 2; decide)) fun _ => ?_
          rw [quotP2] at k1 k2
          unfold numV
          cases en : numIn (bodyS a) with
          | none =>
            rw [en] at k1
            refine ⟨_, rfl, rfl, _, rfl, ?_⟩
            refine ite2 (fun _ => ?_) fun z => absurd (decide_eq_true rfl) z
            exact iteT (k1 rfl H3 s13)
          | some n =>
            rw [en] at k1 k2
            refine ⟨_, rfl, rfl, _, rfl, ?_⟩
            refine ite2 (fun z => absurd (of_decide_eq_true z) (fun y => by cases y)) fun _ => ?_
            cases em2 : numIn b with
            | none =>
              rw [em2] at k1
              refine ⟨_, rfl, rfl, _, rfl, ?_⟩
              refine ite2 (fun _ => ?_) fun z => absurd (decide_eq_true rfl) z
              exact iteT (k1 rfl H3 s13)
            | some m =>
              rw [em2] at k1 k2
              have k1 : (if minusS a = true ∧ n = 0 then none else if m < 2 ∨ Int.gcd n m ≠ 1 then none else some (if minusS a = true then -n else n, m)) = none → ∀ H', Same H H' → Q .non H' := k1
              have k2 : ∀ q, (if minusS a = true ∧ n = 0 then none else if m < 2 ∨ Int.gcd n m ≠ 1 then none else some (if minusS a = true then -n else n, m)) = some q → ∀ t H', Same H H' → H' t = some (.tup [.int q.1, .int q.2]) → Q (.ref t) H' := k2
              refine ⟨_, rfl, rfl, _, rfl, ?_⟩
              refine ite2 (fun z => absurd (of_decide_eq_true z) (fun y => by cases y)) fun _ => ?_
              refine ⟨_, rfl, p, _, 0, _, rfl, rfl, L1, i0, 1, rfl, a, rfl, le, rfl, _, rfl, ?_⟩
              rw [minus_dec, em]
              refine iteT ⟨_, rfl, rfl, _, rfl, ?_⟩
              by_cases hn : n = 0
              · refine ite2 (fun _ => ?_) fun z => absurd (decide_eq_true (congrArg V.int hn)) z
                refine iteT (B := True) ?_
                exact k1 (if_pos ⟨em, hn⟩) H3 s13
              · have hn2 : ¬ (minusS a = true ∧ n = 0) := fun z => hn z.2
                refine ite2 (fun z => absurd (V.int.inj (of_decide_eq_true z)) hn) fun _ => ?_
                rw [if_neg hn2] at k1 k2
                refine ⟨_, rfl, p, _, rfl, .inl L1, rfl, _, rfl, ?_⟩
                refine ite2 (fun _ => ?_) fun z => absurd (decide_eq_true rfl) z
                refine ⟨_, rfl, _, _, rfl, rfl, _, rfl, ?_⟩
                by_cases hm2 : m < 2
                · refine ite2 (fun _ => ?_) fun z => absurd (decide_eq_true hm2) z
                  exact iteT (k1 (if_pos (.inl hm2)) H3 s13)
                · refine ite2 (fun z => absurd (of_decide_eq_true z) hm2) fun _ => ?_
                  refine ⟨_, rfl, _, rfl, n, m, rfl, rfl, _, rfl, ?_⟩
                  by_cases hg : Int.gcd n m = 1
                  · rw [if_neg (fun z => z.elim hm2 (fun y => y hg))] at k2
                    refine ite2 (fun z => absurd z (by rw [hg]; decide)) fun _ => ?_
                    refine ⟨_, rfl, p, _, 0, _, rfl, rfl, L1, i0, 1, rfl, a, rfl, le, rfl, _, rfl, ?_⟩
                    rw [minus_dec, em]
                    refine iteT ⟨_, rfl, n, rfl, _, rfl, by show 2 ≤ sizeLine; decide, fun t ht => ?_⟩
                    rw [em] at k2; exact k2 _ rfl t _ (s13.trans (same_upd ht)) upd_same
                  · refine ite2 (fun _ => ?_) fun z => absurd (by rw [show decide (V.int ((Int.gcd n m : Nat) : Int) = V.int 1) = false from decide_eq_false (fun y => hg (by have y := V.int.inj y; omega))]; rfl) z
                    exact iteT (B := True) (k1 (if_pos (.inr hg)) H3 s13)
    · refine ite2 (fun z => absurd (V.str.inj (of_decide_eq_true z)) hm) fun _ => ?_
      have em : minusS a = false := decide_eq_false hm
      refine ⟨_, rfl, p, _, 0, _, rfl, rfl, SqL.of hp1, i0, a, rfl, la, fun H2 s2 => ?_⟩
      rw [show numV a = numV (bodyS a) by unfold bodyS; rw [if_neg (by rw [em]; decide)]]
      have hp2 := s2 _ _ hp1
      have s12 := s1.trans s2
      cases r with
      | nil =>
        have L1 : SqL K H2 p [V.str a] := SqL.of hp2
        refine ⟨_, rfl, p, _, rfl, .inl L1, rfl, _, rfl, ?_⟩
        refine ite2 (fun _ => ?_) fun z => absurd (decide_eq_true rfl) z
        refine ⟨_, rfl, p, _, rfl, .inl L1, _, _, rfl, rfl, _, rfl, ?_⟩
        refine ite2 (fun z => absurd (of_decide_eq_true z) (by show ¬ (2 : Int) < 1; decide)) fun _ => ?_
        rw [quotP1] at k1 k2
        unfold numV
        cases en : numIn (bodyS a) with
        | none =>
          rw [en] at k1
          refine ⟨_, rfl, rfl, _, rfl, ?_⟩
          refine ite2 (fun _ => ?_) fun z => absurd (decide_eq_true rfl) z
          exact iteT (k1 rfl H2 s12)
        | some n =>
          rw [en] at k1 k2
          have k1 : (if minusS a = true ∧ n = 0 then none else some (if minusS a = true then -n else n, (1 : Int))) = none → ∀ H', Same H H' → Q .non H' := k1
          have k2 : ∀ q, (if minusS a = true ∧ n = 0 then none else some (if minusS a = true then -n else n, (1 : Int))) = some q → ∀ t H', Same H H' → H' t = some (.tup [.int q.1, .int q.2]) → Q (.ref t) H' := k2
          refine ⟨_, rfl, rfl, _, rfl, ?_⟩
          refine ite2 (fun z => absurd (of_decide_eq_true z) (fun y => by cases y)) fun _ => ?_
          refine ⟨_, rfl, rfl, _, rfl, ?_⟩
          refine ite2 (fun z => absurd (of_decide_eq_true z) (fun y => by cases y)) fun _ => ?_
          refine ⟨_, rfl, p, _, 0, _, rfl, rfl, L1, i0, 1, rfl, a, rfl, le, rfl, _, rfl, ?_⟩
          rw [minus_dec, em]
          · have hn2 : ¬ (minusS a = true ∧ n = 0) := fun z => by rw [em] at z; exact absurd z.1 (by decide)
            refine iteF ?_
            rw [if_neg hn2] at k1 k2
            refine ⟨_, rfl, p, _, rfl, .inl L1, rfl, _, rfl, ?_⟩
            refine ite2 (fun z => absurd (V.int.inj (of_decide_eq_true z)) (fun y => by cases y)) fun _ => ?_
            refine ⟨_, rfl, p, _, 0, _, rfl, rfl, L1, i0, 1, rfl, a, rfl, le, rfl, _, rfl, ?_⟩
            rw [minus_dec, em]
            refine iteF ⟨_, rfl, _, rfl, by show 2 ≤ sizeLine; decide, fun t ht => ?_⟩
            rw [em] at k2; exact k2 _ rfl t _ (s12.trans (same_upd ht)) upd_same
      | cons b r2 =>
        have lb := short b (List.mem_cons_of_mem _ List.mem_cons_self)
        cases r2 with
        | cons c r3 =>
          have L1 : SqL K H2 p (V.str a :: V.str b :: V.str c :: r3.map V.str) := SqL.of hp2
          refine ⟨_, rfl, p, _, rfl, .inl L1, rfl, _, rfl, ?_⟩
          refine ite2 (fun z => absurd (V.int.inj (of_decide_eq_true z)) (by rw [List.length_cons, List.length_cons]; omega)) fun _ => ?_
          refine ⟨_, rfl, p, _, 1, _, rfl, rfl, L1, atI_nat (j := 1) rfl, b, rfl, lb, fun H3 s3 => ?_⟩
          refine ⟨_, rfl, p, _, rfl, .inl (SqL.of (s3 _ _ hp2)), _, _, rfl, rfl, _, rfl, ?_⟩
          refine ite2 (fun _ => ?_) fun z => absurd (decide_eq_true (by show (2 : Int) < ((r3.map V.str).length + 1 + 1 + 1 : Nat); omega)) z
          exact iteT (k1 rfl H3 (s12.trans s3))
        | nil =>
          have L0 : SqL K H2 p [V.str a, V.str b] := SqL.of hp2
          refine ⟨_, rfl, p, _, rfl, .inl L0, rfl, _, rfl, ?_⟩
          refine ite2 (fun z => absurd (V.int.inj (of_decide_eq_true z)) (fun y => by cases y)) fun _ => ?_
          refine ⟨_, rfl, p, _, 1, _, rfl, rfl, L0, atI_nat (j := 1) rfl, b, rfl, lb, fun H3 s3 => ?_⟩
          have L1 : SqL K H3 p [V.str a, V.str b] := SqL.of (s3 _ _ hp2)
          have s13 := s12.trans s3
          refine ⟨_, rfl, p, _, rfl, .inl L1, _, _, rfl, rfl, _, rfl, ?_⟩
          refine ite2 (fun z => absurd (of_decide_eq_true z) (by show ¬ (2 : Int) < 2; decide)) fun _ => ?_
          rw [quotP2] at k1 k2
          unfold numV
          cases en : numIn (bodyS a) with
          | none =>
            rw [en] at k1
            refine ⟨_, rfl, rfl, _, rfl, ?_⟩
            refine ite2 (fun _ => ?_) fun z => absurd (decide_eq_true rfl) z
            exact iteT (k1 rfl H3 s13)
          | some n =>
            rw [en] at k1 k2
            refine ⟨_, rfl, rfl, _, rfl, ?_⟩
            refine ite2 (fun z => absurd (of_decide_eq_true z) (fun y => by cases y)) fun _ => ?_
            cases em2 : numIn b with
            | none =>
              rw [em2] at k1
              refine ⟨_, rfl, rfl, _, rfl, ?_⟩
              refine ite2 (fun _ => ?_) fun z => absurd (decide_eq_true rfl) z
              exact iteT (k1 rfl H3 s13)
            | some m =>
              rw [em2] at k1 k2
              have k1 : (if minusS a = true ∧ n = 0 then none else if m < 2 ∨ Int.gcd n m ≠ 1 then none else some (if minusS a = true then -n else n, m)) = none → ∀ H', Same H H' → Q .non H' := k1
              have k2 : ∀ q, (if minusS a = true ∧ n = 0 then none else if m < 2 ∨ Int.gcd n m ≠ 1 then none else some (if minusS a = true then -n else n, m)) = some q → ∀ t H', Same H H' → H' t = some (.tup [.int q.1, .int q.2]) → Q (.ref t) H' := k2
              refine ⟨_, rfl, rfl, _, rfl, ?_⟩
              refine ite2 (fun z => absurd (of_decide_eq_true z) (fun y => by cases y)) fun _ => ?_
              refine ⟨_, rfl, p, _, 0, _, rfl, rfl, L1, i0, 1, rfl, a, rfl, le, rfl, _, rfl, ?_⟩
              rw [minus_dec, em]
              · have hn2 : ¬ (minusS a = true ∧ n = 0) := fun z => by rw [em] at z; exact absurd z.1 (by decide)
                refine iteF ?_
                rw [if_neg hn2] at k1 k2
                refine ⟨_, rfl, p, _, rfl, .inl L1, rfl, _, rfl, ?_⟩
                refine ite2 (fun _ => ?_) fun z => absurd (decide_eq_true rfl) z
                refine ⟨_, rfl, _, _, rfl, rfl, _, rfl, ?_⟩
                by_cases hm2 : m < 2
                · refine ite2 (fun _ => ?_) fun z => absurd (decide_eq_true hm2) z
                  exact iteT (k1 (if_pos (.inl hm2)) H3 s13)
                · refine ite2 (fun z => absurd (of_decide_eq_true z) hm2) fun _ => ?_
                  refine ⟨_, rfl, _, rfl, n, m, rfl, rfl, _, rfl, ?_⟩
                  by_cases hg : Int.gcd n m = 1
                  · rw [if_neg (fun z => z.elim hm2 (fun y => y hg))] at k2
                    refine ite2 (fun z => absurd z (by rw [hg]; decide)) fun _ => ?_
                    refine ⟨_, rfl, p, _, 0, _, rfl, rfl, L1, i0, 1, rfl, a, rfl, le, rfl, _, rfl, ?_⟩
                    rw [minus_dec, em]
                    refine iteF ⟨_, rfl, _, rfl, by show 2 ≤ sizeLine; decide, fun t ht => ?_⟩
                    rw [em] at k2; exact k2 _ rfl t _ (s13.trans (same_upd ht)) upd_same
                  · refine ite2 (fun _ => ?_) fun z => absurd (by rw [show decide (V.int ((Int.gcd n m : Nat) : Int) = V.int 1) = false from decide_eq_false (fun y => hg (by have y := V.int.inj y; omega))]; rfl) z
                    exact iteT (B := True) (k1 (if_pos (.inr hg)) H3 s13)
end
end K01

set_option maxHeartbeats 4000000
namespace K01
open PySem PySem.Spec PyProof.Rows L2 SpE He
theorem cut1 (x : Str) : (cutS x none (some 1)).cps.toList = x.cps.toList.take 1 := by
  unfold cutS
  show ((x.cps.toList.drop 0).take (HT.sIx x.length x.length (some ((1 : Nat) : Int)) - 0)) = _
  rw [HT.sIx_nat, List.drop_zero, Nat.sub_zero]
  have e : x.length = x.cps.toList.length := (Array.length_toList).symm
  rw [e]
  cases x.cps.toList with
  | nil => rfl
  | cons c l => rw [Nat.min_eq_left (by simp)]
theorem cut2 (x : Str) : (cutS x (some 1) none).cps.toList = x.cps.toList.drop 1 := by
  unfold cutS
  show ((x.cps.toList.drop (HT.sIx x.length 0 (some ((1 : Nat) : Int)))).take (x.length - HT.sIx x.length 0 (some ((1 : Nat) : Int)))) = _
  rw [HT.sIx_nat]
  have e : x.length = x.cps.toList.length := (Array.length_toList).symm
  rw [e]
  cases x.cps.toList with
  | nil => rfl
  | cons c l =>
    rw [Nat.min_eq_left (by simp)]
    simp
theorem ext_tl {x y : Str} (h : x.cps.toList = y.cps.toList) : x = y := TL.ext_tl h
theorem minusS_iff (x : Str) : minusS x = decide (x.cps.toList.take 1 = [45]) := by
  have e : ("-" : Str).cps.toList = [45] := by decide +kernel
  unfold minusS
  rw [Bool.eq_iff_iff, decide_eq_true_iff, decide_eq_true_iff, ← cut1, ← e]
  exact ⟨fun h => by rw [h], ext_tl⟩
theorem numS_nat (n : Nat) : (numS (n : Int)).cps.toList = TL.numL n := TL.tl_num n
theorem numS_neg (n : Nat) (h : n ≠ 0) : (numS (-(n : Int))).cps.toList = 45 :: TL.numL n := by
  obtain ⟨m, rfl⟩ : ∃ m, n = m + 1 := ⟨n - 1, by omega⟩
  have e : toString (-((m + 1 : Nat) : Int)) = "-" ++ toString (((m + 1 : Nat) : Int)) := by
    rfl
  unfold numS
  have e45 : (Str.ofString "-").cps.toList = [45] := by decide +kernel
  rw [e, signs_ofString, String.toList_append, List.map_append, ← TL.tl_num, ← signs_ofString, e45]
  show [45] ++ _ = 45 :: TL.tl (Str.ofString (toString ((m + 1 : Nat) : Int)))
  rw [show TL.tl (Str.ofString (toString ((m + 1 : Nat) : Int))) = (toString ((m + 1 : Nat) : Int)).toList.map Char.toNat from signs_ofString _]
  rfl
theorem numL_head {n : Nat} (h : n ≠ 0) : (TL.numL n)[0]? ≠ some 48 := by
  induction n using Nat.strongRecOn with
  | _ n ih =>
    by_cases c : n < 10
    · rw [TL.numL_lt c]
      intro z
      have z := Option.some.inj z
      omega
    · rw [TL.numL_step (by omega)]
      have p : 0 < (TL.numL (n / 10)).length := List.length_pos_iff.mpr (TL.numL_ne _)
      rw [List.getElem?_append_left p]
      exact ih (n / 10) (by omega) (by omega)
theorem numIn_num {n : Nat} (h : n < 1073741824) : numIn (numS (n : Int)) = some (n : Int) := by
  have l : (TL.numL n).length ≤ 10 := TL.numL_len (by decide) (by omega)
  unfold numIn
  rw [if_neg (fun z => TL.numL_ne n (by rw [← numS_nat, z]; decide +kernel))]
  have ad : (numS (n : Int)).cps.toList.all inD = true := by
    rw [numS_nat, List.all_eq_true]
    intro c hc
    have r := TL.numL_digits n c hc
    have e : ("0123456789" : Str).cps.toList = [48, 49, 50, 51, 52, 53, 54, 55, 56, 57] := by decide +kernel
    unfold inD
    rw [e]
    refine decide_eq_true ?_
    simp only [List.mem_cons, List.not_mem_nil, or_false]
    omega
  rw [if_neg (by rw [ad]; decide), if_neg]
  · exact TL.int_num (by omega)
  · rintro ⟨z, z2⟩
    rw [← Array.getElem?_toList, numS_nat] at z
    by_cases c : n = 0
    · subst c
      exact z2 (by decide +kernel)
    · exact numL_head c z
theorem slash_free {i : Int} : 47 ∉ (numS i).cps.toList := by
  rcases Int.lt_or_le i 0 with c | c
  · obtain ⟨n, rfl⟩ : ∃ n : Nat, i = -(n : Int) := ⟨i.natAbs, by omega⟩
    rw [numS_neg n (by omega)]
    intro h
    rcases List.mem_cons.mp h with h | h
    · omega
    · exact TL.numL_free (by omega) h
  · obtain ⟨n, rfl⟩ := Int.eq_ofNat_of_zero_le c
    rw [numS_nat]
    exact TL.numL_free (by omega)
theorem head_num (n : Nat) : (TL.numL n).take 1 ≠ [45] := by
  intro h
  obtain ⟨c, l, e⟩ := List.exists_cons_of_ne_nil (TL.numL_ne n)
  rw [e] at h
  have r := TL.numL_digits n c (by rw [e]; exact List.mem_cons_self)
  have : c = 45 := by simpa using h
  omega
theorem num_body {i : Int} (h1 : -1073741824 < i) (h2 : i < 1073741824) : minusS (numS i) = decide (i < 0) ∧ numIn (bodyS (numS i)) = some (i.natAbs : Int) := by
  rcases Int.lt_or_le i 0 with c | c
  · obtain ⟨n, rfl⟩ : ∃ n : Nat, i = -(n : Int) := ⟨i.natAbs, by omega⟩
    have em : minusS (numS (-(n : Int))) = true := by
      rw [minusS_iff, numS_neg n (by omega)]
      rfl
    rw [em, decide_eq_true c]
    refine ⟨rfl, ?_⟩
    unfold bodyS
    rw [if_pos em]
    have e : cutS (numS (-(n : Int))) (some 1) none = numS (n : Int) := ext_tl (by rw [cut2, numS_neg n (by omega), numS_nat]; rfl)
    rw [e, numIn_num (by omega)]
    congr 1
    omega
  · obtain ⟨n, rfl⟩ := Int.eq_ofNat_of_zero_le c
    have em : minusS (numS (n : Int)) = false := by
      rw [minusS_iff, numS_nat]
      exact decide_eq_false (head_num n)
    rw [em, decide_eq_false (by omega)]
    refine ⟨rfl, ?_⟩
    unfold bodyS
    rw [if_neg (by rw [em]; decide)]
    rw [numIn_num (by omega)]
    rfl
theorem textq_parts (q : Int × Int) : PySem.Txt.split (textq q) "/" = if q.2 = 1 then [numS q.1] else [numS q.1, numS q.2] := by
  have ey : TL.tl ("/" : Str) = 47 :: [] := by decide +kernel
  have hk : ("/" : Str).cps.all (· < 256) = true := by decide +kernel
  unfold textq
  by_cases c : q.2 = 1
  · rw [if_pos c, if_pos c]
    have z := TL.split_join ey hk (parts := [numS q.1]) (by simp) (fun p hp => by rw [List.mem_singleton.mp hp]; exact slash_free)
    rw [TL.join_eq] at z
    exact z
  · rw [if_neg c, if_neg c]
    have z := TL.split_join ey hk (parts := [numS q.1, numS q.2]) (by simp) (fun p hp => by
      simp only [List.mem_cons, List.not_mem_nil, or_false] at hp
      rcases hp with rfl | rfl <;> exact slash_free)
    rw [TL.join_eq] at z
    have e : Str.join ("/" : Str) [numS q.1, numS q.2] = numS q.1 ++ (("/" : Str) ++ numS q.2) := by
      rw [← app_assoc]
      rfl
    rw [e] at z
    exact z
theorem quotIn_textq {q : Int × Int} (ok : Okq q) (sm : Sm q) : quotIn (textq q) = some q := by
  obtain ⟨a, b, c, d⟩ := sm
  obtain ⟨o1, o2⟩ := ok
  obtain ⟨e1, e2⟩ := num_body a b
  unfold quotIn
  rw [textq_parts]
  have key : (if minusS (numS q.1) = true then -(q.1.natAbs : Int) else (q.1.natAbs : Int)) = q.1 := by
    rw [e1]
    by_cases z : q.1 < 0
    · rw [if_pos (decide_eq_true z)]
      omega
    · rw [if_neg (fun y => z (of_decide_eq_true y))]
      omega
  have no : ¬ (minusS (numS q.1) = true ∧ (q.1.natAbs : Int) = 0) := by
    rw [e1]
    rintro ⟨z, y⟩
    have := of_decide_eq_true z
    omega
  by_cases z : q.2 = 1
  · rw [if_pos z, quotP1, e2]
    show (if minusS (numS q.1) = true ∧ (q.1.natAbs : Int) = 0 then none else some (if minusS (numS q.1) = true then -(q.1.natAbs : Int) else (q.1.natAbs : Int), (1 : Int))) = some q
    rw [if_neg no, key, ← z]
  · rw [if_neg z, quotP2, e2]
    obtain ⟨n, e⟩ := Int.eq_ofNat_of_zero_le (a := q.2) (by omega)
    have e3 : numIn (numS q.2) = some q.2 := by rw [e]; exact numIn_num (by omega)
    rw [e3]
    show (if minusS (numS q.1) = true ∧ (q.1.natAbs : Int) = 0 then none else if q.2 < 2 ∨ Int.gcd (q.1.natAbs : Int) q.2 ≠ 1 then none else some (if minusS (numS q.1) = true then -(q.1.natAbs : Int) else (q.1.natAbs : Int), q.2)) = some q
    have g : Int.gcd (q.1.natAbs : Int) q.2 = 1 := by
      rw [← o2]
      unfold Int.gcd
      rw [Int.natAbs_natCast]
    rw [if_neg no, key, if_neg (by rw [g]; omega)]
theorem num_short {i : Int} (h1 : -1073741824 < i) (h2 : i < 1073741824) : (numS i).length ≤ 11 := by
  have e : (numS i).length = (numS i).cps.toList.length := (Array.length_toList).symm
  rw [e]
  rcases Int.lt_or_le i 0 with c | c
  · obtain ⟨n, rfl⟩ : ∃ n : Nat, i = -(n : Int) := ⟨i.natAbs, by omega⟩
    have l : (TL.numL n).length ≤ 10 := TL.numL_len (by decide) (by omega)
    rw [numS_neg n (by omega), List.length_cons]
    omega
  · obtain ⟨n, rfl⟩ := Int.eq_ofNat_of_zero_le c
    have l : (TL.numL n).length ≤ 10 := TL.numL_len (by decide) (by omega)
    rw [numS_nat]
    omega
theorem textq_short {q : Int × Int} (sm : Sm q) : (textq q).length ≤ 23 := by
  obtain ⟨a, b, c, d⟩ := sm
  have h1 := num_short a b
  have h2 := num_short (i := q.2) (by omega) d
  have e1 : ("/" : Str).length = 1 := by decide +kernel
  unfold textq
  by_cases z : q.2 = 1
  · rw [if_pos z]
    omega
  · rw [if_neg z, app_len, app_len, e1]
    omega
end K01

set_option maxHeartbeats 4000000
namespace K01
open PySem PySem.Spec PyProof.Rows L2 SpE He
open C8 (Cal pe_c)
section
variable {P : Program} {w : World} {K : PySem.W.Frag} {mg : Str → Option Value} {base : Heap} {f : Addr} {fd : FuncData}
theorem exm_own {C D S : Addr} (m : MroIs K C (above S)) (TD : ErC K D) (n : D ≠ S) : PySem.W.exmOne K (.ref C) (.ref D) = some (decide (C = D)) := by
  obtain ⟨cd, e1, e2⟩ := m.ex
  have n1 : ((PySem.W.clsIn K D).isSome && PySem.W.typeIn K (.ref D) == some (.type "type")) = true := by
    rw [TD.clsI, TD.o.tyC]
    rfl
  have n2 : (Value.ref D == Value.ref S) = false := by
    rw [beq_eq_false_iff_ne]
    exact fun z => n (Value.ref.inj z)
  unfold PySem.W.exmOne
  rw [TD.o.exC, if_pos (by decide)]
  unfold PySem.W.kitCls PySem.W.subIn PySem.W.mroIn
  dsimp only
  rw [if_pos n1, e1, Option.bind_some, e2, if_neg (by simp)]
  simp [List.contains_cons, n2]
  rw [decide_eq_false n, Bool.or_false]
  exact decide_eq_decide.mpr eq_comm
theorem mb_BadQuotient : (("BadQuotient", ["q"]) : Str × List Str) ∈ tab := by decide +kernel
theorem mb_BadOther : (("BadOther", ["other"]) : Str × List Str) ∈ tab := by decide +kernel
theorem mb_BadQuotientText : (("BadQuotientText", ["text"]) : Str × List Str) ∈ tab := by decide +kernel
theorem mb_BadParts : (("BadParts", ["p", "n"]) : Str × List Str) ∈ tab := by decide +kernel
theorem er_tab {C : Str} {fs : List Str} (h : (C, fs) ∈ tab) : C ∈ erAll "SameError" none0 tab := List.mem_cons_of_mem _ (List.mem_append_right _ (List.mem_map_of_mem (f := fun p : Str × List Str => p.1) h))
theorem xfC {C : Addr} (T : ErC K C) : XfC K C := ⟨T.ga, T.gg, T.o.exC, T.hd⟩
theorem takes_len {X : Cx} {W : WX} {n : Nat} (t : L2.Takes X W) (h : X.N.length = n) : L2.Takes X (fun c d σ H => σ.length = n → W c d σ H) := fun u s' ⟨a, B, sI, pins, σ, H, cls, d, e, I, nb, up, sky, na, os, ag, w⟩ =>
  t u s' ⟨a, B, sI, pins, σ, H, cls, d, e, I, nb, up, sky, na, os, ag, w (I.len.trans h)⟩
def tolE (K : PySem.W.Frag) (Q : VK) : XK := fun cls d H => ∃ dd, d = some dd ∧
  ((cls = .ref (ga K "BadQuotient") ∧ ∃ v, H dd = some (.xd [("q", v)]) ∧ ∀ t H2, Same H H2 → H2 t = some (.tup [.str "bad", .str "quotient", v]) → Q (.ref t) H2) ∨
   (cls = .ref (ga K "BadOther") ∧ ∃ v, H dd = some (.xd [("other", v)]) ∧ ∀ t H2, Same H H2 → H2 t = some (.tup [.str "bad", .str "other", v]) → Q (.ref t) H2) ∨
   (cls = .ref (ga K "BadQuotientText") ∧ ∃ v, H dd = some (.xd [("text", v)]) ∧ ∀ t H2, Same H H2 → H2 t = some (.tup [.str "bad", .str "text", v]) → Q (.ref t) H2) ∨
   (cls = .ref (ga K "BadParts") ∧ ∃ v u, H dd = some (.xd [("n", u), ("p", v)]) ∧ ∀ l t H2, Same H H2 → H2 l = some (.lst [v, u]) → H2 t = some (.tup [.str "bad", .str "parts", .ref l]) → Q (.ref t) H2))
def TTq (K : PySem.W.Frag) : (XK → Hp → VK → Prop) → Hp → VK → Prop := fun tl H Q => ∀ Q2 : VK, (∀ v H1, (∀ t H2, Same H1 H2 → H2 t = some (.tup [.str "told", v]) → Q (.ref t) H2) → Q2 v H1) → tl (tolE K Q) H Q2
theorem sc_law_told : FnScope ["ask", "found", "e"] ["ask"] (defScope s_law_told) := ⟨rfl, rfl, rfl, by decide +kernel, rfl, by decide +kernel, by decide +kernel⟩
theorem told_gives {X : Cx} {g : Addr} {cdg : Value} {q : Str} (hmg : X.mg = mg) (hK : X.K = K) (hP : X.prog = P) (hw : X.w = w) (hb : X.base = base) (T : Txt P w K mg base) : LamX.GivesTo X ["ask", "found", "e"] "_law_told" (defScope s_law_told) g cdg (defBody s_law_told) "ask" q (TTq K) := by
  subst hmg hK hP hw hb
  intro f c' s H Q tl act hc h
  refine ⟨_, pss_cons (ps_try_asMany (i := 2) (tb := fun W D σ H => ∃ Ech : XK, (∀ cls d σ' H', Ech cls d H' → σ'.length = 3 → W cls d σ' H') ∧ σ[0]? = some (some (.ref f)) ∧ H c' = some (LamX.CodeO c' q) ∧ tl Ech H fun v H1 => 2 ≤ sizeLine ∧ ∀ t, H1 t = none → D.nx (σ.set 1 (some (.ref t))) (upd H1 t (.tup [.str "told", v]))) rfl rfl sc_law_told.nd rfl rfl (fun W pn xe tk _ => ?_) (.cons ⟨rfl, by decide, Or.inl T.e_BadQuotient.gl⟩ (fun a oe cls d pn z hf => (pss_one (ps_set (i := 1) sc_law_told.nd rfl (Or.inl rfl) (pe_tup (pa_cons (pe_str) (pa_cons (pe_str) (pa_cons (pe_xf (xfC (T.er.c ("BadQuotient", ["q"]) mb_BadQuotient).1) (T.er.f ("BadQuotient", ["q"]) mb_BadQuotient "q" (by decide)) z hf (pv 2)) pa_nil))))))) (.cons ⟨rfl, by decide, Or.inl T.e_BadOther.gl⟩ (fun a oe cls d pn z hf => (pss_one (ps_set (i := 1) sc_law_told.nd rfl (Or.inl rfl) (pe_tup (pa_cons (pe_str) (pa_cons (pe_str) (pa_cons (pe_xf (xfC (T.er.c ("BadOther", ["other"]) mb_BadOther).1) (T.er.f ("BadOther", ["other"]) mb_BadOther "other" (by decide)) z hf (pv 2)) pa_nil))))))) (.cons ⟨rfl, by decide, Or.inl T.e_BadQuotientText.gl⟩ (fun a oe cls d pn z hf => (pss_one (ps_set (i := 1) sc_law_told.nd rfl (Or.inl rfl) (pe_tup (pa_cons (pe_str) (pa_cons (pe_str) (pa_cons (pe_xf (xfC (T.er.c ("BadQuotientText", ["text"]) mb_BadQuotientText).1) (T.er.f ("BadQuotientText", ["text"]) mb_BadQuotientText "text" (by decide)) z hf (pv 2)) pa_nil))))))) (.cons ⟨rfl, by decide, Or.inl T.e_BadParts.gl⟩ (fun a oe cls d pn z hf => (pss_one (ps_set (i := 1) sc_law_told.nd rfl (Or.inl rfl) (pe_tup (pa_cons (pe_str) (pa_cons (pe_str) (pa_cons (pe_lst (pa_cons (pe_xf (xfC (T.er.c ("BadParts", ["p", "n"]) mb_BadParts).1) (T.er.f ("BadParts", ["p", "n"]) mb_BadParts "p" (by decide)) z hf (pv 2)) (pa_cons (pe_xf (xfC (T.er.c ("BadParts", ["p", "n"]) mb_BadParts).1) (T.er.f ("BadParts", ["p", "n"]) mb_BadParts "n" (by decide)) z hf (pv 2)) pa_nil))) pa_nil))))))) .nil)))))
  (pss_one (ps_ret (pv 1)))
    , ?_⟩
  · refine ⟨fun pins s' σ H' D I h' => ?_⟩
    obtain ⟨Ech, hW, h1, h2, h3⟩ := h'
    have hp := fun p1 p2 => act _ pn xe Ech p1 p2 (takes_len tk (n := 3) rfl) hW
    exact (pss_one (ps_set (i := 1) sc_law_told.nd rfl (Or.inl rfl) (pe_tup (pa_cons pe_str (pa_cons (hp _ _) pa_nil))))).run pins s' σ H' D I ⟨h1, h2, h3⟩
  · refine ⟨tolE X.K Q, ?_, rfl, hc, h _ fun v H1 k => ?_⟩
    · rintro cls d σ' H' ⟨dd, rfl, h'⟩ l3
      obtain ⟨x0, x1, x2, rfl⟩ : ∃ x0 x1 x2, σ' = [x0, x1, x2] := by
        match σ', l3 with
        | [x0, x1, x2], _ => exact ⟨x0, x1, x2, rfl⟩
      have no : ∀ {C D : Str} {fs gs : List Str}, (C, fs) ∈ tab → (D, gs) ∈ tab → D ≠ "SameError" → PySem.W.exmOne X.K (.ref (ga X.K C)) (.ref (ga X.K D)) = some (decide (ga X.K C = ga X.K D)) := fun hC hD n =>
        exm_own (T.er.c _ hC).2 (T.er.c _ hD).1 (T.er.ne (er_tab hD) List.mem_cons_self n)
      have ne : ∀ {C D : Str} {fs gs : List Str}, (C, fs) ∈ tab → (D, gs) ∈ tab → C ≠ D → decide (ga X.K C = ga X.K D) = false := fun hC hD n => decide_eq_false (T.er.ne (er_tab hC) (er_tab hD) n)
      rcases h' with ⟨rfl, v, hv, k⟩ | ⟨rfl, v, hv, k⟩ | ⟨rfl, v, hv, k⟩ | ⟨rfl, v, u, hv, k⟩
      · refine ⟨_, no mb_BadQuotient mb_BadQuotient (by decide +kernel), fun _ a ha => ?_, fun z => absurd z (by rw [decide_eq_true rfl]; decide)⟩
        exact ⟨_, rfl, rfl, rfl, dd, _, v, rfl, hv, rfl, by show 3 ≤ sizeLine; decide, fun t ht => ⟨_, rfl, k t _ (same_upd ht) upd_same⟩⟩
      · refine ⟨_, no mb_BadOther mb_BadQuotient (by decide +kernel), fun z => absurd z (by rw [ne mb_BadOther mb_BadQuotient (by decide +kernel)]; decide), fun _ => ?_⟩
        refine ⟨_, no mb_BadOther mb_BadOther (by decide +kernel), fun _ a ha => ?_, fun z => absurd z (by rw [decide_eq_true rfl]; decide)⟩
        exact ⟨_, rfl, rfl, rfl, dd, _, v, rfl, hv, rfl, by show 3 ≤ sizeLine; decide, fun t ht => ⟨_, rfl, k t _ (same_upd ht) upd_same⟩⟩
      · refine ⟨_, no mb_BadQuotientText mb_BadQuotient (by decide +kernel), fun z => absurd z (by rw [ne mb_BadQuotientText mb_BadQuotient (by decide +kernel)]; decide), fun _ => ?_⟩
        refine ⟨_, no mb_BadQuotientText mb_BadOther (by decide +kernel), fun z => absurd z (by rw [ne mb_BadQuotientText mb_BadOther (by decide +kernel)]; decide), fun _ => ?_⟩
        refine ⟨_, no mb_BadQuotientText mb_BadQuotientText (by decide +kernel), fun _ a ha => ?_, fun z => absurd z (by rw [decide_eq_true rfl]; decide)⟩
        exact ⟨_, rfl, rfl, rfl, dd, _, v, rfl, hv, rfl, by show 3 ≤ sizeLine; decide, fun t ht => ⟨_, rfl, k t _ (same_upd ht) upd_same⟩⟩
      · refine ⟨_, no mb_BadParts mb_BadQuotient (by decide +kernel), fun z => absurd z (by rw [ne mb_BadParts mb_BadQuotient (by decide +kernel)]; decide), fun _ => ?_⟩
        refine ⟨_, no mb_BadParts mb_BadOther (by decide +kernel), fun z => absurd z (by rw [ne mb_BadParts mb_BadOther (by decide +kernel)]; decide), fun _ => ?_⟩
        refine ⟨_, no mb_BadParts mb_BadQuotientText (by decide +kernel), fun z => absurd z (by rw [ne mb_BadParts mb_BadQuotientText (by decide +kernel)]; decide), fun _ => ?_⟩
        refine ⟨_, no mb_BadParts mb_BadParts (by decide +kernel), fun _ a ha => ?_, fun z => absurd z (by rw [decide_eq_true rfl]; decide)⟩
        refine ⟨_, rfl, rfl, rfl, dd, _, v, rfl, hv, rfl, _, rfl, rfl, rfl, dd, _, u, rfl, hv, rfl, by show 2 ≤ sizeLine; decide, fun l hl => ⟨by show 3 ≤ sizeLine; decide, fun t ht => ⟨_, rfl, k l t _ ((same_upd hl).trans (same_upd ht)) ?_ upd_same⟩⟩⟩
        exact same_upd ht _ _ upd_same
    · exact ⟨by decide, fun t ht => ⟨_, rfl, k t _ (same_upd ht) upd_same⟩⟩
end
end K01

set_option maxHeartbeats 4000000
namespace K01
open PySem PySem.Spec PyProof.Rows L2 SpE He
open C8 (Cal pe_c)
section
variable {P : Program} {w : World} {K : PySem.W.Frag} {mg : Str → Option Value} {base : Heap} {f : Addr} {fd : FuncData}
def partsD : PyData → PyData → Option (Int × Int)
  | .int p, .int n => if n = 0 then none else some (p, n)
  | _, _ => none
theorem partsD_no1 {d e : PyData} (h : isI d = false) : partsD d e = none := by
  cases d <;> first | rfl | cases h
theorem partsD_no2 {d e : PyData} (h : isI e = false) : partsD d e = none := by
  cases d <;> cases e <;> first | rfl | cases h
def spQof (K : PySem.W.Frag) : Sp := fun vs H Q E => ∃ (v u : V) (d e : PyData), vs = [v, u] ∧ Dt K H v d ∧ Dt K H u e ∧
  (partsD d e = none → ∀ x H', Same H H' → H' x = some (.xd [("n", u), ("p", v)]) → E (.ref (ga K "BadParts")) (some x) H') ∧
  (∀ p n, partsD d e = some (p, n) → n.natAbs < 4611686018427387904 ∧ ∀ t H', Same H H' → H' t = some (.tup [.int (qn p n).1, .int (qn p n).2]) → Q (.ref t) H')
theorem isI_i {d : PyData} (h : isI d = true) : ∃ i, d = .int i := by
  cases d <;> first | exact ⟨_, rfl⟩ | cases h
theorem sc_quotient_of : FnScope ["p", "n"] ["p", "n"] (defScope s_quotient_of) := ⟨rfl, rfl, rfl, by decide +kernel, rfl, by decide +kernel, by decide +kernel⟩
theorem ok_quotient_of (T : Txt P w K mg base) (C_is_integer : Cal P w K mg base 1 "is_integer" (spP K isI) []) (C_made : Cal P w K mg base 2 "made" spMk []) (F : DefOf K "quotient_of" s_quotient_of f fd) (g : mg "quotient_of" = some (.ref f)) (b : Binds K fd ["p", "n"] [])
    (b2 : ∀ (s : Shared) (us : List Value), us.length = (2 : Nat) → BindsTo s fd ⟨[], (["n", "p"] : List Str).zip us⟩ ((["p", "n"] : List Str).zip us.reverse)) : CalX P w K mg base 4 "quotient_of" ["n", "p"] (spQof K) := by
  refine calX_of (ps := ["p", "n"]) F g b b2 sc_quotient_of (fun vs H Q E h => ?_) (fun cdv A outer s H vs Q E hr h => ?_)
  · obtain ⟨v, u, d, e, rfl, _⟩ := h
    rfl
  · obtain ⟨v, u, d, e, rfl, hd, he, k1, k2⟩ := h
    refine ⟨_, pss_cons (ps_if (PW.pt (pw_or (pt_not (pt_val (pe_c C_is_integer hr (by first | decide | omega) rfl (pa_cons (pv 0) pa_nil)))) (pw_or (pt_not (pt_val (pe_c C_is_integer hr (by first | decide | omega) rfl (pa_cons (pv 1) pa_nil)))) (pw_or1 (pt_cmpR op_eq (pv 1) (pe_int) (nomark _)))))) (pss_one (ps_raise rfl (takes_of rfl rfl rfl rfl) (pmk_plain (pmk_er T.e_BadParts hr (by first | decide | omega) rfl (pa_cons (pv 0) (pa_cons (pv 1) pa_nil)))))) (pss_nil))
  (pss_one (ps_ret (pe_c C_made hr (by first | decide | omega) rfl (pa_cons (pv 0) (pa_cons (pv 1) pa_nil))))), ?_⟩
    have out : ∀ H1, Same H H1 → partsD d e = none → ∀ x, H1 x = none → E (.ref (ga K "BadParts")) (some x) (upd H1 x (.xd [("n", u), ("p", v)])) := fun H1 s1 no x hx => k1 no x _ (s1.trans (same_upd hx)) upd_same
    refine ⟨_, rfl, v, d, rfl, hd, fun H1 s1 => ⟨_, rfl, ?_⟩⟩
    cases e1 : isI d with
    | false => exact iteT (iteT ⟨_, rfl, _, rfl, rfl, by show 2 ≤ 1000; decide, out H1 s1 (partsD_no1 e1)⟩)
    | true =>
      refine iteF ⟨_, rfl, u, e, rfl, he.keep s1, fun H2 s2 => ⟨_, rfl, ?_⟩⟩
      have s12 := s1.trans s2
      cases e2 : isI e with
      | false => exact iteT (iteT ⟨_, rfl, _, rfl, rfl, by show 2 ≤ 1000; decide, out H2 s12 (partsD_no2 e2)⟩)
      | true =>
        obtain ⟨p, rfl⟩ := isI_i e1
        obtain ⟨n, rfl⟩ := isI_i e2
        cases hd
        cases he
        refine iteF ⟨_, rfl, rfl, _, rfl, ?_⟩
        by_cases h0 : n = 0
        · refine ite2 (fun _ => ?_) fun z => absurd (decide_eq_true (congrArg V.int h0)) z
          exact ⟨_, rfl, _, rfl, rfl, by show 2 ≤ 1000; decide, out H2 s12 (if_pos h0)⟩
        · refine ite2 (fun z => absurd (V.int.inj (of_decide_eq_true z)) h0) fun _ => ?_
          obtain ⟨l, k⟩ := k2 p n (if_neg h0)
          exact ⟨_, rfl, _, rfl, p, n, rfl, h0, l, fun t ht => k t _ (s12.trans (same_upd ht)) upd_same⟩
def readD : PyData → Option (Int × Int)
  | .str x => quotIn x
  | _ => none
def spRead (K : PySem.W.Frag) : Sp := fun vs H Q E => ∃ (v : V) (d : PyData), vs = [v] ∧ Dt K H v d ∧ (∀ x, d = .str x → x.length ≤ 640) ∧ (readD d = none → ErrE K "BadQuotientText" "text" v H E) ∧
  (∀ q, readD d = some q → ∀ t H', Same H H' → H' t = some (.tup [.int q.1, .int q.2]) → Q (.ref t) H')
theorem readD_no {d : PyData} (h : isS d = false) : readD d = none := by
  cases d <;> first | rfl | cases h
theorem sc_read_quotient : FnScope ["text", "found"] ["text"] (defScope s_read_quotient) := ⟨rfl, rfl, rfl, by decide +kernel, rfl, by decide +kernel, by decide +kernel⟩
theorem ok_read_quotient (T : Txt P w K mg base) (C_is_text : Cal P w K mg base 1 "is_text" (spP K isS) []) (C_quotient_in : Cal P w K mg base 2 "quotient_in" (spQin K) []) (F : DefOf K "read_quotient" s_read_quotient f fd) (g : mg "read_quotient" = some (.ref f)) (b : Binds K fd ["text"] [])
    (b2 : ∀ (s : Shared) (us : List Value), us.length = (1 : Nat) → BindsTo s fd ⟨[], (["text"] : List Str).zip us⟩ ((["text"] : List Str).zip us.reverse)) : CalX P w K mg base 4 "read_quotient" ["text"] (spRead K) := by
  refine calX_of (ps := ["text"]) F g b b2 sc_read_quotient (fun vs H Q E h => ?_) (fun cdv A outer s H vs Q E hr h => ?_)
  · obtain ⟨v, d, rfl, _⟩ := h
    rfl
  · obtain ⟨v, d, rfl, hd, hl, k1, k2⟩ := h
    refine ⟨_, pss_cons (ps_set (i := 1) sc_read_quotient.nd rfl (Or.inl rfl) (pe_ifExp (pt_val (pe_c C_is_text hr (by first | decide | omega) rfl (pa_cons (pv 0) pa_nil))) (pe_c C_quotient_in hr (by first | decide | omega) rfl (pa_cons (pv 0) pa_nil)) (pe_non)))
  (pss_cons (ps_if (pt_cmpR op_isN (pv 1) (pe_non) (nomark _)) (pss_one (ps_raise rfl (takes_of rfl rfl rfl rfl) (pmk_plain (pmk_er T.e_BadQuotientText hr (by first | decide | omega) rfl (pa_cons (pv 0) pa_nil))))) (pss_nil))
  (pss_one (ps_ret (pv 1)))), ?_⟩
    refine ⟨_, rfl, v, d, rfl, hd, fun H1 s1 => ⟨_, rfl, ?_⟩⟩
    cases e1 : isS d with
    | false =>
      refine iteF ⟨_, rfl, rfl, _, rfl, ?_⟩
      exact iteT (B := True) ⟨_, rfl, rfl, by show 1 ≤ 1000; decide, fun x hx => k1 (readD_no e1) x _ (s1.trans (same_upd hx)) upd_same⟩
    | true =>
      obtain ⟨x, rfl⟩ : ∃ x, d = .str x := by cases d <;> first | exact ⟨_, rfl⟩ | cases e1
      cases hd
      refine iteT ⟨_, rfl, x, rfl, hl x rfl, fun no H2 s2 => ?_, fun q hq t H2 s2 ht => ?_⟩
      · refine ⟨_, rfl, rfl, _, rfl, ?_⟩
        exact iteT (B := True) ⟨_, rfl, rfl, by show 1 ≤ 1000; decide, fun y hy => k1 no y _ ((s1.trans s2).trans (same_upd hy)) upd_same⟩
      · refine ⟨_, rfl, rfl, _, rfl, ?_⟩
        exact iteF ⟨_, rfl, k2 q hq t H2 (s1.trans s2) ht⟩
def spOneOf (K : PySem.W.Frag) : Sp := fun vs H Q _ => ∃ (a b p : Addr) (c : Nat) (xs : List V), vs = [.ref a, .ref p] ∧ StA H a b c ∧ c < 1000000000 ∧ p ≠ a ∧ p ≠ b ∧ H p = some (.lst xs) ∧ 1 ≤ xs.length ∧ xs.length < 1000 ∧
  ∀ v H', v ∈ xs → StA H' a b (c + 1) → SameB a b H H' → Q v H'
theorem sc_law_one : FnScope ["state", "things"] ["state", "things"] (defScope s_law_one) := ⟨rfl, rfl, rfl, by decide +kernel, rfl, by decide +kernel, by decide +kernel⟩
theorem ok_one (T : Blt mg) (C_law_pick : Cal P w K mg base 1 "_law_pick" spPick []) (F : DefOf K "_law_one" s_law_one f fd) (g : mg "_law_one" = some (.ref f)) (b : Binds K fd ["state", "things"] []) : Cal P w K mg base 2 "_law_one" (spOneOf K) [] := by
  refine cal_of F g b sc_law_one (fun vs H Q E h => ?_) (fun cdv A outer s H vs Q E hr h => ?_)
  · obtain ⟨a, b, p, c, xs, rfl, _⟩ := h
    rfl
  · obtain ⟨a, b, p, c, xs, rfl, hS, hc, na, nb, hp, l1, l2, k⟩ := h
    refine ⟨_, pss_one (ps_ret (pe_ix ix_list (pv 1) (pe_c C_law_pick hr (by first | decide | omega) rfl (pa_cons (pv 0) (pa_cons (pe_callB call_len_seq rfl T.len bt_len (pa_cons (pv 1) pa_nil)) pa_nil))) (fun _ _ => rfl))), ?_⟩
    dsimp only [cxOf, Cx.nox, Cx.wish]
    refine ⟨_, rfl, _, rfl, _, rfl, p, _, rfl, .inl (SqL.of hp), a, b, c, _, rfl, hS, by omega, by omega, by omega, fun r H1 r0 r1 S1 B1 => ?_⟩
    obtain ⟨j, rfl⟩ := Int.eq_ofNat_of_zero_le r0
    have hj : j < xs.length := by omega
    exact ⟨p, xs, j, xs[j], rfl, rfl, SqL.of (B1 _ _ na nb hp), atI_nat (List.getElem?_eq_getElem hj), k _ _ (List.getElem_mem hj) S1 B1⟩
end
end K01

set_option maxHeartbeats 400000
namespace K01
open PySem PySem.Spec PyProof.Rows L2 SpE He
open C8 (Cal pe_c)
def goodS (x : Str) : Bool := decide (x ≠ "") && x.cps.toList.all inD
def zeroS (x : Str) : Bool := decide (x.cps[0]? = some 48) && decide (x ≠ "0")
theorem numIn_no1 {x : Str} (h : goodS x = false) : numIn x = none := by
  unfold goodS at h
  unfold numIn
  by_cases e : x = ""
  · rw [if_pos e]
  · rw [decide_eq_true e, Bool.true_and] at h
    rw [if_neg e, if_pos h]
theorem numIn_no2 {x : Str} (h : zeroS x = true) : numIn x = none := by
  obtain ⟨h1, h2⟩ := Bool.and_eq_true_iff.mp h
  unfold numIn
  by_cases e : x = ""
  · rw [if_pos e]
  · rw [if_neg e]
    by_cases e2 : x.cps.toList.all inD = false
    · rw [if_pos e2]
    · rw [if_neg e2, if_pos ⟨of_decide_eq_true h1, of_decide_eq_true h2⟩]
theorem numIn_yes {x : Str} (h : goodS x = true) (z : zeroS x = false) (l : x.length ≤ 640) : ∃ n, PySem.intText? x = some n ∧ numIn x = some n := by
  obtain ⟨h1, h2⟩ := Bool.and_eq_true_iff.mp h
  have h1 := of_decide_eq_true h1
  obtain ⟨n, e⟩ := int_in h1 h2 l
  refine ⟨n, e, ?_⟩
  unfold numIn
  rw [if_neg h1, if_neg (by rw [h2]; decide), if_neg, e]
  rintro ⟨z1, z2⟩
  unfold zeroS at z
  rw [decide_eq_true z1, decide_eq_true z2] at z
  cases z
theorem two_more {r : List Str} (h : 1 < r.length) : ∃ b c l, r = b :: c :: l := by
  match r, h with
  | b :: c :: l, _ => exact ⟨b, c, l, rfl⟩
def figs (a : Str) (r : List Str) : List Str := bodyS a :: r
theorem quotP_bad {a : Str} {r : List Str} (h : ∃ x ∈ figs a r, numIn x = none) : quotP (a :: r) = none := by
  obtain ⟨x, hx, e⟩ := h
  match r, hx with
  | [], hx =>
    rw [List.mem_singleton.mp hx] at e
    rw [quotP1, e]
    rfl
  | [b], hx =>
    rw [quotP2]
    rcases List.mem_cons.mp hx with rfl | hx
    · rw [e]
      rfl
    · rw [List.mem_singleton.mp hx] at e
      rw [e]
      cases numIn (bodyS a) <;> rfl
  | b :: c :: l, _ => rfl
theorem quot_nil : quotIn "" = none := by
  have ey : TL.tl ("/" : Str) = 47 :: [] := by decide +kernel
  have hk : ("/" : Str).cps.all (· < 256) = true := by decide +kernel
  have z := TL.split_join ey hk (parts := [("" : Str)]) (by simp) (fun p hp => by rw [List.mem_singleton.mp hp]; decide +kernel)
  rw [TL.join_eq] at z
  have z : PySem.Txt.split ("" : Str) "/" = [("" : Str)] := z
  unfold quotIn
  rw [z]
  exact quotP_bad ⟨_, List.mem_cons_self, numIn_no1 (by decide +kernel)⟩
theorem cut_tail (xs : List V) : cutV xs (some 1) none = xs.drop 1 := by
  unfold cutV
  show ((xs.drop (HT.sIx xs.length 0 (some ((1 : Nat) : Int)))).take (xs.length - HT.sIx xs.length 0 (some ((1 : Nat) : Int)))) = _
  rw [HT.sIx_nat]
  cases xs with
  | nil => rfl
  | cons c l =>
    rw [Nat.min_eq_left (by simp)]
    simp
theorem str_ne {x : Str} (h : x ≠ "") : ∃ c, x.cps[0]? = some c := by
  cases q : x.cps[0]? with
  | some c => exact ⟨c, rfl⟩
  | none =>
    exfalso
    obtain ⟨a⟩ := x
    have z : a.size ≤ 0 := Array.getElem?_eq_none_iff.mp q
    have z2 : a = #[] := Array.eq_empty_of_size_eq_zero (by omega)
    subst z2
    exact h (by decide +kernel)
theorem one0 {x : Str} {c : Nat} (h : x.cps[0]? = some c) : (!!decide (V.str ⟨#[c]⟩ = V.str "0")) = decide (x.cps[0]? = some 48) := by
  have z48 : (Str.mk #[48]) = ("0" : Str) := by decide +kernel
  rw [Bool.not_not, h, Bool.eq_iff_iff, decide_eq_true_iff, decide_eq_true_iff, ← z48]
  constructor
  · intro z
    have z := V.str.inj z
    have z := congrArg (fun s : Str => s.cps[0]?) z
    exact z
  · intro z
    rw [Option.some.inj z]
section
variable {P : Program} {w : World} {K : PySem.W.Frag} {mg : Str → Option Value} {base : Heap} {f : Addr} {fd : FuncData}
theorem fig_if {σ : L2.St} {H : Hp} {Q : VK} {a : Str} {p : Addr} {xs : List V} (h2 : σ[2]? = some (some (.bl (minusS a)))) (h1 : σ[1]? = some (some (.ref p))) (L : SqL K H p xs) (i0 : atI xs 0 = some (.str a)) (le : a.length ≤ sizeLine) (q : Q (.str (bodyS a)) H) :
    tIf (tB (tVar 2)) (tSl rSlS (tOp (rIxL K) (tVar 1) (tC (V.int 0))) (tPart (tC (V.int 1))) tNoPart) (tOp (rIxL K) (tVar 1) (tC (V.int 0))) σ H Q := by
  refine ⟨_, h2, _, rfl, ?_⟩
  unfold bodyS at q
  refine ite2 (fun em => ?_) fun em => ?_
  · rw [if_pos em] at q
    exact ⟨_, h1, p, _, 0, _, rfl, rfl, L, i0, 1, rfl, a, rfl, le, q⟩
  · rw [if_neg em] at q
    exact ⟨_, h1, p, _, 0, _, rfl, rfl, L, i0, q⟩
theorem neg_if {σ : L2.St} {H : Hp} {Q : VK} {a : Str} {n : Int} (h2 : σ[2]? = some (some (.bl (minusS a)))) (h4 : σ[4]? = some (some (.int n))) (q : Q (.int (if minusS a = true then -n else n)) H) :
    tIf (tB (tVar 2)) (tUn (rU fun i => V.int (-i)) (tVar 4)) (tVar 4) σ H Q := by
  refine ⟨_, h2, _, rfl, ?_⟩
  refine ite2 (fun em => ?_) fun em => ?_
  · rw [if_pos em] at q
    exact ⟨_, h4, n, rfl, q⟩
  · rw [if_neg em] at q
    exact ⟨_, h4, q⟩
def spLr (K : PySem.W.Frag) : Sp := fun vs H Q _ => ∃ (v : V) (d : PyData), vs = [v] ∧ Dt K H v d ∧ (∀ x, d = .str x → x.length ≤ 640) ∧ (readD d = none → ∀ H', Same H H' → Q .non H') ∧
  (∀ q, readD d = some q → ∀ t H', Same H H' → H' t = some (.tup [.int q.1, .int q.2]) → Q (.ref t) H')
theorem sc_law_q_read : FnScope ["text", "parts", "minus", "figures", "p", "n", "one", "sign"] ["text"] (defScope s_law_q_read) := ⟨rfl, rfl, rfl, by decide +kernel, rfl, by decide +kernel, by decide +kernel⟩
theorem ok_law_q_read (T : Blt mg) (C_law_divisor : Cal P w K mg base 1 "_law_divisor" spGcd []) (F : DefOf K "_law_q_read" s_law_q_read f fd) (g : mg "_law_q_read" = some (.ref f)) (b : Binds K fd ["text"] []) : Cal P w K mg base 2 "_law_q_read" (spLr K) [] := by
  refine cal_of F g b sc_law_q_read (fun vs H Q E h => ?_) (fun cdv A outer s H vs Q E hr h => ?_)
  · obtain ⟨v, d, rfl, _⟩ := h
    rfl
  · obtain ⟨v, d, rfl, hd, hl, k1, k2⟩ := h
    refine ⟨_, pss_cons (ps_if (PW.pt (pw_or (pt_not (pt_val (pe_callB call_isZ rfl T.isinstance bt_isinstance (pa_cons (pv 0) (pa_cons (pe_bltn (v := .ty "str") rfl T.str bt_str rfl) pa_nil))))) (pw_or1 (pt_cmpR op_eq (pv 0) (pe_str) (nomark _))))) (pss_one (ps_ret (pe_non))) (pss_nil))
  (pss_cons (ps_set (i := 1) sc_law_q_read.nd rfl (Or.inl rfl) (pe_bm PySem.F.plainAttrs_str PySem.F.slot_str_split PySem.F.type_str_split mt_split (pv 0) (pa_cons (pe_str) pa_nil)))
  (pss_cons (ps_set (i := 2) sc_law_q_read.nd rfl (Or.inl rfl) (pe_cmpR op_eq (pe_slice sl_str (pe_ix ix_list (pv 1) (pe_int) (fun _ _ => rfl)) (po_none) (po_some (pe_int))) (pe_str) (nomark _)))
  (pss_cons (ps_set (i := 3) sc_law_q_read.nd rfl (Or.inl rfl) (pe_op op_cat (pe_lst (pa_cons (pe_ifExp (pt_val (pv 2)) (pe_slice sl_str (pe_ix ix_list (pv 1) (pe_int) (fun _ _ => rfl)) (po_some (pe_int)) (po_none)) (pe_ix ix_list (pv 1) (pe_int) (fun _ _ => rfl))) pa_nil)) (pe_slice sl_list (pv 1) (po_some (pe_int)) (po_none))))
  (pss_cons (ps_if (PW.pt (pw_or (pt_cmpR op_gt (pe_callB call_len_seq rfl T.len bt_len (pa_cons (pv 1) pa_nil)) (pe_int) (nomark _)) (pw_or1 (pt_not (pt_val (pe_callB (cr_all rfl) rfl T.all bt_all (pa_cons (pe_lc (own := [("one", 6)]) (g := gName 6) (tt := tYes) rfl sc_law_q_read.nd (pi_list (pv 3)) (blkOk_by (own := [("one", 6)]) (N := ["text", "parts", "minus", "figures", "p", "n", "one", "sign"]) (sc := defScope s_law_q_read) (by decide +kernel)) (fun _ _ _ _ _ => pg_name (i := 6) sc_law_q_read.nd rfl (Or.inl rfl)) (fun _ _ _ _ _ => pts_nil) (fun _ _ _ _ _ => pe_and (pe_cmpR op_ne (pv 6) (pe_str) (nomark _)) (pe_one (pe_callB (cr_allK (K := K) rfl rfl) rfl T.all bt_all (pa_cons (pe_lc (own := [("sign", 7)]) (g := gName 7) (tt := tYes) rfl sc_law_q_read.nd (pi_str (pv 6)) (by exact blkOk_by (by kernel_rfl)) (fun _ _ _ _ _ => pg_name (i := 7) sc_law_q_read.nd rfl (Or.inl rfl)) (fun _ _ _ _ _ => pts_nil) (fun _ _ _ _ _ => pe_cmpR op_inS (pv 7) (pe_str) rfl)) pa_nil))))) pa_nil))))))) (pss_one (ps_ret (pe_non))) (pss_nil))
  (pss_cons (ps_if (pt_val (pe_callB (cr_any rfl) rfl T.any bt_any (pa_cons (pe_lc (own := [("one", 6)]) (g := gName 6) (tt := tYes) rfl sc_law_q_read.nd (pi_list (pv 3)) (blkOk_by (own := [("one", 6)]) (N := ["text", "parts", "minus", "figures", "p", "n", "one", "sign"]) (sc := defScope s_law_q_read) (by decide +kernel)) (fun _ _ _ _ _ => pg_name (i := 6) sc_law_q_read.nd rfl (Or.inl rfl)) (fun _ _ _ _ _ => pts_nil) (fun _ _ _ _ _ => pe_and (pe_cmpR op_eq (pe_ix ix_str (pv 6) (pe_int) (fun _ _ => rfl)) (pe_str) (nomark _)) (pe_one (pe_cmpR op_ne (pv 6) (pe_str) (nomark _))))) pa_nil))) (pss_one (ps_ret (pe_non))) (pss_nil))
  (pss_cons (ps_par (i := 4) (j := 5) rfl sc_law_q_read.nd rfl rfl (by decide) rfl rfl (pa_cons (pe_callTy call_int_str rfl T.int bt_int (pa_cons (pe_ix ix_list (pv 3) (pe_int) (fun _ _ => rfl)) pa_nil)) (pa_cons (pe_ifExp (pt_cmpR op_eq (pe_callB call_len_seq rfl T.len bt_len (pa_cons (pv 1) pa_nil)) (pe_int) (nomark _)) (pe_callTy call_int_str rfl T.int bt_int (pa_cons (pe_ix ix_list (pv 3) (pe_int) (fun _ _ => rfl)) pa_nil)) (pe_int)) pa_nil)) rfl)
  (pss_cons (ps_if (PW.pt (pw_or (PW.pt (pw_and (pt_val (pv 2)) (pw_and1 (pt_cmpR op_eq (pv 4) (pe_int) (nomark _))))) (pw_or (PW.pt (pw_and (pt_cmpR op_eq (pe_callB call_len_seq rfl T.len bt_len (pa_cons (pv 1) pa_nil)) (pe_int) (nomark _)) (pw_and1 (pt_cmpR op_lt (pv 5) (pe_int) (nomark _))))) (pw_or1 (pt_cmpR op_ne (pe_c C_law_divisor hr (by first | decide | omega) rfl (pa_cons (pv 4) (pa_cons (pv 5) pa_nil))) (pe_int) (nomark _)))))) (pss_one (ps_ret (pe_non))) (pss_nil))
  (pss_one (ps_ret (pe_tup (pa_cons (pe_ifExp (pt_val (pv 2)) (pe_un un_neg (pv 4)) (pv 4)) (pa_cons (pv 5) pa_nil)))))))))))), ?_⟩
    dsimp only [cxOf, Cx.nox, Cx.wish]
    refine ⟨_, rfl, _, _, _, rfl, isz1 hd (str_s d), _, rfl, ?_⟩
    cases e1 : isS d with
    | false => exact iteT (iteT (k1 (readD_no e1) H (Same.refl H)))
    | true =>
    obtain ⟨x, rfl⟩ : ∃ x, d = .str x := by cases d <;> first | exact ⟨_, rfl⟩ | cases e1
    have hx := hl x rfl
    cases hd
    refine iteF ⟨_, rfl, rfl, _, rfl, ?_⟩
    by_cases h0 : x = ""
    · subst h0
      refine ite2 (fun _ => ?_) fun z => absurd (decide_eq_true rfl) z
      exact k1 quot_nil H (Same.refl H)
    refine ite2 (fun z => absurd (V.str.inj (of_decide_eq_true z)) h0) fun _ => ?_
    have k1 : quotIn x = none → ∀ H', Same H H' → Q .non H' := k1
    have k2 : ∀ q, quotIn x = some q → ∀ t H', Same H H' → H' t = some (.tup [.int q.1, .int q.2]) → Q (.ref t) H' := k2
    have pos := split_pos x "/"
    have wide := split_le x "/"
    have short : ∀ p ∈ PySem.Txt.split x "/", p.length ≤ 640 := fun p hp => Nat.le_trans (part_short hp) hx
    unfold quotIn at k1 k2
    refine ⟨_, rfl, rfl, x, "/", rfl, rfl, by decide +kernel, by rw [sizeLine_eq]; omega, fun p hp => ?_⟩
    have s1 := same_upd (o := .lst ((PySem.Txt.split x "/").map V.str)) hp
    have hp1 : upd H p (.lst ((PySem.Txt.split x "/").map V.str)) p = some (.lst ((PySem.Txt.split x "/").map V.str)) := upd_same
    generalize upd H p (.lst ((PySem.Txt.split x "/").map V.str)) = H1 at s1 hp1 ⊢
    generalize PySem.Txt.split x "/" = ps at *
    obtain ⟨a, r, rfl⟩ : ∃ a r, ps = a :: r := by
      cases ps with
      | nil => exact absurd pos (by decide)
      | cons a r => exact ⟨a, r, rfl⟩
    have la := short a List.mem_cons_self
    have le : a.length ≤ sizeLine := by rw [sizeLine_eq]; omega
    have i0 : atI ((a :: r).map V.str) 0 = some (.str a) := atI_nat (j := 0) rfl
    have L1 : SqL K H1 p ((a :: r).map V.str) := SqL.of hp1
    refine ⟨_, rfl, p, _, 0, _, rfl, rfl, L1, i0, 1, rfl, a, rfl, le, rfl, ?_⟩
    rw [minus_dec]
    refine fig_if rfl rfl L1 i0 le ⟨by show 1 ≤ sizeLine; decide, fun p2 hp2 => ?_⟩
    have s2 := s1.trans (same_upd (o := .lst [V.str (bodyS a)]) hp2)
    have L2 := same_upd (o := .lst [V.str (bodyS a)]) hp2 _ _ hp1
    have M2 : upd H1 p2 (.lst [V.str (bodyS a)]) p2 = some (.lst [V.str (bodyS a)]) := upd_same
    generalize upd H1 p2 (.lst [V.str (bodyS a)]) = H2 at s2 L2 M2 ⊢
    refine ⟨_, rfl, 1, rfl, p, _, rfl, SqL.of L2, fun p3 hp3 => ?_⟩
    rw [cut_tail]
    have e3 : ((a :: r).map V.str).drop 1 = r.map V.str := rfl
    rw [e3]
    have s3 := s2.trans (same_upd (o := .lst (r.map V.str)) hp3)
    have L3 := same_upd (o := .lst (r.map V.str)) hp3 _ _ L2
    have M3 := same_upd (o := .lst (r.map V.str)) hp3 _ _ M2
    have N3 : upd H2 p3 (.lst (r.map V.str)) p3 = some (.lst (r.map V.str)) := upd_same
    generalize upd H2 p3 (.lst (r.map V.str)) = H3 at s3 L3 M3 N3 ⊢
    refine ⟨p2, p3, _, _, rfl, rfl, M3, N3, ?_, fun p4 hp4 => ?_⟩
    · rw [List.length_map, sizeLine_eq]
      have wide : r.length + 1 ≤ x.length + 2 := wide
      show 1 + _ ≤ _
      omega
    have e4 : [V.str (bodyS a)] ++ r.map V.str = (figs a r).map V.str := rfl
    rw [e4]
    have s4 := s3.trans (same_upd (o := .lst ((figs a r).map V.str)) hp4)
    have L4 := same_upd (o := .lst ((figs a r).map V.str)) hp4 _ _ L3
    have G4 : upd H3 p4 (.lst ((figs a r).map V.str)) p4 = some (.lst ((figs a r).map V.str)) := upd_same
    generalize upd H3 p4 (.lst ((figs a r).map V.str)) = H4 at s4 L4 G4 ⊢
    have el : ((a :: r).map V.str).length = r.length + 1 := by rw [List.length_map, List.length_cons]
    refine ⟨_, rfl, p, _, rfl, .inl (SqL.of L4), _, _, rfl, rfl, _, rfl, ?_⟩
    rw [el]
    by_cases many : 1 < r.length
    · refine ite2 (fun _ => ?_) fun z => absurd (decide_eq_true (by show (2 : Int) < ((r.length + 1 : Nat) : Int); omega)) z
      obtain ⟨b, c, l, er⟩ := two_more many
      exact k1 (by rw [er]; exact quotP3 a b c l) H4 s4
    refine ite2 (fun z => absurd (of_decide_eq_true z) (by show ¬ (2 : Int) < ((r.length + 1 : Nat) : Int); omega)) fun _ => ?_
    have fs : ∀ y ∈ figs a r, y.length ≤ 640 := by
      intro y hy
      rcases List.mem_cons.mp hy with rfl | hy
      · unfold bodyS
        split
        · exact Nat.le_trans (cutS_length a _ _) la
        · exact la
      · exact short y (List.mem_cons_of_mem _ hy)
    have fl : (figs a r).length ≤ 2 := by
      show r.length + 1 ≤ 2
      omega
    -- all([..])
    refine ⟨_, rfl, p4, rfl, ⟨_, SqL.of G4⟩, fun D hD => lc_list (fun i H' => H' D = some (.lst (((figs a r).take i).map fun y => V.bl (goodS y))) ∧ Same H4 H') ⟨upd_same, same_upd hD⟩ (fun i H' _ h => SqL.of (h.2 _ _ G4)) ?_ ?_⟩
    · rintro i y H5 hy ⟨d', s'⟩
      rw [List.getElem?_map] at hy
      obtain ⟨z, hz, rfl⟩ := Option.map_eq_some_iff.mp hy
      have zl := fs z (List.mem_of_getElem? hz)
      have li : ((figs a r).take i).length ≤ 2 := by
        rw [List.length_take]
        omega
      have done : ∀ H6, H6 D = some (.lst (((figs a r).take i).map fun y => V.bl (goodS y))) → Same H4 H6 → ∃ acc, H6 D = some (.lst acc) ∧ acc.length < sizeLine ∧ (upd H6 D (.lst (acc ++ [V.bl (goodS z)]))) D = some (.lst (((figs a r).take (i + 1)).map fun y => V.bl (goodS y))) ∧ Same H4 (upd H6 D (.lst (acc ++ [V.bl (goodS z)]))) := by
        intro H6 d6 s6
        refine ⟨_, d6, ?_, ?_, same_setL hD s6⟩
        · rw [List.length_map, sizeLine_eq]
          omega
        · rw [upd_same, List.take_succ, hz, List.map_append]
          rfl
      refine ⟨rfl, _, rfl, rfl, _, rfl, ?_⟩
      by_cases z0 : z = ""
      · have ez : goodS z = false := by unfold goodS; rw [decide_eq_false (fun y => y z0)]; rfl
        rw [ez] at done
        refine ite2 (fun q => absurd q (by rw [decide_eq_true (congrArg V.str z0)]; decide)) fun _ => ?_
        exact done H5 d' s'
      · have ez : goodS z = z.cps.toList.all inD := by unfold goodS; rw [decide_eq_true z0]; rfl
        rw [ez] at done
        refine ite2 (fun _ => ?_) fun q => absurd (by rw [decide_eq_false (fun y => z0 (V.str.inj y))]; rfl) q
        refine ⟨_, rfl, z, rfl, fun D2 hD2 => lc_it walk_str (fun i H' => H' D2 = some (.lst ((z.cps.toList.take i).map fun c => V.bl (inD c))) ∧ Same H5 H') ⟨upd_same, same_upd hD2⟩ (fun _ _ _ _ => True.intro) ?_ ?_⟩
        · rintro i y H6 H7 hi ⟨d6, s6⟩ ⟨rfl, c, hc, rfl⟩
          refine ⟨rfl, _, rfl, c, _, rfl, rfl, _, d6, ?_, ?_, same_setL hD2 s6⟩
          · rw [List.length_map, List.length_take, sizeLine_eq]
            have : z.length = z.cps.toList.length := (Array.length_toList).symm
            omega
          · rw [upd_same, List.take_succ, Array.getElem?_toList, hc, List.map_append]
            rfl
        · rintro H6 ⟨d6, s6⟩
          rw [← Array.length_toList, List.take_length] at d6
          refine ⟨D2, z.cps.toList.map inD, rfl, SqL.of (by rw [List.map_map]; exact d6), ?_⟩
          have ea : (z.cps.toList.map inD).all id = z.cps.toList.all inD := by rw [List.all_map]; rfl
          rw [ea]
          exact done H6 (s6 _ _ d') (s'.trans s6)
    · rintro H5 ⟨d', s'⟩
      rw [List.length_map, List.take_length] at d'
      refine ⟨D, (figs a r).map goodS, rfl, SqL.of (by rw [List.map_map]; exact d'), _, rfl, ?_⟩
      have ea : ((figs a r).map goodS).all id = (figs a r).all goodS := by rw [List.all_map]; rfl
      rw [ea]
      have s5 := s4.trans s'
      have G5 := s' _ _ G4
      have L5 := s' _ _ L4
      cases eg : (figs a r).all goodS with
      | false =>
        obtain ⟨y, hy, e⟩ := List.all_eq_false.mp eg
        exact iteT (B := True) (k1 (quotP_bad ⟨y, hy, numIn_no1 (by cases h : goodS y with | false => rfl | true => exact absurd h e)⟩) H5 s5)
      | true =>
      have good := List.all_eq_true.mp eg
      refine iteF ?_
      -- any([..])
      refine ⟨_, rfl, p4, rfl, ⟨_, SqL.of G5⟩, fun D3 hD3 => lc_list (fun i H' => H' D3 = some (.lst (((figs a r).take i).map fun y => V.bl (zeroS y))) ∧ Same H5 H') ⟨upd_same, same_upd hD3⟩ (fun i H' _ h => SqL.of (h.2 _ _ G5)) ?_ ?_⟩
      · rintro i y H6 hy ⟨d6, s6⟩
        rw [List.getElem?_map] at hy
        obtain ⟨z, hz, rfl⟩ := Option.map_eq_some_iff.mp hy
        have zl := fs z (List.mem_of_getElem? hz)
        have zg := good z (List.mem_of_getElem? hz)
        have z0 : z ≠ "" := of_decide_eq_true (Bool.and_eq_true_iff.mp zg).1
        obtain ⟨c, hc⟩ := str_ne z0
        have li : ((figs a r).take i).length ≤ 2 := by
          rw [List.length_take]
          omega
        have done : ∃ acc, H6 D3 = some (.lst acc) ∧ acc.length < sizeLine ∧ (upd H6 D3 (.lst (acc ++ [V.bl (zeroS z)]))) D3 = some (.lst (((figs a r).take (i + 1)).map fun y => V.bl (zeroS y))) ∧ Same H5 (upd H6 D3 (.lst (acc ++ [V.bl (zeroS z)]))) := by
          refine ⟨_, d6, ?_, ?_, same_setL hD3 s6⟩
          · rw [List.length_map, sizeLine_eq]
            omega
          · rw [upd_same, List.take_succ, hz, List.map_append]
            rfl
        refine ⟨rfl, _, rfl, z, 0, c, rfl, rfl, by rw [sizeLine_eq]; omega, atI_nat (j := 0) (by rw [Array.getElem?_toList]; exact hc), rfl, _, rfl, ?_⟩
        have e0 : decide (V.str ⟨#[c]⟩ = V.str "0") = decide (z.cps[0]? = some 48) := by
          have q := one0 hc
          rw [Bool.not_not] at q
          exact q
        rw [e0]
        cases e48 : decide (z.cps[0]? = some 48) with
        | false =>
          have ez : zeroS z = false := by unfold zeroS; rw [e48]; rfl
          rw [ez] at done
          exact iteF done
        | true =>
          have ez : zeroS z = !decide (V.str z = V.str "0") := by
            unfold zeroS
            rw [e48, Bool.true_and, Bool.eq_iff_iff]
            simp
          rw [ez] at done
          exact iteT ⟨_, rfl, rfl, done⟩
      · rintro H6 ⟨d6, s6⟩
        rw [List.length_map, List.take_length] at d6
        refine ⟨D3, (figs a r).map zeroS, rfl, SqL.of (by rw [List.map_map]; exact d6), _, rfl, ?_⟩
        have ea : ((figs a r).map zeroS).any id = (figs a r).any zeroS := by rw [List.any_map]; rfl
        rw [ea]
        have s7 := s5.trans s6
        have G6 := s6 _ _ G5
        have L6 := s6 _ _ L5
        cases ez : (figs a r).any zeroS with
        | true =>
          obtain ⟨y, hy, e⟩ := List.any_eq_true.mp ez
          exact iteT (B := True) (k1 (quotP_bad ⟨y, hy, numIn_no2 e⟩) H6 s7)
        | false =>
        have nz := List.any_eq_false.mp ez
        have nums : ∀ y ∈ figs a r, ∃ n, PySem.intText? y = some n ∧ numIn y = some n := fun y hy => numIn_yes (good y hy) (by cases h : zeroS y with | false => rfl | true => exact absurd h (nz y hy)) (fs y hy)
        refine iteF ?_
        obtain ⟨n, en, em⟩ := nums (bodyS a) List.mem_cons_self
        refine ⟨_, rfl, p4, _, 0, _, rfl, rfl, SqL.of G6, atI_nat (j := 0) rfl, bodyS a, n, rfl, en, fs _ List.mem_cons_self, ?_⟩
        cases r with
        | nil =>
          refine ⟨_, rfl, p, _, rfl, .inl (SqL.of L6), rfl, _, rfl, ?_⟩
          refine ite2 (fun z => absurd (V.int.inj (of_decide_eq_true z)) (fun y => by cases y)) fun _ => ?_
          refine ⟨_, _, rfl, ?_⟩
          rw [quotP1, em] at k1 k2
          have k1 : (if minusS a = true ∧ n = 0 then none else some (if minusS a = true then -n else n, (1 : Int))) = none → ∀ H', Same H H' → Q .non H' := k1
          have k2 : ∀ q, (if minusS a = true ∧ n = 0 then none else some (if minusS a = true then -n else n, (1 : Int))) = some q → ∀ t H', Same H H' → H' t = some (.tup [.int q.1, .int q.2]) → Q (.ref t) H' := k2
          refine ⟨_, rfl, _, rfl, ?_⟩
          by_cases hm : minusS a = true
          · rw [hm] at k1 k2 ⊢
            refine iteT ⟨_, rfl, rfl, _, rfl, ?_⟩
            by_cases hn : n = 0
            · refine ite2 (fun _ => ?_) fun z => absurd (decide_eq_true (congrArg V.int hn)) z
              exact iteT (B := True) (k1 (if_pos ⟨rfl, hn⟩) H6 s7)
            · refine ite2 (fun z => absurd (V.int.inj (of_decide_eq_true z)) hn) fun _ => ?_
              rw [if_neg (fun z => hn z.2)] at k1 k2
              refine ⟨_, rfl, p, _, rfl, .inl (SqL.of L6), rfl, _, rfl, ?_⟩
              refine ite2 (fun z => absurd (V.int.inj (of_decide_eq_true z)) (fun y => by cases y)) fun _ => ?_
              refine ⟨_, rfl, _, rfl, n, 1, rfl, rfl, _, rfl, ?_⟩
              refine ite2 (fun z => absurd z (by rw [Int.gcd_one_right]; decide)) fun _ => ?_
              refine ⟨_, rfl, _, rfl, iteT ⟨_, rfl, n, rfl, ?_⟩⟩
              exact ⟨_, rfl, by show 2 ≤ sizeLine; decide, fun t ht => k2 _ rfl t _ (s7.trans (same_upd ht)) upd_same⟩
          · have hm := Bool.eq_false_iff.mpr hm
            rw [hm] at k1 k2 ⊢
            refine iteF ?_
            rw [if_neg (fun z => by cases z.1)] at k1 k2
            refine ⟨_, rfl, p, _, rfl, .inl (SqL.of L6), rfl, _, rfl, ?_⟩
            refine ite2 (fun z => absurd (V.int.inj (of_decide_eq_true z)) (fun y => by cases y)) fun _ => ?_
            refine ⟨_, rfl, _, rfl, n, 1, rfl, rfl, _, rfl, ?_⟩
            refine ite2 (fun z => absurd z (by rw [Int.gcd_one_right]; decide)) fun _ => ?_
            refine ⟨_, rfl, _, rfl, iteF ⟨_, rfl, ?_⟩⟩
            exact ⟨_, rfl, by show 2 ≤ sizeLine; decide, fun t ht => k2 _ rfl t _ (s7.trans (same_upd ht)) upd_same⟩
        | cons b r2 =>
          cases r2 with
          | cons c l => exact absurd (show 1 < (b :: c :: l).length by rw [List.length_cons, List.length_cons]; omega) many
          | nil =>
          obtain ⟨m, en2, em2⟩ := nums b (List.mem_cons_of_mem _ List.mem_cons_self)
          refine ⟨_, rfl, p, _, rfl, .inl (SqL.of L6), rfl, _, rfl, ?_⟩
          refine ite2 (fun _ => ?_) fun z => absurd (decide_eq_true rfl) z
          refine ⟨_, rfl, p4, _, 1, _, rfl, rfl, SqL.of G6, atI_nat (j := 1) rfl, b, m, rfl, en2, fs b (List.mem_cons_of_mem _ List.mem_cons_self), ?_⟩
          refine ⟨_, _, rfl, ?_⟩
          rw [quotP2, em] at k1 k2
          have k1 : ((numIn b).bind fun m => if minusS a = true ∧ n = 0 then none else if m < 2 ∨ Int.gcd n m ≠ 1 then none else some (if minusS a = true then -n else n, m)) = none → ∀ H', Same H H' → Q .non H' := k1
          have k2 : ∀ q, ((numIn b).bind fun m => if minusS a = true ∧ n = 0 then none else if m < 2 ∨ Int.gcd n m ≠ 1 then none else some (if minusS a = true then -n else n, m)) = some q → ∀ t H', Same H H' → H' t = some (.tup [.int q.1, .int q.2]) → Q (.ref t) H' := k2
          rw [em2] at k1 k2
          have k1 : (if minusS a = true ∧ n = 0 then none else if m < 2 ∨ Int.gcd n m ≠ 1 then none else some (if minusS a = true then -n else n, m)) = none → ∀ H', Same H H' → Q .non H' := k1
          have k2 : ∀ q, (if minusS a = true ∧ n = 0 then none else if m < 2 ∨ Int.gcd n m ≠ 1 then none else some (if minusS a = true then -n else n, m)) = some q → ∀ t H', Same H H' → H' t = some (.tup [.int q.1, .int q.2]) → Q (.ref t) H' := k2
          refine ⟨_, rfl, _, rfl, ?_⟩
          by_cases hm : minusS a = true
          · rw [hm] at k1 k2 ⊢
            refine iteT ⟨_, rfl, rfl, _, rfl, ?_⟩
            by_cases hn : n = 0
            · refine ite2 (fun _ => ?_) fun z => absurd (decide_eq_true (congrArg V.int hn)) z
              exact iteT (B := True) (k1 (if_pos ⟨rfl, hn⟩) H6 s7)
            · refine ite2 (fun z => absurd (V.int.inj (of_decide_eq_true z)) hn) fun _ => ?_
              rw [if_neg (fun z => hn z.2)] at k1 k2
              refine ⟨_, rfl, p, _, rfl, .inl (SqL.of L6), rfl, _, rfl, ?_⟩
              refine ite2 (fun _ => ?_) fun z => absurd (decide_eq_true rfl) z
              refine ⟨_, rfl, _, _, rfl, rfl, _, rfl, ?_⟩
              by_cases hm2 : m < 2
              · refine ite2 (fun _ => ?_) fun z => absurd (decide_eq_true hm2) z
                exact iteT (B := True) (k1 (if_pos (.inl hm2)) H6 s7)
              · refine ite2 (fun z => absurd (of_decide_eq_true z) hm2) fun _ => ?_
                refine ⟨_, rfl, _, rfl, n, m, rfl, rfl, _, rfl, ?_⟩
                by_cases hg : Int.gcd n m = 1
                · rw [if_neg (fun z => z.elim hm2 (fun y => y hg))] at k2
                  refine ite2 (fun z => absurd z (by rw [hg]; decide)) fun _ => ?_
                  refine ⟨_, rfl, _, rfl, iteT ⟨_, rfl, n, rfl, ?_⟩⟩
                  exact ⟨_, rfl, by show 2 ≤ sizeLine; decide, fun t ht => k2 _ rfl t _ (s7.trans (same_upd ht)) upd_same⟩
                · refine ite2 (fun _ => ?_) fun z => absurd (by rw [show decide (V.int ((Int.gcd n m : Nat) : Int) = V.int 1) = false from decide_eq_false (fun y => hg (by have y := V.int.inj y; omega))]; rfl) z
                  exact iteT (B := True) (k1 (if_pos (.inr hg)) H6 s7)
          · have hm := Bool.eq_false_iff.mpr hm
            rw [hm] at k1 k2 ⊢
            refine iteF ?_
            rw [if_neg (fun z => by cases z.1)] at k1 k2
            refine ⟨_, rfl, p, _, rfl, .inl (SqL.of L6), rfl, _, rfl, ?_⟩
            refine ite2 (fun _ => ?_) fun z => absurd (decide_eq_true rfl) z
            refine ⟨_, rfl, _, _, rfl, rfl, _, rfl, ?_⟩
            by_cases hm2 : m < 2
            · refine ite2 (fun _ => ?_) fun z => absurd (decide_eq_true hm2) z
              exact iteT (B := True) (k1 (if_pos (.inl hm2)) H6 s7)
            · refine ite2 (fun z => absurd (of_decide_eq_true z) hm2) fun _ => ?_
              refine ⟨_, rfl, _, rfl, n, m, rfl, rfl, _, rfl, ?_⟩
              by_cases hg : Int.gcd n m = 1
              · rw [if_neg (fun z => z.elim hm2 (fun y => y hg))] at k2
                refine ite2 (fun z => absurd z (by rw [hg]; decide)) fun _ => ?_
                refine ⟨_, rfl, _, rfl, iteF ⟨_, rfl, ?_⟩⟩
                exact ⟨_, rfl, by show 2 ≤ sizeLine; decide, fun t ht => k2 _ rfl t _ (s7.trans (same_upd ht)) upd_same⟩
              · refine ite2 (fun _ => ?_) fun z => absurd (by rw [show decide (V.int ((Int.gcd n m : Nat) : Int) = V.int 1) = false from decide_eq_false (fun y => hg (by have y := V.int.inj y; omega))]; rfl) z
                exact iteT (B := True) (k1 (if_pos (.inr hg)) H6 s7)
end
end K01

set_option maxHeartbeats 4000000
namespace K01
open PySem PySem.Spec PyProof.Rows L2 SpE He
open C8 (Cal pe_c)
abbrev ExtN := @LamX.ExtN
theorem extN_of {H H' : Hp} (s : Same H H') : LamX.ExtN H H' := fun b o e _ => s b o e
theorem rdN {H H' : Hp} (s : LamX.ExtN H H') {a : Addr} {u : HO} (h : Rd H a u) (n : ∀ ps, u ≠ .tbl ps) : Rd H' a u := by
  rcases h with h | ⟨o, h⟩
  · exact .inl (s _ _ h n)
  · exact .inr ⟨o, s _ _ h (fun ps z => by cases z)⟩
section
variable {K : PySem.W.Frag} {H H' : Hp}
theorem sqL_n {a : Addr} {xs : List V} (s : LamX.ExtN H H') (h : SqL K H a xs) : SqL K H' a xs := h.elim (fun z => .inl (rdN s z (fun ps z => by cases z))) .inr
theorem sqT_n {a : Addr} {xs : List V} (s : LamX.ExtN H H') (h : SqT K H a xs) : SqT K H' a xs := h.elim (fun z => .inl (rdN s z (fun ps z => by cases z))) .inr
mutual
theorem dtN (s : LamX.ExtN H H') : ∀ {v : V} {d : PyData}, Dt K H v d → Dt K H' v d
  | _, _, .non => .non
  | _, _, .bl b => .bl b
  | _, _, .int i => .int i
  | _, _, .str x => .str x
  | _, _, .lst q z h => .lst (sqL_n s q) z (dtAllN s h)
  | _, _, .tup q z h => .tup (sqT_n s q) z (dtAllN s h)
  | _, _, .dct q n z e h => .dct (rdN s q (fun ps z => by cases z)) n z e (dtAllN s h)
theorem dtAllN (s : LamX.ExtN H H') : ∀ {vs : List V} {ds : List PyData}, DtAll K H vs ds → DtAll K H' vs ds
  | _, _, .nil => .nil
  | _, _, .cons h t => .cons (dtN s h) (dtAllN s t)
end
theorem stN {a b : Addr} {c : Nat} (s : LamX.ExtN H H') (h : StA H a b c) : StA H' a b c := by
  obtain ⟨d, n, m, ns, ha, hb, r⟩ := h.ex
  exact ⟨d, n, m, ns, s _ _ ha (fun ps z => by cases z), s _ _ hb (fun ps z => by cases z), r⟩
theorem qatN {v : V} {q : Int × Int} (s : LamX.ExtN H H') (h : QAt K H v q) : QAt K H' v q := by
  obtain ⟨a, e, x⟩ := h
  exact ⟨a, e, x.imp (sqL_n s) (sqT_n s)⟩
end
structure ToldC (P : Program) (w : World) (K : PySem.W.Frag) (mg : Str → Option Value) (base : Heap) : Prop where
  T : Txt P w K mg base
  ex : ∃ f fd, DefOf K "_law_told" s_law_told f fd ∧ mg "_law_told" = some (.ref f) ∧ L2.Binds K fd ["ask"] []
theorem pe_told {X : Cx} {c Pt : Addr} {k : Nat} {params : Arguments} {body : Expr} {scope : Scope} {t : XK → TE} {p lpos pos : Pos} (C : ToldC X.prog X.w X.K X.mg X.base) (hg : Gl X "_law_told") (TB : LamX.TabB X.base X.mg c Pt) (hcode : X.env.code = .ref c) (hr : Room (k + 2) X.A) (L : LamX.LamS X.env.scope scope)
    (hdef : defaultsOf params X.env = ([], [])) (hbind : ∀ (q : Str) (cl : List (Str × Addr)) (pm cv ctv : Value), bindArgs (PySem.W.kla_fn "<lambda>" q params body scope cl pm cv ctv) ⟨[], []⟩ = pure [])
    (hbody : ∀ (A : Around) (outer : List Env) (s : Shared) (H : Hp) (E : XK) (f c' : Addr), Room k (A.deeper (LamX.lamEnv X scope s.heap.objs.size f c')) → PE (LamX.lamCx X A outer s H E scope f c') body (t E)) :
    PE X (.Call (.Name "_law_told" p) [.Lambda params body scope lpos] [] pos) (LamX.tLam [(Pt, X.env.qual ++ "<lambda>")] (TTq X.K) t) := by
  obtain ⟨f, fd, F, hm, b⟩ := C.ex
  obtain ⟨oc, od, dV, kV, doc, pm, an, cdv, ct, osl, rfl, lk, hcd, _, _⟩ := F.ex
  exact LamX.pe_lamcall (Ng := ["ask", "found", "e"]) (a := "ask") hg hm F.kp lk hcd b sc_law_told rfl (Or.inl rfl) (told_gives rfl rfl rfl rfl rfl C.T) TB hcode List.mem_cons_self (fun q hq _ => by rw [List.mem_singleton.mp hq]) hr L hdef hbind hbody
end K01

set_option maxHeartbeats 4000000
namespace K01
open PySem PySem.Spec PyProof.Rows L2 SpE He
section
variable {P : Program} {w : World} {K : PySem.W.Frag} {mg : Str → Option Value} {base : Heap} {H H' : Hp} {a b : Addr} {n : Nat} {q r : Int × Int} {v u : V}
theorem isQ_pair (ok : Okq q) : isQ2 (.int q.1) (.int q.2) = true := by
  obtain ⟨h1, h2⟩ := ok
  show (decide (1 ≤ q.2) && decide (Int.gcd q.1 q.2 = 1)) = true
  rw [decide_eq_true h1, decide_eq_true h2]
  rfl
theorem qat_dt (h : QAt K H v q) (ok : Okq q) : ∃ d, Dt K H v d ∧ isQd d = true := by
  obtain ⟨x, rfl, h⟩ := h
  rcases h with h | h
  · exact ⟨_, .lst h (by show 2 ≤ sizeLine; decide) (.cons (.int _) (.cons (.int _) .nil)), isQ_pair ok⟩
  · exact ⟨_, .tup h (by show 2 ≤ sizeLine; decide) (.cons (.int _) (.cons (.int _) .nil)), isQ_pair ok⟩
theorem pub_call {R : Int × Int → Int × Int → PyData} {Q : VK} {E : XK} (h1 : QAt K H v q) (h2 : QAt K H u r) (o1 : Okq q) (o2 : Okq r) (m1 : Sm q) (m2 : Sm r) (k : ∀ w H', Same H H' → Dt K H' w (R q r) → Q w H') : spPub K (okR K R) [v, u] H Q E := by
  obtain ⟨d, hd, e⟩ := qat_dt h1 o1
  obtain ⟨d2, hd2, e2⟩ := qat_dt h2 o2
  exact ⟨v, u, d, d2, rfl, hd, hd2, fun z => by rw [e] at z; (cases z), fun _ z => by rw [e2] at z; (cases z), fun _ _ => ⟨q, r, h1, h2, m1, m2, k⟩⟩
theorem over_call {Q : VK} {E : XK} (h1 : QAt K H v q) (h2 : QAt K H u r) (o1 : Okq q) (o2 : Okq r) (m1 : Sm q) (m2 : Sm r) (n0 : r.1 ≠ 0) (k : ∀ w H', Same H H' → Dt K H' w (tupD (divv q r)) → Q w H') : spPub K (okO K) [v, u] H Q E := by
  obtain ⟨d, hd, e⟩ := qat_dt h1 o1
  obtain ⟨d2, hd2, e2⟩ := qat_dt h2 o2
  exact ⟨v, u, d, d2, rfl, hd, hd2, fun z => by rw [e] at z; (cases z), fun _ z => by rw [e2] at z; (cases z), fun _ _ => ⟨q, r, h1, h2, m1, m2, fun z => absurd z n0, fun _ => k⟩⟩
theorem over_zero {Q : VK} {E : XK} (h1 : QAt K H v q) (h2 : QAt K H u r) (o1 : Okq q) (o2 : Okq r) (m1 : Sm q) (m2 : Sm r) (n0 : r.1 = 0) (k : ErrE K "BadOther" "other" u H E) : spPub K (okO K) [v, u] H Q E := by
  obtain ⟨d, hd, e⟩ := qat_dt h1 o1
  obtain ⟨d2, hd2, e2⟩ := qat_dt h2 o2
  exact ⟨v, u, d, d2, rfl, hd, hd2, fun z => by rw [e] at z; (cases z), fun _ z => by rw [e2] at z; (cases z), fun _ _ => ⟨q, r, h1, h2, m1, m2, fun _ => k, fun z => absurd n0 z⟩⟩
theorem one_call {R : Int × Int → PyData} {c : Int × Int → Prop} {Q : VK} {E : XK} (h1 : QAt K H v q) (o1 : Okq q) (m1 : c q) (k : ∀ w H', Same H H' → Dt K H' w (R q) → Q w H') : spOne K R c [v] H Q E := by
  obtain ⟨d, hd, e⟩ := qat_dt h1 o1
  exact ⟨v, d, rfl, hd, fun z => by rw [e] at z; (cases z), fun _ => ⟨q, h1, m1, k⟩⟩
theorem isq_call {Q : VK} {E : XK} (h1 : QAt K H v q) (o1 : Okq q) (k : ∀ H', Same H H' → Q (.bl true) H') : spP K isQd [v] H Q E := by
  obtain ⟨d, hd, e⟩ := qat_dt h1 o1
  exact ⟨v, d, rfl, hd, fun H' s => by rw [e]; exact k H' s⟩
theorem st_ne {x : Addr} {o : HO} (S : StA H a b n) (h : H x = some o) (no : ∀ xs, o ≠ .lst xs) : x ≠ a ∧ x ≠ b := by
  obtain ⟨d, n, m, ns, ha, hb, _⟩ := S.ex
  refine ⟨fun e => ?_, fun e => ?_⟩
  · rw [e, ha] at h
    exact no _ (Option.some.inj h).symm
  · rw [e, hb] at h
    exact no _ (Option.some.inj h).symm
theorem tabsB {T : List (Addr × Str)} (S : StA H a b n) (B : SameB a b H H') (h : LamX.Tabs T H) : LamX.Tabs T H' := by
  have kp : ∀ x o, (∀ xs, o ≠ .lst xs) → H x = some o → H' x = some o := fun x o no e => by
    obtain ⟨h1, h2⟩ := st_ne S e no
    exact B x o h1 h2 e
  intro p hp
  obtain ⟨ps, h1, h2, h3⟩ := h p hp
  refine ⟨ps, kp _ _ (fun xs z => by cases z) h1, h2, fun pos cv hc => ?_⟩
  obtain ⟨c, e1, e2⟩ := h3 pos cv hc
  exact ⟨c, e1, kp _ _ (fun xs z => by unfold LamX.CodeO at z; cases z) e2⟩
theorem tabsS {T : List (Addr × Str)} (s : Same H H') (h : LamX.Tabs T H) : LamX.Tabs T H' := h.ext s
def flatD : PyData → Bool
  | .tuple ds => ds.all scD
  | d => scD d
theorem dt_sc {d : PyData} (h : Dt K H v d) (f : scD d = true) : Dt K H' v d := by
  cases h with
  | non => exact .non
  | bl b => exact .bl b
  | int i => exact .int i
  | str x => exact .str x
  | lst _ _ _ => cases f
  | tup _ _ _ => cases f
  | dct _ _ _ _ _ => cases f
theorem dtAll_sc : ∀ {xs : List V} {ds : List PyData}, DtAll K H xs ds → ds.all scD = true → DtAll K H' xs ds
  | _, _, .nil, _ => .nil
  | _, _, .cons h t, f => by
    obtain ⟨f1, f2⟩ := Bool.and_eq_true_iff.mp (show (_ && _) = true from f)
    exact .cons (dt_sc h f1) (dtAll_sc t f2)
theorem dt_flat {d : PyData} (s : ∀ x xs, Rd H x (.tup xs) → Rd H' x (.tup xs)) (h : Dt K H v d) (f : flatD d = true) : Dt K H' v d := by
  cases h with
  | non => exact .non
  | bl b => exact .bl b
  | int i => exact .int i
  | str x => exact .str x
  | lst _ _ _ => cases f
  | tup q z hx => exact .tup (q.elim (fun z => .inl (s _ _ z)) .inr) z (dtAll_sc hx f)
  | dct _ _ _ _ _ => cases f
theorem dtAll_flat (s : ∀ x xs, Rd H x (.tup xs) → Rd H' x (.tup xs)) : ∀ {xs : List V} {ds : List PyData}, DtAll K H xs ds → ds.all flatD = true → DtAll K H' xs ds
  | _, _, .nil, _ => .nil
  | _, _, .cons h t, f => by
    obtain ⟨f1, f2⟩ := Bool.and_eq_true_iff.mp (show (_ && _) = true from f)
    exact .cons (dt_flat s h f1) (dtAll_flat s t f2)
theorem rd_same (s : Same H H') : ∀ x xs, Rd H x (.tup xs) → Rd H' x (.tup xs) := fun x xs h => sameR_of s _ _ h
theorem rd_b {c : Nat} (S : StA H a b c) (B : SameB a b H H') : ∀ x xs, Rd H x (.tup xs) → Rd H' x (.tup xs) := fun x xs h => by
  rcases h with h | ⟨o, h⟩
  · obtain ⟨h1, h2⟩ := st_ne S h (fun xs z => by cases z)
    exact .inl (B _ _ h1 h2 h)
  · obtain ⟨h1, h2⟩ := st_ne S h (fun xs z => by cases z)
    exact .inr ⟨o, B _ _ h1 h2 h⟩
theorem rd_lst {D : Addr} {acc ys : List V} (h : H D = some (.lst acc)) : ∀ x xs, Rd H x (.tup xs) → Rd (upd H D (.lst ys)) x (.tup xs) := fun x xs r => by
  have n : ∀ {o}, H x = some o → (∀ l, o ≠ .lst l) → x ≠ D := fun {o} e no z => by
    rw [z, h] at e
    exact no _ (Option.some.inj e).symm
  rcases r with r | ⟨o, r⟩
  · exact .inl (by rw [upd_ne (n r (fun l z => by cases z))]; exact r)
  · exact .inr ⟨o, by rw [upd_ne (n r (fun l z => by cases z))]; exact r⟩
def askD (q r : Int × Int) : List PyData := [tupD (addv q r), tupD (addv q (negv r)), tupD (mulv q r), .int (sgnv (addv q (negv r)).1)]
theorem askD_flat (q r : Int × Int) (i : Nat) : ((askD q r).take i).all flatD = true := by
  rw [List.all_eq_true]
  intro d hd
  have hd := List.mem_of_mem_take hd
  simp only [askD, List.mem_cons, List.not_mem_nil, or_false] at hd
  rcases hd with rfl | rfl | rfl | rfl <;> rfl
theorem sgn_sub (o1 : 1 ≤ q.2) (o2 : 1 ≤ r.2) : sgnv (addv q (negv r)).1 = if q.1 * r.2 - r.1 * q.2 = 0 then 0 else if 0 < q.1 * r.2 - r.1 * q.2 then 1 else -1 := by
  have hp : 0 < q.2 * r.2 := Int.mul_pos (by omega) (by omega)
  obtain ⟨h1, h2⟩ := qn_sgn (p := q.1 * r.2 + (-r.1) * q.2) hp
  have e : q.1 * r.2 + (-r.1) * q.2 = q.1 * r.2 - r.1 * q.2 := by rw [Int.neg_mul]; omega
  have ev : addv q (negv r) = qn (q.1 * r.2 + (-r.1) * q.2) (q.2 * r.2) := rfl
  rw [ev]
  unfold sgnv
  rw [e] at h1 h2 ⊢
  by_cases c : q.1 * r.2 - r.1 * q.2 = 0
  · rw [if_pos (h1.mpr c), if_pos c]
  · rw [if_neg (fun z => c (h1.mp z)), if_neg c]
    by_cases c2 : 0 < q.1 * r.2 - r.1 * q.2
    · rw [if_pos (h2.mpr c2), if_pos c2]
    · rw [if_neg (fun z => c2 (h2.mp z)), if_neg c2]
def AskR (P : Program) (w : World) (K : PySem.W.Frag) (mg : Str → Option Value) (base : Heap) (q r : Int × Int) (v : V) (d : PyData) : Prop := ∃ f R, v = .ref f ∧ HeldX P w K mg base 6 f ["other", "q"] (spPub K (okR K R)) ∧ R q r = d
theorem ask_at {f1 f2 f3 f4 : Addr} (h1 : HeldX P w K mg base 6 f1 ["other", "q"] (spPub K (okR K fun q o => tupD (addv q o)))) (h2 : HeldX P w K mg base 6 f2 ["other", "q"] (spPub K (okR K fun q o => tupD (addv q (negv o)))))
    (h3 : HeldX P w K mg base 6 f3 ["other", "q"] (spPub K (okR K fun q o => tupD (mulv q o)))) (h4 : HeldX P w K mg base 6 f4 ["other", "q"] (spPub K (okR K fun q o => .int (sgnv (addv q (negv o)).1)))) {i : Nat} {x : V} (hx : ([.ref f1, .ref f2, .ref f3, .ref f4] : List V)[i]? = some x) :
    ∃ d, (askD q r)[i]? = some d ∧ AskR P w K mg base q r x d := by
  match i, hx with
  | 0, hx => exact ⟨_, rfl, f1, _, (Option.some.inj hx).symm, h1, rfl⟩
  | 1, hx => exact ⟨_, rfl, f2, _, (Option.some.inj hx).symm, h2, rfl⟩
  | 2, hx => exact ⟨_, rfl, f3, _, (Option.some.inj hx).symm, h3, rfl⟩
  | 3, hx => exact ⟨_, rfl, f4, _, (Option.some.inj hx).symm, h4, rfl⟩
  | i + 4, hx => simp at hx
theorem sgn_if {σ : L2.St} {H : Hp} {Q : VK} {z : Int} (h5 : σ[5]? = some (some (.int z))) (k : Q (.int (if z = 0 then 0 else if 0 < z then 1 else -1)) H) :
    tIf (tTest (tOp rEq (tVar 5) (tC (V.int 0)))) (tC (V.int 0)) (tIf (tTest (tOp (rI0 fun i j => V.bl (decide (j < i))) (tVar 5) (tC (V.int 0)))) (tC (V.int 1)) (tUn (rU fun i => V.int (-i)) (tC (V.int 1)))) σ H Q := by
  refine ⟨_, h5, rfl, _, rfl, ?_⟩
  by_cases c : z = 0
  · rw [if_pos c] at k
    exact ite2 (fun _ => k) fun y => absurd (decide_eq_true (congrArg V.int c)) y
  · rw [if_neg c] at k
    refine ite2 (fun y => absurd (V.int.inj (of_decide_eq_true y)) c) fun _ => ?_
    refine ⟨_, h5, _, _, rfl, rfl, _, rfl, ?_⟩
    by_cases c2 : 0 < z
    · rw [if_pos c2] at k
      exact ite2 (fun _ => k) fun y => absurd (decide_eq_true c2) y
    · rw [if_neg c2] at k
      exact ite2 (fun y => absurd (of_decide_eq_true y) c2) fun _ => ⟨1, rfl, k⟩
theorem qatB (B : SameB a b H H') (h : QAt K H v q) (n1 : v ≠ .ref a) (n2 : v ≠ .ref b) : QAt K H' v q := by
  obtain ⟨x, rfl, h⟩ := h
  have na : x ≠ a := fun z => n1 (congrArg V.ref z)
  have nb : x ≠ b := fun z => n2 (congrArg V.ref z)
  have kp : ∀ u, Rd H x u → Rd H' x u := fun u r => by
    rcases r with r | ⟨o, r⟩
    · exact .inl (B _ _ na nb r)
    · exact .inr ⟨o, B _ _ na nb r⟩
  exact ⟨x, rfl, h.imp (fun z => z.imp (kp _) id) (fun z => z.imp (kp _) id)⟩
theorem dep_ask : dep (.list (askD q r)) < 6 := by simp [dep, depAll, askD, tupD]
theorem askD_at {i : Nat} {d : PyData} (h : (askD q r)[i]? = some d) : flatD d = true := by
  have z := askD_flat q r 4
  rw [List.all_eq_true] at z
  exact z d (List.mem_of_getElem? h)
theorem askD_snoc {i : Nat} {d : PyData} (h : (askD q r)[i]? = some d) : (askD q r).take (i + 1) = (askD q r).take i ++ [d] := by
  rw [List.take_succ, h]
  rfl
theorem dtB_list {x : Addr} {ds : List PyData} {c : Nat} (S : StA H a b c) (B : SameB a b H H') (n1 : x ≠ a) (n2 : x ≠ b) (f : ds.all flatD = true) (h : Dt K H (.ref x) (.list ds)) : Dt K H' (.ref x) (.list ds) := by
  have kp : ∀ u, Rd H x u → Rd H' x u := fun u r => by
    rcases r with r | ⟨o, r⟩
    · exact .inl (B _ _ n1 n2 r)
    · exact .inr ⟨o, B _ _ n1 n2 r⟩
  cases h with
  | lst q z hx => exact .lst (q.imp (kp _) id) z (dtAll_flat (rd_b S B) hx f)
def badD (x : Str) (d : PyData) : PyData := .tuple [.str "bad", .str x, d]
theorem dep_bad {x : Str} {d : PyData} {k : Nat} (h : dep d < k) : dep (badD x d) < k + 1 := by
  unfold badD
  rw [dep, depAll, depAll, depAll, depAll]
  have e : ∀ y : Str, dep (.str y) = 0 := fun _ => rfl
  rw [e, e]
  omega
theorem zero_ok : Okq (0, 1) := ⟨by decide, by decide⟩
theorem zero_sm : Sm (0, 1) := ⟨by decide, by decide, by decide, by decide⟩
theorem told_bad {C f x : Str} {Q : VK} (h : (C = "BadQuotient" ∧ f = "q" ∧ x = "quotient") ∨ (C = "BadOther" ∧ f = "other" ∧ x = "other") ∨ (C = "BadQuotientText" ∧ f = "text" ∧ x = "text"))
    (k : ∀ t H', Same H H' → H' t = some (.tup [.str "bad", .str x, v]) → Q (.ref t) H') : ErrE K C f v H (tolE K Q) := fun d H' s e => by
  refine ⟨d, rfl, ?_⟩
  rcases h with ⟨rfl, rfl, rfl⟩ | ⟨rfl, rfl, rfl⟩ | ⟨rfl, rfl, rfl⟩
  · exact .inl ⟨rfl, v, e, fun t H2 s2 h2 => k t H2 (s.trans s2) h2⟩
  · exact .inr (.inl ⟨rfl, v, e, fun t H2 s2 h2 => k t H2 (s.trans s2) h2⟩)
  · exact .inr (.inr (.inl ⟨rfl, v, e, fun t H2 s2 h2 => k t H2 (s.trans s2) h2⟩))
theorem dt_bad {x : Str} {d : PyData} {t : Addr} (h : H t = some (.tup [.str "bad", .str x, v])) (hv : Dt K H v d) : Dt K H (.ref t) (badD x d) :=
  .tup (SqT.of h) (by show 3 ≤ sizeLine; decide) (.cons (.str _) (.cons (.str _) (.cons hv .nil)))
def dueD (p n : Int) : PyData := if n = 0 then badD "parts" (.list [.int p, .int n]) else .tuple [.str "told", tupD (qn p n)]
theorem dep_due {p n : Int} : dep (dueD p n) < 6 := by
  unfold dueD
  split
  · simp [badD, dep, depAll]
  · simp [tupD, dep, depAll]
theorem dt_parts {l t : Addr} {d e : PyData} (hl : H l = some (.lst [v, u])) (ht : H t = some (.tup [.str "bad", .str "parts", .ref l])) (hv : Dt K H v d) (hu : Dt K H u e) : Dt K H (.ref t) (badD "parts" (.list [d, e])) :=
  dt_bad ht (.lst (SqL.of hl) (by show 2 ≤ sizeLine; decide) (.cons hv (.cons hu .nil)))
theorem dt_told {t : Addr} {d : PyData} (ht : H t = some (.tup [.str "told", v])) (hv : Dt K H v d) : Dt K H (.ref t) (.tuple [.str "told", d]) :=
  .tup (SqT.of ht) (by show 2 ≤ sizeLine; decide) (.cons (.str _) (.cons hv .nil))
theorem told_parts_bad {d e : PyData} {Q Q2 : VK} (hv : Dt K H v d) (hu : Dt K H u e) (no : partsD d e = none) (k : ∀ t H', Same H H' → Dt K H' (.ref t) (badD "parts" (.list [d, e])) → Q (.ref t) H') : spQof K [v, u] H Q2 (tolE K Q) :=
  ⟨v, u, d, e, rfl, hv, hu, fun _ x H' s h => ⟨x, rfl, .inr (.inr (.inr ⟨rfl, v, u, h, fun l t H2 s2 hl ht => k t H2 (s.trans s2) (dt_parts hl ht ((hv.keep s).keep s2) ((hu.keep s).keep s2))⟩))⟩, fun p n z => by rw [no] at z; (cases z)⟩
theorem told_parts {p n : Int} {Q Q2 : VK} (hn : n.natAbs < 4611686018427387904) (hQ : ∀ v H1, (∀ t H2, Same H1 H2 → H2 t = some (.tup [.str "told", v]) → Q (.ref t) H2) → Q2 v H1) (k : ∀ t H', Same H H' → Dt K H' (.ref t) (dueD p n) → Q (.ref t) H') :
    spQof K [.int p, .int n] H Q2 (tolE K Q) := by
  by_cases c : n = 0
  · refine told_parts_bad (.int p) (.int n) (if_pos c) fun t H' s h => k t H' s ?_
    unfold dueD
    rw [if_pos c]
    exact h
  · refine ⟨_, _, .int p, .int n, rfl, .int _, .int _, fun z => absurd z (by show (if n = 0 then none else some (p, n)) ≠ none; rw [if_neg c]; exact fun y => by cases y), fun p' n' e => ?_⟩
    have e : (if n = 0 then none else some (p, n)) = some (p', n') := e
    rw [if_neg c] at e
    cases e
    refine ⟨hn, fun t H' s h => hQ _ _ fun t2 H2 s2 h2 => k t2 H2 (s.trans s2) ?_⟩
    unfold dueD
    rw [if_neg c]
    exact dt_told h2 (dt_tup (s2 _ _ h))
def oddsA : List PyData := [.none, .bool true, .str "1", .tuple [.int 1, .int 1], .list [.int 1]]
theorem oddsA_no {i : Nat} {d : PyData} (h : oddsA[i]? = some d) : isI d = false ∧ dep d < 3 := by
  have z : oddsA.all (fun d => !isI d && decide (dep d < 3)) = true := by decide +kernel
  have y := List.all_eq_true.mp z d (List.mem_of_getElem? h)
  obtain ⟨y1, y2⟩ := Bool.and_eq_true_iff.mp y
  exact ⟨by simpa using y1, of_decide_eq_true y2⟩
theorem dep_parts {d e : PyData} (hd : dep d < 3) (he : dep e < 3) : dep (badD "parts" (.list [d, e])) < 6 := by
  refine dep_bad (k := 5) ?_
  rw [dep, depAll, depAll, depAll]
  omega
def oddsB : List PyData := [.none, .int 5, .tuple [], .tuple [.int 1], .tuple [.int 2, .int 4], .tuple [.int 1, .int 0], .tuple [.int 1, .int (-2)], .tuple [.int 0, .int 2], .tuple [.bool true, .int 1], .tuple [.int 1, .bool true], .str "1/2", .tuple [.int 1, .int 2, .int 3], .dict [], .list [.none, .int 1]]
theorem oddsB_no {i : Nat} {d : PyData} (h : oddsB[i]? = some d) : isQd d = false ∧ dep d < 3 := by
  have z : oddsB.all (fun d => !isQd d && decide (dep d < 3)) = true := by decide +kernel
  have y := List.all_eq_true.mp z d (List.mem_of_getElem? h)
  obtain ⟨y1, y2⟩ := Bool.and_eq_true_iff.mp y
  exact ⟨by simpa using y1, of_decide_eq_true y2⟩
def cpB : PyData → Bool
  | .list ds => ds.all scD
  | .tuple ds => ds.all scD
  | d => scD d
theorem oddsB_cp {i : Nat} {d : PyData} (h : oddsB[i]? = some d) : cpB d = true ∨ (i = 12 ∧ d = .dict []) := by
  match i, h with
  | 0, h => exact .inl (by rw [← Option.some.inj h]; rfl)
  | 1, h => exact .inl (by rw [← Option.some.inj h]; rfl)
  | 2, h => exact .inl (by rw [← Option.some.inj h]; rfl)
  | 3, h => exact .inl (by rw [← Option.some.inj h]; rfl)
  | 4, h => exact .inl (by rw [← Option.some.inj h]; rfl)
  | 5, h => exact .inl (by rw [← Option.some.inj h]; rfl)
  | 6, h => exact .inl (by rw [← Option.some.inj h]; rfl)
  | 7, h => exact .inl (by rw [← Option.some.inj h]; rfl)
  | 8, h => exact .inl (by rw [← Option.some.inj h]; rfl)
  | 9, h => exact .inl (by rw [← Option.some.inj h]; rfl)
  | 10, h => exact .inl (by rw [← Option.some.inj h]; rfl)
  | 11, h => exact .inl (by rw [← Option.some.inj h]; rfl)
  | 12, h => exact .inr ⟨rfl, (Option.some.inj h).symm⟩
  | 13, h => exact .inl (by rw [← Option.some.inj h]; rfl)
  | i + 14, h => simp [oddsB] at h
theorem copy_call {d : PyData} {Q : VK} {E : XK} (hv : Dt K H v d) (cp : cpB d = true ∨ (d = .dict [] ∧ ∃ p, v = .ref p ∧ H p = some (.dK []))) (k : ∀ w H', Same H H' → Dt K H' w d → Q w H') : spCopy K 3 [v] H Q E := by
  refine ⟨v, d, rfl, hv, ?_⟩
  rcases cp with cp | ⟨rfl, p, rfl, hp⟩
  · cases d with
    | none => exact .inl ⟨rfl, fun H' s => k _ H' s (hv.keep s)⟩
    | bool b => exact .inl ⟨rfl, fun H' s => k _ H' s (hv.keep s)⟩
    | int b => exact .inl ⟨rfl, fun H' s => k _ H' s (hv.keep s)⟩
    | str b => exact .inl ⟨rfl, fun H' s => k _ H' s (hv.keep s)⟩
    | list ds => exact .inr (.inl ⟨by decide, ⟨ds, .inl rfl, List.all_eq_true.mp cp⟩, k⟩)
    | tuple ds => exact .inr (.inl ⟨by decide, ⟨ds, .inr rfl, List.all_eq_true.mp cp⟩, k⟩)
    | dict ds => cases cp
  · exact .inr (.inr ⟨rfl, ⟨p, rfl, hp⟩, k⟩)
def AskE (P : Program) (w : World) (K : PySem.W.Frag) (mg : Str → Option Value) (base : Heap) (f : Addr) : Prop := ∃ ks sp, HeldX P w K mg base 6 f ks sp ∧
  ∀ (v u : V) (d e : PyData) (H : Hp) (Q : VK) (E : XK), Dt K H v d → Dt K H u e → (isQd d = false → ErrE K "BadQuotient" "q" v H E) → (isQd d = true → isQd e = false → ErrE K "BadOther" "other" u H E) → (isQd d = false ∨ isQd e = false) → sp [v, u] H Q E
theorem askE_of {f : Addr} {ks : List Str} {ok : V → Hp → VK → XK → Int × Int → Int × Int → Prop} (h : HeldX P w K mg base 6 f ks (spPub K ok)) : AskE P w K mg base f :=
  ⟨ks, _, h, fun v u d e H Q E hv hu k1 k2 k3 => ⟨v, u, d, e, rfl, hv, hu, k1, k2, fun z1 z2 => by
    rcases k3 with k3 | k3
    · rw [z1] at k3
      cases k3
    · rw [z2] at k3
      cases k3⟩⟩
theorem askE_at {f1 f2 f3 f4 f5 : Addr} (h1 : AskE P w K mg base f1) (h2 : AskE P w K mg base f2) (h3 : AskE P w K mg base f3) (h4 : AskE P w K mg base f4) (h5 : AskE P w K mg base f5) {i : Nat} {x : V} (hx : ([.ref f1, .ref f2, .ref f3, .ref f4, .ref f5] : List V)[i]? = some x) : ∃ f, x = .ref f ∧ AskE P w K mg base f := by
  match i, hx with
  | 0, hx => exact ⟨f1, (Option.some.inj hx).symm, h1⟩
  | 1, hx => exact ⟨f2, (Option.some.inj hx).symm, h2⟩
  | 2, hx => exact ⟨f3, (Option.some.inj hx).symm, h3⟩
  | 3, hx => exact ⟨f4, (Option.some.inj hx).symm, h4⟩
  | 4, hx => exact ⟨f5, (Option.some.inj hx).symm, h5⟩
  | i + 5, hx => simp at hx
def AskO (P : Program) (w : World) (K : PySem.W.Frag) (mg : Str → Option Value) (base : Heap) (f : Addr) : Prop := ∃ ks sp, HeldX P w K mg base 5 f ks sp ∧
  ∀ (v : V) (d : PyData) (H : Hp) (Q : VK) (E : XK), Dt K H v d → isQd d = false → ErrE K "BadQuotient" "q" v H E → sp [v] H Q E
theorem askO_of {f : Addr} {ks : List Str} {R : Int × Int → PyData} {c : Int × Int → Prop} (h : HeldX P w K mg base 5 f ks (spOne K R c)) : AskO P w K mg base f :=
  ⟨ks, _, h, fun v d H Q E hv no k => ⟨v, d, rfl, hv, fun _ => k, fun z => by rw [no] at z; (cases z)⟩⟩
theorem askO_at {f1 f2 : Addr} (h1 : AskO P w K mg base f1) (h2 : AskO P w K mg base f2) {i : Nat} {x : V} (hx : ([.ref f1, .ref f2] : List V)[i]? = some x) : ∃ f, x = .ref f ∧ AskO P w K mg base f := by
  match i, hx with
  | 0, hx => exact ⟨f1, (Option.some.inj hx).symm, h1⟩
  | 1, hx => exact ⟨f2, (Option.some.inj hx).symm, h2⟩
  | i + 2, hx => simp at hx
theorem dtAll_at : ∀ {xs : List V} {ds : List PyData} {i : Nat} {d : PyData}, DtAll K H xs ds → ds[i]? = some d → ∃ x, xs[i]? = some x ∧ Dt K H x d
  | _, _, _, _, .nil, e => by simp at e
  | _, _, 0, _, .cons h _, e => by
    have e' := Option.some.inj e
    subst e'
    exact ⟨_, rfl, h⟩
  | _, _, i + 1, _, .cons _ t, e => dtAll_at (i := i) t e
def wordsL : List Str := ["0", "1", "-", "/", "2", "12", "00", " ", "", "x"]
theorem words_at {v : V} (h : v ∈ wordsL.map V.str) : ∃ x : Str, v = .str x ∧ x.length ≤ 2 := by
  obtain ⟨x, hx, rfl⟩ := List.mem_map.mp h
  have z : wordsL.all (fun x => decide (x.length ≤ 2)) = true := by decide +kernel
  exact ⟨x, rfl, of_decide_eq_true (List.all_eq_true.mp z x hx)⟩
def thingD (d : PyData) : Prop := scD d = true ∧ ∀ x, d = .str x → x.length ≤ 640
theorem thing_dep {d : PyData} (h : thingD d) : dep d < 3 := by
  obtain ⟨h, _⟩ := h
  cases d <;> first | (show 0 < 3; decide) | cases h
end
end K01

set_option maxHeartbeats 4000000
namespace K01
open PySem PySem.Spec PyProof.Rows L2 SpE He
open C8 (Cal pe_c)
section
variable {P : Program} {w : World} {K : PySem.W.Frag} {mg : Str → Option Value} {base : Heap} {f : Addr} {fd : FuncData}
def spLaw (K : PySem.W.Frag) (Pt : Addr) (lq : Str) : Sp := fun vs H Q _ => ∃ (l : Addr) (ns : List Int), vs = [.ref l] ∧ SqL K H l (ns.map V.int) ∧ H Pt = some (.tbl #[]) ∧ ∀ H', Q (.bl true) H'
def lamQ : Str := "law" ++ ".<locals>." ++ "<lambda>"
def turnW (l a b Pt : Addr) (lq : Str) (n : Nat) : L2.St → Hp → Prop := fun σ H => ∃ rest : L2.St, σ = some (.ref l) :: some (.ref a) :: rest ∧ rest.length = 18 ∧ StA H a b n ∧ LamX.Tabs [(Pt, lq)] H
theorem len18 {rest : L2.St} (h : rest.length = 18) : ∃ v2 v3 v4 v5 v6 v7 v8 v9 v10 v11 v12 v13 v14 v15 v16 v17 v18 v19, rest = [v2, v3, v4, v5, v6, v7, v8, v9, v10, v11, v12, v13, v14, v15, v16, v17, v18, v19] := by
  match rest, h with
  | [v2, v3, v4, v5, v6, v7, v8, v9, v10, v11, v12, v13, v14, v15, v16, v17, v18, v19], _ => exact ⟨v2, v3, v4, v5, v6, v7, v8, v9, v10, v11, v12, v13, v14, v15, v16, v17, v18, v19, rfl⟩
theorem sc_law : FnScope ["script", "state", "turn", "q", "r", "sign", "due", "asks", "text", "told", "p", "n", "odd", "ask", "words", "k", "at", "bent", "thing", "mine"] ["script"] (defScope s_law) := ⟨rfl, rfl, rfl, by decide +kernel, rfl, by decide +kernel, by decide +kernel⟩
theorem ok_law {c Pt : Addr} (T : Txt P w K mg base) (TC : ToldC P w K mg base) (TB : LamX.TabB base mg c Pt)
    (C_law_start : Cal P w K mg base 1 "_law_start" (spStart K) []) (C_law_pick : Cal P w K mg base 1 "_law_pick" spPick []) (C_law_some_q : Cal P w K mg base 3 "_law_some_q" spSomeQ []) (C_law_q : Cal P w K mg base 2 "_law_q" spMk [])
    (C_law_q_add : Cal P w K mg base 3 "_law_q_add" (spTwo K addv fun _ _ => True) []) (C_law_q_mul : Cal P w K mg base 3 "_law_q_mul" (spTwo K mulv fun _ _ => True) []) (C_law_same : Cal P w K mg base 7 "_law_same" (spSame K 6) []) (C_law_loose : Cal P w K mg base 4 "_law_loose" (spLoose K 2) [])
    (C_law_copy : Cal P w K mg base 4 "_law_copy" (spCopy K 3) []) (C_law_q_text : Cal P w K mg base 1 "_law_q_text" (spText K) []) (C_law_one : Cal P w K mg base 2 "_law_one" (spOneOf K) []) (C_law_q_read : Cal P w K mg base 2 "_law_q_read" (spLr K) [])
    (C_plus : CalX P w K mg base 6 "plus" ["other", "q"] (spPub K (okR K fun q o => tupD (addv q o)))) (C_less : CalX P w K mg base 6 "less" ["other", "q"] (spPub K (okR K fun q o => tupD (addv q (negv o))))) (C_times : CalX P w K mg base 6 "times" ["other", "q"] (spPub K (okR K fun q o => tupD (mulv q o))))
    (C_compared : CalX P w K mg base 6 "compared" ["other", "q"] (spPub K (okR K fun q o => .int (sgnv (addv q (negv o)).1)))) (C_over : CalX P w K mg base 6 "over" ["other", "q"] (spPub K (okO K))) (C_opposite : CalX P w K mg base 5 "opposite" ["q"] (spOne K (fun q => tupD (negv q)) fun _ => True))
    (C_quotient_text : CalX P w K mg base 5 "quotient_text" ["q"] (spOne K (fun q => .str (textq q)) Sm)) (C_read_quotient : CalX P w K mg base 4 "read_quotient" ["text"] (spRead K)) (C_quotient_of : CalX P w K mg base 4 "quotient_of" ["n", "p"] (spQof K)) (C_is_quotient : CalX P w K mg base 3 "is_quotient" ["thing"] (spP K isQd))
    {oc : Value} {od : Option Addr} {dV kV doc pm : Value} {an : Option Addr} {ct : Value} {osl : Array (Option Value)} (lk : K.lookup f = some ⟨oc, od, .func (PySem.W.fnOf "law" "law" (defArgs s_law) (defBody s_law) (defScope s_law) dV kV doc pm an (.ref c) ct), osl⟩) (hcd : PySem.W.codeIn K (.ref c) "law" = true) :
    FnOk P w K mg base CX0 9 f (PySem.W.fnOf "law" "law" (defArgs s_law) (defBody s_law) (defScope s_law) dV kV doc pm an (.ref c) ct) ["script"] (spLaw K Pt lamQ) := by
  refine fn_of lk hcd sc_law (fun vs H Q E h => ?_) (fun A outer s H vs Q E hr h => ?_)
  · obtain ⟨a, ns, rfl, _⟩ := h
    rfl
  · obtain ⟨l, ns, rfl, hS, hP, kk⟩ := h
    obtain ⟨f_plus, g_plus, H_plus⟩ := C_plus.ex
    obtain ⟨f_less, g_less, H_less⟩ := C_less.ex
    obtain ⟨f_times, g_times, H_times⟩ := C_times.ex
    obtain ⟨f_compared, g_compared, H_compared⟩ := C_compared.ex
    obtain ⟨f_over, g_over, H_over⟩ := C_over.ex
    obtain ⟨f_opposite, g_opposite, H_opposite⟩ := C_opposite.ex
    obtain ⟨f_quotient_text, g_quotient_text, H_quotient_text⟩ := C_quotient_text.ex
    refine ⟨_, PSs.nox (pss_cons (ps_set (i := 1) sc_law.nd rfl (Or.inr rfl) (pe_c C_law_start hr (by first | decide | omega) rfl (pa_cons (pv 0) pa_nil)))
  (pss_cons (ps_for PassesOwn.never rfl (pi_range1 rfl T.range (pa_cons (pe_int) pa_nil)) (pg_name (i := 2) sc_law.nd rfl (Or.inl rfl)) (pss_cons (ps_asg (pe_tup (pa_cons (pe_c C_law_some_q hr (by first | decide | omega) rfl (pa_cons (pv 1) pa_nil)) (pa_cons (pe_c C_law_some_q hr (by first | decide | omega) rfl (pa_cons (pv 1) pa_nil)) pa_nil))) (pg_tup rfl (pgs_cons (pg_name (i := 3) sc_law.nd rfl (Or.inr rfl)) (pgs_cons (pg_name (i := 4) sc_law.nd rfl (Or.inr rfl)) pgs_nil))))
  (pss_cons (ps_set (i := 5) sc_law.nd rfl (Or.inl rfl) (pe_op op_sub (pe_op op_mul (pe_ix ix_tup (pv 3) (pe_int) (fun _ _ => rfl)) (pe_ix ix_tup (pv 4) (pe_int) (fun _ _ => rfl))) (pe_op op_mul (pe_ix ix_tup (pv 4) (pe_int) (fun _ _ => rfl)) (pe_ix ix_tup (pv 3) (pe_int) (fun _ _ => rfl)))))
  (pss_cons (ps_set (i := 6) sc_law.nd rfl (Or.inl rfl) (pe_lst (pa_cons (pe_c C_law_q_add hr (by first | decide | omega) rfl (pa_cons (pv 3) (pa_cons (pv 4) pa_nil))) (pa_cons (pe_c C_law_q_add hr (by first | decide | omega) rfl (pa_cons (pv 3) (pa_cons (pe_tup (pa_cons (pe_un un_neg (pe_ix ix_tup (pv 4) (pe_int) (fun _ _ => rfl))) (pa_cons (pe_ix ix_tup (pv 4) (pe_int) (fun _ _ => rfl)) pa_nil))) pa_nil))) (pa_cons (pe_c C_law_q_mul hr (by first | decide | omega) rfl (pa_cons (pv 3) (pa_cons (pv 4) pa_nil))) (pa_cons (pe_ifExp (pt_cmpR op_eq (pv 5) (pe_int) (nomark _)) (pe_int) (pe_ifExp (pt_cmpR op_gt (pv 5) (pe_int) (nomark _)) (pe_int) (pe_un un_neg (pe_int)))) pa_nil))))))
  (pss_cons (ps_set (i := 7) sc_law.nd rfl (Or.inl rfl) (pe_tup (pa_cons (pe_glob (v := .ref f_plus) rfl g_plus rfl) (pa_cons (pe_glob (v := .ref f_less) rfl g_less rfl) (pa_cons (pe_glob (v := .ref f_times) rfl g_times rfl) (pa_cons (pe_glob (v := .ref f_compared) rfl g_compared rfl) pa_nil))))))
  (pss_cons (ps_if (PW.pt (pw_or (pt_not (pt_val (pe_c C_law_same hr (by first | decide | omega) rfl (pa_cons (pe_lc (own := [("ask", 13)]) (g := gName 13) (tt := tYes) rfl sc_law.nd (pi_tup (pv 7)) (blkOk_by (own := [("ask", 13)]) (N := ["script", "state", "turn", "q", "r", "sign", "due", "asks", "text", "told", "p", "n", "odd", "ask", "words", "k", "at", "bent", "thing", "mine"]) (sc := defScope s_law) (by decide +kernel)) (fun _ _ _ _ _ => pg_name (i := 13) sc_law.nd rfl (Or.inl rfl)) (fun _ _ _ _ _ => pts_nil) (fun _ _ _ _ _ => (show PE _ _ (tCallY P w K mg base 6 13 _ _) from pe_y hr (by first | decide | omega) lets_none rfl (Or.inl rfl) (pa_cons (pe_c C_law_loose hr (by first | decide | omega) rfl (pa_cons (pv 1) (pa_cons (pv 3) pa_nil))) (pa_cons (pe_c C_law_loose hr (by first | decide | omega) rfl (pa_cons (pv 1) (pa_cons (pv 4) pa_nil))) pa_nil))))) (pa_cons (pv 6) pa_nil))))) (pw_or1 (pt_not (pt_val (pe_c C_law_same hr (by first | decide | omega) rfl (pa_cons (pe_lc (own := [("ask", 13)]) (g := gName 13) (tt := tYes) rfl sc_law.nd (pi_tup (pv 7)) (blkOk_by (own := [("ask", 13)]) (N := ["script", "state", "turn", "q", "r", "sign", "due", "asks", "text", "told", "p", "n", "odd", "ask", "words", "k", "at", "bent", "thing", "mine"]) (sc := defScope s_law) (by decide +kernel)) (fun _ _ _ _ _ => pg_name (i := 13) sc_law.nd rfl (Or.inl rfl)) (fun _ _ _ _ _ => pts_nil) (fun _ _ _ _ _ => (show PE _ _ (tCallYK P w K mg base 6 13 ["other", "q"] _ _) from pe_yK hr (by first | decide | omega) lets_none rfl (Or.inl rfl) (pk_cons (pv 4) (pk_cons (pv 3) pk_nil))))) (pa_cons (pv 6) pa_nil)))))))) (pss_one (ps_ret (pe_bl))) (pss_nil))
  (C8.pss_cut (ps_if (PW.pt (pw_and (pt_cmpR op_ne (pe_ix ix_tup (pv 4) (pe_int) (fun _ _ => rfl)) (pe_int) (nomark _)) (pw_and1 (pt_not (pt_val (pe_c C_law_same hr (by first | decide | omega) rfl (pa_cons (pe_lst (pa_cons (pe_x C_over hr (by first | decide | omega) lets_none rfl (pa_cons (pe_c C_law_loose hr (by first | decide | omega) rfl (pa_cons (pv 1) (pa_cons (pv 3) pa_nil))) (pa_cons (pe_c C_law_loose hr (by first | decide | omega) rfl (pa_cons (pv 1) (pa_cons (pv 4) pa_nil))) pa_nil))) (pa_cons (pe_xK C_over hr (by first | decide | omega) lets_none rfl (pk_cons (pv 4) (pk_cons (pv 3) pk_nil))) pa_nil))) (pa_cons (pe_op op_rep (pe_lst (pa_cons (pe_c C_law_q hr (by first | decide | omega) rfl (pa_cons (pe_op op_mul (pe_ix ix_tup (pv 3) (pe_int) (fun _ _ => rfl)) (pe_ix ix_tup (pv 4) (pe_int) (fun _ _ => rfl))) (pa_cons (pe_op op_mul (pe_ix ix_tup (pv 3) (pe_int) (fun _ _ => rfl)) (pe_ix ix_tup (pv 4) (pe_int) (fun _ _ => rfl))) pa_nil))) pa_nil)) (pe_int)) pa_nil)))))))) (pss_one (ps_ret (pe_bl))) (pss_nil))
  (pss_cons (ps_if (pt_not (pt_val (pe_c C_law_same hr (by first | decide | omega) rfl (pa_cons (pe_told TC rfl TB rfl hr (LamX.lamS_by (sc := defScope s_law) (by decide +kernel)) rfl (by intros; rfl) (fun A outer s H E f c' hr => (pe_x C_over hr (by first | decide | omega) (lets_try (L2.takes_of rfl rfl rfl rfl)) rfl (pa_cons (pv 3) (pa_cons (pe_tup (pa_cons (pe_int) (pa_cons (pe_int) pa_nil))) pa_nil))))) (pa_cons (pe_tup (pa_cons (pe_str) (pa_cons (pe_str) (pa_cons (pe_tup (pa_cons (pe_int) (pa_cons (pe_int) pa_nil))) pa_nil)))) pa_nil))))) (pss_one (ps_ret (pe_bl))) (pss_nil))
  (pss_cons (ps_set (i := 8) sc_law.nd rfl (Or.inl rfl) (pe_c C_law_q_text hr (by first | decide | omega) rfl (pa_cons (pv 3) pa_nil)))
  (pss_cons (ps_set (i := 9) sc_law.nd rfl (Or.inl rfl) (pe_lst (pa_cons (pe_x C_opposite hr (by first | decide | omega) lets_none rfl (pa_cons (pe_c C_law_loose hr (by first | decide | omega) rfl (pa_cons (pv 1) (pa_cons (pv 3) pa_nil))) pa_nil)) (pa_cons (pe_xK C_opposite hr (by first | decide | omega) lets_none rfl (pk_cons (pv 3) pk_nil)) (pa_cons (pe_x C_quotient_text hr (by first | decide | omega) lets_none rfl (pa_cons (pe_c C_law_loose hr (by first | decide | omega) rfl (pa_cons (pv 1) (pa_cons (pv 3) pa_nil))) pa_nil)) (pa_cons (pe_xK C_quotient_text hr (by first | decide | omega) lets_none rfl (pk_cons (pv 3) pk_nil)) (pa_cons (pe_x C_read_quotient hr (by first | decide | omega) lets_none rfl (pa_cons (pv 8) pa_nil)) (pa_cons (pe_xK C_read_quotient hr (by first | decide | omega) lets_none rfl (pk_cons (pv 8) pk_nil)) pa_nil))))))))
  (pss_cons (ps_if (pt_not (pt_val (pe_c C_law_same hr (by first | decide | omega) rfl (pa_cons (pv 9) (pa_cons (pe_op op_cat (pe_op op_cat (pe_op op_rep (pe_lst (pa_cons (pe_tup (pa_cons (pe_un un_neg (pe_ix ix_tup (pv 3) (pe_int) (fun _ _ => rfl))) (pa_cons (pe_ix ix_tup (pv 3) (pe_int) (fun _ _ => rfl)) pa_nil))) pa_nil)) (pe_int)) (pe_op op_rep (pe_lst (pa_cons (pv 8) pa_nil)) (pe_int))) (pe_op op_rep (pe_lst (pa_cons (pv 3) pa_nil)) (pe_int))) pa_nil))))) (pss_one (ps_ret (pe_bl))) (pss_nil))
  (pss_cons (ps_asg (pe_tup (pa_cons (pe_op op_sub (pe_c C_law_pick hr (by first | decide | omega) rfl (pa_cons (pv 1) (pa_cons (pe_int) pa_nil))) (pe_int)) (pa_cons (pe_op op_sub (pe_c C_law_pick hr (by first | decide | omega) rfl (pa_cons (pv 1) (pa_cons (pe_int) pa_nil))) (pe_int)) pa_nil))) (pg_tup rfl (pgs_cons (pg_name (i := 10) sc_law.nd rfl (Or.inr rfl)) (pgs_cons (pg_name (i := 11) sc_law.nd rfl (Or.inr rfl)) pgs_nil))))
  (C8.pss_cut (ps_set (i := 6) sc_law.nd rfl (Or.inl rfl) (pe_ifExp (pt_cmpR op_ne (pv 11) (pe_int) (nomark _)) (pe_tup (pa_cons (pe_str) (pa_cons (pe_c C_law_q hr (by first | decide | omega) rfl (pa_cons (pv 10) (pa_cons (pv 11) pa_nil))) pa_nil))) (pe_tup (pa_cons (pe_str) (pa_cons (pe_str) (pa_cons (pe_lst (pa_cons (pv 10) (pa_cons (pv 11) pa_nil))) pa_nil))))))
  (pss_cons (ps_if (pt_not (pt_val (pe_c C_law_same hr (by first | decide | omega) rfl (pa_cons (pe_told TC rfl TB rfl hr (LamX.lamS_by (sc := defScope s_law) (by decide +kernel)) rfl (by intros; rfl) (fun A outer s H E f c' hr => (pe_x C_quotient_of hr (by first | decide | omega) (lets_try (L2.takes_of rfl rfl rfl rfl)) rfl (pa_cons (pv 10) (pa_cons (pv 11) pa_nil))))) (pa_cons (pv 6) pa_nil))))) (pss_one (ps_ret (pe_bl))) (pss_nil))
  (pss_cons (ps_if (pt_not (pt_val (pe_c C_law_same hr (by first | decide | omega) rfl (pa_cons (pe_told TC rfl TB rfl hr (LamX.lamS_by (sc := defScope s_law) (by decide +kernel)) rfl (by intros; rfl) (fun A outer s H E f c' hr => (pe_xK C_quotient_of hr (by first | decide | omega) (lets_try (L2.takes_of rfl rfl rfl rfl)) rfl (pk_cons (pv 11) (pk_cons (pv 10) pk_nil))))) (pa_cons (pv 6) pa_nil))))) (pss_one (ps_ret (pe_bl))) (pss_nil))
  (pss_cons (ps_for PassesOwn.never rfl (pi_tup (pe_tup (pa_cons (pe_non) (pa_cons (pe_bl) (pa_cons (pe_str) (pa_cons (pe_tup (pa_cons (pe_int) (pa_cons (pe_int) pa_nil))) (pa_cons (pe_lst (pa_cons (pe_int) pa_nil)) pa_nil))))))) (pg_name (i := 12) sc_law.nd rfl (Or.inr rfl)) (pss_cons (ps_if (pt_not (pt_val (pe_c C_law_same hr (by first | decide | omega) rfl (pa_cons (pe_told TC rfl TB rfl hr (LamX.lamS_by (sc := defScope s_law) (by decide +kernel)) rfl (by intros; rfl) (fun A outer s H E f c' hr => (pe_x C_quotient_of hr (by first | decide | omega) (lets_try (L2.takes_of rfl rfl rfl rfl)) rfl (pa_cons (pv 12) (pa_cons (pe_int) pa_nil))))) (pa_cons (pe_tup (pa_cons (pe_str) (pa_cons (pe_str) (pa_cons (pe_lst (pa_cons (pv 12) (pa_cons (pe_int) pa_nil))) pa_nil)))) pa_nil))))) (pss_one (ps_ret (pe_bl))) (pss_nil))
  (pss_one (ps_if (pt_not (pt_val (pe_c C_law_same hr (by first | decide | omega) rfl (pa_cons (pe_told TC rfl TB rfl hr (LamX.lamS_by (sc := defScope s_law) (by decide +kernel)) rfl (by intros; rfl) (fun A outer s H E f c' hr => (pe_x C_quotient_of hr (by first | decide | omega) (lets_try (L2.takes_of rfl rfl rfl rfl)) rfl (pa_cons (pe_int) (pa_cons (pv 12) pa_nil))))) (pa_cons (pe_tup (pa_cons (pe_str) (pa_cons (pe_str) (pa_cons (pe_lst (pa_cons (pe_int) (pa_cons (pv 12) pa_nil))) pa_nil)))) pa_nil))))) (pss_one (ps_ret (pe_bl))) (pss_nil)))))
  (pss_cons (ps_for PassesOwn.never rfl (pi_tup (pe_tup (pa_cons (pe_non) (pa_cons (pe_int) (pa_cons (pe_tup (pa_nil)) (pa_cons (pe_tup (pa_cons (pe_int) pa_nil)) (pa_cons (pe_tup (pa_cons (pe_int) (pa_cons (pe_int) pa_nil))) (pa_cons (pe_tup (pa_cons (pe_int) (pa_cons (pe_int) pa_nil))) (pa_cons (pe_tup (pa_cons (pe_int) (pa_cons (pe_un un_neg (pe_int)) pa_nil))) (pa_cons (pe_tup (pa_cons (pe_int) (pa_cons (pe_int) pa_nil))) (pa_cons (pe_tup (pa_cons (pe_bl) (pa_cons (pe_int) pa_nil))) (pa_cons (pe_tup (pa_cons (pe_int) (pa_cons (pe_bl) pa_nil))) (pa_cons (pe_str) (pa_cons (pe_tup (pa_cons (pe_int) (pa_cons (pe_int) (pa_cons (pe_int) pa_nil)))) (pa_cons (pe_dnewK) (pa_cons (pe_lst (pa_cons (pe_non) (pa_cons (pe_int) pa_nil))) pa_nil)))))))))))))))) (pg_name (i := 12) sc_law.nd rfl (Or.inr rfl)) (pss_cons (ps_if (PW.pt (pw_or (pt_cmpR op_notBl (pe_x C_is_quotient hr (by first | decide | omega) lets_none rfl (pa_cons (pe_c C_law_copy hr (by first | decide | omega) rfl (pa_cons (pv 12) pa_nil)) pa_nil)) (pe_bl) (nomark _)) (pw_or1 (pt_cmpR op_notBl (pe_xK C_is_quotient hr (by first | decide | omega) lets_none rfl (pk_cons (pv 12) pk_nil)) (pe_bl) (nomark _))))) (pss_one (ps_ret (pe_bl))) (pss_nil))
  (pss_cons (ps_for PassesOwn.never rfl (pi_tup (pe_op op_catT (pv 7) (pe_tup (pa_cons (pe_glob (v := .ref f_over) rfl g_over rfl) pa_nil)))) (pg_name (i := 13) sc_law.nd rfl (Or.inr rfl)) (pss_cons (ps_if (pt_not (pt_val (pe_c C_law_same hr (by first | decide | omega) rfl (pa_cons (pe_told TC rfl TB rfl hr (LamX.lamS_by (sc := defScope s_law) (by decide +kernel)) rfl (by intros; rfl) (fun A outer s H E f c' hr => ((show PE _ _ (tCallY P w K mg base 6 13 _ _) from pe_y hr (by first | decide | omega) (lets_try (L2.takes_of rfl rfl rfl rfl)) rfl (Or.inr (Or.inr rfl)) (pa_cons (pv 12) (pa_cons (pe_non) pa_nil)))))) (pa_cons (pe_tup (pa_cons (pe_str) (pa_cons (pe_str) (pa_cons (pv 12) pa_nil)))) pa_nil))))) (pss_one (ps_ret (pe_bl))) (pss_nil))
  (pss_one (ps_if (pt_not (pt_val (pe_c C_law_same hr (by first | decide | omega) rfl (pa_cons (pe_told TC rfl TB rfl hr (LamX.lamS_by (sc := defScope s_law) (by decide +kernel)) rfl (by intros; rfl) (fun A outer s H E f c' hr => ((show PE _ _ (tCallY P w K mg base 6 13 _ _) from pe_y hr (by first | decide | omega) (lets_try (L2.takes_of rfl rfl rfl rfl)) rfl (Or.inr (Or.inr rfl)) (pa_cons (pv 3) (pa_cons (pv 12) pa_nil)))))) (pa_cons (pe_tup (pa_cons (pe_str) (pa_cons (pe_str) (pa_cons (pv 12) pa_nil)))) pa_nil))))) (pss_one (ps_ret (pe_bl))) (pss_nil)))))
  (pss_one (ps_for PassesOwn.never rfl (pi_tup (pe_tup (pa_cons (pe_glob (v := .ref f_opposite) rfl g_opposite rfl) (pa_cons (pe_glob (v := .ref f_quotient_text) rfl g_quotient_text rfl) pa_nil)))) (pg_name (i := 13) sc_law.nd rfl (Or.inr rfl)) (pss_one (ps_if (pt_not (pt_val (pe_c C_law_same hr (by first | decide | omega) rfl (pa_cons (pe_told TC rfl TB rfl hr (LamX.lamS_by (sc := defScope s_law) (by decide +kernel)) rfl (by intros; rfl) (fun A outer s H E f c' hr => ((show PE _ _ (tCallY P w K mg base 5 13 _ _) from pe_y hr (by first | decide | omega) (lets_try (L2.takes_of rfl rfl rfl rfl)) rfl (Or.inr (Or.inr rfl)) (pa_cons (pv 12) pa_nil))))) (pa_cons (pe_tup (pa_cons (pe_str) (pa_cons (pe_str) (pa_cons (pv 12) pa_nil)))) pa_nil))))) (pss_one (ps_ret (pe_bl))) (pss_nil))))))))
  (pss_cons (ps_if (pt_not (pt_val (pe_c C_law_same hr (by first | decide | omega) rfl (pa_cons (pe_lst (pa_cons (pe_x C_is_quotient hr (by first | decide | omega) lets_none rfl (pa_cons (pe_c C_law_loose hr (by first | decide | omega) rfl (pa_cons (pv 1) (pa_cons (pv 3) pa_nil))) pa_nil)) (pa_cons (pe_xK C_is_quotient hr (by first | decide | omega) lets_none rfl (pk_cons (pv 3) pk_nil)) pa_nil))) (pa_cons (pe_lst (pa_cons (pe_bl) (pa_cons (pe_bl) pa_nil))) pa_nil))))) (pss_one (ps_ret (pe_bl))) (pss_nil))
  (pss_cons (ps_set (i := 14) sc_law.nd rfl (Or.inl rfl) (pe_lst (pa_cons (pe_str) (pa_cons (pe_str) (pa_cons (pe_str) (pa_cons (pe_str) (pa_cons (pe_str) (pa_cons (pe_str) (pa_cons (pe_str) (pa_cons (pe_str) (pa_cons (pe_str) (pa_cons (pe_str) pa_nil))))))))))))
  (pss_one (ps_for PassesOwn.never rfl (pi_range1 rfl T.range (pa_cons (pe_int) pa_nil)) (pg_name (i := 15) sc_law.nd rfl (Or.inl rfl)) (pss_cons (ps_set (i := 16) sc_law.nd rfl (Or.inl rfl) (pe_c C_law_pick hr (by first | decide | omega) rfl (pa_cons (pv 1) (pa_cons (pe_op op_add (pe_callB call_len_str rfl T.len bt_len (pa_cons (pv 8) pa_nil)) (pe_int)) pa_nil))))
  (pss_cons (ps_set (i := 17) sc_law.nd rfl (Or.inl rfl) (pe_op op_add_str (pe_op op_add_str (pe_slice sl_str (pv 8) (po_none) (po_some (pv 16))) (pe_c C_law_one hr (by first | decide | omega) rfl (pa_cons (pv 1) (pa_cons (pv 14) pa_nil)))) (pe_slice sl_str (pv 8) (po_some (pe_op op_add (pv 16) (pe_c C_law_pick hr (by first | decide | omega) rfl (pa_cons (pv 1) (pa_cons (pe_int) pa_nil))))) (po_none))))
  (C8.pss_cut (ps_set (i := 18) sc_law.nd rfl (Or.inr rfl) (pe_ifExp (pt_cmpR op_lt (pv 15) (pe_int) (nomark _)) (pv 17) (pe_ix ix_list (pe_lst (pa_cons (pe_non) (pa_cons (pe_int) (pa_cons (pe_str) pa_nil)))) (pe_op op_sub (pv 15) (pe_int)) (fun _ _ => rfl))))
  (pss_cons (ps_set (i := 19) sc_law.nd rfl (Or.inl rfl) (pe_c C_law_q_read hr (by first | decide | omega) rfl (pa_cons (pv 18) pa_nil)))
  (pss_one (ps_if (pt_not (pt_val (pe_c C_law_same hr (by first | decide | omega) rfl (pa_cons (pe_told TC rfl TB rfl hr (LamX.lamS_by (sc := defScope s_law) (by decide +kernel)) rfl (by intros; rfl) (fun A outer s H E f c' hr => (pe_x C_read_quotient hr (by first | decide | omega) (lets_try (L2.takes_of rfl rfl rfl rfl)) rfl (pa_cons (pv 18) pa_nil)))) (pa_cons (pe_ifExp (pt_cmpR op_isN (pv 19) (pe_non) (nomark _)) (pe_tup (pa_cons (pe_str) (pa_cons (pe_str) (pa_cons (pv 18) pa_nil)))) (pe_tup (pa_cons (pe_str) (pa_cons (pv 19) pa_nil)))) pa_nil))))) (pss_one (ps_ret (pe_bl))) (pss_nil))))))))))))))))))))))))))))
  (pss_one (ps_ret (pe_bl))))), ?_⟩
    dsimp only [cxOf, Cx.nox, Cx.wish]
    refine ⟨_, rfl, l, ns, rfl, hS, fun a b H1 _ _ S1 s1 => ?_⟩
    have Tb1 : LamX.Tabs [(Pt, lamQ)] H1 := fun p hp => by
      rw [List.mem_singleton.mp hp]
      exact LamX.TabS.nil (s1 _ _ hP)
    refine ⟨8, rfl, by decide, by decide, for_range (lo := 0) (n := 8) (fun i => turnW l a b Pt lamQ (100 * i)) ⟨_, rfl, rfl, S1, Tb1⟩ ?_ ?_⟩
    · clear S1 s1 Tb1 hP hS
      rintro turn σ H0 ht8 ⟨rest, rfl, l18, S0, Tb0⟩
      obtain ⟨v2, v3, v4, v5, v6, v7, v8, v9, v10, v11, v12, v13, v14, v15, v16, v17, v18, v19, rfl⟩ := len18 l18
      refine ⟨_, rfl, a, b, _, rfl, S0, by omega, fun tq H1 q k1 hk1 S1 B1 nq0 hq oq mq => ?_⟩
      refine ⟨_, rfl, a, b, _, rfl, S1, by omega, fun tr H2 r k2 hk2 S2 B2 nr0 hr' or mr => ?_⟩
      refine ⟨by show 2 ≤ sizeLine; decide, fun p0 hp0 => ⟨p0, _, rfl, SqT.of upd_same, rfl, _, _, rfl, _, _, rfl, rfl, ?_⟩⟩
      have s3 := same_upd (o := .tup [.ref tq, .ref tr]) hp0
      have Tb2 := tabsB S1 B2 (tabsB S0 B1 Tb0)
      have hq2 : H2 tq = some (.tup [.int q.1, .int q.2]) := by
        obtain ⟨z1, z2⟩ := st_ne S1 hq (fun xs z => by cases z)
        exact B2 _ _ z1 z2 hq
      have hq3 := s3 _ _ hq2
      have hr3 := s3 _ _ hr'
      have S3 := S2.keep s3
      have Tb3 := tabsS s3 Tb2
      clear S0 S1 S2 B1 B2 Tb0 Tb2 hq hq2 hr'
      generalize upd H2 p0 (.tup [.ref tq, .ref tr]) = H3 at hq3 hr3 S3 Tb3 ⊢
      clear nq0 nr0 hp0 s3
      have mq' := mq
      have mr' := mr
      obtain ⟨q1, q2, q3, q4⟩ := mq'
      obtain ⟨r1, r2, r3, r4⟩ := mr'
      -- sign
      refine ⟨_, rfl, tq, _, 0, _, rfl, rfl, SqT.of hq3, rfl, _, rfl, tr, _, 1, _, rfl, rfl, SqT.of hr3, rfl, _, _, rfl, rfl, .inl (by constructor <;> omega), ?_⟩
      refine ⟨_, rfl, tr, _, 0, _, rfl, rfl, SqT.of hr3, rfl, _, rfl, tq, _, 1, _, rfl, rfl, SqT.of hq3, rfl, _, _, rfl, rfl, .inl (by constructor <;> omega), _, _, rfl, rfl, ?_⟩
      -- due
      refine ⟨_, rfl, _, rfl, _, _, q, r, rfl, qat_tup hq3, qat_tup hr3, mq, mr, True.intro, fun t1 H4 s4 h4 => ?_⟩
      have hq4 := s4 _ _ hq3
      have hr4 := s4 _ _ hr3
      refine ⟨_, rfl, _, rfl, tr, _, 0, _, rfl, rfl, SqT.of hr4, rfl, r.1, rfl, _, rfl, tr, _, 1, _, rfl, rfl, SqT.of hr4, rfl, by show 2 ≤ sizeLine; decide, fun tn hn => ?_⟩
      have s5 := same_upd (o := .tup [.int (-r.1), .int r.2]) hn
      have h5 := s5 _ _ h4
      have hn5 : upd H4 tn (.tup [.int (-r.1), .int r.2]) tn = some (.tup [.int (negv r).1, .int (negv r).2]) := upd_same
      generalize upd H4 tn (.tup [.int (-r.1), .int r.2]) = H5 at s5 h5 hn5 ⊢
      refine ⟨_, _, q, negv r, rfl, qat_tup (s5 _ _ hq4), qat_tup hn5, mq, mr.neg, True.intro, fun t2 H6 s6 h6 => ?_⟩
      have s36 := (s4.trans s5).trans s6
      refine ⟨_, rfl, _, rfl, _, _, q, r, rfl, qat_tup (s36 _ _ hq3), qat_tup (s36 _ _ hr3), mq, mr, True.intro, fun t3 H7 s7 h7 => ?_⟩
      refine sgn_if rfl ⟨by show 4 ≤ sizeLine; decide, fun td hd => ?_⟩
      rw [← sgn_sub q3 r3]
      have s8 := same_upd (o := .lst [.ref t1, .ref t2, .ref t3, .int (sgnv (addv q (negv r)).1)]) hd
      have hdue : Dt K (upd H7 td (.lst [.ref t1, .ref t2, .ref t3, .int (sgnv (addv q (negv r)).1)])) (.ref td) (.list (askD q r)) :=
        .lst (SqL.of upd_same) (by show 4 ≤ sizeLine; decide) (.cons ((dt_tup h5).keep ((s6.trans s7).trans s8)) (.cons ((dt_tup h6).keep (s7.trans s8)) (.cons ((dt_tup h7).keep s8) (.cons (.int _) .nil))))
      have s38 := (s36.trans s7).trans s8
      have nd1 := (S3.keep (s36.trans s7)).neA hd
      have nd2 := (S3.keep (s36.trans s7)).neB hd
      generalize upd H7 td (.lst [.ref t1, .ref t2, .ref t3, .int (sgnv (addv q (negv r)).1)]) = H8 at s38 hdue ⊢
      clear s8 s7 s6 s5 s4 s36 h4 h5 h6 h7 hn hn5 hd hq4 hr4
      refine ⟨by show 4 ≤ sizeLine; decide, fun ta hta => ?_⟩
      have s9 := same_upd (o := .tup [.ref f_plus, .ref f_less, .ref f_times, .ref f_compared]) hta
      have ha9 : upd H8 ta (.tup [.ref f_plus, .ref f_less, .ref f_times, .ref f_compared]) ta = some (.tup [.ref f_plus, .ref f_less, .ref f_times, .ref f_compared]) := upd_same
      have hdue := hdue.keep s9
      have s39 := s38.trans s9
      generalize upd H8 ta (.tup [.ref f_plus, .ref f_less, .ref f_times, .ref f_compared]) = H9 at s39 hdue ha9 ⊢
      have hq9 := s39 _ _ hq3
      have hr9 := s39 _ _ hr3
      have S9 : StA H9 a b (100 * turn + 6) := (S3.keep s39).mono (by omega)
      have Tb9 := tabsS s39 Tb3
      clear s39 s38 s9 hta hq3 hr3 S3 Tb3
      -- [ask(_law_loose(state, q), _law_loose(state, r)) for ask in asks]
      refine ⟨_, rfl, ta, rfl, ⟨_, SqT.of ha9⟩, fun D hD => lc_tup (xs := [.ref f_plus, .ref f_less, .ref f_times, .ref f_compared]) (fun i H' => ∃ acc, H' D = some (.lst acc) ∧ acc.length = i ∧ DtAll K H' acc ((askD q r).take i) ∧ StA H' a b (100 * turn + 6 + 2 * i) ∧ SameB a b H9 H')
        ⟨[], upd_same, rfl, .nil, S9.keep (same_upd hD), sameB_of (same_upd hD)⟩ (fun i H' _ h => ?_) ?_ ?_⟩
      · obtain ⟨_, _, _, _, _, B'⟩ := h
        obtain ⟨z1, z2⟩ := st_ne S9 ha9 (fun xs z => by cases z)
        exact SqT.of (B' _ _ z1 z2 ha9)
      · rintro i x H' hx ⟨acc, hD', el, ds, S', B'⟩
        have hi : i < 4 := (List.getElem?_eq_some_iff.mp hx).1
        obtain ⟨d, ed, f', R, rfl, HX, eR⟩ := ask_at (q := q) (r := r) H_plus H_less H_times H_compared hx
        obtain ⟨z1, z2⟩ := st_ne S9 hq9 (fun xs z => by cases z)
        obtain ⟨z3, z4⟩ := st_ne S9 hr9 (fun xs z => by cases z)
        have n1 := S9.neA hD
        have n2 := S9.neB hD
        refine ⟨rfl, f', _, _, rfl, HX, ?_⟩
        refine ⟨_, rfl, _, rfl, a, b, _, _, rfl, S', by omega, .inr ⟨by decide, tq, q, rfl, B' _ _ z1 z2 hq9, fun w1 Ha ka hka Sa Ba hw1 x1 x2 => ?_⟩⟩
        refine ⟨_, rfl, _, rfl, a, b, _, _, rfl, Sa, by omega, .inr ⟨by decide, tr, r, rfl, Ba _ _ z3 z4 (B' _ _ z3 z4 hr9), fun w2 Hb kb hkb Sb Bb hw2 x3 x4 => ?_⟩⟩
        refine pub_call (qatB Bb hw1 x1 x2) hw2 oq or mq mr fun w3 Hc sc hdc => ?_
        have Bc : SameB a b H' Hc := (Ba.trans Bb).trans (sameB_of sc)
        have hDc := Bc _ _ n1 n2 hD'
        refine ⟨acc, hDc, by rw [sizeLine_eq]; omega, acc ++ [w3], upd_same, by rw [List.length_append, el]; rfl, ?_, ?_, ?_⟩
        · rw [askD_snoc ed]
          rw [eR] at hdc
          exact (dtAll_flat (rd_lst hDc) (dtAll_flat (rd_b S' Bc) ds (askD_flat q r i)) (askD_flat q r i)).append (.cons (dt_flat (rd_lst hDc) hdc (askD_at ed)) .nil)
        · exact ((Sb.keep sc).keepB (upd_ne n1.symm) (upd_ne n2.symm)).mono (by omega)
        · exact fun x o h1 h2 h3 => by
            rw [upd_ne (fun z => by rw [z, hD] at h3; cases h3)]
            exact (B'.trans Bc) x o h1 h2 h3
      · rintro H10 ⟨acc, hD10, el, ds, S10, B10⟩
        have hdue10 := dtB_list S9 B10 nd1 nd2 (askD_flat q r 4) hdue
        refine ⟨_, rfl, _, _, .list (askD q r), rfl, .lst (SqL.of hD10) (by rw [el]; show 4 ≤ sizeLine; decide) ds, hdue10, dep_ask, fun H11 s11 => ⟨_, rfl, iteF ?_⟩⟩
        obtain ⟨z1, z2⟩ := st_ne S9 hq9 (fun xs z => by cases z)
        obtain ⟨z3, z4⟩ := st_ne S9 hr9 (fun xs z => by cases z)
        obtain ⟨z5, z6⟩ := st_ne S9 ha9 (fun xs z => by cases z)
        have hq11 := s11 _ _ (B10 _ _ z1 z2 hq9)
        have hr11 := s11 _ _ (B10 _ _ z3 z4 hr9)
        have ha11 := s11 _ _ (B10 _ _ z5 z6 ha9)
        have S11 : StA H11 a b (100 * turn + 14) := (S10.keep s11).mono (by show _ + 2 * 4 ≤ _; omega)
        have Tb11 := tabsS s11 (tabsB S9 B10 Tb9)
        have hdue11 := hdue10.keep s11
        clear S9 hq9 hr9 ha9 Tb9 hdue hdue10 s11 S10 B10 ds hD10 el acc hD
        -- [ask(other=r, q=q) for ask in asks]
        refine ⟨_, rfl, ta, rfl, ⟨_, SqT.of ha11⟩, fun D hD => lc_tup (xs := [.ref f_plus, .ref f_less, .ref f_times, .ref f_compared]) (fun i H' => ∃ acc, H' D = some (.lst acc) ∧ acc.length = i ∧ DtAll K H' acc ((askD q r).take i) ∧ Same H11 H')
          ⟨[], upd_same, rfl, .nil, same_upd hD⟩ (fun i H' _ h => ?_) ?_ ?_⟩
        · obtain ⟨_, _, _, _, s'⟩ := h
          exact SqT.of (s' _ _ ha11)
        · rintro i x H' hx ⟨acc, hD', el, ds, s'⟩
          have hi : i < 4 := (List.getElem?_eq_some_iff.mp hx).1
          obtain ⟨d, ed, f', R, rfl, HX, eR⟩ := ask_at (q := q) (r := r) H_plus H_less H_times H_compared hx
          refine ⟨rfl, f', _, rfl, HX, _, rfl, _, rfl, ?_⟩
          refine pub_call (qat_tup (s' _ _ hq11)) (qat_tup (s' _ _ hr11)) oq or mq mr fun w3 Hc sc hdc => ?_
          have hDc := sc _ _ hD'
          refine ⟨acc, hDc, by rw [sizeLine_eq]; omega, acc ++ [w3], upd_same, by rw [List.length_append, el]; rfl, ?_, same_setL hD (s'.trans sc)⟩
          rw [askD_snoc ed]
          rw [eR] at hdc
          exact (dtAll_flat (rd_lst hDc) (dtAll_flat (rd_same sc) ds (askD_flat q r i)) (askD_flat q r i)).append (.cons (dt_flat (rd_lst hDc) hdc (askD_at ed)) .nil)
        · rintro H12 ⟨acc, hD12, el, ds, s12⟩
          refine ⟨_, rfl, _, _, .list (askD q r), rfl, .lst (SqL.of hD12) (by rw [el]; show 4 ≤ sizeLine; decide) ds, hdue11.keep s12, dep_ask, fun H13 s13 => ⟨_, rfl, iteF ?_⟩⟩
          have s1 := s12.trans s13
          have hq := s1 _ _ hq11
          have hr1 := s1 _ _ hr11
          have ha := s1 _ _ ha11
          have S := S11.keep s1
          have Tb := tabsS s1 Tb11
          clear s12 s13 s1 hq11 hr11 ha11 S11 Tb11 hdue11 ds hD12 el acc hD
          refine ⟨fun σ H => σ = [some (V.ref l), some (V.ref a), some (V.int (0 + (turn : Int))), some (V.ref tq), some (V.ref tr), some (V.int (q.1 * r.2 - r.1 * q.2)), some (V.ref td), some (V.ref ta), v8, v9, v10, v11, v12, v13, v14, v15, v16, v17, v18, v19] ∧
            H tq = some (.tup [.int q.1, .int q.2]) ∧ H ta = some (.tup [.ref f_plus, .ref f_less, .ref f_times, .ref f_compared]) ∧ StA H a b (100 * turn + 20) ∧ LamX.Tabs [(Pt, lamQ)] H, ?_, ?_⟩
          · refine ⟨_, rfl, tr, _, 0, _, rfl, rfl, SqT.of hr1, rfl, rfl, _, rfl, ?_⟩
            by_cases c0 : r.1 = 0
            · refine ite2 (fun z => absurd z (by rw [decide_eq_true (congrArg V.int c0)]; decide)) fun _ => ?_
              exact ⟨rfl, hq, ha, S.mono (by omega), Tb⟩
            · refine ite2 (fun _ => ?_) fun z => absurd (by rw [decide_eq_false (fun y => c0 (V.int.inj y))]; rfl) z
              obtain ⟨z1, z2⟩ := st_ne S hq (fun xs z => by cases z)
              obtain ⟨z3, z4⟩ := st_ne S hr1 (fun xs z => by cases z)
              obtain ⟨z5, z6⟩ := st_ne S ha (fun xs z => by cases z)
              refine ⟨_, rfl, _, rfl, a, b, _, _, rfl, S, by omega, .inr ⟨by decide, tq, q, rfl, hq, fun w1 Ha ka hka Sa Ba hw1 x1 x2 => ?_⟩⟩
              refine ⟨_, rfl, _, rfl, a, b, _, _, rfl, Sa, by omega, .inr ⟨by decide, tr, r, rfl, Ba _ _ z3 z4 hr1, fun w2 Hb kb hkb Sb Bb hw2 x3 x4 => ?_⟩⟩
              refine over_call (qatB Bb hw1 x1 x2) hw2 oq or mq mr c0 fun w3 Hc sc hdc => ?_
              have B := (Ba.trans Bb).trans (sameB_of sc)
              have hqc := B _ _ z1 z2 hq
              have hrc := B _ _ z3 z4 hr1
              refine ⟨_, rfl, _, rfl, over_call (qat_tup hqc) (qat_tup hrc) oq or mq mr c0 fun w4 Hd sd hdd => ⟨by show 2 ≤ sizeLine; decide, fun tl hl => ?_⟩⟩
              have hqd := sd _ _ hqc
              have hrd := sd _ _ hrc
              have hdc := hdc.keep sd
              have s1 := same_upd (o := .lst [w3, w4]) hl
              have hl1 : Dt K (upd Hd tl (.lst [w3, w4])) (.ref tl) (.list [tupD (divv q r), tupD (divv q r)]) := .lst (SqL.of upd_same) (by show 2 ≤ sizeLine; decide) (.cons (hdc.keep s1) (.cons (hdd.keep s1) .nil))
              generalize upd Hd tl (.lst [w3, w4]) = He at s1 hl1 ⊢
              have hqe := s1 _ _ hqd
              have hre := s1 _ _ hrd
              refine ⟨_, rfl, tq, _, 0, _, rfl, rfl, SqT.of hqe, rfl, _, rfl, tr, _, 1, _, rfl, rfl, SqT.of hre, rfl, _, _, rfl, rfl, .inl (by constructor <;> omega), ?_⟩
              refine ⟨_, rfl, tq, _, 1, _, rfl, rfl, SqT.of hqe, rfl, _, rfl, tr, _, 0, _, rfl, rfl, SqT.of hre, rfl, _, _, rfl, rfl, .inl (by constructor <;> omega), ?_⟩
              refine ⟨_, _, rfl, fun z => (Int.mul_eq_zero.mp z).elim (fun y => by omega) c0, mul_lt (by omega) (by omega), fun t ht => ⟨by show 1 ≤ sizeLine; decide, fun t2 ht2 => ⟨t2, 2, _, rfl, rfl, upd_same, by decide, by decide, by show 1 * 2 ≤ sizeLine; decide, fun t3 ht3 => ?_⟩⟩⟩
              have s2 := same_upd (o := .tup [.int (qn (q.1 * r.2) (q.2 * r.1)).1, .int (qn (q.1 * r.2) (q.2 * r.1)).2]) ht
              have s3 := same_upd (o := .lst [V.ref t]) ht2
              have s4 := same_upd (o := .lst (List.replicate (2 : Int).toNat [V.ref t]).flatten) ht3
              have hx : Dt K _ (.ref t) (tupD (divv q r)) := dt_tup (q := divv q r) ((s3.trans s4) _ _ upd_same)
              refine ⟨_, _, .list [tupD (divv q r), tupD (divv q r)], rfl, hl1.keep ((s2.trans s3).trans s4), .lst (SqL.of upd_same) (by show 2 ≤ sizeLine; decide) (.cons hx (.cons hx .nil)), by simp [dep, depAll, tupD], fun Hf sf => ⟨_, rfl, ?_⟩⟩
              have B2 : SameB a b _ Hf := B.trans (sameB_of (((((sd.trans s1).trans s2).trans s3).trans s4).trans sf))
              have ss := (((((sc.trans sd).trans s1).trans s2).trans s3).trans s4).trans sf
              exact iteF (A := True) ⟨rfl, B2 _ _ z1 z2 hq, B2 _ _ z5 z6 ha, (Sb.keep ss).mono (by omega), tabsB S B2 Tb⟩
          · clear S Tb hq hr1 ha
            rintro σ H ⟨rfl, hq, ha, S, Tb⟩
            refine ⟨Tb, fun H1 e1 Tb1 Q2 hQ2 => ⟨_, rfl, by show 2 ≤ sizeLine; decide, fun tz hz => ?_⟩⟩
            have s2 := same_upd (o := .tup [.int 0, .int 1]) hz
            have hz2 : upd H1 tz (.tup [.int 0, .int 1]) tz = some (.tup [.int (0, 1).1, .int (0, 1).2]) := upd_same
            have hq2 := s2 _ _ (e1 _ _ hq (fun ps z => by cases z))
            have ha2 := s2 _ _ (e1 _ _ ha (fun ps z => by cases z))
            have S2 := (stN e1 S).keep s2
            have Tb2 := tabsS s2 Tb1
            generalize upd H1 tz (.tup [.int 0, .int 1]) = H2 at s2 hz2 hq2 ha2 S2 Tb2 ⊢
            clear e1 Tb1 hz s2 hq ha S Tb H1
            refine over_zero (qat_tup hq2) (qat_tup hz2) oq zero_ok mq zero_sm rfl (told_bad (.inr (.inl ⟨rfl, rfl, rfl⟩)) fun t H3 s3 h3 => ?_)
            refine ⟨by show 2 ≤ sizeLine; decide, fun tw hw => ⟨by show 3 ≤ sizeLine; decide, fun tu hu => ?_⟩⟩
            have s4 := same_upd (o := .tup [.int 0, .int 1]) hw
            have s5 := same_upd (o := .tup [.str "bad", .str "other", .ref tw]) hu
            refine ⟨_, _, badD "other" (tupD (0, 1)), rfl, dt_bad ((s4.trans s5) _ _ h3) ((dt_tup (q := (0, 1)) (s3 _ _ hz2)).keep (s4.trans s5)), dt_bad upd_same (dt_tup (q := (0, 1)) (s5 _ _ upd_same)), by decide +kernel, fun H6 s6 => ⟨_, rfl, iteF ?_⟩⟩
            have s36 := ((s3.trans s4).trans s5).trans s6
            have hq6 := s36 _ _ hq2
            have ha6 := s36 _ _ ha2
            have S6 := S2.keep s36
            have Tb6 := tabsS s36 Tb2
            clear s36 s3 s4 s5 s6 hw hu h3 S2 Tb2 hq2 ha2 hz2 hQ2
            -- text, told
            refine ⟨_, rfl, _, q, rfl, qat_tup hq6, mq, ?_⟩
            obtain ⟨z1, z2⟩ := st_ne S6 hq6 (fun xs z => by cases z)
            obtain ⟨z5, z6⟩ := st_ne S6 ha6 (fun xs z => by cases z)
            refine ⟨_, rfl, _, rfl, a, b, _, _, rfl, S6, by omega, .inr ⟨by decide, tq, q, rfl, hq6, fun w1 H7 k7 hk7 S7 B7 hw1 x1 x2 => ?_⟩⟩
            have hq7 := B7 _ _ z1 z2 hq6
            refine one_call hw1 oq True.intro fun o1 H8 s8 d1 => ⟨_, rfl, ?_⟩
            refine one_call (qat_tup (s8 _ _ hq7)) oq True.intro fun o2 H9 s9 d2 => ?_
            have S9 := (S7.keep s8).keep s9
            have hq9 := s9 _ _ (s8 _ _ hq7)
            refine ⟨_, rfl, _, rfl, a, b, _, _, rfl, S9, by omega, .inr ⟨by decide, tq, q, rfl, hq9, fun w2 H10 k10 hk10 S10 B10 hw2 x3 x4 => ?_⟩⟩
            have hq10 := B10 _ _ z1 z2 hq9
            refine one_call hw2 oq mq fun o3 H11 s11 d3 => ⟨_, rfl, ?_⟩
            refine one_call (qat_tup (s11 _ _ hq10)) oq mq fun o4 H12 s12 d4 => ?_
            cases d3
            cases d4
            have hread : readD (.str (textq q)) = some q := quotIn_textq oq mq
            have hshort : ∀ x, PyData.str (textq q) = .str x → x.length ≤ 640 := fun x e => by
              cases e
              exact Nat.le_trans (textq_short mq) (by decide)
            refine ⟨_, rfl, _, .str (textq q), rfl, .str _, hshort, fun z => by rw [hread] at z; (cases z), fun q5 e5 t5 H13 s13 h5 => ?_⟩
            refine ⟨_, rfl, _, .str (textq q), rfl, .str _, hshort, fun z => by rw [hread] at z; (cases z), fun q6 e6 t6 H14 s14 h6 => ?_⟩
            rw [hread] at e5 e6
            cases e5
            cases e6
            refine ⟨by show 6 ≤ sizeLine; decide, fun tl hl => ?_⟩
            have s15 := same_upd (o := .lst [o1, o2, .str (textq q), .str (textq q), .ref t5, .ref t6]) hl
            have d1' : Dt K H10 o1 (tupD (negv q)) := dt_flat (rd_b S9 B10) (d1.keep s9) rfl
            have d2' : Dt K H10 o2 (tupD (negv q)) := dt_flat (rd_b S9 B10) d2 rfl
            have s1014 := ((s11.trans s12).trans s13).trans s14
            have hfound : Dt K (upd H14 tl (.lst [o1, o2, .str (textq q), .str (textq q), .ref t5, .ref t6])) (.ref tl) (.list [tupD (negv q), tupD (negv q), .str (textq q), .str (textq q), tupD q, tupD q]) :=
              .lst (SqL.of upd_same) (by show 6 ≤ sizeLine; decide) (.cons ((d1'.keep s1014).keep s15) (.cons ((d2'.keep s1014).keep s15) (.cons (.str _) (.cons (.str _) (.cons (((dt_tup h5).keep s14).keep s15) (.cons ((dt_tup h6).keep s15) .nil))))))
            generalize upd H14 tl (.lst [o1, o2, .str (textq q), .str (textq q), .ref t5, .ref t6]) = H15 at s15 hfound ⊢
            have s1015 := s1014.trans s15
            have B615 : SameB a b H6 H15 := ((B7.trans (sameB_of (s8.trans s9))).trans B10).trans (sameB_of s1015)
            have hq15 := B615 _ _ z1 z2 hq6
            have ha15 := B615 _ _ z5 z6 ha6
            have S15 : StA H15 a b (100 * turn + 22) := (S10.keep s1015).mono (by omega)
            have Tb15 := tabsB S6 B615 Tb6
            clear s1015 B615 s15 s1014 d1' d2' h5 h6 s13 s14 s11 s12 S10 hq10 B10 S9 hq9 d1 d2 s8 s9 S7 B7 hw1 hw2 hq7 hq6 ha6 S6 Tb6 hl
            refine ⟨_, rfl, ?_⟩
            refine ⟨_, rfl, tq, _, 0, _, rfl, rfl, SqT.of hq15, rfl, q.1, rfl, _, rfl, tq, _, 1, _, rfl, rfl, SqT.of hq15, rfl, by show 2 ≤ sizeLine; decide, fun u1 hu1 => ⟨by show 1 ≤ sizeLine; decide, fun u2 hu2 => ⟨u2, 2, _, rfl, rfl, upd_same, by decide, by decide, by show 1 * 2 ≤ sizeLine; decide, fun u3 hu3 => ?_⟩⟩⟩
            have c1 := same_upd (o := .tup [.int (-q.1), .int q.2]) hu1
            have c2 := same_upd (o := .lst [V.ref u1]) hu2
            have c3 := same_upd (o := .lst (List.replicate (2 : Int).toNat [V.ref u1]).flatten) hu3
            have e1 : upd (upd (upd H15 u1 (.tup [.int (-q.1), .int q.2])) u2 (.lst [V.ref u1])) u3 (.lst (List.replicate (2 : Int).toNat [V.ref u1]).flatten) u1 = some (.tup [.int (negv q).1, .int (negv q).2]) := (c2.trans c3) _ _ upd_same
            have e3 : upd (upd (upd H15 u1 (.tup [.int (-q.1), .int q.2])) u2 (.lst [V.ref u1])) u3 (.lst (List.replicate (2 : Int).toNat [V.ref u1]).flatten) u3 = some (.lst [.ref u1, .ref u1]) := upd_same
            have c13 := (c1.trans c2).trans c3
            generalize upd (upd (upd H15 u1 (.tup [.int (-q.1), .int q.2])) u2 (.lst [V.ref u1])) u3 (.lst (List.replicate (2 : Int).toNat [V.ref u1]).flatten) = H16 at c13 e1 e3 ⊢
            clear c1 c2 c3 hu1 hu2 hu3
            refine ⟨_, rfl, by show 1 ≤ sizeLine; decide, fun u4 hu4 => ⟨u4, 2, _, rfl, rfl, upd_same, by decide, by decide, by show 1 * 2 ≤ sizeLine; decide, fun u5 hu5 => ?_⟩⟩
            have c4 := same_upd (o := .lst [V.str (textq q)]) hu4
            have c5 := same_upd (o := .lst (List.replicate (2 : Int).toNat [V.str (textq q)]).flatten) hu5
            refine ⟨u3, u5, _, _, rfl, rfl, (c4.trans c5) _ _ e3, upd_same, by show 2 + 2 ≤ sizeLine; decide, fun u6 hu6 => ?_⟩
            have c6 := same_upd (o := .lst ([V.ref u1, V.ref u1] ++ (List.replicate (2 : Int).toNat [V.str (textq q)]).flatten)) hu6
            refine ⟨_, rfl, by show 1 ≤ sizeLine; decide, fun u7 hu7 => ⟨u7, 2, _, rfl, rfl, upd_same, by decide, by decide, by show 1 * 2 ≤ sizeLine; decide, fun u8 hu8 => ?_⟩⟩
            have c7 := same_upd (o := .lst [V.ref tq]) hu7
            have c8 := same_upd (o := .lst (List.replicate (2 : Int).toNat [V.ref tq]).flatten) hu8
            refine ⟨u6, u8, _, _, rfl, rfl, (c7.trans c8) _ _ upd_same, upd_same, by show 4 + 2 ≤ sizeLine; decide, fun u9 hu9 => ?_⟩
            have c9 := same_upd (o := .lst (([V.ref u1, V.ref u1] ++ (List.replicate (2 : Int).toNat [V.str (textq q)]).flatten) ++ (List.replicate (2 : Int).toNat [V.ref tq]).flatten)) hu9
            have c49 := ((((c4.trans c5).trans c6).trans c7).trans c8).trans c9
            have n1 : Dt K _ (.ref u1) (tupD (negv q)) := dt_tup (c49 _ _ e1)
            have nq : Dt K _ (.ref tq) (tupD q) := dt_tup (c49 _ _ (c13 _ _ hq15))
            refine ⟨_, _, .list [tupD (negv q), tupD (negv q), .str (textq q), .str (textq q), tupD q, tupD q], rfl, hfound.keep (c13.trans c49), .lst (SqL.of upd_same) (by show 6 ≤ sizeLine; decide) (.cons n1 (.cons n1 (.cons (.str _) (.cons (.str _) (.cons nq (.cons nq .nil)))))), by simp [dep, depAll, tupD], fun H17 s17 => ⟨_, rfl, iteF ?_⟩⟩
            have s1 := (c13.trans c49).trans s17
            have hq := s1 _ _ hq15
            have ha := s1 _ _ ha15
            have S := S15.keep s1
            have Tb := tabsS s1 Tb15
            clear s1 s17 n1 nq c49 c9 hu9 c8 c7 hu8 hu7 c6 hu6 c5 c4 hu4 hu5 c13 e1 e3 S15 Tb15 hq15 ha15 hfound
            obtain ⟨z1, z2⟩ := st_ne S hq (fun xs z => by cases z)
            obtain ⟨z5, z6⟩ := st_ne S ha (fun xs z => by cases z)
            refine ⟨_, rfl, a, b, _, _, rfl, S, by omega, by decide, by decide, fun rp H1 p0 p1 S1 B1 => ⟨_, _, rfl, rfl, ?_⟩⟩
            refine ⟨_, rfl, a, b, _, _, rfl, S1, by omega, by decide, by decide, fun rn H2 n0 n1 S2 B2 => ⟨_, _, rfl, rfl, ?_⟩⟩
            refine ⟨by show 2 ≤ sizeLine; decide, fun p2 hp2 => ⟨p2, _, rfl, SqT.of upd_same, rfl, _, _, rfl, _, _, rfl, rfl, ?_⟩⟩
            have s3 := same_upd (o := .tup [.int (rp - 20), .int (rn - 20)]) hp2
            have B3 := (B1.trans B2).trans (sameB_of s3)
            have hq3 := B3 _ _ z1 z2 hq
            have ha3 := B3 _ _ z5 z6 ha
            have S3 : StA _ a b (100 * turn + 24) := (S2.keep s3).mono (by omega)
            have Tb3 := tabsB S B3 Tb
            dsimp only at s3 B3 hq3 ha3 S3 Tb3 ⊢
            generalize upd H2 p2 (.tup [.int (rp - 20), .int (rn - 20)]) = H3 at s3 B3 hq3 ha3 S3 Tb3 ⊢
            clear s3 B3 B2 B1 S1 S2 S hq ha Tb hp2
            refine ⟨fun σ H => ∃ tdue, σ = [some (V.ref l), some (V.ref a), some (V.int (0 + (turn : Int))), some (V.ref tq), some (V.ref tr), some (V.int (q.1 * r.2 - r.1 * q.2)), some (V.ref tdue), some (V.ref ta), some (V.str (textq q)), some (V.ref tl), some (V.int (rp - 20)), some (V.int (rn - 20)), v12, v13, v14, v15, v16, v17, v18, v19] ∧ Dt K H (.ref tdue) (dueD (rp - 20) (rn - 20)) ∧
              H tq = some (.tup [.int q.1, .int q.2]) ∧ H ta = some (.tup [.ref f_plus, .ref f_less, .ref f_times, .ref f_compared]) ∧ StA H a b (100 * turn + 24) ∧ LamX.Tabs [(Pt, lamQ)] H, ?_, ?_⟩
            · refine ⟨_, rfl, rfl, _, rfl, ?_⟩
              by_cases c0 : rn - 20 = 0
              · refine ite2 (fun z => absurd z (by rw [decide_eq_true (congrArg V.int c0)]; decide)) fun _ => ?_
                refine ⟨_, rfl, _, rfl, by show 2 ≤ sizeLine; decide, fun y1 hy1 => ⟨by show 3 ≤ sizeLine; decide, fun y2 hy2 => ?_⟩⟩
                have c1 := same_upd (o := .lst [.int (rp - 20), .int (rn - 20)]) hy1
                have c2 := same_upd (o := .tup [.str "bad", .str "parts", .ref y1]) hy2
                have c12 := c1.trans c2
                refine ⟨y2, rfl, ?_, c12 _ _ hq3, c12 _ _ ha3, S3.keep c12, tabsS c12 Tb3⟩
                unfold dueD
                rw [if_pos c0]
                exact dt_parts (c2 _ _ upd_same) upd_same (.int _) (.int _)
              · refine ite2 (fun _ => ?_) fun z => absurd (by rw [decide_eq_false (fun y => c0 (V.int.inj y))]; rfl) z
                refine ⟨_, rfl, _, rfl, _, _, rfl, c0, by omega, fun y1 hy1 => ⟨by show 2 ≤ sizeLine; decide, fun y2 hy2 => ?_⟩⟩
                have c1 := same_upd (o := .tup [.int (qn (rp - 20) (rn - 20)).1, .int (qn (rp - 20) (rn - 20)).2]) hy1
                have c2 := same_upd (o := .tup [.str "told", .ref y1]) hy2
                have c12 := c1.trans c2
                refine ⟨y2, rfl, ?_, c12 _ _ hq3, c12 _ _ ha3, S3.keep c12, tabsS c12 Tb3⟩
                unfold dueD
                rw [if_neg c0]
                exact dt_told upd_same (dt_tup (c2 _ _ upd_same))
            · clear S3 Tb3 hq3 ha3
              rintro σ H0 ⟨tdue, rfl, hdue, hq, ha, S, Tb⟩
              refine ⟨Tb, fun H1 e1 Tb1 Q2 hQ2 => ⟨_, rfl, _, rfl, ?_⟩⟩
              refine told_parts (by omega) hQ2 fun t H2 s2 h2 => ?_
              have e2 : LamX.ExtN H0 H2 := e1.trans (extN_of s2)
              have Tb2 := tabsS s2 Tb1
              refine ⟨_, rfl, _, _, _, rfl, h2, dtN e2 hdue, dep_due, fun H3 s3 => ⟨_, rfl, iteF ?_⟩⟩
              have e3 := e2.trans (extN_of s3)
              have Tb3 := tabsS s3 Tb2
              clear hQ2 s3 Tb2 e2 h2 s2 Tb1 e1
              refine ⟨Tb3, fun H4 e4 Tb4 Q2 hQ2 => ⟨_, rfl, _, rfl, ?_⟩⟩
              refine told_parts (by omega) hQ2 fun t H5 s5 h5 => ?_
              have e5 := (e3.trans e4).trans (extN_of s5)
              refine ⟨_, rfl, _, _, _, rfl, h5, dtN e5 hdue, dep_due, fun H6 s6 => ⟨_, rfl, iteF ?_⟩⟩
              have e6 := e5.trans (extN_of s6)
              have Tb6 := (tabsS s6 (tabsS s5 Tb4))
              have hq6 := e6 _ _ hq (fun ps z => by cases z)
              have ha6 := e6 _ _ ha (fun ps z => by cases z)
              have S6 := stN e6 S
              clear hQ2 s6 h5 s5 e5 Tb4 e4 e3 Tb3 e6 hdue hq ha S Tb
              -- for odd in (None, True, "1", (1, 1), [1])
              refine ⟨by show 2 ≤ sizeLine; decide, fun x4 h4 => ⟨by show 1 ≤ sizeLine; decide, fun x5 h5 => ⟨by show 5 ≤ sizeLine; decide, fun tt htt => ?_⟩⟩⟩
              have s7 := same_upd (o := .tup [.int 1, .int 1]) h4
              have s8 := same_upd (o := .lst [.int 1]) h5
              have s9 := same_upd (o := .tup [.non, .bl true, .str "1", .ref x4, .ref x5]) htt
              have s79 := (s7.trans s8).trans s9
              have hx7 : DtAll K (upd (upd (upd H6 x4 (.tup [.int 1, .int 1])) x5 (.lst [.int 1])) tt (.tup [.non, .bl true, .str "1", .ref x4, .ref x5])) [.non, .bl true, .str "1", .ref x4, .ref x5] oddsA :=
                .cons .non (.cons (.bl _) (.cons (.str _) (.cons (.tup (SqT.of ((s8.trans s9) _ _ upd_same)) (by show 2 ≤ sizeLine; decide) (.cons (.int _) (.cons (.int _) .nil))) (.cons (.lst (SqL.of (s9 _ _ upd_same)) (by show 1 ≤ sizeLine; decide) (.cons (.int _) .nil)) .nil))))
              have ht7 : upd (upd (upd H6 x4 (.tup [.int 1, .int 1])) x5 (.lst [.int 1])) tt (.tup [.non, .bl true, .str "1", .ref x4, .ref x5]) tt = some (.tup [.non, .bl true, .str "1", .ref x4, .ref x5]) := upd_same
              generalize upd (upd (upd H6 x4 (.tup [.int 1, .int 1])) x5 (.lst [.int 1])) tt (.tup [.non, .bl true, .str "1", .ref x4, .ref x5]) = H7 at s79 hx7 ht7 ⊢
              have hq7 := s79 _ _ hq6
              have ha7 := s79 _ _ ha6
              have S7 := S6.keep s79
              have Tb7 := tabsS s79 Tb6
              clear s79 s7 s8 s9 htt h4 h5 hq6 ha6 S6 Tb6
              refine ⟨tt, rfl, ⟨_, SqT.of ht7⟩, for_tup (xs := [.non, .bl true, .str "1", .ref x4, .ref x5]) (fun i σ H => ∃ o12, σ = [some (V.ref l), some (V.ref a), some (V.int (0 + (turn : Int))), some (V.ref tq), some (V.ref tr), some (V.int (q.1 * r.2 - r.1 * q.2)), some (V.ref tdue), some (V.ref ta), some (V.str (textq q)), some (V.ref tl), some (V.int (rp - 20)), some (V.int (rn - 20)), o12, v13, v14, v15, v16, v17, v18, v19] ∧ LamX.ExtN H7 H ∧ LamX.Tabs [(Pt, lamQ)] H) ⟨_, rfl, LamX.ExtN.refl _, Tb7⟩ (fun i σ H _ h => ?_) ?_ ?_⟩
              · obtain ⟨_, _, e, _⟩ := h
                exact SqT.of (e _ _ ht7 (fun ps z => by cases z))
              · rintro i x σ H8 hx ⟨o12, rfl, e8, Tb8⟩
                obtain ⟨d, ed, hd⟩ := hx7.get hx
                obtain ⟨ni, dd⟩ := oddsA_no ed
                refine ⟨Tb8, fun H9 e9 Tb9 Q2 hQ2 => ⟨_, rfl, ?_⟩⟩
                have hd9 := dtN (e8.trans e9) hd
                refine told_parts_bad hd9 (.int 2) (partsD_no1 ni) fun t H10 s10 h10 => ?_
                refine ⟨_, rfl, by show 2 ≤ sizeLine; decide, fun y1 hy1 => ⟨by show 3 ≤ sizeLine; decide, fun y2 hy2 => ?_⟩⟩
                have c1 := same_upd (o := .lst [x, .int 2]) hy1
                have c2 := same_upd (o := .tup [.str "bad", .str "parts", .ref y1]) hy2
                refine ⟨_, _, _, rfl, h10.keep (c1.trans c2), dt_parts (c2 _ _ upd_same) upd_same (((hd9.keep s10).keep c1).keep c2) (.int 2), dep_parts dd (by decide), fun H11 s11 => ⟨_, rfl, iteF ?_⟩⟩
                have s911 := ((s10.trans c1).trans c2).trans s11
                refine ⟨tabsS s911 Tb9, fun H12 e12 Tb12 Q3 hQ3 => ⟨_, rfl, ?_⟩⟩
                have hd12 := dtN e12 (hd9.keep s911)
                refine told_parts_bad (.int 2) hd12 (partsD_no2 ni) fun t2 H13 s13 h13 => ?_
                refine ⟨_, rfl, by show 2 ≤ sizeLine; decide, fun y3 hy3 => ⟨by show 3 ≤ sizeLine; decide, fun y4 hy4 => ?_⟩⟩
                have c3 := same_upd (o := .lst [.int 2, x]) hy3
                have c4 := same_upd (o := .tup [.str "bad", .str "parts", .ref y3]) hy4
                refine ⟨_, _, _, rfl, h13.keep (c3.trans c4), dt_parts (c4 _ _ upd_same) upd_same (.int 2) (((hd12.keep s13).keep c3).keep c4), dep_parts (by decide) dd, fun H14 s14 => ⟨_, rfl, iteF ?_⟩⟩
                have s1214 := ((s13.trans c3).trans c4).trans s14
                exact ⟨_, rfl, ((e8.trans e9).trans (extN_of s911)).trans (e12.trans (extN_of s1214)), tabsS s1214 Tb12⟩
              · rintro σ H8 ⟨o12, rfl, e8, Tb8⟩
                have hq8 := e8 _ _ hq7 (fun ps z => by cases z)
                have ha8 := e8 _ _ ha7 (fun ps z => by cases z)
                have S8 := stN e8 S7
                clear e8 S7 Tb7 hq7 ha7 ht7 hx7 H7
                have g0 : DtAll K H8 [.non, .int 5] [.none, .int 5] := .cons .non (.cons (.int _) .nil)
                have t0 := Same.refl H8
                refine ⟨by show 0 ≤ sizeLine; decide, fun b2 h2 => ?_⟩
                have s2 := same_upd (o := (.tup [])) h2
                have g2 : DtAll K (upd H8 b2 (.tup [])) [.non, .int 5, .ref b2] [.none, .int 5, .tuple []] := (g0.keep s2).append (.cons (.tup (SqT.of upd_same) (by show 0 ≤ sizeLine; decide) .nil) .nil)
                have t2 := t0.trans s2
                generalize upd H8 b2 (.tup []) = G2 at s2 g2 t2 ⊢
                clear g0 t0 s2 h2
                refine ⟨by show 1 ≤ sizeLine; decide, fun b3 h3 => ?_⟩
                have s3 := same_upd (o := (.tup [.int 1])) h3
                have g3 : DtAll K (upd G2 b3 (.tup [.int 1])) [.non, .int 5, .ref b2, .ref b3] [.none, .int 5, .tuple [], .tuple [.int 1]] := (g2.keep s3).append (.cons (.tup (SqT.of upd_same) (by show 1 ≤ sizeLine; decide) (.cons (.int _) .nil)) .nil)
                have t3 := t2.trans s3
                generalize upd G2 b3 (.tup [.int 1]) = G3 at s3 g3 t3 ⊢
                clear g2 t2 s3 h3
                refine ⟨by show 2 ≤ sizeLine; decide, fun b4 h4 => ?_⟩
                have s4 := same_upd (o := (.tup [.int 2, .int 4])) h4
                have g4 : DtAll K (upd G3 b4 (.tup [.int 2, .int 4])) [.non, .int 5, .ref b2, .ref b3, .ref b4] [.none, .int 5, .tuple [], .tuple [.int 1], .tuple [.int 2, .int 4]] := (g3.keep s4).append (.cons (.tup (SqT.of upd_same) (by show 2 ≤ sizeLine; decide) (.cons (.int _) (.cons (.int _) .nil))) .nil)
                have t4 := t3.trans s4
                generalize upd G3 b4 (.tup [.int 2, .int 4]) = G4 at s4 g4 t4 ⊢
                clear g3 t3 s4 h4
                refine ⟨by show 2 ≤ sizeLine; decide, fun b5 h5 => ?_⟩
                have s5 := same_upd (o := (.tup [.int 1, .int 0])) h5
                have g5 : DtAll K (upd G4 b5 (.tup [.int 1, .int 0])) [.non, .int 5, .ref b2, .ref b3, .ref b4, .ref b5] [.none, .int 5, .tuple [], .tuple [.int 1], .tuple [.int 2, .int 4], .tuple [.int 1, .int 0]] := (g4.keep s5).append (.cons (.tup (SqT.of upd_same) (by show 2 ≤ sizeLine; decide) (.cons (.int _) (.cons (.int _) .nil))) .nil)
                have t5 := t4.trans s5
                generalize upd G4 b5 (.tup [.int 1, .int 0]) = G5 at s5 g5 t5 ⊢
                clear g4 t4 s5 h5
                refine ⟨2, rfl, by show 2 ≤ sizeLine; decide, fun b6 h6 => ?_⟩
                have s6 := same_upd (o := (.tup [.int 1, .int (-2)])) h6
                have g6 : DtAll K (upd G5 b6 (.tup [.int 1, .int (-2)])) [.non, .int 5, .ref b2, .ref b3, .ref b4, .ref b5, .ref b6] [.none, .int 5, .tuple [], .tuple [.int 1], .tuple [.int 2, .int 4], .tuple [.int 1, .int 0], .tuple [.int 1, .int (-2)]] := (g5.keep s6).append (.cons (.tup (SqT.of upd_same) (by show 2 ≤ sizeLine; decide) (.cons (.int _) (.cons (.int _) .nil))) .nil)
                have t6 := t5.trans s6
                generalize upd G5 b6 (.tup [.int 1, .int (-2)]) = G6 at s6 g6 t6 ⊢
                clear g5 t5 s6 h6
                refine ⟨by show 2 ≤ sizeLine; decide, fun b7 h7 => ?_⟩
                have s7 := same_upd (o := (.tup [.int 0, .int 2])) h7
                have g7 : DtAll K (upd G6 b7 (.tup [.int 0, .int 2])) [.non, .int 5, .ref b2, .ref b3, .ref b4, .ref b5, .ref b6, .ref b7] [.none, .int 5, .tuple [], .tuple [.int 1], .tuple [.int 2, .int 4], .tuple [.int 1, .int 0], .tuple [.int 1, .int (-2)], .tuple [.int 0, .int 2]] := (g6.keep s7).append (.cons (.tup (SqT.of upd_same) (by show 2 ≤ sizeLine; decide) (.cons (.int _) (.cons (.int _) .nil))) .nil)
                have t7 := t6.trans s7
                generalize upd G6 b7 (.tup [.int 0, .int 2]) = G7 at s7 g7 t7 ⊢
                clear g6 t6 s7 h7
                refine ⟨by show 2 ≤ sizeLine; decide, fun b8 h8 => ?_⟩
                have s8 := same_upd (o := (.tup [.bl true, .int 1])) h8
                have g8 : DtAll K (upd G7 b8 (.tup [.bl true, .int 1])) [.non, .int 5, .ref b2, .ref b3, .ref b4, .ref b5, .ref b6, .ref b7, .ref b8] [.none, .int 5, .tuple [], .tuple [.int 1], .tuple [.int 2, .int 4], .tuple [.int 1, .int 0], .tuple [.int 1, .int (-2)], .tuple [.int 0, .int 2], .tuple [.bool true, .int 1]] := (g7.keep s8).append (.cons (.tup (SqT.of upd_same) (by show 2 ≤ sizeLine; decide) (.cons (.bl _) (.cons (.int _) .nil))) .nil)
                have t8 := t7.trans s8
                generalize upd G7 b8 (.tup [.bl true, .int 1]) = G8 at s8 g8 t8 ⊢
                clear g7 t7 s8 h8
                refine ⟨by show 2 ≤ sizeLine; decide, fun b9 h9 => ?_⟩
                have s9 := same_upd (o := (.tup [.int 1, .bl true])) h9
                have g9 : DtAll K (upd G8 b9 (.tup [.int 1, .bl true])) [.non, .int 5, .ref b2, .ref b3, .ref b4, .ref b5, .ref b6, .ref b7, .ref b8, .ref b9] [.none, .int 5, .tuple [], .tuple [.int 1], .tuple [.int 2, .int 4], .tuple [.int 1, .int 0], .tuple [.int 1, .int (-2)], .tuple [.int 0, .int 2], .tuple [.bool true, .int 1], .tuple [.int 1, .bool true]] := (g8.keep s9).append (.cons (.tup (SqT.of upd_same) (by show 2 ≤ sizeLine; decide) (.cons (.int _) (.cons (.bl _) .nil))) .nil)
                have t9 := t8.trans s9
                generalize upd G8 b9 (.tup [.int 1, .bl true]) = G9 at s9 g9 t9 ⊢
                clear g8 t8 s9 h9
                refine ⟨by show 3 ≤ sizeLine; decide, fun b11 h11 => ?_⟩
                have s11 := same_upd (o := (.tup [.int 1, .int 2, .int 3])) h11
                have g11 : DtAll K (upd G9 b11 (.tup [.int 1, .int 2, .int 3])) [.non, .int 5, .ref b2, .ref b3, .ref b4, .ref b5, .ref b6, .ref b7, .ref b8, .ref b9, .str "1/2", .ref b11] [.none, .int 5, .tuple [], .tuple [.int 1], .tuple [.int 2, .int 4], .tuple [.int 1, .int 0], .tuple [.int 1, .int (-2)], .tuple [.int 0, .int 2], .tuple [.bool true, .int 1], .tuple [.int 1, .bool true], .str "1/2", .tuple [.int 1, .int 2, .int 3]] := (g9.keep s11).append (.cons (.str _) (.cons (.tup (SqT.of upd_same) (by show 3 ≤ sizeLine; decide) (.cons (.int _) (.cons (.int _) (.cons (.int _) .nil)))) .nil))
                have t11 := t9.trans s11
                generalize upd G9 b11 (.tup [.int 1, .int 2, .int 3]) = G11 at s11 g11 t11 ⊢
                clear g9 t9 s11 h11
                refine fun b12 h12 => ?_
                have s12 := same_upd (o := (.dK [])) h12
                have g12 : DtAll K (upd G11 b12 (.dK [])) [.non, .int 5, .ref b2, .ref b3, .ref b4, .ref b5, .ref b6, .ref b7, .ref b8, .ref b9, .str "1/2", .ref b11, .ref b12] [.none, .int 5, .tuple [], .tuple [.int 1], .tuple [.int 2, .int 4], .tuple [.int 1, .int 0], .tuple [.int 1, .int (-2)], .tuple [.int 0, .int 2], .tuple [.bool true, .int 1], .tuple [.int 1, .bool true], .str "1/2", .tuple [.int 1, .int 2, .int 3], .dict []] := (g11.keep s12).append (.cons (.dct (kvs := []) (Rd.of upd_same) List.nodup_nil (Nat.zero_le _) rfl .nil) .nil)
                have t12 := t11.trans s12
                have k12 : upd G11 b12 (.dK []) b12 = some (.dK []) := upd_same
                generalize upd G11 b12 (.dK []) = G12 at s12 g12 t12 k12 ⊢
                clear g11 t11 s12 h12
                refine ⟨by show 2 ≤ sizeLine; decide, fun b13 h13 => ?_⟩
                have s13 := same_upd (o := (.lst [.non, .int 1])) h13
                have g13 : DtAll K (upd G12 b13 (.lst [.non, .int 1])) [.non, .int 5, .ref b2, .ref b3, .ref b4, .ref b5, .ref b6, .ref b7, .ref b8, .ref b9, .str "1/2", .ref b11, .ref b12, .ref b13] [.none, .int 5, .tuple [], .tuple [.int 1], .tuple [.int 2, .int 4], .tuple [.int 1, .int 0], .tuple [.int 1, .int (-2)], .tuple [.int 0, .int 2], .tuple [.bool true, .int 1], .tuple [.int 1, .bool true], .str "1/2", .tuple [.int 1, .int 2, .int 3], .dict [], .list [.none, .int 1]] := (g12.keep s13).append (.cons (.lst (SqL.of upd_same) (by show 2 ≤ sizeLine; decide) (.cons .non (.cons (.int _) .nil))) .nil)
                have t13 := t12.trans s13
                have k13 := s13 _ _ k12
                generalize upd G12 b13 (.lst [.non, .int 1]) = G13 at s13 g13 t13 k13 ⊢
                clear g12 t12 s13 h13
                refine ⟨by show 14 ≤ sizeLine; decide, fun tt htt => ?_⟩
                have sb := same_upd (o := .tup [.non, .int 5, .ref b2, .ref b3, .ref b4, .ref b5, .ref b6, .ref b7, .ref b8, .ref b9, .str "1/2", .ref b11, .ref b12, .ref b13]) htt
                have hxb : DtAll K (upd G13 tt (.tup [.non, .int 5, .ref b2, .ref b3, .ref b4, .ref b5, .ref b6, .ref b7, .ref b8, .ref b9, .str "1/2", .ref b11, .ref b12, .ref b13])) [.non, .int 5, .ref b2, .ref b3, .ref b4, .ref b5, .ref b6, .ref b7, .ref b8, .ref b9, .str "1/2", .ref b11, .ref b12, .ref b13] oddsB := g13.keep sb
                have htb : upd G13 tt (.tup [.non, .int 5, .ref b2, .ref b3, .ref b4, .ref b5, .ref b6, .ref b7, .ref b8, .ref b9, .str "1/2", .ref b11, .ref b12, .ref b13]) tt = some (.tup [.non, .int 5, .ref b2, .ref b3, .ref b4, .ref b5, .ref b6, .ref b7, .ref b8, .ref b9, .str "1/2", .ref b11, .ref b12, .ref b13]) := upd_same
                have tb := t13.trans sb
                have kb := sb _ _ k13
                generalize upd G13 tt (.tup [.non, .int 5, .ref b2, .ref b3, .ref b4, .ref b5, .ref b6, .ref b7, .ref b8, .ref b9, .str "1/2", .ref b11, .ref b12, .ref b13]) = HB at sb hxb htb tb kb ⊢
                have hqB := tb _ _ hq8
                have haB := tb _ _ ha8
                have SB := S8.keep tb
                have TbB := tabsS tb Tb8
                clear tb sb t13 g13 k12 k13 htt hq8 ha8 S8 Tb8 G2 G3 G4 G5 G6 G7 G8 G9 G11 G12 G13
                have tq_ok : isQd (tupD q) = true := isQ_pair oq
                refine ⟨tt, rfl, ⟨_, SqT.of htb⟩, for_tup (xs := [.non, .int 5, .ref b2, .ref b3, .ref b4, .ref b5, .ref b6, .ref b7, .ref b8, .ref b9, .str "1/2", .ref b11, .ref b12, .ref b13]) (fun i σ H => ∃ o12 o13, σ = [some (V.ref l), some (V.ref a), some (V.int (0 + (turn : Int))), some (V.ref tq), some (V.ref tr), some (V.int (q.1 * r.2 - r.1 * q.2)), some (V.ref tdue), some (V.ref ta), some (V.str (textq q)), some (V.ref tl), some (V.int (rp - 20)), some (V.int (rn - 20)), o12, o13, v14, v15, v16, v17, v18, v19] ∧ LamX.ExtN HB H ∧ LamX.Tabs [(Pt, lamQ)] H) ⟨_, _, rfl, LamX.ExtN.refl _, TbB⟩ (fun i σ H _ h => ?_) ?_ ?_⟩
                · obtain ⟨_, _, _, e, _⟩ := h
                  exact SqT.of (e _ _ htb (fun ps z => by cases z))
                · rintro i x σ H9 hx ⟨o12, o13, rfl, e9, Tb9⟩
                  obtain ⟨d, ed, hd⟩ := hxb.get hx
                  obtain ⟨nq, dd⟩ := oddsB_no ed
                  have cp : cpB d = true ∨ (d = .dict [] ∧ ∃ p, x = .ref p ∧ H9 p = some (.dK [])) := by
                    rcases oddsB_cp ed with c | ⟨rfl, rfl⟩
                    · exact .inl c
                    · exact .inr ⟨rfl, b12, (Option.some.inj hx).symm, e9 _ _ kb (fun ps z => by cases z)⟩
                  have hd9 := dtN e9 hd
                  refine ⟨_, rfl, copy_call (E := C8.E0) hd9 cp fun w1 H10 s10 hw1 => ⟨w1, d, rfl, hw1, fun H11 s11 => ⟨_, _, rfl, rfl, _, rfl, ?_⟩⟩⟩
                  rw [nq]
                  refine iteF ⟨_, rfl, x, d, rfl, (hd9.keep s10).keep s11, fun H12 s12 => ⟨_, _, rfl, rfl, _, rfl, ?_⟩⟩
                  rw [nq]
                  refine iteF ?_
                  have s912 := (s10.trans s11).trans s12
                  have e12 := e9.trans (extN_of s912)
                  have Tb12 := tabsS s912 Tb9
                  have hd12 := hd9.keep s912
                  clear s912 s10 s11 s12 hw1 cp Tb9 e9 hd9
                  refine ⟨_, rfl, by show 1 ≤ sizeLine; decide, fun x1 h1 => ⟨ta, x1, _, _, rfl, rfl, SqT.of (same_upd h1 _ _ (e12 _ _ haB (fun ps z => by cases z))), SqT.of upd_same, (fun z => by cases z), by show 4 + 1 ≤ sizeLine; decide, (fun z => by cases z), fun _ p5 hp5 => ?_⟩⟩
                  have c1 := same_upd (o := .tup [.ref f_over]) h1
                  have c2 := same_upd (o := .tup ([V.ref f_plus, V.ref f_less, V.ref f_times, V.ref f_compared] ++ [V.ref f_over])) hp5
                  have ht5 : upd (upd H12 x1 (.tup [.ref f_over])) p5 (.tup ([V.ref f_plus, V.ref f_less, V.ref f_times, V.ref f_compared] ++ [V.ref f_over])) p5 = some (.tup [.ref f_plus, .ref f_less, .ref f_times, .ref f_compared, .ref f_over]) := upd_same
                  have c12 := c1.trans c2
                  generalize upd (upd H12 x1 (.tup [.ref f_over])) p5 (.tup ([V.ref f_plus, V.ref f_less, V.ref f_times, V.ref f_compared] ++ [V.ref f_over])) = H13 at c12 ht5 ⊢
                  clear c1 c2 h1 hp5
                  have e13 := e12.trans (extN_of c12)
                  have Tb13 := tabsS c12 Tb12
                  have hd13 := hd12.keep c12
                  have hq13 := e13 _ _ hqB (fun ps z => by cases z)
                  clear e12 Tb12 hd12 c12
                  refine ⟨p5, rfl, ⟨_, SqT.of ht5⟩, for_tup (xs := [.ref f_plus, .ref f_less, .ref f_times, .ref f_compared, .ref f_over]) (fun i σ H => ∃ o13, σ = [some (V.ref l), some (V.ref a), some (V.int (0 + (turn : Int))), some (V.ref tq), some (V.ref tr), some (V.int (q.1 * r.2 - r.1 * q.2)), some (V.ref tdue), some (V.ref ta), some (V.str (textq q)), some (V.ref tl), some (V.int (rp - 20)), some (V.int (rn - 20)), some x, o13, v14, v15, v16, v17, v18, v19] ∧ LamX.ExtN H13 H ∧ LamX.Tabs [(Pt, lamQ)] H) ⟨_, rfl, LamX.ExtN.refl _, Tb13⟩ (fun i σ H _ h => ?_) ?_ ?_⟩
                  · obtain ⟨_, _, e, _⟩ := h
                    exact SqT.of (e _ _ ht5 (fun ps z => by cases z))
                  · rintro j y σ Hi hy ⟨o13, rfl, ei, Tbi⟩
                    obtain ⟨f', rfl, ks, sp, HX, hsp⟩ := askE_at (askE_of H_plus) (askE_of H_less) (askE_of H_times) (askE_of H_compared) (askE_of H_over) hy
                    refine ⟨Tbi, fun Hj ej Tbj Q2 hQ2 => ⟨f', ks, sp, rfl, HX, _, rfl, ?_⟩⟩
                    have eij := ei.trans ej
                    have hdj := dtN eij hd13
                    refine hsp _ _ d .none _ _ _ hdj .non (fun _ => told_bad (.inl ⟨rfl, rfl, rfl⟩) fun t Hk sk hk => ?_) (fun z => by rw [nq] at z; (cases z)) (.inl nq)
                    refine ⟨_, rfl, by show 3 ≤ sizeLine; decide, fun y1 hy1 => ?_⟩
                    have c1 := same_upd (o := .tup [.str "bad", .str "quotient", x]) hy1
                    have hdk := (hdj.keep sk).keep c1
                    refine ⟨_, _, badD "quotient" d, rfl, dt_bad (c1 _ _ hk) hdk, dt_bad upd_same hdk, Nat.lt_of_lt_of_le (dep_bad dd) (by decide), fun Hl sl => ⟨_, rfl, iteF ?_⟩⟩
                    have sjl := (sk.trans c1).trans sl
                    have el := eij.trans (extN_of sjl)
                    have hdl := hdj.keep sjl
                    refine ⟨tabsS sjl Tbj, fun Hm em Tbm Q3 hQ3 => ⟨f', ks, sp, rfl, HX, _, rfl, _, rfl, ?_⟩⟩
                    have elm := el.trans em
                    have hdm := dtN em hdl
                    refine hsp _ _ (tupD q) d _ _ _ (dt_tup (elm _ _ hq13 (fun ps z => by cases z))) hdm (fun z => by rw [tq_ok] at z; (cases z)) (fun _ _ => told_bad (.inr (.inl ⟨rfl, rfl, rfl⟩)) fun t2 Hn sn hn => ?_) (.inr nq)
                    refine ⟨_, rfl, by show 3 ≤ sizeLine; decide, fun y2 hy2 => ?_⟩
                    have c2 := same_upd (o := .tup [.str "bad", .str "other", x]) hy2
                    have hdn := (hdm.keep sn).keep c2
                    refine ⟨_, _, badD "other" d, rfl, dt_bad (c2 _ _ hn) hdn, dt_bad upd_same hdn, Nat.lt_of_lt_of_le (dep_bad dd) (by decide), fun Ho so => ⟨_, rfl, iteF ?_⟩⟩
                    have smo := (sn.trans c2).trans so
                    exact ⟨_, rfl, elm.trans (extN_of smo), tabsS smo Tbm⟩
                  · rintro σ Hi ⟨o13, rfl, ei, Tbi⟩
                    have e14 := e13.trans ei
                    have hd14 := dtN ei hd13
                    refine ⟨by show 2 ≤ sizeLine; decide, fun p6 hp6 => ?_⟩
                    have c1 := same_upd (o := .tup [.ref f_opposite, .ref f_quotient_text]) hp6
                    have ht6 : upd Hi p6 (.tup [.ref f_opposite, .ref f_quotient_text]) p6 = some (.tup [.ref f_opposite, .ref f_quotient_text]) := upd_same
                    generalize upd Hi p6 (.tup [.ref f_opposite, .ref f_quotient_text]) = H15 at c1 ht6 ⊢
                    have e15 := e14.trans (extN_of c1)
                    have hd15 := hd14.keep c1
                    have Tb15 := tabsS c1 Tbi
                    clear c1 hp6 hd14 e14 ei Tbi hd13 e13 Tb13 hq13 ht5
                    refine ⟨p6, rfl, ⟨_, SqT.of ht6⟩, for_tup (xs := [.ref f_opposite, .ref f_quotient_text]) (fun i σ H => ∃ o13, σ = [some (V.ref l), some (V.ref a), some (V.int (0 + (turn : Int))), some (V.ref tq), some (V.ref tr), some (V.int (q.1 * r.2 - r.1 * q.2)), some (V.ref tdue), some (V.ref ta), some (V.str (textq q)), some (V.ref tl), some (V.int (rp - 20)), some (V.int (rn - 20)), some x, o13, v14, v15, v16, v17, v18, v19] ∧ LamX.ExtN H15 H ∧ LamX.Tabs [(Pt, lamQ)] H) ⟨_, rfl, LamX.ExtN.refl _, Tb15⟩ (fun i σ H _ h => ?_) ?_ ?_⟩
                    · obtain ⟨_, _, e, _⟩ := h
                      exact SqT.of (e _ _ ht6 (fun ps z => by cases z))
                    · rintro j y σ Hi hy ⟨o13, rfl, ei, Tbi⟩
                      obtain ⟨f', rfl, ks, sp, HX, hsp⟩ := askO_at (askO_of H_opposite) (askO_of H_quotient_text) hy
                      refine ⟨Tbi, fun Hj ej Tbj Q2 hQ2 => ⟨f', ks, sp, rfl, HX, _, rfl, ?_⟩⟩
                      have eij := ei.trans ej
                      have hdj := dtN eij hd15
                      refine hsp _ d _ _ _ hdj nq (told_bad (.inl ⟨rfl, rfl, rfl⟩) fun t Hk sk hk => ?_)
                      refine ⟨_, rfl, by show 3 ≤ sizeLine; decide, fun y1 hy1 => ?_⟩
                      have c1 := same_upd (o := .tup [.str "bad", .str "quotient", x]) hy1
                      have hdk := (hdj.keep sk).keep c1
                      refine ⟨_, _, badD "quotient" d, rfl, dt_bad (c1 _ _ hk) hdk, dt_bad upd_same hdk, Nat.lt_of_lt_of_le (dep_bad dd) (by decide), fun Hl sl => ⟨_, rfl, iteF ?_⟩⟩
                      have sjl := (sk.trans c1).trans sl
                      exact ⟨_, rfl, eij.trans (extN_of sjl), tabsS sjl Tbj⟩
                    · rintro σ Hi ⟨o13, rfl, ei, Tbi⟩
                      exact ⟨_, _, rfl, e15.trans ei, Tbi⟩
                · rintro σ H9 ⟨o12, o13, rfl, e9, Tb9⟩
                  have hq9 := e9 _ _ hqB (fun ps z => by cases z)
                  have S9 := stN e9 SB
                  clear e9 SB TbB hqB haB htb hxb kb HB
                  obtain ⟨z1, z2⟩ := st_ne S9 hq9 (fun xs z => by cases z)
                  refine ⟨_, rfl, _, rfl, a, b, _, _, rfl, S9, by omega, .inr ⟨by decide, tq, q, rfl, hq9, fun w1 H10 k10 hk10 S10 B10 hw1 x1 x2 => ?_⟩⟩
                  have hq10 := B10 _ _ z1 z2 hq9
                  obtain ⟨d1, hd1, ed1⟩ := qat_dt hw1 oq
                  refine ⟨w1, d1, rfl, hd1, fun H11 s11 => ⟨_, rfl, ?_⟩⟩
                  obtain ⟨d2, hd2, ed2⟩ := qat_dt (qat_tup (K := K) (s11 _ _ hq10)) oq
                  refine ⟨_, d2, rfl, hd2, fun H12 s12 => ⟨by show 2 ≤ sizeLine; decide, fun y1 hy1 => ⟨by show 2 ≤ sizeLine; decide, fun y2 hy2 => ?_⟩⟩⟩
                  rw [ed1, ed2] at hy2 ⊢
                  clear ed1 ed2 hd1 hd2
                  have c1 := same_upd (o := .lst [.bl true, .bl true]) hy1
                  have c2 := same_upd (o := .lst [.bl true, .bl true]) hy2
                  refine ⟨_, _, .list [.bool true, .bool true], rfl, .lst (SqL.of (c2 _ _ upd_same)) (by show 2 ≤ sizeLine; decide) (.cons (.bl _) (.cons (.bl _) .nil)), .lst (SqL.of upd_same) (by show 2 ≤ sizeLine; decide) (.cons (.bl _) (.cons (.bl _) .nil)), by decide +kernel, fun H13 s13 => ⟨_, rfl, iteF ?_⟩⟩
                  have s1013 := (((s11.trans s12).trans c1).trans c2).trans s13
                  have Tb13 := tabsS s1013 (tabsB S9 B10 Tb9)
                  have S13 : StA H13 a b (100 * turn + 30) := (S10.keep s1013).mono (by omega)
                  clear s1013 s13 c1 c2 hy1 hy2 s12 s11 hq10 hw1 B10 S10 S9 Tb9 hq9
                  -- words
                  refine ⟨by show 10 ≤ sizeLine; decide, fun tw htw => ?_⟩
                  have c3 := same_upd (o := .lst (wordsL.map V.str)) htw
                  have nw1 := S13.neA htw
                  have nw2 := S13.neB htw
                  have hw14 : upd H13 tw (.lst (wordsL.map V.str)) tw = some (.lst (wordsL.map V.str)) := upd_same
                  have S14 := S13.keep c3
                  have Tb14 := tabsS c3 Tb13
                  rw [show ([V.str "0", V.str "1", V.str "-", V.str "/", V.str "2", V.str "12", V.str "00", V.str " ", V.str "", V.str "x"] : List V) = wordsL.map V.str from rfl]
                  generalize upd H13 tw (.lst (wordsL.map V.str)) = H14 at c3 hw14 S14 Tb14 ⊢
                  clear c3 htw S13 Tb13
                  refine ⟨12, rfl, by decide, by decide, for_range (lo := 0) (n := 12) (fun i σ H => ∃ o15 o16 o17 o18 o19, σ = [some (V.ref l), some (V.ref a), some (V.int (0 + (turn : Int))), some (V.ref tq), some (V.ref tr), some (V.int (q.1 * r.2 - r.1 * q.2)), some (V.ref tdue), some (V.ref ta), some (V.str (textq q)), some (V.ref tl), some (V.int (rp - 20)), some (V.int (rn - 20)), o12, o13, some (V.ref tw), o15, o16, o17, o18, o19] ∧ StA H a b (100 * turn + 30 + 3 * i) ∧ H tw = some (.lst (wordsL.map V.str)) ∧ LamX.Tabs [(Pt, lamQ)] H) ⟨_, _, _, _, _, rfl, S14, hw14, Tb14⟩ ?_ ?_⟩
                  · clear S14 hw14 Tb14
                    rintro k σ H15 hk12 ⟨o15, o16, o17, o18, o19, rfl, S15, hw15, Tb15⟩
                    have lt := textq_short mq
                    have le : (textq q).length ≤ sizeLine := by rw [sizeLine_eq]; omega
                    -- at
                    refine ⟨_, rfl, _, rfl, textq q, rfl, le, _, _, rfl, rfl, a, b, _, _, rfl, S15, by omega, by omega, by omega, fun ra H16 ra0 ra1 S16 B16 => ?_⟩
                    have hw16 := B16 _ _ nw1 nw2 hw15
                    have Tb16 := tabsB S15 B16 Tb15
                    have l1 := cutS_length (textq q) none (some ra)
                    refine ⟨_, rfl, _, rfl, ra, rfl, textq q, rfl, le, ?_⟩
                    refine ⟨_, rfl, _, rfl, a, b, tw, _, _, rfl, S16, by omega, nw1, nw2, hw16, by decide, by decide, fun wv H17 hwv S17 B17 => ?_⟩
                    obtain ⟨wd, rfl, wl⟩ := words_at hwv
                    refine ⟨_, _, rfl, rfl, by rw [sizeLine_eq]; omega, ?_⟩
                    refine ⟨_, rfl, _, rfl, _, rfl, a, b, _, _, rfl, S17, by omega, by decide, by decide, fun rb H18 _ _ S18 B18 => ⟨_, _, rfl, rfl, _, rfl, textq q, rfl, le, ?_⟩⟩
                    dsimp only
                    have l2 := cutS_length (textq q) (some (ra + rb)) none
                    have l3 : (cutS (textq q) none (some ra) ++ wd).length = (cutS (textq q) none (some ra)).length + wd.length := app_len _ _
                    refine ⟨_, _, rfl, rfl, by rw [l3, sizeLine_eq]; omega, ?_⟩
                    have lb : (cutS (textq q) none (some ra) ++ wd ++ cutS (textq q) (some (ra + rb)) none).length ≤ 640 := by
                      rw [app_len, l3]
                      omega
                    generalize cutS (textq q) none (some ra) ++ wd ++ cutS (textq q) (some (ra + rb)) none = bent at lb ⊢
                    have B := B17.trans B18
                    have hw18 := B _ _ nw1 nw2 hw16
                    have Tb18 := tabsB S16 B Tb16
                    have S18 : StA H18 a b (100 * turn + 30 + 3 * (k + 1)) := S18.mono (by omega)
                    clear l1 l2 l3 B B17 B18 S17 hwv wl Tb16 hw16 S16 S15 hw15 Tb15 B16
                    refine ⟨fun σ H => ∃ v d, σ = [some (V.ref l), some (V.ref a), some (V.int (0 + (turn : Int))), some (V.ref tq), some (V.ref tr), some (V.int (q.1 * r.2 - r.1 * q.2)), some (V.ref tdue), some (V.ref ta), some (V.str (textq q)), some (V.ref tl), some (V.int (rp - 20)), some (V.int (rn - 20)), o12, o13, some (V.ref tw), some (V.int (0 + (k : Int))), some (V.int ra), some (V.str bent), some v, o19] ∧ Dt K H v d ∧ thingD d ∧ StA H a b (100 * turn + 30 + 3 * (k + 1)) ∧ H tw = some (.lst (wordsL.map V.str)) ∧ LamX.Tabs [(Pt, lamQ)] H, ?_, ?_⟩
                    · refine ⟨_, rfl, _, _, rfl, rfl, _, rfl, ?_⟩
                      by_cases c9 : (0 + (k : Int)) < 9
                      · refine ite2 (fun _ => ?_) fun z => absurd (decide_eq_true c9) z
                        exact ⟨_, rfl, _, .str bent, rfl, .str _, ⟨rfl, fun x e => by cases e; exact lb⟩, S18, hw18, Tb18⟩
                      · refine ite2 (fun z => absurd (of_decide_eq_true z) c9) fun _ => ?_
                        refine ⟨by show 3 ≤ sizeLine; decide, fun y1 hy1 => ?_⟩
                        have c1 := same_upd (o := .lst [.non, .int 5, .str "-0"]) hy1
                        have cases3 : ∃ v d, ([.non, .int 5, .str "-0"] : List V)[k - 9]? = some v ∧ (∀ H, Dt K H v d) ∧ thingD d := by
                          have h3 : k - 9 = 0 ∨ k - 9 = 1 ∨ k - 9 = 2 := by omega
                          rcases h3 with h3 | h3 | h3
                          · rw [h3]
                            exact ⟨_, _, rfl, fun _ => .non, ⟨rfl, fun x e => by cases e⟩⟩
                          · rw [h3]
                            exact ⟨_, _, rfl, fun _ => .int _, ⟨rfl, fun x e => by cases e⟩⟩
                          · rw [h3]
                            exact ⟨_, _, rfl, fun _ => .str _, ⟨rfl, fun x e => by cases e; decide +kernel⟩⟩
                        obtain ⟨v, d, ev, hd, th⟩ := cases3
                        have ei : atI [.non, .int 5, .str "-0"] (0 + (k : Int) - 9) = some v := by
                          have e : (0 + (k : Int) - 9) = ((k - 9 : Nat) : Int) := by omega
                          rw [e]
                          exact atI_nat ev
                        exact ⟨_, rfl, _, _, rfl, rfl, y1, _, _, v, rfl, rfl, SqL.of upd_same, ei, v, d, rfl, hd _, th, S18.keep c1, c1 _ _ hw18, tabsS c1 Tb18⟩
                    · clear S18 hw18 Tb18
                      rintro σ H19 ⟨v, d, rfl, hd, th, S19, hw19, Tb19⟩
                      have td := thing_dep th
                      refine ⟨_, rfl, v, d, rfl, hd, th.2, fun no H20 s20 => ?_, fun q5 e5 t5 H20 s20 h5 => ?_⟩
                      · refine ⟨tabsS s20 Tb19, fun H21 e21 Tb21 Q2 hQ2 => ⟨_, rfl, v, d, rfl, dtN e21 (hd.keep s20), th.2, fun _ => told_bad (.inr (.inr ⟨rfl, rfl, rfl⟩)) fun t H22 s22 h22 => ?_, fun q6 e6 => by rw [no] at e6; (cases e6)⟩⟩
                        refine ⟨_, rfl, rfl, _, rfl, iteT ⟨_, rfl, by show 3 ≤ sizeLine; decide, fun y1 hy1 => ?_⟩⟩
                        have c1 := same_upd (o := .tup [.str "bad", .str "text", v]) hy1
                        have hd22 := ((dtN e21 (hd.keep s20)).keep s22).keep c1
                        refine ⟨_, _, badD "text" d, rfl, dt_bad (c1 _ _ h22) hd22, dt_bad upd_same hd22, Nat.lt_of_lt_of_le (dep_bad td) (by decide), fun H23 s23 => ⟨_, rfl, iteF ?_⟩⟩
                        have ss := (s22.trans c1).trans s23
                        have ee := ((extN_of s20).trans e21).trans (extN_of ss)
                        exact ⟨_, _, _, _, _, rfl, stN ee S19, ee _ _ hw19 (fun ps z => by cases z), tabsS ss Tb21⟩
                      · refine ⟨tabsS s20 Tb19, fun H21 e21 Tb21 Q2 hQ2 => ⟨_, rfl, v, d, rfl, dtN e21 (hd.keep s20), th.2, fun z => by rw [e5] at z; (cases z), fun q6 e6 t6 H22 s22 h6 => hQ2 _ _ fun t H23 s23 h23 => ?_⟩⟩
                        rw [e5] at e6
                        cases e6
                        refine ⟨_, rfl, rfl, _, rfl, ite2 (fun z => absurd (of_decide_eq_true z) (fun y => by cases y)) fun _ => ⟨_, rfl, by show 2 ≤ sizeLine; decide, fun y1 hy1 => ?_⟩⟩
                        have c1 := same_upd (o := .tup [.str "told", .ref t5]) hy1
                        have h5' := (s22.trans (s23.trans c1)) _ _ (e21 _ _ h5 (fun ps z => by cases z))
                        refine ⟨_, _, .tuple [.str "told", tupD q5], rfl, (dt_told h23 (dt_tup (s23 _ _ h6))).keep c1, dt_told upd_same (dt_tup h5'), by simp [dep, depAll, tupD], fun H24 s24 => ⟨_, rfl, iteF ?_⟩⟩
                        have ss := ((s22.trans s23).trans c1).trans s24
                        have ee := ((extN_of s20).trans e21).trans (extN_of ss)
                        exact ⟨_, _, _, _, _, rfl, stN ee S19, ee _ _ hw19 (fun ps z => by cases z), tabsS ss Tb21⟩
                  · rintro σ H15 ⟨o15, o16, o17, o18, o19, rfl, S15, hw15, Tb15⟩
                    exact ⟨_, rfl, rfl, S15.mono (by omega), Tb15⟩
    · rintro σ H1 _
      exact kk H1
end
end K01

set_option maxHeartbeats 0
namespace K01
open PySem PySem.Spec PyProof.Rows L2 SpE
def d_is_integer : He.DefD := ⟨("is_integer", none), "is_integer", "is_integer", defArgs s_is_integer, defBody s_is_integer, defScope s_is_integer, [], []⟩
def d_is_list : He.DefD := ⟨("is_list", none), "is_list", "is_list", defArgs s_is_list, defBody s_is_list, defScope s_is_list, [], []⟩
def d_is_row : He.DefD := ⟨("is_row", none), "is_row", "is_row", defArgs s_is_row, defBody s_is_row, defScope s_is_row, [], []⟩
def d_is_text : He.DefD := ⟨("is_text", none), "is_text", "is_text", defArgs s_is_text, defBody s_is_text, defScope s_is_text, [], []⟩
def d_common_divisor : He.DefD := ⟨("common_divisor", none), "common_divisor", "common_divisor", defArgs s_common_divisor, defBody s_common_divisor, defScope s_common_divisor, [], []⟩
def d_made : He.DefD := ⟨("made", none), "made", "made", defArgs s_made, defBody s_made, defScope s_made, [], []⟩
def d_is_quotient : He.DefD := ⟨("is_quotient", none), "is_quotient", "is_quotient", defArgs s_is_quotient, defBody s_is_quotient, defScope s_is_quotient, [], []⟩
def d_quotient_of : He.DefD := ⟨("quotient_of", none), "quotient_of", "quotient_of", defArgs s_quotient_of, defBody s_quotient_of, defScope s_quotient_of, [], []⟩
def d_need_quotient : He.DefD := ⟨("need_quotient", none), "need_quotient", "need_quotient", defArgs s_need_quotient, defBody s_need_quotient, defScope s_need_quotient, [], []⟩
def d_need_two : He.DefD := ⟨("need_two", none), "need_two", "need_two", defArgs s_need_two, defBody s_need_two, defScope s_need_two, [], []⟩
def d_added : He.DefD := ⟨("added", none), "added", "added", defArgs s_added, defBody s_added, defScope s_added, [], []⟩
def d_multiplied : He.DefD := ⟨("multiplied", none), "multiplied", "multiplied", defArgs s_multiplied, defBody s_multiplied, defScope s_multiplied, [], []⟩
def d_negated : He.DefD := ⟨("negated", none), "negated", "negated", defArgs s_negated, defBody s_negated, defScope s_negated, [], []⟩
def d_sign_of : He.DefD := ⟨("sign_of", none), "sign_of", "sign_of", defArgs s_sign_of, defBody s_sign_of, defScope s_sign_of, [], []⟩
def d_plus : He.DefD := ⟨("plus", none), "plus", "plus", defArgs s_plus, defBody s_plus, defScope s_plus, [], []⟩
def d_less : He.DefD := ⟨("less", none), "less", "less", defArgs s_less, defBody s_less, defScope s_less, [], []⟩
def d_times : He.DefD := ⟨("times", none), "times", "times", defArgs s_times, defBody s_times, defScope s_times, [], []⟩
def d_over : He.DefD := ⟨("over", none), "over", "over", defArgs s_over, defBody s_over, defScope s_over, [], []⟩
def d_compared : He.DefD := ⟨("compared", none), "compared", "compared", defArgs s_compared, defBody s_compared, defScope s_compared, [], []⟩
def d_opposite : He.DefD := ⟨("opposite", none), "opposite", "opposite", defArgs s_opposite, defBody s_opposite, defScope s_opposite, [], []⟩
def d_text_of_quotient : He.DefD := ⟨("text_of_quotient", none), "text_of_quotient", "text_of_quotient", defArgs s_text_of_quotient, defBody s_text_of_quotient, defScope s_text_of_quotient, [], []⟩
def d_quotient_text : He.DefD := ⟨("quotient_text", none), "quotient_text", "quotient_text", defArgs s_quotient_text, defBody s_quotient_text, defScope s_quotient_text, [], []⟩
def d_numeral_in : He.DefD := ⟨("numeral_in", none), "numeral_in", "numeral_in", defArgs s_numeral_in, defBody s_numeral_in, defScope s_numeral_in, [], []⟩
def d_quotient_in : He.DefD := ⟨("quotient_in", none), "quotient_in", "quotient_in", defArgs s_quotient_in, defBody s_quotient_in, defScope s_quotient_in, [], []⟩
def d_read_quotient : He.DefD := ⟨("read_quotient", none), "read_quotient", "read_quotient", defArgs s_read_quotient, defBody s_read_quotient, defScope s_read_quotient, [], []⟩
def d_law_divisor : He.DefD := ⟨("_law_divisor", none), "_law_divisor", "_law_divisor", defArgs s_law_divisor, defBody s_law_divisor, defScope s_law_divisor, [], []⟩
def d_law_q : He.DefD := ⟨("_law_q", none), "_law_q", "_law_q", defArgs s_law_q, defBody s_law_q, defScope s_law_q, [], []⟩
def d_law_q_add : He.DefD := ⟨("_law_q_add", none), "_law_q_add", "_law_q_add", defArgs s_law_q_add, defBody s_law_q_add, defScope s_law_q_add, [], []⟩
def d_law_q_mul : He.DefD := ⟨("_law_q_mul", none), "_law_q_mul", "_law_q_mul", defArgs s_law_q_mul, defBody s_law_q_mul, defScope s_law_q_mul, [], []⟩
def d_law_q_text : He.DefD := ⟨("_law_q_text", none), "_law_q_text", "_law_q_text", defArgs s_law_q_text, defBody s_law_q_text, defScope s_law_q_text, [], []⟩
def d_law_start : He.DefD := ⟨("_law_start", none), "_law_start", "_law_start", defArgs s_law_start, defBody s_law_start, defScope s_law_start, [], []⟩
def d_law_pick : He.DefD := ⟨("_law_pick", none), "_law_pick", "_law_pick", defArgs s_law_pick, defBody s_law_pick, defScope s_law_pick, [], []⟩
def d_law_one : He.DefD := ⟨("_law_one", none), "_law_one", "_law_one", defArgs s_law_one, defBody s_law_one, defScope s_law_one, [], []⟩
def d_law_mixed : He.DefD := ⟨("_law_mixed", none), "_law_mixed", "_law_mixed", defArgs s_law_mixed, defBody s_law_mixed, defScope s_law_mixed, [], []⟩
def d_law_same : He.DefD := ⟨("_law_same", none), "_law_same", "_law_same", defArgs s_law_same, defBody s_law_same, defScope s_law_same, [], []⟩
def d_law_copy : He.DefD := ⟨("_law_copy", none), "_law_copy", "_law_copy", defArgs s_law_copy, defBody s_law_copy, defScope s_law_copy, [], []⟩
def d_law_loose : He.DefD := ⟨("_law_loose", none), "_law_loose", "_law_loose", defArgs s_law_loose, defBody s_law_loose, defScope s_law_loose, [], []⟩
def d_law_told : He.DefD := ⟨("_law_told", none), "_law_told", "_law_told", defArgs s_law_told, defBody s_law_told, defScope s_law_told, [], []⟩
def d_law_some_q : He.DefD := ⟨("_law_some_q", none), "_law_some_q", "_law_some_q", defArgs s_law_some_q, defBody s_law_some_q, defScope s_law_some_q, [], []⟩
def d_law_q_read : He.DefD := ⟨("_law_q_read", none), "_law_q_read", "_law_q_read", defArgs s_law_q_read, defBody s_law_q_read, defScope s_law_q_read, [], []⟩
def d_law : He.DefD := ⟨("law", none), "law", "law", defArgs s_law, defBody s_law, defScope s_law, [], []⟩
abbrev i_BadOther : Stmt := inClass (top 7) 0
def d_BadOther : He.DefD := ⟨("BadOther", some "__init__"), "__init__", "BadOther.__init__", defArgs i_BadOther, defBody i_BadOther, defScope i_BadOther, [], []⟩
abbrev i_BadParts : Stmt := inClass (top 9) 0
def d_BadParts : He.DefD := ⟨("BadParts", some "__init__"), "__init__", "BadParts.__init__", defArgs i_BadParts, defBody i_BadParts, defScope i_BadParts, [], []⟩
abbrev i_BadQuotient : Stmt := inClass (top 10) 0
def d_BadQuotient : He.DefD := ⟨("BadQuotient", some "__init__"), "__init__", "BadQuotient.__init__", defArgs i_BadQuotient, defBody i_BadQuotient, defScope i_BadQuotient, [], []⟩
abbrev i_BadQuotientText : Stmt := inClass (top 11) 0
def d_BadQuotientText : He.DefD := ⟨("BadQuotientText", some "__init__"), "__init__", "BadQuotientText.__init__", defArgs i_BadQuotientText, defBody i_BadQuotientText, defScope i_BadQuotientText, [], []⟩
def fn : List He.DefD := ([d_is_integer, d_is_list, d_is_row, d_is_text, d_common_divisor, d_made, d_is_quotient, d_quotient_of, d_need_quotient, d_need_two, d_added, d_multiplied, d_negated, d_sign_of, d_plus, d_less, d_times, d_over, d_compared, d_opposite, d_text_of_quotient, d_quotient_text, d_numeral_in, d_quotient_in, d_read_quotient, d_law_divisor, d_law_q, d_law_q_add, d_law_q_mul, d_law_q_text] : List He.DefD) ++
  ([d_law_start, d_law_pick, d_law_one, d_law_mixed, d_law_same, d_law_copy, d_law_loose, d_law_told, d_law_some_q, d_law_q_read, d_law, d_BadOther, d_BadParts, d_BadQuotient, d_BadQuotientText] : List He.DefD)
def fa : List He.Fa := ([.glo "is_integer", .glo "is_list", .glo "is_row", .glo "is_text", .glo "common_divisor", .glo "made", .glo "is_quotient", .glo "quotient_of", .glo "need_quotient", .glo "need_two", .glo "added", .glo "multiplied", .glo "negated", .glo "sign_of", .glo "plus", .glo "less", .glo "times", .glo "over", .glo "compared", .glo "opposite", .glo "text_of_quotient", .glo "quotient_text", .glo "numeral_in", .glo "quotient_in", .glo "read_quotient", .glo "_law_divisor", .glo "_law_q", .glo "_law_q_add", .glo "_law_q_mul", .glo "_law_q_text"] : List He.Fa) ++
  ([.glo "_law_start", .glo "_law_pick", .glo "_law_one", .glo "_law_mixed", .glo "_law_same", .glo "_law_copy", .glo "_law_loose", .glo "_law_told", .glo "_law_some_q", .glo "_law_q_read", .glo "law", .glo "SameError", .glo "BadOther", .glo "BadParts", .glo "BadQuotient", .glo "BadQuotientText", .free "isinstance", .free "len", .free "abs", .free "all", .free "any", .free "max", .free "min", .free "int", .free "str", .free "bool", .free "list", .free "tuple", .free "dict", .free "range"] : List He.Fa) ++
  ([.free "zip", .free "ValueError", .free "KeyError", .free "IndexError", .free "TypeError", .str "DIGITS" "0123456789"] : List He.Fa)
abbrev R : PySem.W.OpenRow := PySem.W.OpenLaw.row PySem.Challenge.rw_sameproof_k01_whole_quotients
def ex : PySem.W.Frag → Bool := exTab "SameError" none0 tab
def tf : List He.Defn := [("law", none)]
abbrev hk : PySem.W.Hook := hookZ 4 fa fn tf ex
def ob (s : PySem.W.SharedT) : He.AlD × Bool := obsZG 4 fa fn tf ex (HandSHeadRun.getT s)
theorem ob_eq (s : PySem.W.SharedT) : ob s = hk.obs s.abs := obsZ_eq (HandSHeadRun.getT_eq s)
def loose : List Str := (["is_integer", "is_list", "is_row", "is_text", "common_divisor", "made", "is_quotient", "quotient_of", "need_quotient", "need_two", "added", "multiplied", "negated", "sign_of", "plus", "less", "times", "over", "compared", "opposite", "text_of_quotient", "quotient_text", "numeral_in", "quotient_in", "read_quotient", "_law_divisor", "_law_q", "_law_q_add", "_law_q_mul", "_law_q_text"] : List Str) ++
  (["_law_start", "_law_pick", "_law_one", "_law_mixed", "_law_same", "_law_copy", "_law_loose", "_law_told", "_law_some_q", "_law_q_read", "SameError", "BadOther", "BadParts", "BadQuotient", "BadQuotientText", "DIGITS"] : List Str)
abbrev qv : Program := PySem.W.view R.prog [51]
theorem run (w : World) : HandSHeadRun.RunEq R qv hk ob 14000 loose w := by
  intro os
  kernel_rfl
end K01

set_option maxHeartbeats 0
namespace K01
open PySem PySem.Spec PyProof.Rows L2 SpE He
section
variable {P : Program} {w : World} {K : PySem.W.Frag} {mg : Str → Option Value} {base : Heap} {h : Heap}
theorem tb_BadOther : (("BadOther", ["other"]) : Str × List Str) ∈ tab := List.mem_of_getElem? (i := 0) rfl
theorem mk_BadOther (er : ErFacts "SameError" none0 tab K) (X : K.In h) (G : h.Ns mainGlobals mg) (c : He.SaysD fa fn K) : ErMk P w K mg base "BadOther" (ga K "BadOther") ["other"] := by
  obtain ⟨fd, F⟩ := c.def_ 41 (d := d_BadOther) rfl
  exact ermk1 F (⟨rfl, rfl, rfl, by decide +kernel, rfl, by decide +kernel, by decide +kernel⟩ : FnScope ["self", "other"] ["self", "other"] (defScope i_BadOther)) (He.glo_ok X G (c.fact 42 (f := .glo "BadOther") rfl)) (er.c ("BadOther", ["other"]) tb_BadOther).1 (er.f ("BadOther", ["other"]) tb_BadOther "other" (by decide)) (er.i ("BadOther", ["other"]) tb_BadOther).1 (er.i ("BadOther", ["other"]) tb_BadOther).2 (by decide) (by decide)
    (fun _ _ _ _ _ _ us hl => match us, hl with | [_, _], _ => rfl) (fun _ _ _ _ _ _ _ _ => rfl)
theorem tb_BadParts : (("BadParts", ["p", "n"]) : Str × List Str) ∈ tab := List.mem_of_getElem? (i := 1) rfl
theorem mk_BadParts (er : ErFacts "SameError" none0 tab K) (X : K.In h) (G : h.Ns mainGlobals mg) (c : He.SaysD fa fn K) : ErMk P w K mg base "BadParts" (ga K "BadParts") ["p", "n"] := by
  obtain ⟨fd, F⟩ := c.def_ 42 (d := d_BadParts) rfl
  exact ermk2 F (⟨rfl, rfl, rfl, by decide +kernel, rfl, by decide +kernel, by decide +kernel⟩ : FnScope ["self", "p", "n"] ["self", "p", "n"] (defScope i_BadParts)) (He.glo_ok X G (c.fact 43 (f := .glo "BadParts") rfl)) (er.c ("BadParts", ["p", "n"]) tb_BadParts).1 (er.f ("BadParts", ["p", "n"]) tb_BadParts "p" (by decide)) (er.f ("BadParts", ["p", "n"]) tb_BadParts "n" (by decide)) (er.i ("BadParts", ["p", "n"]) tb_BadParts).1 (er.i ("BadParts", ["p", "n"]) tb_BadParts).2 (by decide) (by decide) (by decide) (by decide)
    (fun _ _ _ _ _ _ us hl => match us, hl with | [_, _, _], _ => rfl) (fun _ _ _ _ _ _ _ _ _ => rfl)
theorem tb_BadQuotient : (("BadQuotient", ["q"]) : Str × List Str) ∈ tab := List.mem_of_getElem? (i := 2) rfl
theorem mk_BadQuotient (er : ErFacts "SameError" none0 tab K) (X : K.In h) (G : h.Ns mainGlobals mg) (c : He.SaysD fa fn K) : ErMk P w K mg base "BadQuotient" (ga K "BadQuotient") ["q"] := by
  obtain ⟨fd, F⟩ := c.def_ 43 (d := d_BadQuotient) rfl
  exact ermk1 F (⟨rfl, rfl, rfl, by decide +kernel, rfl, by decide +kernel, by decide +kernel⟩ : FnScope ["self", "q"] ["self", "q"] (defScope i_BadQuotient)) (He.glo_ok X G (c.fact 44 (f := .glo "BadQuotient") rfl)) (er.c ("BadQuotient", ["q"]) tb_BadQuotient).1 (er.f ("BadQuotient", ["q"]) tb_BadQuotient "q" (by decide)) (er.i ("BadQuotient", ["q"]) tb_BadQuotient).1 (er.i ("BadQuotient", ["q"]) tb_BadQuotient).2 (by decide) (by decide)
    (fun _ _ _ _ _ _ us hl => match us, hl with | [_, _], _ => rfl) (fun _ _ _ _ _ _ _ _ => rfl)
theorem tb_BadQuotientText : (("BadQuotientText", ["text"]) : Str × List Str) ∈ tab := List.mem_of_getElem? (i := 3) rfl
theorem mk_BadQuotientText (er : ErFacts "SameError" none0 tab K) (X : K.In h) (G : h.Ns mainGlobals mg) (c : He.SaysD fa fn K) : ErMk P w K mg base "BadQuotientText" (ga K "BadQuotientText") ["text"] := by
  obtain ⟨fd, F⟩ := c.def_ 44 (d := d_BadQuotientText) rfl
  exact ermk1 F (⟨rfl, rfl, rfl, by decide +kernel, rfl, by decide +kernel, by decide +kernel⟩ : FnScope ["self", "text"] ["self", "text"] (defScope i_BadQuotientText)) (He.glo_ok X G (c.fact 45 (f := .glo "BadQuotientText") rfl)) (er.c ("BadQuotientText", ["text"]) tb_BadQuotientText).1 (er.f ("BadQuotientText", ["text"]) tb_BadQuotientText "text" (by decide)) (er.i ("BadQuotientText", ["text"]) tb_BadQuotientText).1 (er.i ("BadQuotientText", ["text"]) tb_BadQuotientText).2 (by decide) (by decide)
    (fun _ _ _ _ _ _ us hl => match us, hl with | [_, _], _ => rfl) (fun _ _ _ _ _ _ _ _ => rfl)
theorem blt_ok (X : K.In h) (G : h.Ns mainGlobals mg) (c : He.SaysD fa fn K) : Blt mg := ⟨He.free_ok X G (c.fact 46 (f := .free "isinstance") rfl), He.free_ok X G (c.fact 47 (f := .free "len") rfl), He.free_ok X G (c.fact 48 (f := .free "abs") rfl), He.free_ok X G (c.fact 49 (f := .free "all") rfl), He.free_ok X G (c.fact 50 (f := .free "any") rfl), He.free_ok X G (c.fact 51 (f := .free "max") rfl), He.free_ok X G (c.fact 52 (f := .free "min") rfl), He.free_ok X G (c.fact 53 (f := .free "int") rfl), He.free_ok X G (c.fact 54 (f := .free "str") rfl), He.free_ok X G (c.fact 55 (f := .free "bool") rfl), He.free_ok X G (c.fact 56 (f := .free "list") rfl), He.free_ok X G (c.fact 57 (f := .free "tuple") rfl), He.free_ok X G (c.fact 58 (f := .free "dict") rfl), He.free_ok X G (c.fact 59 (f := .free "range") rfl), He.free_ok X G (c.fact 60 (f := .free "zip") rfl), He.free_ok X G (c.fact 61 (f := .free "ValueError") rfl), He.free_ok X G (c.fact 62 (f := .free "KeyError") rfl), He.free_ok X G (c.fact 63 (f := .free "IndexError") rfl), He.free_ok X G (c.fact 64 (f := .free "TypeError") rfl)⟩
theorem txt_ok (X : K.In h) (G : h.Ns mainGlobals mg) (c : He.SaysD fa fn K) (x : ex K = true) : Txt P w K mg base :=
  have er := exTab_ok x
  { toBlt := blt_ok X G c, er := er, e_SameError := ⟨He.glo_ok X G (c.fact 41 (f := .glo "SameError") rfl), (er.s).1, er.n "SameError" (by decide)⟩,
    e_BadOther := mk_BadOther er X G c,
    e_BadParts := mk_BadParts er X G c,
    e_BadQuotient := mk_BadQuotient er X G c,
    e_BadQuotientText := mk_BadQuotientText er X G c }
theorem bd_is_integer {f : Addr} {fd : FuncData} (F : DefOf K "is_integer" s_is_integer f fd) : Binds K fd ["thing"] [] := F.bindsN fun _ _ _ _ _ _ us hl => match us, hl with | [_], _ => rfl
theorem bd_is_list {f : Addr} {fd : FuncData} (F : DefOf K "is_list" s_is_list f fd) : Binds K fd ["thing"] [] := F.bindsN fun _ _ _ _ _ _ us hl => match us, hl with | [_], _ => rfl
theorem bd_is_row {f : Addr} {fd : FuncData} (F : DefOf K "is_row" s_is_row f fd) : Binds K fd ["thing", "many"] [] := F.bindsN fun _ _ _ _ _ _ us hl => match us, hl with | [_, _], _ => rfl
theorem bd_is_text {f : Addr} {fd : FuncData} (F : DefOf K "is_text" s_is_text f fd) : Binds K fd ["thing"] [] := F.bindsN fun _ _ _ _ _ _ us hl => match us, hl with | [_], _ => rfl
theorem bd_common_divisor {f : Addr} {fd : FuncData} (F : DefOf K "common_divisor" s_common_divisor f fd) : Binds K fd ["one", "two"] [] := F.bindsN fun _ _ _ _ _ _ us hl => match us, hl with | [_, _], _ => rfl
theorem bd_made {f : Addr} {fd : FuncData} (F : DefOf K "made" s_made f fd) : Binds K fd ["p", "n"] [] := F.bindsN fun _ _ _ _ _ _ us hl => match us, hl with | [_, _], _ => rfl
theorem bd_is_quotient {f : Addr} {fd : FuncData} (F : DefOf K "is_quotient" s_is_quotient f fd) : Binds K fd ["thing"] [] := F.bindsN fun _ _ _ _ _ _ us hl => match us, hl with | [_], _ => rfl
theorem bd_quotient_of {f : Addr} {fd : FuncData} (F : DefOf K "quotient_of" s_quotient_of f fd) : Binds K fd ["p", "n"] [] := F.bindsN fun _ _ _ _ _ _ us hl => match us, hl with | [_, _], _ => rfl
theorem bd_need_quotient {f : Addr} {fd : FuncData} (F : DefOf K "need_quotient" s_need_quotient f fd) : Binds K fd ["q"] [] := F.bindsN fun _ _ _ _ _ _ us hl => match us, hl with | [_], _ => rfl
theorem bd_need_two {f : Addr} {fd : FuncData} (F : DefOf K "need_two" s_need_two f fd) : Binds K fd ["q", "other"] [] := F.bindsN fun _ _ _ _ _ _ us hl => match us, hl with | [_, _], _ => rfl
theorem bd_added {f : Addr} {fd : FuncData} (F : DefOf K "added" s_added f fd) : Binds K fd ["q", "other"] [] := F.bindsN fun _ _ _ _ _ _ us hl => match us, hl with | [_, _], _ => rfl
theorem bd_multiplied {f : Addr} {fd : FuncData} (F : DefOf K "multiplied" s_multiplied f fd) : Binds K fd ["q", "other"] [] := F.bindsN fun _ _ _ _ _ _ us hl => match us, hl with | [_, _], _ => rfl
theorem bd_negated {f : Addr} {fd : FuncData} (F : DefOf K "negated" s_negated f fd) : Binds K fd ["q"] [] := F.bindsN fun _ _ _ _ _ _ us hl => match us, hl with | [_], _ => rfl
theorem bd_sign_of {f : Addr} {fd : FuncData} (F : DefOf K "sign_of" s_sign_of f fd) : Binds K fd ["q"] [] := F.bindsN fun _ _ _ _ _ _ us hl => match us, hl with | [_], _ => rfl
theorem bd_plus {f : Addr} {fd : FuncData} (F : DefOf K "plus" s_plus f fd) : Binds K fd ["q", "other"] [] := F.bindsN fun _ _ _ _ _ _ us hl => match us, hl with | [_, _], _ => rfl
theorem bd_less {f : Addr} {fd : FuncData} (F : DefOf K "less" s_less f fd) : Binds K fd ["q", "other"] [] := F.bindsN fun _ _ _ _ _ _ us hl => match us, hl with | [_, _], _ => rfl
theorem bd_times {f : Addr} {fd : FuncData} (F : DefOf K "times" s_times f fd) : Binds K fd ["q", "other"] [] := F.bindsN fun _ _ _ _ _ _ us hl => match us, hl with | [_, _], _ => rfl
theorem bd_over {f : Addr} {fd : FuncData} (F : DefOf K "over" s_over f fd) : Binds K fd ["q", "other"] [] := F.bindsN fun _ _ _ _ _ _ us hl => match us, hl with | [_, _], _ => rfl
theorem bd_compared {f : Addr} {fd : FuncData} (F : DefOf K "compared" s_compared f fd) : Binds K fd ["q", "other"] [] := F.bindsN fun _ _ _ _ _ _ us hl => match us, hl with | [_, _], _ => rfl
theorem bd_opposite {f : Addr} {fd : FuncData} (F : DefOf K "opposite" s_opposite f fd) : Binds K fd ["q"] [] := F.bindsN fun _ _ _ _ _ _ us hl => match us, hl with | [_], _ => rfl
theorem bd_text_of_quotient {f : Addr} {fd : FuncData} (F : DefOf K "text_of_quotient" s_text_of_quotient f fd) : Binds K fd ["q"] [] := F.bindsN fun _ _ _ _ _ _ us hl => match us, hl with | [_], _ => rfl
theorem bd_quotient_text {f : Addr} {fd : FuncData} (F : DefOf K "quotient_text" s_quotient_text f fd) : Binds K fd ["q"] [] := F.bindsN fun _ _ _ _ _ _ us hl => match us, hl with | [_], _ => rfl
theorem bd_numeral_in {f : Addr} {fd : FuncData} (F : DefOf K "numeral_in" s_numeral_in f fd) : Binds K fd ["text"] [] := F.bindsN fun _ _ _ _ _ _ us hl => match us, hl with | [_], _ => rfl
theorem bd_quotient_in {f : Addr} {fd : FuncData} (F : DefOf K "quotient_in" s_quotient_in f fd) : Binds K fd ["text"] [] := F.bindsN fun _ _ _ _ _ _ us hl => match us, hl with | [_], _ => rfl
theorem bd_read_quotient {f : Addr} {fd : FuncData} (F : DefOf K "read_quotient" s_read_quotient f fd) : Binds K fd ["text"] [] := F.bindsN fun _ _ _ _ _ _ us hl => match us, hl with | [_], _ => rfl
theorem bd_law_divisor {f : Addr} {fd : FuncData} (F : DefOf K "_law_divisor" s_law_divisor f fd) : Binds K fd ["one", "two"] [] := F.bindsN fun _ _ _ _ _ _ us hl => match us, hl with | [_, _], _ => rfl
theorem bd_law_q {f : Addr} {fd : FuncData} (F : DefOf K "_law_q" s_law_q f fd) : Binds K fd ["p", "n"] [] := F.bindsN fun _ _ _ _ _ _ us hl => match us, hl with | [_, _], _ => rfl
theorem bd_law_q_add {f : Addr} {fd : FuncData} (F : DefOf K "_law_q_add" s_law_q_add f fd) : Binds K fd ["q", "r"] [] := F.bindsN fun _ _ _ _ _ _ us hl => match us, hl with | [_, _], _ => rfl
theorem bd_law_q_mul {f : Addr} {fd : FuncData} (F : DefOf K "_law_q_mul" s_law_q_mul f fd) : Binds K fd ["q", "r"] [] := F.bindsN fun _ _ _ _ _ _ us hl => match us, hl with | [_, _], _ => rfl
theorem bd_law_q_text {f : Addr} {fd : FuncData} (F : DefOf K "_law_q_text" s_law_q_text f fd) : Binds K fd ["q"] [] := F.bindsN fun _ _ _ _ _ _ us hl => match us, hl with | [_], _ => rfl
theorem bd_law_start {f : Addr} {fd : FuncData} (F : DefOf K "_law_start" s_law_start f fd) : Binds K fd ["script"] [] := F.bindsN fun _ _ _ _ _ _ us hl => match us, hl with | [_], _ => rfl
theorem bd_law_pick {f : Addr} {fd : FuncData} (F : DefOf K "_law_pick" s_law_pick f fd) : Binds K fd ["state", "many"] [] := F.bindsN fun _ _ _ _ _ _ us hl => match us, hl with | [_, _], _ => rfl
theorem bd_law_one {f : Addr} {fd : FuncData} (F : DefOf K "_law_one" s_law_one f fd) : Binds K fd ["state", "things"] [] := F.bindsN fun _ _ _ _ _ _ us hl => match us, hl with | [_, _], _ => rfl
theorem bd_law_mixed {f : Addr} {fd : FuncData} (F : DefOf K "_law_mixed" s_law_mixed f fd) : Binds K fd ["state", "things"] [] := F.bindsN fun _ _ _ _ _ _ us hl => match us, hl with | [_, _], _ => rfl
theorem bd_law_same {f : Addr} {fd : FuncData} (F : DefOf K "_law_same" s_law_same f fd) : Binds K fd ["found", "due"] [] := F.bindsN fun _ _ _ _ _ _ us hl => match us, hl with | [_, _], _ => rfl
theorem bd_law_copy {f : Addr} {fd : FuncData} (F : DefOf K "_law_copy" s_law_copy f fd) : Binds K fd ["thing"] [] := F.bindsN fun _ _ _ _ _ _ us hl => match us, hl with | [_], _ => rfl
theorem bd_law_loose {f : Addr} {fd : FuncData} (F : DefOf K "_law_loose" s_law_loose f fd) : Binds K fd ["state", "thing"] [] := F.bindsN fun _ _ _ _ _ _ us hl => match us, hl with | [_, _], _ => rfl
theorem bd_law_told {f : Addr} {fd : FuncData} (F : DefOf K "_law_told" s_law_told f fd) : Binds K fd ["ask"] [] := F.bindsN fun _ _ _ _ _ _ us hl => match us, hl with | [_], _ => rfl
theorem bd_law_some_q {f : Addr} {fd : FuncData} (F : DefOf K "_law_some_q" s_law_some_q f fd) : Binds K fd ["state"] [] := F.bindsN fun _ _ _ _ _ _ us hl => match us, hl with | [_], _ => rfl
theorem bd_law_q_read {f : Addr} {fd : FuncData} (F : DefOf K "_law_q_read" s_law_q_read f fd) : Binds K fd ["text"] [] := F.bindsN fun _ _ _ _ _ _ us hl => match us, hl with | [_], _ => rfl
theorem bd_law {f : Addr} {fd : FuncData} (F : DefOf K "law" s_law f fd) : Binds K fd ["script"] [] := F.bindsN fun _ _ _ _ _ _ us hl => match us, hl with | [_], _ => rfl
end
section
variable {P : Program} {w : World} {K : PySem.W.Frag} {mg : Str → Option Value} {base : Heap} {h : Heap}
theorem kb_is_integer {f : Addr} {fd : FuncData} (F : DefOf K "is_integer" s_is_integer f fd) : ∀ (s : Shared) (us : List Value), us.length = (1 : Nat) → BindsTo s fd ⟨[], (["thing"] : List Str).zip us⟩ ((["thing"] : List Str).zip us.reverse) := bindsKw F fun _ _ _ _ _ _ us hl => match us, hl with | [_], _ => rfl
theorem kb_is_list {f : Addr} {fd : FuncData} (F : DefOf K "is_list" s_is_list f fd) : ∀ (s : Shared) (us : List Value), us.length = (1 : Nat) → BindsTo s fd ⟨[], (["thing"] : List Str).zip us⟩ ((["thing"] : List Str).zip us.reverse) := bindsKw F fun _ _ _ _ _ _ us hl => match us, hl with | [_], _ => rfl
theorem kb_is_row {f : Addr} {fd : FuncData} (F : DefOf K "is_row" s_is_row f fd) : ∀ (s : Shared) (us : List Value), us.length = (2 : Nat) → BindsTo s fd ⟨[], (["many", "thing"] : List Str).zip us⟩ ((["thing", "many"] : List Str).zip us.reverse) := bindsKw F fun _ _ _ _ _ _ us hl => match us, hl with | [_, _], _ => rfl
theorem kb_is_text {f : Addr} {fd : FuncData} (F : DefOf K "is_text" s_is_text f fd) : ∀ (s : Shared) (us : List Value), us.length = (1 : Nat) → BindsTo s fd ⟨[], (["thing"] : List Str).zip us⟩ ((["thing"] : List Str).zip us.reverse) := bindsKw F fun _ _ _ _ _ _ us hl => match us, hl with | [_], _ => rfl
theorem kb_common_divisor {f : Addr} {fd : FuncData} (F : DefOf K "common_divisor" s_common_divisor f fd) : ∀ (s : Shared) (us : List Value), us.length = (2 : Nat) → BindsTo s fd ⟨[], (["two", "one"] : List Str).zip us⟩ ((["one", "two"] : List Str).zip us.reverse) := bindsKw F fun _ _ _ _ _ _ us hl => match us, hl with | [_, _], _ => rfl
theorem kb_made {f : Addr} {fd : FuncData} (F : DefOf K "made" s_made f fd) : ∀ (s : Shared) (us : List Value), us.length = (2 : Nat) → BindsTo s fd ⟨[], (["n", "p"] : List Str).zip us⟩ ((["p", "n"] : List Str).zip us.reverse) := bindsKw F fun _ _ _ _ _ _ us hl => match us, hl with | [_, _], _ => rfl
theorem kb_is_quotient {f : Addr} {fd : FuncData} (F : DefOf K "is_quotient" s_is_quotient f fd) : ∀ (s : Shared) (us : List Value), us.length = (1 : Nat) → BindsTo s fd ⟨[], (["thing"] : List Str).zip us⟩ ((["thing"] : List Str).zip us.reverse) := bindsKw F fun _ _ _ _ _ _ us hl => match us, hl with | [_], _ => rfl
theorem kb_quotient_of {f : Addr} {fd : FuncData} (F : DefOf K "quotient_of" s_quotient_of f fd) : ∀ (s : Shared) (us : List Value), us.length = (2 : Nat) → BindsTo s fd ⟨[], (["n", "p"] : List Str).zip us⟩ ((["p", "n"] : List Str).zip us.reverse) := bindsKw F fun _ _ _ _ _ _ us hl => match us, hl with | [_, _], _ => rfl
theorem kb_need_quotient {f : Addr} {fd : FuncData} (F : DefOf K "need_quotient" s_need_quotient f fd) : ∀ (s : Shared) (us : List Value), us.length = (1 : Nat) → BindsTo s fd ⟨[], (["q"] : List Str).zip us⟩ ((["q"] : List Str).zip us.reverse) := bindsKw F fun _ _ _ _ _ _ us hl => match us, hl with | [_], _ => rfl
theorem kb_need_two {f : Addr} {fd : FuncData} (F : DefOf K "need_two" s_need_two f fd) : ∀ (s : Shared) (us : List Value), us.length = (2 : Nat) → BindsTo s fd ⟨[], (["other", "q"] : List Str).zip us⟩ ((["q", "other"] : List Str).zip us.reverse) := bindsKw F fun _ _ _ _ _ _ us hl => match us, hl with | [_, _], _ => rfl
theorem kb_added {f : Addr} {fd : FuncData} (F : DefOf K "added" s_added f fd) : ∀ (s : Shared) (us : List Value), us.length = (2 : Nat) → BindsTo s fd ⟨[], (["other", "q"] : List Str).zip us⟩ ((["q", "other"] : List Str).zip us.reverse) := bindsKw F fun _ _ _ _ _ _ us hl => match us, hl with | [_, _], _ => rfl
theorem kb_multiplied {f : Addr} {fd : FuncData} (F : DefOf K "multiplied" s_multiplied f fd) : ∀ (s : Shared) (us : List Value), us.length = (2 : Nat) → BindsTo s fd ⟨[], (["other", "q"] : List Str).zip us⟩ ((["q", "other"] : List Str).zip us.reverse) := bindsKw F fun _ _ _ _ _ _ us hl => match us, hl with | [_, _], _ => rfl
theorem kb_negated {f : Addr} {fd : FuncData} (F : DefOf K "negated" s_negated f fd) : ∀ (s : Shared) (us : List Value), us.length = (1 : Nat) → BindsTo s fd ⟨[], (["q"] : List Str).zip us⟩ ((["q"] : List Str).zip us.reverse) := bindsKw F fun _ _ _ _ _ _ us hl => match us, hl with | [_], _ => rfl
theorem kb_sign_of {f : Addr} {fd : FuncData} (F : DefOf K "sign_of" s_sign_of f fd) : ∀ (s : Shared) (us : List Value), us.length = (1 : Nat) → BindsTo s fd ⟨[], (["q"] : List Str).zip us⟩ ((["q"] : List Str).zip us.reverse) := bindsKw F fun _ _ _ _ _ _ us hl => match us, hl with | [_], _ => rfl
theorem kb_plus {f : Addr} {fd : FuncData} (F : DefOf K "plus" s_plus f fd) : ∀ (s : Shared) (us : List Value), us.length = (2 : Nat) → BindsTo s fd ⟨[], (["other", "q"] : List Str).zip us⟩ ((["q", "other"] : List Str).zip us.reverse) := bindsKw F fun _ _ _ _ _ _ us hl => match us, hl with | [_, _], _ => rfl
theorem kb_less {f : Addr} {fd : FuncData} (F : DefOf K "less" s_less f fd) : ∀ (s : Shared) (us : List Value), us.length = (2 : Nat) → BindsTo s fd ⟨[], (["other", "q"] : List Str).zip us⟩ ((["q", "other"] : List Str).zip us.reverse) := bindsKw F fun _ _ _ _ _ _ us hl => match us, hl with | [_, _], _ => rfl
theorem kb_times {f : Addr} {fd : FuncData} (F : DefOf K "times" s_times f fd) : ∀ (s : Shared) (us : List Value), us.length = (2 : Nat) → BindsTo s fd ⟨[], (["other", "q"] : List Str).zip us⟩ ((["q", "other"] : List Str).zip us.reverse) := bindsKw F fun _ _ _ _ _ _ us hl => match us, hl with | [_, _], _ => rfl
theorem kb_over {f : Addr} {fd : FuncData} (F : DefOf K "over" s_over f fd) : ∀ (s : Shared) (us : List Value), us.length = (2 : Nat) → BindsTo s fd ⟨[], (["other", "q"] : List Str).zip us⟩ ((["q", "other"] : List Str).zip us.reverse) := bindsKw F fun _ _ _ _ _ _ us hl => match us, hl with | [_, _], _ => rfl
theorem kb_compared {f : Addr} {fd : FuncData} (F : DefOf K "compared" s_compared f fd) : ∀ (s : Shared) (us : List Value), us.length = (2 : Nat) → BindsTo s fd ⟨[], (["other", "q"] : List Str).zip us⟩ ((["q", "other"] : List Str).zip us.reverse) := bindsKw F fun _ _ _ _ _ _ us hl => match us, hl with | [_, _], _ => rfl
theorem kb_opposite {f : Addr} {fd : FuncData} (F : DefOf K "opposite" s_opposite f fd) : ∀ (s : Shared) (us : List Value), us.length = (1 : Nat) → BindsTo s fd ⟨[], (["q"] : List Str).zip us⟩ ((["q"] : List Str).zip us.reverse) := bindsKw F fun _ _ _ _ _ _ us hl => match us, hl with | [_], _ => rfl
theorem kb_text_of_quotient {f : Addr} {fd : FuncData} (F : DefOf K "text_of_quotient" s_text_of_quotient f fd) : ∀ (s : Shared) (us : List Value), us.length = (1 : Nat) → BindsTo s fd ⟨[], (["q"] : List Str).zip us⟩ ((["q"] : List Str).zip us.reverse) := bindsKw F fun _ _ _ _ _ _ us hl => match us, hl with | [_], _ => rfl
theorem kb_quotient_text {f : Addr} {fd : FuncData} (F : DefOf K "quotient_text" s_quotient_text f fd) : ∀ (s : Shared) (us : List Value), us.length = (1 : Nat) → BindsTo s fd ⟨[], (["q"] : List Str).zip us⟩ ((["q"] : List Str).zip us.reverse) := bindsKw F fun _ _ _ _ _ _ us hl => match us, hl with | [_], _ => rfl
theorem kb_numeral_in {f : Addr} {fd : FuncData} (F : DefOf K "numeral_in" s_numeral_in f fd) : ∀ (s : Shared) (us : List Value), us.length = (1 : Nat) → BindsTo s fd ⟨[], (["text"] : List Str).zip us⟩ ((["text"] : List Str).zip us.reverse) := bindsKw F fun _ _ _ _ _ _ us hl => match us, hl with | [_], _ => rfl
theorem kb_quotient_in {f : Addr} {fd : FuncData} (F : DefOf K "quotient_in" s_quotient_in f fd) : ∀ (s : Shared) (us : List Value), us.length = (1 : Nat) → BindsTo s fd ⟨[], (["text"] : List Str).zip us⟩ ((["text"] : List Str).zip us.reverse) := bindsKw F fun _ _ _ _ _ _ us hl => match us, hl with | [_], _ => rfl
theorem kb_read_quotient {f : Addr} {fd : FuncData} (F : DefOf K "read_quotient" s_read_quotient f fd) : ∀ (s : Shared) (us : List Value), us.length = (1 : Nat) → BindsTo s fd ⟨[], (["text"] : List Str).zip us⟩ ((["text"] : List Str).zip us.reverse) := bindsKw F fun _ _ _ _ _ _ us hl => match us, hl with | [_], _ => rfl
theorem kb_law_divisor {f : Addr} {fd : FuncData} (F : DefOf K "_law_divisor" s_law_divisor f fd) : ∀ (s : Shared) (us : List Value), us.length = (2 : Nat) → BindsTo s fd ⟨[], (["two", "one"] : List Str).zip us⟩ ((["one", "two"] : List Str).zip us.reverse) := bindsKw F fun _ _ _ _ _ _ us hl => match us, hl with | [_, _], _ => rfl
theorem kb_law_q {f : Addr} {fd : FuncData} (F : DefOf K "_law_q" s_law_q f fd) : ∀ (s : Shared) (us : List Value), us.length = (2 : Nat) → BindsTo s fd ⟨[], (["n", "p"] : List Str).zip us⟩ ((["p", "n"] : List Str).zip us.reverse) := bindsKw F fun _ _ _ _ _ _ us hl => match us, hl with | [_, _], _ => rfl
theorem kb_law_q_add {f : Addr} {fd : FuncData} (F : DefOf K "_law_q_add" s_law_q_add f fd) : ∀ (s : Shared) (us : List Value), us.length = (2 : Nat) → BindsTo s fd ⟨[], (["r", "q"] : List Str).zip us⟩ ((["q", "r"] : List Str).zip us.reverse) := bindsKw F fun _ _ _ _ _ _ us hl => match us, hl with | [_, _], _ => rfl
theorem kb_law_q_mul {f : Addr} {fd : FuncData} (F : DefOf K "_law_q_mul" s_law_q_mul f fd) : ∀ (s : Shared) (us : List Value), us.length = (2 : Nat) → BindsTo s fd ⟨[], (["r", "q"] : List Str).zip us⟩ ((["q", "r"] : List Str).zip us.reverse) := bindsKw F fun _ _ _ _ _ _ us hl => match us, hl with | [_, _], _ => rfl
theorem kb_law_q_text {f : Addr} {fd : FuncData} (F : DefOf K "_law_q_text" s_law_q_text f fd) : ∀ (s : Shared) (us : List Value), us.length = (1 : Nat) → BindsTo s fd ⟨[], (["q"] : List Str).zip us⟩ ((["q"] : List Str).zip us.reverse) := bindsKw F fun _ _ _ _ _ _ us hl => match us, hl with | [_], _ => rfl
theorem kb_law_start {f : Addr} {fd : FuncData} (F : DefOf K "_law_start" s_law_start f fd) : ∀ (s : Shared) (us : List Value), us.length = (1 : Nat) → BindsTo s fd ⟨[], (["script"] : List Str).zip us⟩ ((["script"] : List Str).zip us.reverse) := bindsKw F fun _ _ _ _ _ _ us hl => match us, hl with | [_], _ => rfl
theorem kb_law_pick {f : Addr} {fd : FuncData} (F : DefOf K "_law_pick" s_law_pick f fd) : ∀ (s : Shared) (us : List Value), us.length = (2 : Nat) → BindsTo s fd ⟨[], (["many", "state"] : List Str).zip us⟩ ((["state", "many"] : List Str).zip us.reverse) := bindsKw F fun _ _ _ _ _ _ us hl => match us, hl with | [_, _], _ => rfl
theorem kb_law_one {f : Addr} {fd : FuncData} (F : DefOf K "_law_one" s_law_one f fd) : ∀ (s : Shared) (us : List Value), us.length = (2 : Nat) → BindsTo s fd ⟨[], (["things", "state"] : List Str).zip us⟩ ((["state", "things"] : List Str).zip us.reverse) := bindsKw F fun _ _ _ _ _ _ us hl => match us, hl with | [_, _], _ => rfl
theorem kb_law_mixed {f : Addr} {fd : FuncData} (F : DefOf K "_law_mixed" s_law_mixed f fd) : ∀ (s : Shared) (us : List Value), us.length = (2 : Nat) → BindsTo s fd ⟨[], (["things", "state"] : List Str).zip us⟩ ((["state", "things"] : List Str).zip us.reverse) := bindsKw F fun _ _ _ _ _ _ us hl => match us, hl with | [_, _], _ => rfl
theorem kb_law_same {f : Addr} {fd : FuncData} (F : DefOf K "_law_same" s_law_same f fd) : ∀ (s : Shared) (us : List Value), us.length = (2 : Nat) → BindsTo s fd ⟨[], (["due", "found"] : List Str).zip us⟩ ((["found", "due"] : List Str).zip us.reverse) := bindsKw F fun _ _ _ _ _ _ us hl => match us, hl with | [_, _], _ => rfl
theorem kb_law_copy {f : Addr} {fd : FuncData} (F : DefOf K "_law_copy" s_law_copy f fd) : ∀ (s : Shared) (us : List Value), us.length = (1 : Nat) → BindsTo s fd ⟨[], (["thing"] : List Str).zip us⟩ ((["thing"] : List Str).zip us.reverse) := bindsKw F fun _ _ _ _ _ _ us hl => match us, hl with | [_], _ => rfl
theorem kb_law_loose {f : Addr} {fd : FuncData} (F : DefOf K "_law_loose" s_law_loose f fd) : ∀ (s : Shared) (us : List Value), us.length = (2 : Nat) → BindsTo s fd ⟨[], (["thing", "state"] : List Str).zip us⟩ ((["state", "thing"] : List Str).zip us.reverse) := bindsKw F fun _ _ _ _ _ _ us hl => match us, hl with | [_, _], _ => rfl
theorem kb_law_told {f : Addr} {fd : FuncData} (F : DefOf K "_law_told" s_law_told f fd) : ∀ (s : Shared) (us : List Value), us.length = (1 : Nat) → BindsTo s fd ⟨[], (["ask"] : List Str).zip us⟩ ((["ask"] : List Str).zip us.reverse) := bindsKw F fun _ _ _ _ _ _ us hl => match us, hl with | [_], _ => rfl
theorem kb_law_some_q {f : Addr} {fd : FuncData} (F : DefOf K "_law_some_q" s_law_some_q f fd) : ∀ (s : Shared) (us : List Value), us.length = (1 : Nat) → BindsTo s fd ⟨[], (["state"] : List Str).zip us⟩ ((["state"] : List Str).zip us.reverse) := bindsKw F fun _ _ _ _ _ _ us hl => match us, hl with | [_], _ => rfl
theorem kb_law_q_read {f : Addr} {fd : FuncData} (F : DefOf K "_law_q_read" s_law_q_read f fd) : ∀ (s : Shared) (us : List Value), us.length = (1 : Nat) → BindsTo s fd ⟨[], (["text"] : List Str).zip us⟩ ((["text"] : List Str).zip us.reverse) := bindsKw F fun _ _ _ _ _ _ us hl => match us, hl with | [_], _ => rfl
theorem kb_law {f : Addr} {fd : FuncData} (F : DefOf K "law" s_law f fd) : ∀ (s : Shared) (us : List Value), us.length = (1 : Nat) → BindsTo s fd ⟨[], (["script"] : List Str).zip us⟩ ((["script"] : List Str).zip us.reverse) := bindsKw F fun _ _ _ _ _ _ us hl => match us, hl with | [_], _ => rfl
theorem tx_DIGITS (X : K.In h) (G : h.Ns mainGlobals mg) (c : He.SaysD fa fn K) : ∃ tk, mg "DIGITS" = some (.str "0123456789" tk) := He.str_ok X G (c.fact 65 (f := .str "DIGITS" "0123456789") rfl)
end
theorem facts {P : Program} {w : World} {K : PySem.W.Frag} {h : Heap} {mg : Str → Option Value} {f : Addr} (X : K.In h) (G : h.Ns mainGlobals mg) (hfa : mg ("law" : Str) = some (.ref f)) (Z : SaysZ fa fn tf ex h K) :
    ∃ (fd : FuncData) (c Pt : Addr), h.get? Pt = some { cls := .none, data := .fields #[] } ∧ K.lookup Pt = none ∧ PySem.W.CodeHd h c Pt ∧ (∀ (s : Shared) (v : Value), BindsTo s fd ⟨[v], []⟩ [("script", v)]) ∧
      ∀ base : Heap, K.In base → base.Ns mainGlobals mg → LamX.TabB base mg c Pt → FnOk P w K mg base CX0 9 f fd ["script"] (spLaw K Pt lamQ) := by
  have c := Z.d
  have x := Z.more
  obtain ⟨fd_is_integer, F_is_integer⟩ := c.def_ 0 (d := d_is_integer) rfl
  have G_is_integer := He.glo_ok X G (c.fact 0 (f := .glo "is_integer") rfl)
  obtain ⟨fd_is_list, F_is_list⟩ := c.def_ 1 (d := d_is_list) rfl
  have G_is_list := He.glo_ok X G (c.fact 1 (f := .glo "is_list") rfl)
  obtain ⟨fd_is_row, F_is_row⟩ := c.def_ 2 (d := d_is_row) rfl
  have G_is_row := He.glo_ok X G (c.fact 2 (f := .glo "is_row") rfl)
  obtain ⟨fd_is_text, F_is_text⟩ := c.def_ 3 (d := d_is_text) rfl
  have G_is_text := He.glo_ok X G (c.fact 3 (f := .glo "is_text") rfl)
  obtain ⟨fd_common_divisor, F_common_divisor⟩ := c.def_ 4 (d := d_common_divisor) rfl
  have G_common_divisor := He.glo_ok X G (c.fact 4 (f := .glo "common_divisor") rfl)
  obtain ⟨fd_made, F_made⟩ := c.def_ 5 (d := d_made) rfl
  have G_made := He.glo_ok X G (c.fact 5 (f := .glo "made") rfl)
  obtain ⟨fd_is_quotient, F_is_quotient⟩ := c.def_ 6 (d := d_is_quotient) rfl
  have G_is_quotient := He.glo_ok X G (c.fact 6 (f := .glo "is_quotient") rfl)
  obtain ⟨fd_quotient_of, F_quotient_of⟩ := c.def_ 7 (d := d_quotient_of) rfl
  have G_quotient_of := He.glo_ok X G (c.fact 7 (f := .glo "quotient_of") rfl)
  obtain ⟨fd_need_quotient, F_need_quotient⟩ := c.def_ 8 (d := d_need_quotient) rfl
  have G_need_quotient := He.glo_ok X G (c.fact 8 (f := .glo "need_quotient") rfl)
  obtain ⟨fd_need_two, F_need_two⟩ := c.def_ 9 (d := d_need_two) rfl
  have G_need_two := He.glo_ok X G (c.fact 9 (f := .glo "need_two") rfl)
  obtain ⟨fd_added, F_added⟩ := c.def_ 10 (d := d_added) rfl
  have G_added := He.glo_ok X G (c.fact 10 (f := .glo "added") rfl)
  obtain ⟨fd_multiplied, F_multiplied⟩ := c.def_ 11 (d := d_multiplied) rfl
  have G_multiplied := He.glo_ok X G (c.fact 11 (f := .glo "multiplied") rfl)
  obtain ⟨fd_negated, F_negated⟩ := c.def_ 12 (d := d_negated) rfl
  have G_negated := He.glo_ok X G (c.fact 12 (f := .glo "negated") rfl)
  obtain ⟨fd_sign_of, F_sign_of⟩ := c.def_ 13 (d := d_sign_of) rfl
  have G_sign_of := He.glo_ok X G (c.fact 13 (f := .glo "sign_of") rfl)
  obtain ⟨fd_plus, F_plus⟩ := c.def_ 14 (d := d_plus) rfl
  have G_plus := He.glo_ok X G (c.fact 14 (f := .glo "plus") rfl)
  obtain ⟨fd_less, F_less⟩ := c.def_ 15 (d := d_less) rfl
  have G_less := He.glo_ok X G (c.fact 15 (f := .glo "less") rfl)
  obtain ⟨fd_times, F_times⟩ := c.def_ 16 (d := d_times) rfl
  have G_times := He.glo_ok X G (c.fact 16 (f := .glo "times") rfl)
  obtain ⟨fd_over, F_over⟩ := c.def_ 17 (d := d_over) rfl
  have G_over := He.glo_ok X G (c.fact 17 (f := .glo "over") rfl)
  obtain ⟨fd_compared, F_compared⟩ := c.def_ 18 (d := d_compared) rfl
  have G_compared := He.glo_ok X G (c.fact 18 (f := .glo "compared") rfl)
  obtain ⟨fd_opposite, F_opposite⟩ := c.def_ 19 (d := d_opposite) rfl
  have G_opposite := He.glo_ok X G (c.fact 19 (f := .glo "opposite") rfl)
  obtain ⟨fd_text_of_quotient, F_text_of_quotient⟩ := c.def_ 20 (d := d_text_of_quotient) rfl
  have G_text_of_quotient := He.glo_ok X G (c.fact 20 (f := .glo "text_of_quotient") rfl)
  obtain ⟨fd_quotient_text, F_quotient_text⟩ := c.def_ 21 (d := d_quotient_text) rfl
  have G_quotient_text := He.glo_ok X G (c.fact 21 (f := .glo "quotient_text") rfl)
  obtain ⟨fd_numeral_in, F_numeral_in⟩ := c.def_ 22 (d := d_numeral_in) rfl
  have G_numeral_in := He.glo_ok X G (c.fact 22 (f := .glo "numeral_in") rfl)
  obtain ⟨fd_quotient_in, F_quotient_in⟩ := c.def_ 23 (d := d_quotient_in) rfl
  have G_quotient_in := He.glo_ok X G (c.fact 23 (f := .glo "quotient_in") rfl)
  obtain ⟨fd_read_quotient, F_read_quotient⟩ := c.def_ 24 (d := d_read_quotient) rfl
  have G_read_quotient := He.glo_ok X G (c.fact 24 (f := .glo "read_quotient") rfl)
  obtain ⟨fd_law_divisor, F_law_divisor⟩ := c.def_ 25 (d := d_law_divisor) rfl
  have G_law_divisor := He.glo_ok X G (c.fact 25 (f := .glo "_law_divisor") rfl)
  obtain ⟨fd_law_q, F_law_q⟩ := c.def_ 26 (d := d_law_q) rfl
  have G_law_q := He.glo_ok X G (c.fact 26 (f := .glo "_law_q") rfl)
  obtain ⟨fd_law_q_add, F_law_q_add⟩ := c.def_ 27 (d := d_law_q_add) rfl
  have G_law_q_add := He.glo_ok X G (c.fact 27 (f := .glo "_law_q_add") rfl)
  obtain ⟨fd_law_q_mul, F_law_q_mul⟩ := c.def_ 28 (d := d_law_q_mul) rfl
  have G_law_q_mul := He.glo_ok X G (c.fact 28 (f := .glo "_law_q_mul") rfl)
  obtain ⟨fd_law_q_text, F_law_q_text⟩ := c.def_ 29 (d := d_law_q_text) rfl
  have G_law_q_text := He.glo_ok X G (c.fact 29 (f := .glo "_law_q_text") rfl)
  obtain ⟨fd_law_start, F_law_start⟩ := c.def_ 30 (d := d_law_start) rfl
  have G_law_start := He.glo_ok X G (c.fact 30 (f := .glo "_law_start") rfl)
  obtain ⟨fd_law_pick, F_law_pick⟩ := c.def_ 31 (d := d_law_pick) rfl
  have G_law_pick := He.glo_ok X G (c.fact 31 (f := .glo "_law_pick") rfl)
  obtain ⟨fd_law_one, F_law_one⟩ := c.def_ 32 (d := d_law_one) rfl
  have G_law_one := He.glo_ok X G (c.fact 32 (f := .glo "_law_one") rfl)
  obtain ⟨fd_law_mixed, F_law_mixed⟩ := c.def_ 33 (d := d_law_mixed) rfl
  have G_law_mixed := He.glo_ok X G (c.fact 33 (f := .glo "_law_mixed") rfl)
  obtain ⟨fd_law_same, F_law_same⟩ := c.def_ 34 (d := d_law_same) rfl
  have G_law_same := He.glo_ok X G (c.fact 34 (f := .glo "_law_same") rfl)
  obtain ⟨fd_law_copy, F_law_copy⟩ := c.def_ 35 (d := d_law_copy) rfl
  have G_law_copy := He.glo_ok X G (c.fact 35 (f := .glo "_law_copy") rfl)
  obtain ⟨fd_law_loose, F_law_loose⟩ := c.def_ 36 (d := d_law_loose) rfl
  have G_law_loose := He.glo_ok X G (c.fact 36 (f := .glo "_law_loose") rfl)
  obtain ⟨fd_law_told, F_law_told⟩ := c.def_ 37 (d := d_law_told) rfl
  have G_law_told := He.glo_ok X G (c.fact 37 (f := .glo "_law_told") rfl)
  obtain ⟨fd_law_some_q, F_law_some_q⟩ := c.def_ 38 (d := d_law_some_q) rfl
  have G_law_some_q := He.glo_ok X G (c.fact 38 (f := .glo "_law_some_q") rfl)
  obtain ⟨fd_law_q_read, F_law_q_read⟩ := c.def_ 39 (d := d_law_q_read) rfl
  have G_law_q_read := He.glo_ok X G (c.fact 39 (f := .glo "_law_q_read") rfl)
  obtain ⟨fd_law, F_law⟩ := c.def_ 40 (d := d_law) rfl
  have e := hfa.symm.trans (He.glo_ok X G (c.fact 40 (f := .glo "law") rfl))
  cases e
  have b := FunD.bindsA (ps := ["script"]) F_law fun _ _ _ _ _ _ us hl => match us, hl with | [_], _ => rfl
  have hm : (("law", none) : He.Defn) ∈ tf := List.mem_cons_self
  have hhd := Z.hd _ hm
  have hout := Z.out _ hm
  have hemp := Z.empty _ hm
  obtain ⟨oc, od, dV, kV, doc, pm, an, cdv, ct, osl, efd, lk, hcd, _, _⟩ := F_law.ex
  obtain ⟨cc, rfl⟩ := He.codeIn_ref hcd
  subst efd
  have ec : He.codeOf K ("law", none) = cc := He.codeOf_eq (p := ("law", none)) lk rfl
  refine ⟨_, (He.cT K ("law", none)).1, (He.cT K ("law", none)).2, hemp, hout, PySem.W.codeHd_of_K X hhd, fun s v => b s [v] rfl, fun base _ _ TB => ?_⟩
  have TB : LamX.TabB base mg cc (He.cT K ("law", none)).2 := by
    rw [← ec]
    exact TB
  generalize (He.cT K ("law", none)).2 = Pt at TB ⊢
  have T : Txt P w K mg base := txt_ok X G c x
  have B := T.toBlt
  have C_start := ok_start B F_law_start G_law_start (bd_law_start F_law_start) (P := P) (w := w) (base := base)
  have C_pick := ok_pick B F_law_pick G_law_pick (bd_law_pick F_law_pick) (P := P) (w := w) (base := base)
  have C_gcd := ok_common_divisor B F_common_divisor G_common_divisor (bd_common_divisor F_common_divisor) (P := P) (w := w) (base := base)
  have C_lgcd := ok_law_divisor B F_law_divisor G_law_divisor (bd_law_divisor F_law_divisor) (P := P) (w := w) (base := base)
  have C_made := ok_made C_gcd F_made G_made (bd_made F_made)
  have C_law_q := ok_law_q C_lgcd F_law_q G_law_q (bd_law_q F_law_q)
  have C_int := ok_is_integer B F_is_integer G_is_integer (bd_is_integer F_is_integer) (P := P) (w := w) (base := base)
  have C_list := ok_is_list B F_is_list G_is_list (bd_is_list F_is_list) (P := P) (w := w) (base := base)
  have C_text := ok_is_text B F_is_text G_is_text (bd_is_text F_is_text) (P := P) (w := w) (base := base)
  have C_row := ok_is_row B C_list F_is_row G_is_row (bd_is_row F_is_row)
  have C_isq := ok_is_quotient B C_row C_int C_gcd F_is_quotient G_is_quotient (bd_is_quotient F_is_quotient) (kb_is_quotient F_is_quotient)
  have C_need := ok_need_quotient T C_isq F_need_quotient G_need_quotient (bd_need_quotient F_need_quotient) (kb_need_quotient F_need_quotient)
  have C_need2 := ok_need_two T C_isq C_need F_need_two G_need_two (bd_need_two F_need_two) (kb_need_two F_need_two)
  have C_neg := ok_negated F_negated G_negated (bd_negated F_negated) (P := P) (w := w) (base := base)
  have C_sign := ok_sign_of F_sign_of G_sign_of (bd_sign_of F_sign_of) (P := P) (w := w) (base := base)
  have C_added := ok_added C_made F_added G_added (bd_added F_added)
  have C_mult := ok_multiplied C_made F_multiplied G_multiplied (bd_multiplied F_multiplied)
  have C_plus := ok_plus T C_need2 C_added F_plus G_plus (bd_plus F_plus) (kb_plus F_plus)
  have C_less := ok_less T C_need2 C_added C_neg F_less G_less (bd_less F_less) (kb_less F_less)
  have C_times := ok_times T C_need2 C_mult F_times G_times (bd_times F_times) (kb_times F_times)
  have C_compared := ok_compared T C_need2 C_added C_neg C_sign F_compared G_compared (bd_compared F_compared) (kb_compared F_compared)
  have C_over := ok_over T C_need2 C_made F_over G_over (bd_over F_over) (kb_over F_over)
  have C_opp := ok_opposite T C_need C_neg F_opposite G_opposite (bd_opposite F_opposite) (kb_opposite F_opposite)
  have C_tq := ok_text_of B F_text_of_quotient G_text_of_quotient (bd_text_of_quotient F_text_of_quotient) (P := P) (w := w) (base := base)
  have C_qt := ok_quotient_text T C_need C_tq F_quotient_text G_quotient_text (bd_quotient_text F_quotient_text) (kb_quotient_text F_quotient_text)
  have C_num := ok_numeral_in B (tx_DIGITS X G c) F_numeral_in G_numeral_in (bd_numeral_in F_numeral_in) (P := P) (w := w) (base := base)
  have C_qin := ok_quotient_in B C_num C_gcd F_quotient_in G_quotient_in (bd_quotient_in F_quotient_in)
  have C_read := ok_read_quotient T C_text C_qin F_read_quotient G_read_quotient (bd_read_quotient F_read_quotient) (kb_read_quotient F_read_quotient)
  have C_qof := ok_quotient_of T C_int C_made F_quotient_of G_quotient_of (bd_quotient_of F_quotient_of) (kb_quotient_of F_quotient_of)
  have C_some := ok_some_q C_pick C_law_q F_law_some_q G_law_some_q (bd_law_some_q F_law_some_q)
  have C_qadd := ok_law_q_add C_law_q F_law_q_add G_law_q_add (bd_law_q_add F_law_q_add)
  have C_qmul := ok_law_q_mul C_law_q F_law_q_mul G_law_q_mul (bd_law_q_mul F_law_q_mul)
  have C_same := ok_same B F_law_same G_law_same (bd_law_same F_law_same) (P := P) (w := w) (base := base) 6
  have C_mixed := ok_mixed F_law_mixed G_law_mixed (bd_law_mixed F_law_mixed) (P := P) (w := w) (base := base)
  have C_loose := ok_loose B C_pick C_mixed F_law_loose G_law_loose (bd_law_loose F_law_loose) 2
  have C_copy := ok_copy B F_law_copy G_law_copy (bd_law_copy F_law_copy) (P := P) (w := w) (base := base) 3
  have C_ltext := ok_law_q_text B F_law_q_text G_law_q_text (bd_law_q_text F_law_q_text) (P := P) (w := w) (base := base)
  have C_one := ok_one B C_pick F_law_one G_law_one (bd_law_one F_law_one)
  have C_lread := ok_law_q_read B C_lgcd F_law_q_read G_law_q_read (bd_law_q_read F_law_q_read)
  exact ok_law T ⟨T, _, _, F_law_told, G_law_told, bd_law_told F_law_told⟩ TB C_start C_pick C_some C_law_q C_qadd C_qmul C_same C_loose C_copy C_ltext C_one C_lread C_plus C_less C_times C_compared C_over C_opp C_qt C_read C_qof C_isq lk hcd
end K01
open PySem PySem.W PySem.Calls PyProof.Rows
theorem PySem.Challenge.cw_sameproof_k01_whole_quotients_holds : PySem.Challenge.rw_sameproof_k01_whole_quotients.Holds := by
  w_on; o_law
  refine HandSHeadRun.head_any (r := OpenLaw.row PySem.Challenge.rw_sameproof_k01_whole_quotients) (q := view (OpenLaw.row PySem.Challenge.rw_sameproof_k01_whole_quotients).prog [51]) (H := K01.hk) (ob := K01.ob) (M := 14000) (loose := K01.loose) (d := HandSHeadRun.topDef (OpenLaw.row PySem.Challenge.rw_sameproof_k01_whole_quotients).prog 51) (kwd := []) K01.ob_eq
    (by kernel_rfl) (fun s => by kernel_rfl) K01.run (by kernel_rfl) (by kernel_rfl) (by kernel_rfl) (by rfl) (by first | assumption | decide +kernel) (by decide +kernel) ⟨rfl, rfl, rfl, rfl, rfl, by decide +kernel⟩ ?hw ?hc
  case hw => w_witness2
  case hc =>
    refine LamX.walk_ofTsE (l := PySem.Challenge.rw_sameproof_k01_whole_quotients) (k := 9) (x := "script") (CX := fun _ => L2.CX0) rfl (by decide) (by kernel_rfl) ⟨rfl, by decide, by decide⟩ ?F (fun _ _ _ _ _ z => z)
    intro w mg fa h Y G hmg0
    obtain ⟨K, KX, Z⟩ := Y
    have hmg : mg ("law" : PySem.Str) = some (.ref fa) := by
      have e : (HandSHeadRun.topDef (OpenLaw.row PySem.Challenge.rw_sameproof_k01_whole_quotients).prog 51).name = ("law" : PySem.Str) := by kernel_rfl
      rw [← e]
      exact hmg0
    obtain ⟨fd, c, Pt, h1, h2, h3, hb, hF⟩ := K01.facts (P := (PySem.Challenge.rw_sameproof_k01_whole_quotients).prog) (w := w) KX G hmg Z
    refine ⟨K, KX, fd, [(c, Pt)], K01.spLaw K Pt K01.lamQ, fun p hp => ?_, fun p hp => ?_, fun p hp => ?_, hb, fun H a ns hl _ hT hS => ⟨a, ns, rfl, hS, hT _ List.mem_cons_self, fun _ => rfl⟩, fun base X G TB => hF base X G (TB _ List.mem_cons_self)⟩
    · rw [List.mem_singleton.mp hp]
      exact h1
    · rw [List.mem_singleton.mp hp]
      exact h2
    · rw [List.mem_singleton.mp hp]
      exact h3
