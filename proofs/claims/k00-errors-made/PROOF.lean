import PyProof.Rows.All
import Wide.All
import OpenK.AllK
import Wide.FinOn
import HandS.ForMost
import HandS.ForExc
import HandS.ExcInit
import HandS.IsInst
import HandS.Defaults
import HandS.ExcIs
import HandS.ExcValue
import KE.KExcIs
import HandS.Zip
import HandS.Codes
import HandS.HeadHook4
import KE.KEqSeq
import KE.KStateDown
import HandS.More
import HandS.Small
import HandS.Head0
import HandS.Head1
import HandS.Head2
import HandS.HeadEnd
import HandS.HeadHook1
import HandS.HeadHook2
import HandS.HotCalls
import HandS.ExcCtx
import HandS.ExcInitHot
import PySem.Challenge.RW_sameproof_k00_errors_made
import HandS.WordsDict
import HandS.DeepEq
set_option Elab.async false
set_option linter.all false
set_option maxRecDepth 100000
set_option maxHeartbeats 4000000
namespace SpE
open PySem PySem.W PySem.Calls PyProof.Rows PySem.HandSPX
section
variable {M : Model} {A : Around} {E : Value → Shared → Prop} {h : Heap} {g : Array GenState} {d : Drawn} {t : Nat} {os : OsState}
variable {nm q : Str} {C N : Addr} {bs bm bmB : List Value} {hdct : Bool} {sn : List Str} {sub : List Value} {ab : Bool}
variable {col : Option Bool} {dd : Option Addr} {k0 k1 k2 k3 k5 : Option Value} {B newId initId : String}

theorem check_newK (F : ExcBaseFacts B newId initId bmB)
    (hT : ∀ X : String, bm.contains (.type X) = bmB.contains (.type X)) {rest : List Value} {kw : List (Str × Value)}
    {Q : Unit → Shared → Prop}
    (hC : h.get? C = some (excClassObj nm q C N bs bm hdct sn sub ab col dd k0 k1 k2 k3 k5 newId))
    (hq : Q () ⟨h, g, d, t, os⟩) :
    wpAny M A (checkBuiltinCall newId ⟨.ref C :: rest, kw⟩) Q E ⟨h, g, d, t, os⟩ := by
  have hin : (Value.ref C :: bm).contains (.type B) = true := by
    rw [List.contains_cons, hT, F.hasB, Bool.or_true]
  have hs := F.noStar
  simp only [checkBuiltinCall, F.newKind, F.newSplit, F.newRow]
  repeat (first
    | refine wpAny_loadPart_at hC ?_
    | (refine wpAny_isSubtype_exc hC ?_; rw [hin])
    | refine wpAny_staticBase_exc hC ?_
    | refine wpAny_madeBy_exc hC ?_
    | simp only [bne_self_eq_false, Bool.false_eq_true, if_false]
    | wp_step)
  exact hq
end
section
variable {prog : Program} {w : World} {A : Around} {E : Value → Shared → Prop} {R : Result → Shared → Prop}
variable {h : Heap} {g : Array GenState} {d : Drawn} {t : Nat} {os : OsState}
variable {nm q : Str} {C N : Addr} {bs bm bmB : List Value} {hdct : Bool} {sn : List Str} {sub : List Value} {ab : Bool}
variable {col : Option Bool} {dd : Option Addr} {k0 k1 k2 k3 k5 : Option Value} {B newId initId : String}

theorem newK (F : ExcBaseFacts B newId initId bmB)
    (hT : ∀ X : String, bm.contains (.type X) = bmB.contains (.type X)) {rest : List Value} {kw : List (Str × Value)}
    (hC : h.get? C = some (excClassObj nm q C N bs bm hdct sn sub ab col dd k0 k1 k2 k3 k5 newId))
    (hz : rest.length ≤ sizeLine)
    (hq : R (.ok (.ret (.ref (h.objs.size + 1))))
      ⟨(h.push (W.kdv_tup rest)).push (excO C h.objs.size), g, d, t, os⟩) :
    codeAny (model prog w) A (.builtin newId ⟨.ref C :: rest, kw⟩) R ⟨h, g, d, t, os⟩ := by
  have hrest := hz
  have he := F.ends
  have c1 : (Value.ref C :: bm).contains (.type B) = true := by
    rw [List.contains_cons, hT, F.hasB, Bool.or_true]
  have c2 : (Value.ref C :: bm).contains (.type "AttributeError") = false := by
    rw [List.contains_cons, hT, F.noAttr]; rfl
  have c3 : (Value.ref C :: bm).contains (.type "NameError") = false := by
    rw [List.contains_cons, hT, F.noName]; rfl
  refine codeAny_builtinAt F.entry ?_
  unfold Builtin.«BaseException.__new__»
  refine PySem.wpAt_bind ?_
  show PySem.wpAt _ _ _ (stack >>= _) _ _ _
  refine PySem.wpAt_bind (PySem.wpAt_stack fun p below => PySem.wpAt_of_wpAny ?_)
  wp_walk
  refine PySem.wpAt_of_wpAny ?_
  rw [F.owner]
  repeat (first
    | with_reducible refine wpAny_madeHere_exc F.canon hC ?_
    | with_reducible refine wpAny_loadPart_at hC ?_
    | (with_reducible refine wpAny_isSubtype_exc hC ?_
       first | rw [c1] | rw [c2] | rw [c3])
    | wp_step)
  show R _ _
  rw [Heap.size_push]
  exact hq

theorem type_callK (F : ExcBaseFacts B newId initId bmB)
    (hT : ∀ X : String, bm.contains (.type X) = bmB.contains (.type X)) {rest : List Value} {kw : List (Str × Value)}
    {fI : Addr} {Q : Fin → Shared → Prop}
    (hC : h.get? C = some (excClassObj nm q C N bs bm hdct sn sub ab col dd k0 k1 k2 k3 k5 newId))
    (hi : W.Looks (model prog w) h (typeLookup (.ref C) "__init__") (some (.ref fI)))
    (hb : ∀ self, W.Looks (model prog w) h (bindSpecial (.ref fI) self) (.ref fI, [self]))
    (hz : rest.length ≤ sizeLine)
    (hq : codeAny (model prog w) A (.call (.ref fI) ⟨.ref (h.objs.size + 1) :: rest, kw⟩)
      (fun r s' => match r with
        | .ok (.ret v) => v = .none ∧ Q (.done (.ret (.ref (h.objs.size + 1)))) s'
        | .ok _ => False
        | .error e => E e s')
      ⟨(h.push (W.kdv_tup rest)).push (excO C h.objs.size), g, d, t, os⟩) :
    wpAny (model prog w) A (Builtin.«type.__call__» ⟨.ref C :: rest, kw⟩) Q E ⟨h, g, d, t, os⟩ := by
  repeat (first
    | with_reducible refine wpAny_loadPart_at hC ?_
    | with_reducible refine wpAny_madeBy_exc hC ?_
    | wp_step)
  refine codeAny_call_builtin_code (Code.quiet_builtin _ F.quiet) (check_newK F hT hC ?_)
  refine newK F hT hC hz ?_
  show wpAny _ _ _ _ _ _
  have k : ∀ b o, h.get? b = some o →
      ((h.push (W.kdv_tup rest)).push (excO C h.objs.size)).get? b = some o :=
    fun b o e => Heap.get?_push_of_some _ (Heap.get?_push_of_some _ e)
  have hC1 := k _ _ hC
  have hg : ((h.push (W.kdv_tup rest)).push (excO C h.objs.size)).get? (h.objs.size + 1)
      = some (excO C h.objs.size) := by heap_get
  have hcc : (Value.ref C :: bm).contains (.ref C) = true := by simp
  have i1 := hi.keeps k
  have b1 := (hb (.ref (h.objs.size + 1))).keeps k
  unfold isInstance
  repeat (first
    | with_reducible refine wpAny_loadPart_at hg ?_
    | (with_reducible refine wpAny_isSubtype_exc hC1 ?_; rw [hcc])
    | wp_step)
  show wpAny _ _ (typeLookup (.ref C) _) _ _ _
  refine i1.at ?_
  refine wpAny_holding (wpAny_bind (b1.at ?_))
  refine wpAny_bind (wpAny_call (codeAny_mono hq fun r s' z => ?_))
  rcases r with e | (v | _ | _ | _) <;> first | exact z | exact z.elim | skip
  obtain ⟨rfl, z⟩ := z
  first
    | exact wpAny_pure (wpAny_pure z)
    | (wp_walk; exact z)

theorem callK (F : ExcBaseFacts B newId initId bmB)
    (hT : ∀ X : String, bm.contains (.type X) = bmB.contains (.type X)) {rest : List Value} {kw : List (Str × Value)}
    {fI : Addr}
    (hC : h.get? C = some (excClassObj nm q C N bs bm hdct sn sub ab col dd k0 k1 k2 k3 k5 newId))
    (hi : W.Looks (model prog w) h (typeLookup (.ref C) "__init__") (some (.ref fI)))
    (hb : ∀ self, W.Looks (model prog w) h (bindSpecial (.ref fI) self) (.ref fI, [self]))
    (hz : rest.length ≤ sizeLine)
    (hq : codeAny (model prog w) (A.under (.builtin "type.__call__" ⟨.ref C :: rest, kw⟩))
      (.call (.ref fI) ⟨.ref (h.objs.size + 1) :: rest, kw⟩) (W.InitBack (h.objs.size + 1) R)
      ⟨(h.push (W.kdv_tup rest)).push (excO C h.objs.size), g, d, t, os⟩) :
    codeAny (model prog w) A (.call (.ref C) ⟨rest, kw⟩) R ⟨h, g, d, t, os⟩ := by
  have f1 := tc_lookup
  have f2 := tc_bind (.ref C)
  have ty : (⟨h, g, d, t, os⟩ : Shared).TypeIs (.ref C) "type" := ⟨_, hC, rfl⟩
  refine codeAny_of_tree ?_
  show wpAny _ _ (callAny (.ref C) _) _ _ _
  repeat (any_goals (first | assumption | with_reducible refine wpAny_loadPart_at hC ?_ | wp_step))
  refine ⟨rfl, ?_⟩
  refine codeAny_call_builtin_at (Code.quiet_builtin _ (by decide +kernel)) entry_typeCall
    (wpAny_check_type_call_sub hC (type_callK F hT hC hi hb hz ?_))
  refine codeAny_mono hq fun r s' z => ?_
  rcases r with e | (v | _ | _ | _) <;> exact z
end

end SpE
namespace SpE
open PySem PySem.Spec PyProof.Rows L2

structure ErC (K : PySem.W.Frag) (C : Addr) : Prop where
  o : OexC K C
  ga : PySem.W.findIn K (.ref C) "__getattribute__" = some (some (.builtin "BaseException.__getattribute__"))
  gg : PySem.W.findIn K (.ref C) "__getattr__" = some none
  cl : PySem.W.findIn K (.ref C) "__class__" = some (some (.builtin "object.__class__"))
  hn : PySem.W.specialIn K (.builtin "object.__class__") "__get__" = some (some (.builtin "getset_descriptor.__get__"))
  ht : PySem.W.takesIn K (.builtin "object.__class__") = some true
  hm : PySem.W.mroIn K C (.type "object") = some true
theorem ErC.clsI {K : PySem.W.Frag} {C : Addr} (T : ErC K C) : (PySem.W.clsIn K C).isSome = true := by
  obtain ⟨nm, q, N, bs, bm, sn, sub, ab, col, dd, k0, k1, k2, k3, k5, hC, _⟩ := T.o.cls
  unfold PySem.W.clsIn
  rw [hC]
  rfl
theorem ErC.hd {K : PySem.W.Frag} {C : Addr} (T : ErC K C) : PySem.W.hasDictIn K C = true := by
  obtain ⟨nm, q, N, bs, bm, sn, sub, ab, col, dd, k0, k1, k2, k3, k5, hC, _⟩ := T.o.cls
  unfold PySem.W.hasDictIn PySem.W.clsIn
  rw [hC]
  rfl
inductive TyZ (K : PySem.W.Frag) (H : Hp) : V → Value → Prop where
  | base {x : V} {t : Value} (h : TyX K H x t) : TyZ K H x t
  | exc {a C d : Addr} {fs : List (Str × V)} (e : H a = some (exo a C (some d))) (ed : H d = some (exd d fs)) (T : ErC K C) : TyZ K H (.ref a) (.ref C)
  | excN {a C : Addr} (e : H a = some (exo a C none)) (T : ErC K C) : TyZ K H (.ref a) (.ref C)
section
variable {X : Cx} {pins : List (Addr × Obj)} {σ : L2.St} {H : Hp} {s : Shared}
theorem kit_ofZ {x : V} {u t : Value} (I : Inv X pins σ H s) (rx : RelV x u) (ty : TyZ X.K H x t) :
    ∃ P : Heap → Prop, PySem.W.KitX X.K u t P ∧ P s.heap ∧ u ≠ .builtin "__main__.__loader__#opaque" := by
  cases ty with
  | base b => exact kit_of I rx b
  | @exc a C d fs e ed T =>
    cases (show u = Value.ref a from rx)
    obtain ⟨t1, ho⟩ := exo_at I.hok e
    obtain ⟨mA, ⟨oD, es, ep, hoD, hrest⟩, rel⟩ := exd_at I.hok ed
    exact ⟨_, PySem.W.kitx_exc T.clsI T.ga T.gg T.o.exC T.cl T.hn T.ht T.hm,
      (⟨ho, rfl, rfl, hoD⟩ : PySem.W.InstAt s.heap a _ C (some oD)), fun z => nomatch z⟩
  | @excN a C e T =>
    cases (show u = Value.ref a from rx)
    obtain ⟨t1, ho⟩ := exo_at I.hok e
    exact ⟨_, PySem.W.kitx_exc T.clsI T.ga T.gg T.o.exC T.cl T.hn T.ht T.hm,
      (⟨ho, rfl, rfl, trivial⟩ : PySem.W.InstAt s.heap a _ C none), fun z => nomatch z⟩
end
def IsZ (K : PySem.W.Frag) (H : Hp) (x c : V) (b : Bool) : Prop := ∃ t : Value, TyZ K H x t ∧
  ((∃ u, ClsV c u ∧ PySem.W.kitOne K t u = some b) ∨
   (∃ (tp : Addr) (cs : List V) (us : List Value), c = .ref tp ∧ H tp = some (.tup cs) ∧ Paired ClsV cs us ∧ PySem.W.kitAny K t us = some b))
def rIsZ (K : PySem.W.Frag) : List V → Hp → VK → Prop := fun xs H Q => ∃ (x c : V) (b : Bool), xs = [x, c] ∧ IsZ K H x c b ∧ Q (.bl b) H
theorem call_isZ {X : Cx} : CallR X (.builtin "isinstance") (rIsZ X.K) := by
  intro pins s σ H xs us Q I r h
  obtain ⟨x, c, b, rfl, ⟨t, ty, way⟩, q⟩ := h
  obtain ⟨u1, u2, rfl, r1, r2⟩ := vals2 r
  obtain ⟨P, Z, p, hx⟩ := kit_ofZ I r1 ty
  rcases way with ⟨u, k, e⟩ | ⟨tp, cs, ws, rfl, hT, k, e⟩
  · have e2 := k.eq r2
    subst e2
    exact PySem.W.kia_one Z I.kIn p e hx fun tk => ⟨.bl b, H, I.tok tk, rfl, q⟩
  · cases (show u2 = Value.ref tp from r2)
    obtain ⟨_, its, rv, o, h1, h2, n, h3⟩ := (show ObjOk X.prog X.w H s.heap tp (.tup cs) from I.hok tp _ hT)
    have e3 := ClsV.all k rv
    subst e3
    obtain ⟨oc, od, dt, sl⟩ := o
    simp only at h2 h3
    subst h2 h3
    exact PySem.W.kia_tup Z I.kIn p h1 e hx fun tk => ⟨.bl b, H, I.tok tk, rfl, q⟩

def tExF (K : PySem.W.Frag) (f : Str) (te : TE) : TE := fun σ H Q => te σ H fun x H1 =>
  ∃ (a C d : Addr) (fs : List (Str × V)) (v : V), x = .ref a ∧ H1 a = some (exo a C (some d)) ∧ H1 d = some (exd d fs) ∧ ErC K C ∧
    PySem.W.findIn K (.ref C) f = some none ∧ fs.lookup f = some v ∧ Q v H1
theorem pe_exf {X : Cx} {e : Expr} {te : TE} {pos : Pos} {f : Str} (he : PE X e te)
    (hb : attributeBase e f X.env (eval e X.env) = eval e X.env := by rfl) : PE X (.Attribute e f pos) (tExF X.K f te) := by
  refine ⟨fun pins s σ H Q I h => ?_⟩
  refine attr_of hb (thn (he.run pins s σ H _ I h) fun u s1 hh => ?_)
  obtain ⟨x, H1, I1, rx, a, C, d, fs, v, ex, ea, ed, T, hno, hl, q⟩ := hh
  subst ex
  obtain rfl : u = Value.ref a := rx
  obtain ⟨t1, ho⟩ := exo_at I1.hok ea
  obtain ⟨mA, hns, hr⟩ := exd_at I1.hok ed
  obtain ⟨od, hod, hlk⟩ := lookIn_ns hns
  obtain ⟨u, hu, ru⟩ := RelO.some_of (v := v) (o := mA f) (by rw [← hl]; exact hr f)
  have J : PySem.W.InstAt s1.heap a _ C (some od) := ⟨ho, rfl, rfl, hod⟩
  exact HandSPX.exc_get I1.kIn J T.ga T.gg T.o.exC (PySem.W.findObj_own T.hd hno rfl (by rw [hlk, hu])) (handed_of ru)
    ⟨v, H1, I1.tok _, ru, q⟩

def spI (C : Addr) (fs : List Str) : Sp := fun vs H Q _ => ∃ (a : Addr) (ws : List V),
  vs = .ref a :: ws ∧ ws.length = fs.length ∧ H a = some (exo a C none) ∧
  ∀ d, H d = none → d ≠ a → Q .non (upd (upd H d (exd d (fs.zip ws).reverse)) a (exo a C (some d)))
section
variable {P : Program} {w : World} {K : PySem.W.Frag} {mg : Str → Option Value} {base : Heap} {C f : Addr} {fd : FuncData}
variable {qual g g1 g2 : Str} {params : Arguments} {scope : Scope} {p1 p2 p3 p4 q1 q2 q3 q4 : Pos}
theorem vis_of {N ps : List Str} {sc : Scope} (S : FnScope N ps sc) {x : Str} (h : x ∈ ps) : Vis sc x := by
  rcases S.par x h with q | q
  · exact .inl q
  · exact .inr (.inl q)
theorem init1 (F : FunD K "__init__" qual params [.Assign [.Attribute (.Name "self" p1) g p2] (.Name g p3) p4] scope [] [] f fd)
    (S : FnScope ["self", g] ["self", g] scope) (T : OexC K C) (hn : PySem.W.findIn K (.ref C) g = some none)
    (h1 : (g == ("__debug__" : Str)) = false) (h2 : (g == ("__classdict__" : Str)) = false) :
    FnOk P w K mg base CX0 1 f fd ["self", g] (spI C [g]) := by
  refine F.ok S (fun vs H Q E h => ?_) (fun cdv A outer s H vs Q E hr h => ⟨_, pss_one (ps_ost (pe_var (i := 0) rfl (vis_of S (by simp))) (pe_var (i := 1) rfl (vis_of S (by simp)) h1 h2)), ?_⟩)
  · obtain ⟨a, ws, rfl, hl, _⟩ := h
    exact congrArg Nat.succ hl
  · obtain ⟨a, ws, rfl, hl, ha, k⟩ := h
    match ws, hl with
    | [v], _ =>
      exact ⟨_, rfl, _, rfl, a, C, rfl, T, hn, .inl ⟨ha, fun d n ne => k d n ne⟩⟩
theorem init2 (F : FunD K "__init__" qual params [.Assign [.Attribute (.Name "self" p1) g1 p2] (.Name g1 p3) p4,
      .Assign [.Attribute (.Name "self" q1) g2 q2] (.Name g2 q3) q4] scope [] [] f fd)
    (S : FnScope ["self", g1, g2] ["self", g1, g2] scope) (T : OexC K C) (hn1 : PySem.W.findIn K (.ref C) g1 = some none) (hn2 : PySem.W.findIn K (.ref C) g2 = some none)
    (h1 : (g1 == ("__debug__" : Str)) = false) (h2 : (g1 == ("__classdict__" : Str)) = false)
    (h3 : (g2 == ("__debug__" : Str)) = false) (h4 : (g2 == ("__classdict__" : Str)) = false) :
    FnOk P w K mg base CX0 1 f fd ["self", g1, g2] (spI C [g1, g2]) := by
  refine F.ok S (fun vs H Q E h => ?_) (fun cdv A outer s H vs Q E hr h => ⟨_, pss_cons (ps_ost (pe_var (i := 0) rfl (vis_of S (by simp))) (pe_var (i := 1) rfl (vis_of S (by simp)) h1 h2))
    (pss_one (ps_ost (pe_var (i := 0) rfl (vis_of S (by simp))) (pe_var (i := 2) rfl (vis_of S (by simp)) h3 h4))), ?_⟩)
  · obtain ⟨a, ws, rfl, hl, _⟩ := h
    exact congrArg Nat.succ hl
  · obtain ⟨a, ws, rfl, hl, ha, k⟩ := h
    match ws, hl with
    | [v, u], _ =>
      refine ⟨_, rfl, _, rfl, a, C, rfl, T, hn1, .inl ⟨ha, fun d n ne => ?_⟩⟩
      refine ⟨_, rfl, _, rfl, a, C, rfl, T, hn2, .inr ⟨d, [(g1, v)], upd_same, ?_, by show 1 ≤ 900; decide, ?_⟩⟩
      · rw [upd_ne ne, upd_same]
      · have e : upd (upd (upd H d (exd d [(g1, v)])) a (exo a C (some d))) d (exd d [(g2, u), (g1, v)])
            = upd (upd H d (exd d [(g2, u), (g1, v)])) a (exo a C (some d)) := by
          funext b
          unfold upd
          by_cases hb : b = d
          · have hba : ¬ b = a := fun z => ne (hb.symm.trans z)
            simp [hb, ne]
          · simp [hb]
        show Q .non (upd (upd (upd H d (exd d [(g1, v)])) a (exo a C (some d))) d (exd d [(g2, u), (g1, v)]))
        rw [e]
        exact k d n ne
structure ErMk (P : Program) (w : World) (K : PySem.W.Frag) (mg : Str → Option Value) (base : Heap) (x : Str) (C : Addr) (fs : List Str) : Prop where
  gl : mg x = some (.ref C)
  er : ErC K C
  ini : ∃ (fI : Addr) (fd : FuncData), PySem.W.findIn K (.ref C) "__init__" = some (some (.ref fI)) ∧ PySem.W.typeIn K (.ref fI) = some (.type "function") ∧
    FnOk P w K mg base CX0 1 fI fd (("self" : Str) :: fs) (spI C fs) ∧ Binds K fd (("self" : Str) :: fs) [] ∧
    (∀ (s : Shared) (u : Value) (ws : List Value), ws.length = fs.length → BindsTo s fd ⟨[u], fs.reverse.zip ws⟩ ((("self" : Str) :: fs).zip (u :: ws.reverse)))
end
def tEr (C : Addr) (fs : List Str) (t : TA) : TE := fun σ H Q => t σ H fun vs H1 => vs.length = fs.length ∧ vs.length ≤ 1000 ∧
  ∀ a d, H1 a = none → H1 d = none → d ≠ a → Q (.ref a) (upd (upd H1 d (exd d (fs.zip vs).reverse)) a (exo a C (some d)))
def tErK (C : Addr) (fs : List Str) (t : TA) : TE := fun σ H Q => t σ H fun vs H1 => vs.length = fs.length ∧
  ∀ a d, H1 a = none → H1 d = none → d ≠ a → Q (.ref a) (upd (upd H1 d (exd d (fs.zip vs.reverse).reverse)) a (exo a C (some d)))
section
variable {X : Cx} {x : Str} {C : Addr} {fs : List Str} {j : Nat} {p pos : Pos} {e : Expr} {es : List Expr} {kws : List Keyword} {t : TA}
theorem run_er {pins : List (Addr × Obj)} {σ : L2.St} {H : Hp} {s : Shared} {Q : VK} {us : List Value} {kw : List (Str × Value)} {vs : List V} {ks : List Value}
    (M : ErMk X.prog X.w X.K X.mg X.base x C fs) (hr : Room 2 X.A) (I : Inv X pins σ H s) (r : Vals vs ks) (hl : vs.length = fs.length) (hu : us.length ≤ 1000)
    (hb : ∀ (fd : FuncData) (s : Shared) (u : Value), Binds X.K fd (("self" : Str) :: fs) [] → (∀ (s : Shared) (u : Value) (ws : List Value), ws.length = fs.length → BindsTo s fd ⟨[u], fs.reverse.zip ws⟩ ((("self" : Str) :: fs).zip (u :: ws.reverse))) →
      X.K.In s.heap → BindsTo s fd ⟨u :: us, kw⟩ ((("self" : Str) :: fs).zip (u :: ks)))
    (h : ∀ a d, H a = none → H d = none → d ≠ a → Q (.ref a) (upd (upd H d (exd d (fs.zip vs).reverse)) a (exo a C (some d)))) :
    wpAny (model X.prog X.w) X.A (call (.ref C) us kw) (EP X pins σ Q) X.xe s := by
  obtain ⟨fI, fd, iC, tI, F1, b1, b2⟩ := M.ini
  have T := M.er.o
  obtain ⟨nm, q, N, bs, bm, sn, sub, ab, col, dd, k0, k1, k2, k3, k5, hC, hbm⟩ := T.cls
  obtain ⟨hp, g, dr, tk, os⟩ := s
  have hsz : hp.objs.size ≤ hp.objs.size + 1 := Nat.le_succ _
  have hn : H (hp.objs.size + 1) = none := I.hok.fresh hsz
  have kk : ∀ b o, hp.get? b = some o → ((hp.push (PySem.W.kdv_tup us)).push (PySem.HandSPX.excO C hp.objs.size)).get? b = some o :=
    fun b o e => Heap.get?_push_of_some _ (Heap.get?_push_of_some _ e)
  have hget : ((hp.push (PySem.W.kdv_tup us)).push (PySem.HandSPX.excO C hp.objs.size)).get? (hp.objs.size + 1) = some (PySem.HandSPX.excO C hp.objs.size) := by heap_get
  have I2 : Inv X pins σ (upd H (hp.objs.size + 1) (exo (hp.objs.size + 1) C none)) ⟨(hp.push (PySem.W.kdv_tup us)).push (PySem.HandSPX.excO C hp.objs.size), g, dr, tk, os⟩ :=
    I.laid (t' := tk) (a := hp.objs.size + 1) (o := exo (hp.objs.size + 1) C none) (h' := (hp.push (PySem.W.kdv_tup us)).push (PySem.HandSPX.excO C hp.objs.size)) kk hsz (exo_ok hget)
  have r2 : Vals (V.ref (hp.objs.size + 1) :: vs) (Value.ref (hp.objs.size + 1) :: ks) := .cons rfl r
  have hus : us.length ≤ sizeLine := by rw [sizeLine_eq]; omega
  have hq : spI C fs (.ref (hp.objs.size + 1) :: vs) (upd H (hp.objs.size + 1) (exo (hp.objs.size + 1) C none)) (fun v H2 => v = .non ∧ Q (.ref (hp.objs.size + 1)) H2) (fun _ _ _ => False) := by
    refine ⟨_, vs, rfl, hl, upd_same, fun d n ne => ⟨rfl, ?_⟩⟩
    rw [upd_ne ne] at n
    have e : upd (upd (upd H (hp.objs.size + 1) (exo (hp.objs.size + 1) C none)) d (exd d (fs.zip vs).reverse)) (hp.objs.size + 1) (exo (hp.objs.size + 1) C (some d))
        = upd (upd H d (exd d (fs.zip vs).reverse)) (hp.objs.size + 1) (exo (hp.objs.size + 1) C (some d)) := by
      funext b
      unfold upd
      by_cases hb : b = hp.objs.size + 1
      · simp [hb]
      · simp [hb]
    rw [e]
    exact h _ d hn n ne
  have hr1 : Room (1 + 1) X.A := hr
  refine wpAny_call (callK F.excBase_ValueError (fun Y => PySem.HandSPX.refsVE_contains Y bm hbm) (I.kIn _ _ hC) (PySem.W.looks_findIn I.kIn iC)
    (fun self => PySem.W.bind_fn I.kIn self tI) hus
    (codeAny_mono (F1.run _ X.stack _ _ ⟨Value.ref (hp.objs.size + 1) :: us, kw⟩ (Value.ref (hp.objs.size + 1) :: ks) _ _ (fun _ _ _ => False) (hr1.make C us kw) (I2.env0.make C us kw)
      (hb fd _ _ b1 b2 I2.kIn) r2 hq) fun r s' hq' => ?_))
  cases r with
  | error er => exact hq'.elim
  | ok fl =>
    cases fl with
    | ret u =>
      obtain ⟨v, H2, J, rv, ev, q2⟩ := I2.after hq'
      subst ev
      exact ⟨rv, V.ref (hp.objs.size + 1), H2, J, rfl, q2⟩
    | next => exact False.elim hq'
    | brk => exact False.elim hq'
    | cont => exact False.elim hq'
theorem pe_er (M : ErMk X.prog X.w X.K X.mg X.base x C fs) (hr : Room j X.A) (hk : 2 ≤ j) (hg : Gl X x) (ha : PA X (e :: es) t)
    (hdb : (x == ("__debug__" : Str)) = false := by decide) (he : starEach (e :: es) X.env = (false, eval e X.env) :: starEach es X.env := by rfl)
    (hpl : (backTo pos (starEach es X.env)).any (·.1) = false := by rfl) : PE X (.Call (.Name x p) (e :: es) [] pos) (tEr C fs t) := by
  refine ⟨fun pins s σ H Q I h => ?_⟩
  refine wpAny_Call_Name_kw (ld_glob I hg M.gl ?_ hdb)
  refine PySem.W.callWith_K (h₀ := X.base) I.ok.mod.kin M.er.o.kC (thn (ha.run pos pins s σ H _ I h) fun us s1 ⟨vs, H1, I1, r, hl, hz, q⟩ => ⟨I1.kIn, ?_⟩) he hpl
  refine run_er (us := us) M (hr.mono hk) I1 r hl (by rw [← r.length]; exact hz) (fun fd s u b1 _ X1 => ?_) q
  have e1 : (u :: us).length = (("self" : Str) :: fs).length := by
    show us.length + 1 = fs.length + 1
    rw [← r.length, hl]
  have z := b1 s (u :: us) X1 (by rw [List.append_nil]; exact e1)
  rw [List.append_nil] at z
  exact z
theorem pe_erK {ks : List Str} (M : ErMk X.prog X.w X.K X.mg X.base x C fs) (hr : Room j X.A) (hk : 2 ≤ j) (hg : Gl X x) (hkw : PK X kws t) (hrev : ks = fs.reverse)
    (hall : (backToKw pos (keywordEach kws X.env)).all (·.1.isSome) = true := by rfl) (hks : (backToKw pos (keywordEach kws X.env)).filterMap (·.1) = ks := by rfl)
    (hdb : (x == ("__debug__" : Str)) = false := by decide)
    (hpl : ((backTo pos (starEach [] X.env)).any (·.1) || (backToKw pos (keywordEach kws X.env)).any (·.1.isNone)) = false := by rfl) :
    PE X (.Call (.Name x p) [] kws pos) (tErK C fs t) := by
  refine ⟨fun pins s σ H Q I h => ?_⟩
  refine wpAny_Call_Name_kw (ld_glob I hg M.gl ?_ hdb)
  refine PySem.W.callWith_KW0 (h₀ := X.base) I.ok.mod.kin M.er.o.kC hall (thn (hkw.run pos pins s σ H _ I h) fun ws s1 ⟨zs, H1, I1, r, hl, q⟩ => ⟨I1.kIn, ?_⟩) hpl
  rw [hks, hrev]
  have rr : Vals zs.reverse ws.reverse := by
    have aux : ∀ {xs : List V} {us : List Value}, Vals xs us → Vals xs.reverse us.reverse := by
      intro xs us r
      induction r with
      | nil => exact .nil
      | cons a b ih =>
        rw [List.reverse_cons, List.reverse_cons]
        exact ih.append (.cons a .nil)
    exact aux r
  refine run_er (us := []) M (hr.mono hk) I1 rr (by rw [List.length_reverse]; exact hl) (by decide) (fun fd s u _ b2 X1 => ?_) q
  exact b2 s u ws (by rw [← r.length]; exact hl)
end

structure MroIs (K : PySem.W.Frag) (C : Addr) (m : List Value) : Prop where
  ex : ∃ cd, PySem.W.clsIn K C = some cd ∧ cd.mro = .ref C :: m
theorem kit_ref {K : PySem.W.Frag} {C D : Addr} {m : List Value} (h : MroIs K C m) (TD : ErC K D) :
    PySem.W.kitOne K (.ref C) (.ref D) = some (decide (C = D) || m.contains (.ref D)) := by
  obtain ⟨cd, e1, e2⟩ := h.ex
  unfold PySem.W.kitOne PySem.W.kitCls PySem.W.subIn PySem.W.mroIn
  by_cases c : C = D
  · subst c
    simp
  · have n1 : (Value.ref C == Value.ref D) = false := by
      rw [beq_eq_false_iff_ne]
      exact fun z => c (Value.ref.inj z)
    have n2 : (Value.ref D == Value.ref C) = false := by
      rw [beq_eq_false_iff_ne]
      exact fun z => c (Value.ref.inj z).symm
    have n3 : ((PySem.W.clsIn K D).isSome && PySem.W.typeIn K (.ref D) == some (.type "type")) = true := by
      rw [TD.clsI, TD.o.tyC]
      rfl
    rw [n1, if_neg (by decide)]
    dsimp only
    rw [if_pos n3, e1, Option.bind_some, e2, if_neg (by simp), List.contains_cons, n2, decide_eq_false c]
theorem kit_bt {K : PySem.W.Frag} {C : Addr} {m : List Value} {T : String} (h : MroIs K C m) (ht : PySem.W.kitMeta T = true) :
    PySem.W.kitOne K (.ref C) (.type T) = some (m.contains (.type T)) := by
  obtain ⟨cd, e1, e2⟩ := h.ex
  unfold PySem.W.kitOne PySem.W.kitCls PySem.W.subIn PySem.W.mroIn
  have n1 : (Value.ref C == Value.type T) = false := by
    rw [beq_eq_false_iff_ne]
    exact fun z => nomatch z
  have n2 : (Value.type T == Value.ref C) = false := by
    rw [beq_eq_false_iff_ne]
    exact fun z => nomatch z
  rw [n1, if_neg (by decide)]
  dsimp only
  rw [if_pos ht, e1, Option.bind_some, e2, if_neg (by simp), List.contains_cons, n2, Bool.false_or]
theorem kitAny_false {K : PySem.W.Frag} {t : Value} : ∀ {cs : List Value}, (∀ c ∈ cs, PySem.W.kitOne K t c = some false) → PySem.W.kitAny K t cs = some false
  | [], _ => rfl
  | c :: r, h => kitAny_cons (h c List.mem_cons_self) (fun _ => kitAny_false fun d hd => h d (List.mem_cons_of_mem _ hd)) (fun z => nomatch z)
theorem kitAny_true {K : PySem.W.Frag} {t : Value} : ∀ {cs : List Value}, (∀ c ∈ cs, ∃ b, PySem.W.kitOne K t c = some b) → (∃ c ∈ cs, PySem.W.kitOne K t c = some true) → PySem.W.kitAny K t cs = some true
  | [], _, h => by
    obtain ⟨c, hc, _⟩ := h
    cases hc
  | c :: r, h, k => by
    obtain ⟨b, e⟩ := h c List.mem_cons_self
    refine kitAny_cons e (fun q => kitAny_true (fun d hd => h d (List.mem_cons_of_mem _ hd)) ?_) (fun _ => rfl)
    obtain ⟨d, hd, e2⟩ := k
    rcases List.mem_cons.mp hd with z | z
    · subst z
      rw [e2, q] at e
      cases e
    · exact ⟨d, z, e2⟩
theorem clsv_refs : ∀ Ds : List Addr, Paired ClsV (Ds.map V.ref) (Ds.map Value.ref)
  | [] => .nil
  | D :: r => .cons (.own D) (clsv_refs r)
abbrev above (S : Addr) : List Value := [.ref S, .type "ValueError", .type "Exception", .type "BaseException", .type "object"]
abbrev aboveS : List Value := [.type "ValueError", .type "Exception", .type "BaseException", .type "object"]
def ErrAt (K : PySem.W.Frag) (H : Hp) (a C : Addr) : Prop := ErC K C ∧ (H a = some (exo a C none) ∨ ∃ (d : Addr) (fs : List (Str × V)), H a = some (exo a C (some d)) ∧ H d = some (exd d fs))
theorem ErrAt.ty {K : PySem.W.Frag} {H : Hp} {a C : Addr} (h : ErrAt K H a C) : TyZ K H (.ref a) (.ref C) := by
  obtain ⟨T, e | ⟨d, fs, e, ed⟩⟩ := h
  · exact .excN e T
  · exact .exc e ed T
theorem ErrAt.keep {K : PySem.W.Frag} {H H' : Hp} {a C : Addr} (h : ErrAt K H a C) (k : ∀ b o, H b = some o → H' b = some o) : ErrAt K H' a C := by
  obtain ⟨T, e | ⟨d, fs, e, ed⟩⟩ := h
  · exact ⟨T, .inl (k _ _ e)⟩
  · exact ⟨T, .inr ⟨d, fs, k _ _ e, k _ _ ed⟩⟩
theorem ErrAt.there {K : PySem.W.Frag} {H : Hp} {a C : Addr} (h : ErrAt K H a C) : ∃ o, H a = Option.some o := by
  obtain ⟨T, e | ⟨d, fs, e, ed⟩⟩ := h
  · exact ⟨_, e⟩
  · exact ⟨_, e⟩
theorem er_new {H : Hp} {a d C : Addr} {K : PySem.W.Frag} {fs : List (Str × V)} (T : ErC K C) (ha : H a = none) (hd : H d = none) (ne : d ≠ a) :
    ErrAt K (upd (upd H d (exd d fs)) a (exo a C (some d))) a C ∧ (∀ b o, H b = Option.some o → upd (upd H d (exd d fs)) a (exo a C (some d)) b = Option.some o) :=
  ⟨⟨T, .inr ⟨d, fs, upd_same, by rw [upd_ne ne]; exact upd_same⟩⟩, fun b o e => by rw [upd_ne (ne_of_none e ha), upd_ne (ne_of_none e hd)]; exact e⟩
structure Er0 (K : PySem.W.Frag) (mg : Str → Option Value) (x : Str) (C : Addr) : Prop where
  gl : mg x = some (.ref C)
  er : ErC K C
  ex : PySem.W.excIn K C aboveS "ValueError.__new__" = true
def tEr0 (C : Addr) : TE := fun _ H Q => ∀ a, H a = none → Q (.ref a) (upd H a (exo a C none))
theorem pe_er0 {X : Cx} {x : Str} {C : Addr} {p pos : Pos} (M : Er0 X.K X.mg x C) (hg : Gl X x) (hdb : (x == ("__debug__" : Str)) = false := by decide) :
    PE X (.Call (.Name x p) [] [] pos) (tEr0 C) := by
  refine ⟨fun pins s σ H Q I h => ?_⟩
  refine wpAny_Call_Name_kw (ld_glob I hg M.gl ?_ hdb)
  refine PySem.W.callWith_K0 I.kIn M.er.o.kC ?_
  obtain ⟨bm, N, nm, qn, bs, hdct, sn, sub, ab, col, dd, k0, k1, k2, k3, k5, mN, hC, hN, hni, T⟩ := exc_obj I.kIn M.ex
  refine wpAny_call_exc_subT F.excBase_ValueError T hC hN hni (fun h' a hm => ?_) (by show 0 ≤ sizeLine; exact Nat.zero_le _)
  have hn : H a = none := I.hok.gone hm.new
  obtain ⟨t, ht, _, _⟩ := hm.there
  exact ⟨.ref a, upd H a (exo a C none), I.laidN hm.keeps hm.new hn (exo_ok ht), rfl, h a hn⟩
end SpE

set_option maxHeartbeats 4000000
namespace SpE
open PySem PySem.Spec PyProof.Rows L2
open C8 (Cal pe_c)
theorem bt_isinstance : bootBuiltins "isinstance" = some (.builtin "isinstance") := by decide +kernel
theorem bt_len : bootBuiltins "len" = some (.builtin "len") := by decide +kernel
theorem bt_abs : bootBuiltins "abs" = some (.builtin "abs") := by decide +kernel
theorem bt_all : bootBuiltins "all" = some (.builtin "all") := by decide +kernel
theorem bt_any : bootBuiltins "any" = some (.builtin "any") := by decide +kernel
theorem bt_max : bootBuiltins "max" = some (.builtin "max") := by decide +kernel
theorem bt_min : bootBuiltins "min" = some (.builtin "min") := by decide +kernel
theorem bt_int : bootBuiltins "int" = some (.type "int") := by decide +kernel
theorem bt_str : bootBuiltins "str" = some (.type "str") := by decide +kernel
theorem bt_bool : bootBuiltins "bool" = some (.type "bool") := by decide +kernel
theorem bt_list : bootBuiltins "list" = some (.type "list") := by decide +kernel
theorem bt_tuple : bootBuiltins "tuple" = some (.type "tuple") := by decide +kernel
theorem bt_dict : bootBuiltins "dict" = some (.type "dict") := by decide +kernel
theorem bt_ValueError : bootBuiltins "ValueError" = some (.type "ValueError") := by decide +kernel
theorem bt_KeyError : bootBuiltins "KeyError" = some (.type "KeyError") := by decide +kernel
theorem bt_IndexError : bootBuiltins "IndexError" = some (.type "IndexError") := by decide +kernel
theorem bt_TypeError : bootBuiltins "TypeError" = some (.type "TypeError") := by decide +kernel
structure Blt (mg : Str → Option Value) : Prop where
  isinstance : mg "isinstance" = none
  len : mg "len" = none
  abs : mg "abs" = none
  all : mg "all" = none
  any : mg "any" = none
  max : mg "max" = none
  min : mg "min" = none
  int : mg "int" = none
  str : mg "str" = none
  bool : mg "bool" = none
  list : mg "list" = none
  tuple : mg "tuple" = none
  dict : mg "dict" = none
  range : mg "range" = none
  zip : mg "zip" = none
  ValueError : mg "ValueError" = none
  KeyError : mg "KeyError" = none
  IndexError : mg "IndexError" = none
  TypeError : mg "TypeError" = none
def bltNames : List Str := ["isinstance", "len", "abs", "all", "any", "max", "min", "int", "str", "bool", "list", "tuple", "dict", "range", "zip", "ValueError", "KeyError", "IndexError", "TypeError"]
theorem blt_of {mg : Str → Option Value} (h : ∀ x ∈ bltNames, mg x = none) : Blt mg := by
  constructor <;> exact h _ (by decide)
abbrev DefOf (K : PySem.W.Frag) (x : Str) (st : Stmt) (f : Addr) (fd : FuncData) : Prop := FunD K x x (defArgs st) (defBody st) (defScope st) [] [] f fd
section
variable {P : Program} {w : World} {K : PySem.W.Frag} {mg : Str → Option Value} {base : Heap}
theorem cal_of {x : Str} {st : Stmt} {f : Addr} {fd : FuncData} {N ps : List Str} {k : Nat} {sp : Sp} (F : DefOf K x st f fd) (g : mg x = some (.ref f)) (b : Binds K fd ps [])
    (S : FnScope N ps (defScope st)) (len : ∀ vs H Q E, sp vs H Q E → vs.length = ps.length)
    (hbody : ∀ (cdv : Value) (A : Around) (outer : List Env) (s : Shared) (H : Hp) (vs : List V) (Q : VK) (E : XK), Room k (A.deeper (envOfC x (defScope st) s.heap.objs.size f cdv)) → sp vs H Q E →
      ∃ t, PSs (cxOf CX0 P w K mg base N x (defScope st) f cdv A outer s H E).nox (defBody st) t ∧ t { nx := fun _ H' => Q .non H', rt := Q } (start N vs) H) :
    Cal P w K mg base (k + 1) x sp [] := by
  refine ⟨f, fd, ps, [], F.ok S len (fun cdv A outer s H vs Q E hr h => ?_), g, F.kp, b, .nil⟩
  obtain ⟨t, h1, h2⟩ := hbody cdv A outer s H vs Q E hr h
  exact ⟨t, h1.nox, h2⟩
end
structure StA (H : Hp) (a b : Addr) (c : Nat) : Prop where
  ex : ∃ (d n m : Int) (ns : List Int), H a = some (.lst [.ref b, .int d, .int n, .int m]) ∧ H b = some (.lst (ns.map V.int)) ∧ 0 ≤ d ∧ 0 ≤ n ∧ n ≤ c ∧ 0 ≤ m ∧ m < 2147483647
theorem StA.ne {H : Hp} {a b : Addr} {c : Nat} (h : StA H a b c) : a ≠ b := by
  obtain ⟨d, n, m, ns, ha, hb, _⟩ := h.ex
  intro e
  subst e
  rw [ha] at hb
  have z := HO.lst.inj (Option.some.inj hb)
  cases ns with
  | nil => cases z
  | cons x r => cases z
theorem StA.mono {H : Hp} {a b : Addr} {c c' : Nat} (h : StA H a b c) (l : c ≤ c') : StA H a b c' := by
  obtain ⟨d, n, m, ns, ha, hb, h1, h2, h3, h4, h5⟩ := h.ex
  exact ⟨d, n, m, ns, ha, hb, h1, h2, by omega, h4, h5⟩
theorem StA.keep {H H' : Hp} {a b : Addr} {c : Nat} (h : StA H a b c) (k : ∀ x o, H x = some o → H' x = some o) : StA H' a b c := by
  obtain ⟨d, n, m, ns, ha, hb, r⟩ := h.ex
  exact ⟨d, n, m, ns, k _ _ ha, k _ _ hb, r⟩
theorem StA.keepB {H H' : Hp} {a b : Addr} {c : Nat} (h : StA H a b c) (k : H' a = H a) (k2 : H' b = H b) : StA H' a b c := by
  obtain ⟨d, n, m, ns, ha, hb, r⟩ := h.ex
  exact ⟨d, n, m, ns, k.trans ha, k2.trans hb, r⟩
def SameB (a b : Addr) (H H' : Hp) : Prop := ∀ x o, x ≠ a → x ≠ b → H x = some o → H' x = some o
theorem SameB.refl (a b : Addr) (H : Hp) : SameB a b H H := fun _ _ _ _ h => h
theorem SameB.trans {a b : Addr} {H H1 H2 : Hp} (h : SameB a b H H1) (k : SameB a b H1 H2) : SameB a b H H2 := fun x o n m e => k x o n m (h x o n m e)
theorem sameB_of {a b : Addr} {H H' : Hp} (h : Same H H') : SameB a b H H' := fun x o _ _ e => h x o e
theorem same_upd {H : Hp} {p : Addr} {o : HO} (n : H p = none) : Same H (upd H p o) := fun b u e => by rw [upd_ne (ne_of_none e n)]; exact e
theorem sameB_a {a b : Addr} {H : Hp} {o : HO} : SameB a b H (upd H a o) := fun x u n _ e => by rw [upd_ne n]; exact e
theorem sameB_b {a b : Addr} {H : Hp} {o : HO} : SameB a b H (upd H b o) := fun x u _ n e => by rw [upd_ne n]; exact e
def spStart (K : PySem.W.Frag) : Sp := fun vs H Q _ => ∃ (l : Addr) (ns : List Int), vs = [.ref l] ∧ SqL K H l (ns.map V.int) ∧
  ∀ a b H', H a = none → H b = none → StA H' a b 0 → Same H H' → Q (.ref a) H'
def spPick : Sp := fun vs H Q _ => ∃ (a b : Addr) (c : Nat) (many : Int), vs = [.ref a, .int many] ∧ StA H a b c ∧ c < 1099511627776 ∧ 1 ≤ many ∧ many < 1073741824 ∧
  ∀ r H', 0 ≤ r → r < many → StA H' a b (c + 1) → SameB a b H H' → Q (.int r) H'
theorem dp_ints {K : PySem.W.Frag} {H : Hp} : ∀ ns : List Int, DpAll K H (ns.map V.int) (ns.map PyData.int)
  | [] => .nil
  | n :: r => .cons (.int n) (dp_ints r)
theorem eqv_ints_nil : ∀ ns : List Int, PyData.eqv (.list (ns.map PyData.int)) (.list []) = ns.isEmpty
  | [] => by simp [PyData.eqv, PyData.eqvAll]
  | n :: r => by simp [PyData.eqv, PyData.eqvAll]
theorem while_k {c : TT} {tb : TS} {D : Ends} {σ : L2.St} {H : Hp} (W : Nat → L2.St → Hp → Prop) (B : L2.St → Hp → Prop) (m0 : Nat) (h0 : W m0 σ H)
    (step : ∀ m σ H, W m σ H → ∀ (NX : L2.St → Hp → Prop), (∀ σ' H', B σ' H' → NX σ' H') → c σ H fun b H1 => if b = true then ∃ N : L2.St → Hp → Prop,
      (∀ σ' H', N σ' H' → ∃ m', m' < m ∧ W m' σ' H') ∧ tb { D with nx := N, ct := N, bk := NX } σ H1 else NX σ H1)
    (fin : ∀ σ H, B σ H → D.nx σ H) : tWhile c tb D σ H := ⟨W, ⟨m0, h0⟩, fun m σ H h => step m σ H h D.nx fin⟩
theorem fm0 (x : Int) {m : Int} (h : 0 < m) : 0 ≤ x.fmod m := by
  rw [Int.fmod_eq_emod_of_nonneg x (by omega)]
  exact Int.emod_nonneg _ (by omega)
theorem fm1 (x : Int) {m : Int} (h : 0 < m) : x.fmod m < m := by
  rw [Int.fmod_eq_emod_of_nonneg x (by omega)]
  exact Int.emod_lt_of_pos _ h
theorem lc_zipL {K : PySem.W.Frag} {a b : Addr} {xs ys : List V} {g : TG} {tt : TT} {te : TE} {vs : List Nat} {σ : L2.St} {H1 : Hp} {D : Addr} {Qd : Hp → Prop} (hl : xs.length = ys.length) (Pv : Nat → Hp → Prop)
    (h0 : Pv 0 (upd H1 D (.lst []))) (hq : ∀ i H, Pv i H → SqL K H a xs ∧ SqL K H b ys)
    (hs : ∀ (i : Nat) (x y : V) (T : Addr) (H : Hp), xs[i]? = some x → ys[i]? = some y → Pv i H → H T = none → g (.ref T) (wipe σ vs) (upd H T (.tup [x, y])) fun σ2 H2 => wipe σ2 vs = wipe σ vs ∧ tt σ2 H2 fun b H3 =>
      if b = true then te σ2 H3 fun y H4 => ∃ acc, H4 D = some (.lst acc) ∧ acc.length < sizeLine ∧ Pv (i + 1) (upd H4 D (.lst (acc ++ [y]))) else Pv (i + 1) H3) (hd : ∀ H, Pv xs.length H → Qd H) :
    ∃ W : Nat → Nat → Hp → Prop, (∃ m, W 0 m (upd H1 D (.lst []))) ∧ ∀ i m H, W i m H →
      ((Itz K a b).stop i H ∧ Qd H) ∨ ((Itz K a b).go i H ∧ ∃ Nx : Hp → Prop, (∀ H', Nx H' → ∃ m', m' < m ∧ W (i + 1) m' H') ∧ ∀ x H', (Itz K a b).yld i H x H' → g x (wipe σ vs) H' fun σ2 H2 => wipe σ2 vs = wipe σ vs ∧ tt σ2 H2 fun b H3 =>
        if b = true then te σ2 H3 fun y H4 => ∃ acc, H4 D = some (.lst acc) ∧ acc.length < sizeLine ∧ Nx (upd H4 D (.lst (acc ++ [y]))) else Nx H3) := by
  refine ⟨fun i m H => m = xs.length - i ∧ i ≤ xs.length ∧ Pv i H, ⟨xs.length, rfl, Nat.zero_le _, h0⟩, ?_⟩
  rintro i m H ⟨rfl, hi, p⟩
  obtain ⟨qx, qy⟩ := hq i H p
  by_cases hlt : i < xs.length
  · have hx : xs[i]? = some xs[i] := List.getElem?_eq_getElem hlt
    have hlt2 : i < ys.length := by omega
    have hy : ys[i]? = some ys[i] := List.getElem?_eq_getElem hlt2
    refine .inr ⟨⟨xs, ys, _, _, qx, qy, hx, hy⟩, Pv (i + 1), fun H' p' => ⟨xs.length - (i + 1), by omega, rfl, hlt, p'⟩, fun v H' y => ?_⟩
    obtain ⟨T, x', y', rfl, hT, rfl, f1, f2⟩ := y
    exact hs i x' y' T H (f1 xs qx) (f2 ys qy) p hT
  · have e : i = xs.length := by omega
    subst e
    exact .inl ⟨⟨xs, ys, qx, qy, Or.inl (Nat.le_refl _)⟩, hd H p⟩
theorem lc_zipT {K : PySem.W.Frag} {a b : Addr} {xs ys : List V} {g : TG} {tt : TT} {te : TE} {vs : List Nat} {σ : L2.St} {H1 : Hp} {D : Addr} {Qd : Hp → Prop} (hl : xs.length = ys.length) (Pv : Nat → Hp → Prop)
    (h0 : Pv 0 (upd H1 D (.lst []))) (hq : ∀ i H, Pv i H → SqT K H a xs ∧ SqT K H b ys)
    (hs : ∀ (i : Nat) (x y : V) (T : Addr) (H : Hp), xs[i]? = some x → ys[i]? = some y → Pv i H → H T = none → g (.ref T) (wipe σ vs) (upd H T (.tup [x, y])) fun σ2 H2 => wipe σ2 vs = wipe σ vs ∧ tt σ2 H2 fun b H3 =>
      if b = true then te σ2 H3 fun y H4 => ∃ acc, H4 D = some (.lst acc) ∧ acc.length < sizeLine ∧ Pv (i + 1) (upd H4 D (.lst (acc ++ [y]))) else Pv (i + 1) H3) (hd : ∀ H, Pv xs.length H → Qd H) :
    ∃ W : Nat → Nat → Hp → Prop, (∃ m, W 0 m (upd H1 D (.lst []))) ∧ ∀ i m H, W i m H →
      ((RZ.ItzT K a b).stop i H ∧ Qd H) ∨ ((RZ.ItzT K a b).go i H ∧ ∃ Nx : Hp → Prop, (∀ H', Nx H' → ∃ m', m' < m ∧ W (i + 1) m' H') ∧ ∀ x H', (RZ.ItzT K a b).yld i H x H' → g x (wipe σ vs) H' fun σ2 H2 => wipe σ2 vs = wipe σ vs ∧ tt σ2 H2 fun b H3 =>
        if b = true then te σ2 H3 fun y H4 => ∃ acc, H4 D = some (.lst acc) ∧ acc.length < sizeLine ∧ Nx (upd H4 D (.lst (acc ++ [y]))) else Nx H3) := by
  refine ⟨fun i m H => m = xs.length - i ∧ i ≤ xs.length ∧ Pv i H, ⟨xs.length, rfl, Nat.zero_le _, h0⟩, ?_⟩
  rintro i m H ⟨rfl, hi, p⟩
  obtain ⟨qx, qy⟩ := hq i H p
  by_cases hlt : i < xs.length
  · have hx : xs[i]? = some xs[i] := List.getElem?_eq_getElem hlt
    have hlt2 : i < ys.length := by omega
    have hy : ys[i]? = some ys[i] := List.getElem?_eq_getElem hlt2
    refine .inr ⟨⟨xs, ys, _, _, qx, qy, hx, hy⟩, Pv (i + 1), fun H' p' => ⟨xs.length - (i + 1), by omega, rfl, hlt, p'⟩, fun v H' y => ?_⟩
    obtain ⟨T, x', y', rfl, hT, rfl, f1, f2⟩ := y
    exact hs i x' y' T H (f1 xs qx) (f2 ys qy) p hT
  · have e : i = xs.length := by omega
    subst e
    exact .inl ⟨⟨xs, ys, qx, qy, Or.inl (Nat.le_refl _)⟩, hd H p⟩
theorem lc_keys {d : Addr} {o : Obj} {kvs : List (Key × V)} {g : TG} {tt : TT} {te : TE} {vs : List Nat} {σ : L2.St} {H1 : Hp} {D : Addr} {Qd : Hp → Prop} (Pv : Nat → Hp → Prop)
    (h0 : Pv 0 (upd H1 D (.lst []))) (hq : ∀ i H, Pv i H → H d = some (.frz o (.dK kvs)))
    (hs : ∀ (i : Nat) (k : Key) (v : V) (H : Hp), kvs[i]? = some (k, v) → Pv i H → g (kV k) (wipe σ vs) H fun σ2 H2 => wipe σ2 vs = wipe σ vs ∧ tt σ2 H2 fun b H3 =>
      if b = true then te σ2 H3 fun y H4 => ∃ acc, H4 D = some (.lst acc) ∧ acc.length < sizeLine ∧ Pv (i + 1) (upd H4 D (.lst (acc ++ [y]))) else Pv (i + 1) H3) (hd : ∀ H, Pv kvs.length H → Qd H) :
    ∃ W : Nat → Nat → Hp → Prop, (∃ m, W 0 m (upd H1 D (.lst []))) ∧ ∀ i m H, W i m H →
      ((Itk d o kvs).stop i H ∧ Qd H) ∨ ((Itk d o kvs).go i H ∧ ∃ Nx : Hp → Prop, (∀ H', Nx H' → ∃ m', m' < m ∧ W (i + 1) m' H') ∧ ∀ x H', (Itk d o kvs).yld i H x H' → g x (wipe σ vs) H' fun σ2 H2 => wipe σ2 vs = wipe σ vs ∧ tt σ2 H2 fun b H3 =>
        if b = true then te σ2 H3 fun y H4 => ∃ acc, H4 D = some (.lst acc) ∧ acc.length < sizeLine ∧ Nx (upd H4 D (.lst (acc ++ [y]))) else Nx H3) := by
  refine ⟨fun i m H => m = kvs.length - i ∧ i ≤ kvs.length ∧ Pv i H, ⟨kvs.length, rfl, Nat.zero_le _, h0⟩, ?_⟩
  rintro i m H ⟨rfl, hi, p⟩
  have q := hq i H p
  by_cases hlt : i < kvs.length
  · refine .inr ⟨⟨q, hlt⟩, Pv (i + 1), fun H' p' => ⟨kvs.length - (i + 1), by omega, rfl, hlt, p'⟩, fun v H' y => ?_⟩
    obtain ⟨e, k, v', e2, e3⟩ := y
    subst e e3
    exact hs i k v' _ e2 p
  · have e : i = kvs.length := by omega
    subst e
    exact .inl ⟨⟨q, Nat.le_refl _⟩, hd H p⟩
def tLock2 (t : TE) : TE := fun σ H Q => tLockE t σ H Q ∨ t σ H Q
theorem pe_lock2 {X : Cx} {e : Expr} {t : TE} (h : PE X e t) : PE X e (tLock2 t) :=
  ⟨fun pins s σ H Q I hw => hw.elim ((pe_lock h).run pins s σ H Q I) (h.run pins s σ H Q I)⟩
theorem seqIndex0 (n : Nat) : seqIndex? 0 (n + 1) = some 0 := by
  unfold seqIndex?
  simp
def pickW (a b : Addr) (many n : Int) (H0 : Hp) : Nat → L2.St → Hp → Prop := fun m σ H => ∃ (vc : Option V) (d s : Int) (ns : List Int),
  σ = [some (.ref a), some (.int many), vc, none, none] ∧ m = ns.length ∧ H a = some (.lst [.ref b, .int d, .int n, .int s]) ∧ H b = some (.lst (ns.map V.int)) ∧
  0 ≤ d ∧ 0 ≤ s ∧ s < 2147483647 ∧ SameB a b H0 H
def pickB (a b : Addr) (many n : Int) (H0 : Hp) : L2.St → Hp → Prop := fun σ H => ∃ m, pickW a b many n H0 m σ H
section
variable {X : Cx} {K : PySem.W.Frag}
theorem ix_listK (h : X.K = K) : IxR X (rIxL K) := by subst h; exact ix_list
theorem ix_tupK (h : X.K = K) : IxR X (rIxT K) := by subst h; exact ix_tup
theorem call_isZK (h : X.K = K) : CallR X (.builtin "isinstance") (rIsZ K) := by subst h; exact call_isZ
def rLenSeq (K : PySem.W.Frag) : List V → Hp → VK → Prop := fun xs H Q => ∃ p ys, xs = [.ref p] ∧ (SqL K H p ys ∨ SqT K H p ys) ∧ Q (.int ys.length) H
theorem call_len_seqK (h : X.K = K) : CallR X (.builtin "len") (rLenSeq K) := by subst h; exact call_len_seq
def rListOf (K : PySem.W.Frag) : List V → Hp → VK → Prop := fun xs H Q => ∃ p ys, xs = [.ref p] ∧ (SqL K H p ys ∨ SqT K H p ys) ∧ ∀ l, H l = none → Q (.ref l) (upd H l (.lst ys))
theorem call_list_ofK (h : X.K = K) : CallR X (.type "list") (rListOf K) := by subst h; exact call_list_of
theorem cr_allK (h : X.K = K) (hc : X.calm = true) : CallR X (.builtin "all") (rAll K) := by subst h; exact cr_all hc
theorem op_eqDK (h : X.K = K) (hu : X.A.units + 64 < cLine) : OpR X (compareOp .Eq) (rEqD K) := by subst h; exact op_eqD hu
theorem op_neDK (h : X.K = K) (hu : X.A.units + 64 < cLine) : OpR X (compareOp .NotEq) (rNeD K) := by subst h; exact op_neD hu
theorem pe_exfK {e : Expr} {te : TE} {pos : Pos} {f : Str} (h : X.K = K) (he : PE X e te)
    (hb : attributeBase e f X.env (eval e X.env) = eval e X.env := by rfl) : PE X (.Attribute e f pos) (tExF K f te) := by subst h; exact pe_exf he hb
end
end SpE

set_option maxHeartbeats 4000000
namespace SpE
open PySem PySem.Spec PyProof.Rows L2
open C8 (Cal pe_c)
def keyD : Key → PyData
  | .inl i => .int i
  | .inr x => .str x
mutual
inductive Dt (K : PySem.W.Frag) (H : Hp) : V → PyData → Prop
  | non : Dt K H .non .none
  | bl (b : Bool) : Dt K H (.bl b) (.bool b)
  | int (i : Int) : Dt K H (.int i) (.int i)
  | str (x : Str) : Dt K H (.str x) (.str x)
  | lst {a : Addr} {xs : List V} {ds : List PyData} (q : SqL K H a xs) (z : xs.length ≤ sizeLine) (h : DtAll K H xs ds) : Dt K H (.ref a) (.list ds)
  | tup {a : Addr} {xs : List V} {ds : List PyData} (q : SqT K H a xs) (z : xs.length ≤ sizeLine) (h : DtAll K H xs ds) : Dt K H (.ref a) (.tuple ds)
  | dct {a : Addr} {kvs : List (Key × V)} {ds : List (PyData × PyData)} (q : Rd H a (.dK kvs)) (n : (kvs.map (·.1)).Nodup) (z : kvs.length ≤ sizeLine)
      (e : ds.map (·.1) = kvs.map fun p => keyD p.1) (h : DtAll K H (kvs.map (·.2)) (ds.map (·.2))) : Dt K H (.ref a) (.dict ds)
inductive DtAll (K : PySem.W.Frag) (H : Hp) : List V → List PyData → Prop
  | nil : DtAll K H [] []
  | cons {v : V} {vs : List V} {d : PyData} {ds : List PyData} : Dt K H v d → DtAll K H vs ds → DtAll K H (v :: vs) (d :: ds)
end
def SameR (H H' : Hp) : Prop := ∀ a u, Rd H a u → Rd H' a u
theorem sameR_of {H H' : Hp} (s : Same H H') : SameR H H' := fun a u r => by
  rcases r with r | ⟨o, r⟩
  · exact .inl (s _ _ r)
  · exact .inr ⟨o, s _ _ r⟩
theorem sqL_r {K : PySem.W.Frag} {H H' : Hp} {a : Addr} {xs : List V} (s : SameR H H') (h : SqL K H a xs) : SqL K H' a xs := h.elim (fun z => .inl (s _ _ z)) .inr
theorem sqT_r {K : PySem.W.Frag} {H H' : Hp} {a : Addr} {xs : List V} (s : SameR H H') (h : SqT K H a xs) : SqT K H' a xs := h.elim (fun z => .inl (s _ _ z)) .inr
section
variable {K : PySem.W.Frag} {H H' : Hp}
mutual
theorem Dt.keepR (s : SameR H H') : ∀ {v : V} {d : PyData}, Dt K H v d → Dt K H' v d
  | _, _, .non => .non
  | _, _, .bl b => .bl b
  | _, _, .int i => .int i
  | _, _, .str x => .str x
  | _, _, .lst q z h => .lst (sqL_r s q) z (DtAll.keepR s h)
  | _, _, .tup q z h => .tup (sqT_r s q) z (DtAll.keepR s h)
  | _, _, .dct q n z e h => .dct (s _ _ q) n z e (DtAll.keepR s h)
theorem DtAll.keepR (s : SameR H H') : ∀ {vs : List V} {ds : List PyData}, DtAll K H vs ds → DtAll K H' vs ds
  | _, _, .nil => .nil
  | _, _, .cons h t => .cons (Dt.keepR s h) (DtAll.keepR s t)
end
theorem Dt.keep (s : Same H H') {v : V} {d : PyData} (h : Dt K H v d) : Dt K H' v d := h.keepR (sameR_of s)
theorem DtAll.keep (s : Same H H') {vs : List V} {ds : List PyData} (h : DtAll K H vs ds) : DtAll K H' vs ds := h.keepR (sameR_of s)
theorem DtAll.length : ∀ {vs : List V} {ds : List PyData}, DtAll K H vs ds → vs.length = ds.length
  | _, _, .nil => rfl
  | _, _, .cons _ t => congrArg Nat.succ t.length
theorem DtAll.get : ∀ {vs : List V} {ds : List PyData} {i : Nat} {v : V}, DtAll K H vs ds → vs[i]? = some v → ∃ d, ds[i]? = some d ∧ Dt K H v d
  | _, _, _, _, .nil, e => by simp at e
  | _, _, 0, _, .cons h _, e => by
    have e' := Option.some.inj e
    subst e'
    exact ⟨_, rfl, h⟩
  | _, _, i + 1, _, .cons _ t, e => DtAll.get (i := i) t e
theorem DtAll.append : ∀ {vs ws : List V} {ds es : List PyData}, DtAll K H vs ds → DtAll K H ws es → DtAll K H (vs ++ ws) (ds ++ es)
  | _, _, _, _, .nil, t => t
  | _, _, _, _, .cons h t, u => .cons h (DtAll.append t u)
theorem dt_key (k : Key) : Dt K H (kV k) (keyD k) := by
  cases k with
  | inl i => exact .int i
  | inr x => exact .str x
theorem dt_keys : ∀ kvs : List (Key × V), DtAll K H (kvs.map fun p => kV p.1) (kvs.map fun p => keyD p.1)
  | [] => .nil
  | p :: r => .cons (dt_key p.1) (dt_keys r)
def tyN : PyData → String
  | .none => "NoneType"
  | .bool _ => "bool"
  | .int _ => "int"
  | .str _ => "str"
  | .list _ => "list"
  | .tuple _ => "tuple"
  | .dict _ => "dict"
theorem ty_sqL {a : Addr} {xs : List V} (h : SqL K H a xs) : TyZ K H (.ref a) (.type "list") := by
  rcases h with (h | ⟨o, h⟩) | ⟨o, its, n, h, c, _⟩
  · exact .base (.base (.lst h))
  · exact .base (.base (.frz h))
  · exact .base (.kList h c)
theorem ty_sqT {a : Addr} {xs : List V} (h : SqT K H a xs) : TyZ K H (.ref a) (.type "tuple") := by
  rcases h with (h | ⟨o, h⟩) | ⟨o, its, n, h, c, _⟩
  · exact .base (.base (.tup h))
  · exact .base (.fTuple h)
  · exact .base (.kTuple h c)
theorem ty_dK {a : Addr} {kvs : List (Key × V)} (h : Rd H a (.dK kvs)) : TyZ K H (.ref a) (.type "dict") := by
  rcases h with h | ⟨o, h⟩
  · exact .base (.base (.dK h))
  · exact .base (.fDict h)
theorem Dt.ty {v : V} {d : PyData} (h : Dt K H v d) : TyZ K H v (.type (tyN d)) := by
  cases h with
  | non => exact .base (.base .non)
  | bl b => exact .base (.base (.bl b))
  | int i => exact .base (.base (.int i))
  | str x => exact .base (.base (.str x))
  | lst q _ _ => exact ty_sqL q
  | tup q _ _ => exact ty_sqT q
  | dct q _ _ _ _ => exact ty_dK q
theorem kb_NoneType_bool : kitB "NoneType" "bool" = some false := by decide +kernel
theorem kb_NoneType_int : kitB "NoneType" "int" = some false := by decide +kernel
theorem kb_NoneType_str : kitB "NoneType" "str" = some false := by decide +kernel
theorem kb_NoneType_list : kitB "NoneType" "list" = some false := by decide +kernel
theorem kb_NoneType_tuple : kitB "NoneType" "tuple" = some false := by decide +kernel
theorem kb_NoneType_dict : kitB "NoneType" "dict" = some false := by decide +kernel
theorem kb_bool_bool : kitB "bool" "bool" = some true := by decide +kernel
theorem kb_bool_int : kitB "bool" "int" = some true := by decide +kernel
theorem kb_bool_str : kitB "bool" "str" = some false := by decide +kernel
theorem kb_bool_list : kitB "bool" "list" = some false := by decide +kernel
theorem kb_bool_tuple : kitB "bool" "tuple" = some false := by decide +kernel
theorem kb_bool_dict : kitB "bool" "dict" = some false := by decide +kernel
theorem kb_int_bool : kitB "int" "bool" = some false := by decide +kernel
theorem kb_int_int : kitB "int" "int" = some true := by decide +kernel
theorem kb_int_str : kitB "int" "str" = some false := by decide +kernel
theorem kb_int_list : kitB "int" "list" = some false := by decide +kernel
theorem kb_int_tuple : kitB "int" "tuple" = some false := by decide +kernel
theorem kb_int_dict : kitB "int" "dict" = some false := by decide +kernel
theorem kb_str_bool : kitB "str" "bool" = some false := by decide +kernel
theorem kb_str_int : kitB "str" "int" = some false := by decide +kernel
theorem kb_str_str : kitB "str" "str" = some true := by decide +kernel
theorem kb_str_list : kitB "str" "list" = some false := by decide +kernel
theorem kb_str_tuple : kitB "str" "tuple" = some false := by decide +kernel
theorem kb_str_dict : kitB "str" "dict" = some false := by decide +kernel
theorem kb_list_bool : kitB "list" "bool" = some false := by decide +kernel
theorem kb_list_int : kitB "list" "int" = some false := by decide +kernel
theorem kb_list_str : kitB "list" "str" = some false := by decide +kernel
theorem kb_list_list : kitB "list" "list" = some true := by decide +kernel
theorem kb_list_tuple : kitB "list" "tuple" = some false := by decide +kernel
theorem kb_list_dict : kitB "list" "dict" = some false := by decide +kernel
theorem kb_tuple_bool : kitB "tuple" "bool" = some false := by decide +kernel
theorem kb_tuple_int : kitB "tuple" "int" = some false := by decide +kernel
theorem kb_tuple_str : kitB "tuple" "str" = some false := by decide +kernel
theorem kb_tuple_list : kitB "tuple" "list" = some false := by decide +kernel
theorem kb_tuple_tuple : kitB "tuple" "tuple" = some true := by decide +kernel
theorem kb_tuple_dict : kitB "tuple" "dict" = some false := by decide +kernel
theorem kb_dict_bool : kitB "dict" "bool" = some false := by decide +kernel
theorem kb_dict_int : kitB "dict" "int" = some false := by decide +kernel
theorem kb_dict_str : kitB "dict" "str" = some false := by decide +kernel
theorem kb_dict_list : kitB "dict" "list" = some false := by decide +kernel
theorem kb_dict_tuple : kitB "dict" "tuple" = some false := by decide +kernel
theorem kb_dict_dict : kitB "dict" "dict" = some true := by decide +kernel
theorem isz1 {v : V} {d : PyData} {T : String} {b : Bool} (h : Dt K H v d) (e : kitB (tyN d) T = some b) : IsZ K H v (.ty T) b :=
  ⟨_, h.ty, .inl ⟨_, .ty T, kit_ty e⟩⟩
theorem isz2 {v : V} {d : PyData} {T U : String} {b c : Bool} {p : Addr} (h : Dt K H v d) (hp : H p = some (.tup [.ty T, .ty U])) (e : kitB (tyN d) T = some b) (e2 : kitB (tyN d) U = some c) : IsZ K H v (.ref p) (b || c) := by
  refine ⟨_, h.ty, .inr ⟨p, [.ty T, .ty U], [.type T, .type U], rfl, hp, .cons (.ty T) (.cons (.ty U) .nil), ?_⟩⟩
  refine kitAny_cons (kit_ty e) (fun hb => ?_) (fun hb => by rw [hb]; rfl)
  rw [hb, Bool.false_or]
  refine kitAny_cons (kit_ty e2) (fun hc => ?_) (fun hc => hc)
  rw [hc]
  exact kitAny_nil
end
mutual
def dep : PyData → Nat
  | .list ds => 1 + depAll ds
  | .tuple ds => 1 + depAll ds
  | .dict ds => 2 + depKV ds
  | _ => 0
def depAll : List PyData → Nat
  | [] => 0
  | d :: r => max (dep d) (depAll r)
def depKV : List (PyData × PyData) → Nat
  | [] => 0
  | p :: r => max (dep p.2) (depKV r)
end
theorem depAll_get : ∀ {ds : List PyData} {i : Nat} {d : PyData}, ds[i]? = some d → dep d ≤ depAll ds
  | [], _, _, h => by simp at h
  | e :: r, 0, d, h => by
    have h' := Option.some.inj h
    subst h'
    rw [depAll]
    exact Nat.le_max_left _ _
  | e :: r, i + 1, d, h => by
    rw [depAll]
    exact Nat.le_trans (depAll_get (ds := r) (i := i) h) (Nat.le_max_right _ _)
theorem depKV_map : ∀ ds : List (PyData × PyData), depAll (ds.map (·.2)) = depKV ds
  | [] => by rw [depKV]; rfl
  | p :: r => by rw [List.map_cons, depAll, depKV, depKV_map r]
theorem depAll_keys : ∀ kvs : List (Key × V), depAll (kvs.map fun p => keyD p.1) = 0
  | [] => rfl
  | p :: r => by
    have e : dep (keyD p.1) = 0 := by
      cases p.1 <;> rfl
    rw [List.map_cons, depAll, depAll_keys r, e]
    rfl
def spSame (K : PySem.W.Frag) (n : Nat) : Sp := fun vs H Q _ => ∃ (x y : V) (d : PyData), vs = [x, y] ∧ Dt K H x d ∧ Dt K H y d ∧ dep d < n ∧ ∀ H', Same H H' → Q (.bl true) H'
theorem valV_of {κ : Type} [DecidableEq κ] : ∀ {kvs : List (κ × V)} {i : Nat} {k : κ} {v : V}, (kvs.map (·.1)).Nodup → kvs[i]? = some (k, v) → valV kvs k = some v
  | [], _, _, _, _, h => by simp at h
  | p :: r, 0, k, v, _, h => by
    have h' := Option.some.inj h
    subst h'
    exact valV_pos rfl
  | p :: r, i + 1, k, v, nd, h => by
    have nd' := List.nodup_cons.mp (show (p.1 :: r.map (·.1)).Nodup from nd)
    have hm : k ∈ r.map (·.1) := List.mem_map.mpr ⟨(k, v), List.mem_of_getElem? (show r[i]? = some (k, v) from h), rfl⟩
    rw [valV_neg (fun e => nd'.1 (by rw [e]; exact hm))]
    exact valV_of nd'.2 (show r[i]? = some (k, v) from h)
theorem keyD_inj {a b : Key} (h : keyD a = keyD b) : a = b := by
  cases a <;> cases b <;> first | (cases h; done) | skip
  · exact congrArg Sum.inl (PyData.int.inj h)
  · exact congrArg Sum.inr (PyData.str.inj h)
theorem keys_eq : ∀ {ks ls : List (Key × V)}, (ks.map fun p => keyD p.1) = (ls.map fun p => keyD p.1) → ks.map (·.1) = ls.map (·.1)
  | [], [], _ => rfl
  | [], _ :: _, h => by cases h
  | _ :: _, [], h => by cases h
  | p :: r, q :: s, h => by
    have h' := List.cons.inj (show keyD p.1 :: (r.map fun p => keyD p.1) = keyD q.1 :: (s.map fun p => keyD p.1) from h)
    rw [List.map_cons, List.map_cons, keyD_inj h'.1, keys_eq h'.2]
end SpE

set_option maxHeartbeats 4000000
namespace SpE
open PySem PySem.Spec PyProof.Rows L2 He
def namedBy (g : Addr → Option Obj) (as : List Addr) : List Addr := as.flatMap fun a => match g a with
  | some o => refsO o
  | none => []
def levels (g : Addr → Option Obj) : Nat → List Addr → List Addr
  | 0, as => as
  | n + 1, as => as ++ levels g n (namedBy g as)
def obsYG (n : Nat) (fa : List Fa) (fn : List DefD) (ex : PySem.W.Frag → Bool) (g : Addr → Option Obj) : AlD × Bool :=
  (fun K => (obsD fa fn K, ex K)) (frG g (levels g n [mainGlobals]))
def hookY (n : Nat) (fa : List Fa) (fn : List DefD) (ex : PySem.W.Frag → Bool) : PySem.W.Hook where
  α := AlD × Bool
  obs := fun s => obsYG n fa fn ex s.heap.get?
  val := fun _ => (valD fn, true)
  says := fun _ h => ∃ K : PySem.W.Frag, K.In h ∧ SaysD fa fn K ∧ ex K = true
  of := fun _ _ e => ⟨_, frG_in, congrArg Prod.fst e, congrArg Prod.snd e⟩
  keeps := fun _ _ _ ⟨K, hK, c⟩ k => ⟨K, PySem.W.Frag.In.keeps hK k, c⟩
theorem obsY_eq {n : Nat} {fa : List Fa} {fn : List DefD} {ex : PySem.W.Frag → Bool} {g : Addr → Option Obj} {s : Shared} (h : ∀ a, g a = s.heap.get? a) :
    obsYG n fa fn ex g = (hookY n fa fn ex).obs s := by
  have e : g = s.heap.get? := funext h
  rw [e] <;> rfl
def erB (K : PySem.W.Frag) (C : Addr) (m : List Value) : Bool :=
  (match K.lookup C with
    | some ⟨.type "type", _, .cls cd, sl⟩ => cd.mro == (.ref C :: m) && (cd.hasDict && (!cd.hasDel && (match sl.toList with
      | [_, _, _, _, some (.builtin n), _] => n == "ValueError.__new__"
      | _ => false)))
    | _ => false) &&
  (eqO (PySem.W.findIn K (.ref C) "__setattr__") (some (some (.builtin "object.__setattr__"))) &&
  (PySem.W.keepIn K (.ref C) && (decide (PySem.W.typeIn K (.ref C) = some (.type "type")) &&
  (eqO (PySem.W.findIn K (.ref C) "__getattribute__") (some (some (.builtin "BaseException.__getattribute__"))) &&
  (eqO (PySem.W.findIn K (.ref C) "__getattr__") (some none) &&
  (eqO (PySem.W.findIn K (.ref C) "__class__") (some (some (.builtin "object.__class__"))) &&
  (eqO (PySem.W.specialIn K (.builtin "object.__class__") "__get__") (some (some (.builtin "getset_descriptor.__get__"))) &&
  decide (PySem.W.takesIn K (.builtin "object.__class__") = some true))))))))
theorem erB_ok {K : PySem.W.Frag} {C : Addr} {m : List Value} (h : erB K C m = true) (hm : PySem.HandSPX.refsVE m = true) (hb : m.contains (.type "BaseException") = true) (ho : m.contains (.type "object") = true) :
    ErC K C ∧ MroIs K C m := by
  unfold erB at h
  obtain ⟨h0, h⟩ := Bool.and_eq_true_iff.mp h
  obtain ⟨h1, h⟩ := Bool.and_eq_true_iff.mp h
  obtain ⟨h2, h⟩ := Bool.and_eq_true_iff.mp h
  obtain ⟨h3, h⟩ := Bool.and_eq_true_iff.mp h
  obtain ⟨h4, h⟩ := Bool.and_eq_true_iff.mp h
  obtain ⟨h5, h⟩ := Bool.and_eq_true_iff.mp h
  obtain ⟨h6, h⟩ := Bool.and_eq_true_iff.mp h
  obtain ⟨h7, h8⟩ := Bool.and_eq_true_iff.mp h
  split at h0
  · rename_i dd cd sl ho'
    obtain ⟨e1, h0⟩ := Bool.and_eq_true_iff.mp h0
    obtain ⟨e2, h0⟩ := Bool.and_eq_true_iff.mp h0
    obtain ⟨e3, hx⟩ := Bool.and_eq_true_iff.mp h0
    clear h0
    split at hx
    · rename_i k0 k1 k2 k3 n k5 hs
      obtain ⟨nm, bs, mro, ns, qn, hd, sn, sub, ab, col, del⟩ := cd
      dsimp only at e1 e2 e3
      have e1 := beq_iff_eq.mp e1
      have e3 : del = false := by simpa using e3
      have e0 := beq_iff_eq.mp hx
      subst e1 e2 e3 e0
      have hsl : sl = #[k0, k1, k2, k3, some (.builtin "ValueError.__new__"), k5] := by
        obtain ⟨l⟩ := sl
        simp only at hs
        rw [hs]
      subst hsl
      have hcl : PySem.W.clsIn K C = some { name := nm, bases := bs, mro := .ref C :: m, ns := ns, qualname := qn, hasDict := true, slotNames := sn, subclasses := sub, abstract := ab, collection := col, hasDel := false } := by
        unfold PySem.W.clsIn
        rw [ho'] <;> rfl
      have sub1 : ∀ T, m.contains (.type T) = true → PySem.W.mroIn K C (.type T) = some true := fun T hT => by
        unfold PySem.W.mroIn
        rw [hcl, Option.bind_some, if_neg (by simp), List.contains_cons, hT, Bool.or_true]
      exact ⟨⟨⟨⟨nm, qn, ns, bs, m, sn, sub, ab, col, dd, k0, k1, k2, k3, k5, ho', hm⟩, eqO_ok h1, sub1 _ hb, of_decide_eq_true h3, h2⟩, eqO_ok h4, eqO_ok h5, eqO_ok h6, eqO_ok h7, of_decide_eq_true h8, sub1 _ ho⟩, ⟨_, hcl, rfl⟩⟩
    · cases hx
  · cases h0
section
variable {P : Program} {w : World} {K : PySem.W.Frag} {mg : Str → Option Value} {base : Heap} {C : Addr} {fd : FuncData} {x qual g g1 g2 : Str} {params : Arguments} {scope : Scope} {p1 p2 p3 p4 q1 q2 q3 q4 : Pos}
theorem ermk1 (F : FunD K "__init__" qual params [.Assign [.Attribute (.Name "self" p1) g p2] (.Name g p3) p4] scope [] [] (ma K C "__init__") fd)
    (S : FnScope ["self", g] ["self", g] scope) (gl : mg x = some (.ref C)) (T : ErC K C) (hn : PySem.W.findIn K (.ref C) g = some none)
    (hi : PySem.W.findIn K (.ref C) "__init__" = some (some (.ref (ma K C "__init__")))) (ti : PySem.W.typeIn K (.ref (ma K C "__init__")) = some (.type "function"))
    (h1 : (g == ("__debug__" : Str)) = false) (h2 : (g == ("__classdict__" : Str)) = false)
    (b1 : ∀ (kV doc pm : Value) (an : Option Addr) (cdv ct : Value) (us : List Value), us.length = (["self", g] : List Str).length → bindArgs (PySem.W.fnOf "__init__" qual params [.Assign [.Attribute (.Name "self" p1) g p2] (.Name g p3) p4] scope .none kV doc pm an cdv ct) ⟨us, []⟩ = pure ((["self", g] : List Str).zip us))
    (b2 : ∀ (kV doc pm : Value) (an : Option Addr) (cdv ct : Value) (u v : Value), bindArgs (PySem.W.fnOf "__init__" qual params [.Assign [.Attribute (.Name "self" p1) g p2] (.Name g p3) p4] scope .none kV doc pm an cdv ct) ⟨[u], [(g, v)]⟩ = pure [(("self" : Str), u), (g, v)]) :
    ErMk P w K mg base x C [g] := by
  refine ⟨gl, T, _, fd, hi, ti, init1 F S T.o hn h1 h2, F.bindsN b1, fun s u ws hl => ?_⟩
  obtain ⟨oc, od, dV, kV, doc, pm, an, cdv, ct, osl, rfl, lk, hcd, hD, hK⟩ := F.ex
  rcases hD with ⟨_, rfl⟩ | ⟨e, _⟩
  · match ws, hl with
    | [v], _ => exact .of_eq (b2 kV doc pm an cdv ct u v)
  · exact absurd rfl e
theorem ermk2 (F : FunD K "__init__" qual params [.Assign [.Attribute (.Name "self" p1) g1 p2] (.Name g1 p3) p4, .Assign [.Attribute (.Name "self" q1) g2 q2] (.Name g2 q3) q4] scope [] [] (ma K C "__init__") fd)
    (S : FnScope ["self", g1, g2] ["self", g1, g2] scope) (gl : mg x = some (.ref C)) (T : ErC K C) (hn1 : PySem.W.findIn K (.ref C) g1 = some none) (hn2 : PySem.W.findIn K (.ref C) g2 = some none)
    (hi : PySem.W.findIn K (.ref C) "__init__" = some (some (.ref (ma K C "__init__")))) (ti : PySem.W.typeIn K (.ref (ma K C "__init__")) = some (.type "function"))
    (h1 : (g1 == ("__debug__" : Str)) = false) (h2 : (g1 == ("__classdict__" : Str)) = false) (h3 : (g2 == ("__debug__" : Str)) = false) (h4 : (g2 == ("__classdict__" : Str)) = false)
    (b1 : ∀ (kV doc pm : Value) (an : Option Addr) (cdv ct : Value) (us : List Value), us.length = (["self", g1, g2] : List Str).length → bindArgs (PySem.W.fnOf "__init__" qual params [.Assign [.Attribute (.Name "self" p1) g1 p2] (.Name g1 p3) p4, .Assign [.Attribute (.Name "self" q1) g2 q2] (.Name g2 q3) q4] scope .none kV doc pm an cdv ct) ⟨us, []⟩ = pure ((["self", g1, g2] : List Str).zip us))
    (b2 : ∀ (kV doc pm : Value) (an : Option Addr) (cdv ct : Value) (u v z : Value), bindArgs (PySem.W.fnOf "__init__" qual params [.Assign [.Attribute (.Name "self" p1) g1 p2] (.Name g1 p3) p4, .Assign [.Attribute (.Name "self" q1) g2 q2] (.Name g2 q3) q4] scope .none kV doc pm an cdv ct) ⟨[u], [(g2, v), (g1, z)]⟩ = pure [(("self" : Str), u), (g1, z), (g2, v)]) :
    ErMk P w K mg base x C [g1, g2] := by
  refine ⟨gl, T, _, fd, hi, ti, init2 F S T.o hn1 hn2 h1 h2 h3 h4, F.bindsN b1, fun s u ws hl => ?_⟩
  obtain ⟨oc, od, dV, kV, doc, pm, an, cdv, ct, osl, rfl, lk, hcd, hD, hK⟩ := F.ex
  rcases hD with ⟨_, rfl⟩ | ⟨e, _⟩
  · match ws, hl with
    | [v, z], _ => exact .of_eq (b2 kV doc pm an cdv ct u v z)
  · exact absurd rfl e
end
abbrev ErTab : Type := List (Str × List Str)
def exTab (S : Str) (none0 : List Str) (tab : ErTab) (K : PySem.W.Frag) : Bool :=
  erB K (ga K S) aboveS && ((none0.all fun x => PySem.W.excIn K (ga K x) aboveS "ValueError.__new__") &&
  ((none0.all fun x => x == S || erB K (ga K x) (above (ga K S))) &&
  ((tab.all fun p => erB K (ga K p.1) (above (ga K S)) && ((p.2.all fun f => eqO (PySem.W.findIn K (.ref (ga K p.1)) f) (some none)) &&
    (eqO (PySem.W.findIn K (.ref (ga K p.1)) "__init__") (some (some (.ref (ma K (ga K p.1) "__init__")))) && decide (PySem.W.typeIn K (.ref (ma K (ga K p.1) "__init__")) = some (.type "function"))))) &&
  decide ((ga K S :: (none0.filter (· != S) ++ tab.map (·.1)).map (ga K)).Nodup))))
structure ErFacts (S : Str) (none0 : List Str) (tab : ErTab) (K : PySem.W.Frag) : Prop where
  s : ErC K (ga K S) ∧ MroIs K (ga K S) aboveS
  n : ∀ x ∈ none0, PySem.W.excIn K (ga K x) aboveS "ValueError.__new__" = true
  m : ∀ x ∈ none0, x ≠ S → ErC K (ga K x) ∧ MroIs K (ga K x) (above (ga K S))
  c : ∀ p ∈ tab, ErC K (ga K p.1) ∧ MroIs K (ga K p.1) (above (ga K S))
  f : ∀ p ∈ tab, ∀ f ∈ p.2, PySem.W.findIn K (.ref (ga K p.1)) f = some none
  i : ∀ p ∈ tab, PySem.W.findIn K (.ref (ga K p.1)) "__init__" = some (some (.ref (ma K (ga K p.1) "__init__"))) ∧ PySem.W.typeIn K (.ref (ma K (ga K p.1) "__init__")) = some (.type "function")
  nd : (ga K S :: (none0.filter (· != S) ++ tab.map (·.1)).map (ga K)).Nodup
theorem exTab_ok {S : Str} {none0 : List Str} {tab : ErTab} {K : PySem.W.Frag} (h : exTab S none0 tab K = true) : ErFacts S none0 tab K := by
  unfold exTab at h
  obtain ⟨h1, h⟩ := Bool.and_eq_true_iff.mp h
  obtain ⟨h2, h⟩ := Bool.and_eq_true_iff.mp h
  obtain ⟨h3, h⟩ := Bool.and_eq_true_iff.mp h
  obtain ⟨h4, h5⟩ := Bool.and_eq_true_iff.mp h
  have k4 := List.all_eq_true.mp h4
  refine ⟨erB_ok h1 (by decide +kernel) (by decide +kernel) (by decide +kernel), List.all_eq_true.mp h2, fun x hx hS => ?_, fun p hp => ?_, fun p hp f hf => ?_, fun p hp => ?_, of_decide_eq_true h5⟩
  · have q := List.all_eq_true.mp h3 x hx
    rcases Bool.or_eq_true_iff.mp q with z | z
    · exact absurd (beq_iff_eq.mp z) hS
    · exact erB_ok z (show PySem.HandSPX.refsVE aboveS = true by decide +kernel) (by simp) (by simp)
  · obtain ⟨q, _⟩ := Bool.and_eq_true_iff.mp (k4 p hp)
    exact erB_ok q (show PySem.HandSPX.refsVE aboveS = true by decide +kernel) (by simp) (by simp)
  · obtain ⟨_, q⟩ := Bool.and_eq_true_iff.mp (k4 p hp)
    obtain ⟨q, _⟩ := Bool.and_eq_true_iff.mp q
    exact eqO_ok (List.all_eq_true.mp q f hf)
  · obtain ⟨_, q⟩ := Bool.and_eq_true_iff.mp (k4 p hp)
    obtain ⟨_, q⟩ := Bool.and_eq_true_iff.mp q
    obtain ⟨q1, q2⟩ := Bool.and_eq_true_iff.mp q
    exact ⟨eqO_ok q1, of_decide_eq_true q2⟩
structure Below (S : Addr) (K : PySem.W.Frag) (C : Addr) : Prop where
  er : ErC K C
  m : MroIs K C (above S) ∨ (C = S ∧ MroIs K C aboveS)
section
variable {S C D a : Addr} {K : PySem.W.Frag} {H : Hp}
theorem kit_er (h : Below S K C) (TD : ErC K D) (n : D ≠ S) : PySem.W.kitOne K (.ref C) (.ref D) = some (decide (C = D)) := by
  have n1 : (Value.ref D == Value.ref S) = false := by
    rw [beq_eq_false_iff_ne]
    exact fun z => n (Value.ref.inj z)
  rcases h.m with m | ⟨_, m⟩
  · rw [kit_ref m TD]
    simp [List.contains_cons, n1]
    exact fun z => absurd z n
  · rw [kit_ref m TD]
    simp
theorem kit_erS (h : Below S K C) (TS : ErC K S) : PySem.W.kitOne K (.ref C) (.ref S) = some true := by
  rcases h.m with m | ⟨rfl, m⟩
  · rw [kit_ref m TS]
    simp
  · rw [kit_ref m TS]
    simp
theorem kit_erT {T : String} (h : Below S K C) (ht : PySem.W.kitMeta T = true) : PySem.W.kitOne K (.ref C) (.type T) = some (aboveS.contains (.type T)) := by
  rcases h.m with m | ⟨_, m⟩
  · rw [kit_bt m ht]
    simp
  · rw [kit_bt m ht]
theorem isz_er (e : ErrAt K H a C) (h : Below S K C) (TD : ErC K D) (n : D ≠ S) : IsZ K H (.ref a) (.ref D) (decide (C = D)) := ⟨_, e.ty, .inl ⟨_, .own D, kit_er h TD n⟩⟩
theorem isz_erS (e : ErrAt K H a C) (h : Below S K C) (TS : ErC K S) : IsZ K H (.ref a) (.ref S) true := ⟨_, e.ty, .inl ⟨_, .own S, kit_erS h TS⟩⟩
theorem isz_erB {T : String} (e : ErrAt K H a C) (h : Below S K C) (ht : PySem.W.kitMeta T = true) : IsZ K H (.ref a) (.ty T) (aboveS.contains (.type T)) := ⟨_, e.ty, .inl ⟨_, .ty T, kit_erT h ht⟩⟩
theorem isz_erN {tp : Addr} {cs : List V} {us : List Value} (e : ErrAt K H a C) (hp : H tp = some (.tup cs)) (p : Paired ClsV cs us) (k : ∀ c ∈ us, PySem.W.kitOne K (.ref C) c = some false) : IsZ K H (.ref a) (.ref tp) false :=
  ⟨_, e.ty, .inr ⟨tp, cs, us, rfl, hp, p, kitAny_false k⟩⟩
end
def kindsOf (l : List Addr) (C : Addr) (n : Nat) : List Int := ((List.range n).filter fun k => decide (some C = l[k]?)).map Int.ofNat
theorem kindsOf_succ (l : List Addr) (C : Addr) (n : Nat) : kindsOf l C (n + 1) = if some C = l[n]? then kindsOf l C n ++ [(n : Int)] else kindsOf l C n := by
  unfold kindsOf
  rw [List.range_succ, List.filter_append, List.map_append]
  by_cases h : some C = l[n]?
  · simp [h]
  · simp [h]
theorem kindsOf_length (l : List Addr) (C : Addr) (n : Nat) : (kindsOf l C n).length ≤ n := by
  induction n with
  | zero => exact Nat.le_refl _
  | succ n ih =>
    rw [kindsOf_succ]
    split
    · rw [List.length_append]
      exact Nat.succ_le_succ ih
    · omega
theorem kindsOf_none {l : List Addr} {C : Addr} (h : C ∉ l) (n : Nat) : kindsOf l C n = [] := by
  induction n with
  | zero => rfl
  | succ n ih =>
    rw [kindsOf_succ, if_neg (fun e => h (List.mem_of_getElem? e.symm)), ih]
theorem kindsOf_at {l : List Addr} {C : Addr} {i : Nat} (nd : l.Nodup) (h : l[i]? = some C) : ∀ n, kindsOf l C n = if i < n then [(i : Int)] else []
  | 0 => rfl
  | n + 1 => by
    rw [kindsOf_succ, kindsOf_at nd h n]
    by_cases e : i = n
    · subst e
      rw [if_pos h.symm, if_neg (Nat.lt_irrefl _), if_pos (Nat.lt_succ_self _)]
      rfl
    · have hn : ¬ some C = l[n]? := fun q => e (nd_ix nd h q.symm)
      rw [if_neg hn]
      by_cases c : i < n
      · rw [if_pos c, if_pos (by omega)]
      · rw [if_neg c, if_neg (by omega)]
theorem inj_map {α β : Type} {f : α → β} : ∀ {l : List α}, (l.map f).Nodup → ∀ {x y : α}, x ∈ l → y ∈ l → f x = f y → x = y
  | [], _, x, y, h, _, _ => by cases h
  | a :: l, nd, x, y, hx, hy, e => by
    obtain ⟨n1, n2⟩ := List.nodup_cons.mp (show (f a :: l.map f).Nodup from nd)
    rcases List.mem_cons.mp hx with z1 | k1
    · rcases List.mem_cons.mp hy with z2 | k2
      · rw [z1, z2]
      · exact absurd (List.mem_map.mpr ⟨y, k2, by rw [← e, z1]⟩) n1
    · rcases List.mem_cons.mp hy with z2 | k2
      · exact absurd (List.mem_map.mpr ⟨x, k1, by rw [e, z2]⟩) n1
      · exact inj_map n2 k1 k2 e
def erAll (S : Str) (none0 : List Str) (tab : ErTab) : List Str := S :: (none0.filter (· != S) ++ tab.map (·.1))
section
variable {S : Str} {none0 : List Str} {tab : ErTab} {K : PySem.W.Frag} {x y : Str}
theorem ErFacts.inj (h : ErFacts S none0 tab K) (hx : x ∈ erAll S none0 tab) (hy : y ∈ erAll S none0 tab) (e : ga K x = ga K y) : x = y :=
  inj_map (f := ga K) (l := erAll S none0 tab) h.nd hx hy e
theorem ErFacts.ne (h : ErFacts S none0 tab K) (hx : x ∈ erAll S none0 tab) (hy : y ∈ erAll S none0 tab) (n : x ≠ y) : ga K x ≠ ga K y := fun e => n (h.inj hx hy e)
theorem ErFacts.below (h : ErFacts S none0 tab K) (hx : x ∈ erAll S none0 tab) : Below (ga K S) K (ga K x) := by
  rcases List.mem_cons.mp hx with rfl | hx
  · exact ⟨h.s.1, .inr ⟨rfl, h.s.2⟩⟩
  · rcases List.mem_append.mp hx with hx | hx
    · obtain ⟨h1, h2⟩ := List.mem_filter.mp hx
      obtain ⟨e, m⟩ := h.m x h1 (by simpa using h2)
      exact ⟨e, .inl m⟩
    · obtain ⟨p, hp, rfl⟩ := List.mem_map.mp hx
      obtain ⟨e, m⟩ := h.c p hp
      exact ⟨e, .inl m⟩
theorem isz_erNs (h : ErFacts S none0 tab K) {H : Hp} {a C tp : Addr} {ns : List Str} (e : ErrAt K H a C) (b : Below (ga K S) K C) (hp : H tp = some (.tup (ns.map fun x => V.ref (ga K x))))
    (m : ∀ x ∈ ns, x ∈ erAll S none0 tab ∧ x ≠ S) (n : ∀ x ∈ ns, C ≠ ga K x) : IsZ K H (.ref a) (.ref tp) false := by
  refine isz_erN e (by rw [hp]; exact congrArg (fun z => some (HO.tup z)) (List.map_map (f := ga K) (g := V.ref) (l := ns)).symm) (clsv_refs (ns.map (ga K))) fun c hc => ?_
  obtain ⟨D, hD, rfl⟩ := List.mem_map.mp hc
  obtain ⟨x, hx, rfl⟩ := List.mem_map.mp hD
  obtain ⟨m1, m2⟩ := m x hx
  rw [kit_er b (h.below m1).er (h.ne m1 List.mem_cons_self m2), decide_eq_false (n x hx)]
end
def Errs (K : PySem.W.Frag) (S : Addr) (p : Addr → Prop) (H : Hp) (es : List Addr) : Prop := ∀ e ∈ es, ∃ C, ErrAt K H e C ∧ Below S K C ∧ p C
section
variable {K : PySem.W.Frag} {S C a l : Addr} {p : Addr → Prop} {H H' : Hp} {es : List Addr} {xs ys : List V}
theorem Errs.nil : Errs K S p H [] := fun e h => by cases h
theorem Errs.keep (h : Errs K S p H es) (s : Same H H') : Errs K S p H' es := fun e he => by
  obtain ⟨C, h1, h2, h3⟩ := h e he
  exact ⟨C, h1.keep s, h2, h3⟩
theorem Errs.snoc (h : Errs K S p H es) (e : ErrAt K H a C) (b : Below S K C) (q : p C) : Errs K S p H (es ++ [a]) := fun e' he => by
  rcases List.mem_append.mp he with he | he
  · exact h e' he
  · rw [List.mem_singleton.mp he]
    exact ⟨C, e, b, q⟩
theorem exo_lst {e C : Addr} {d : Option Addr} {xs : List V} : exo e C d ≠ .lst xs := fun z => by
  have z' : HO.ext _ = HO.lst xs := z
  cases z'
theorem exd_lst {e : Addr} {fs : List (Str × V)} {xs : List V} : exd e fs ≠ .lst xs := fun z => by
  have z' : HO.ext _ = HO.lst xs := z
  cases z'
theorem ErrAt.setL (h : ErrAt K H a C) (hl : H l = some (.lst xs)) : ErrAt K (upd H l (.lst ys)) a C := by
  obtain ⟨T, e | ⟨d, fs, e, ed⟩⟩ := h
  · exact ⟨T, .inl (by rw [upd_ne (ne_of e hl exo_lst)]; exact e)⟩
  · exact ⟨T, .inr ⟨d, fs, by rw [upd_ne (ne_of e hl exo_lst)]; exact e, by rw [upd_ne (ne_of ed hl exd_lst)]; exact ed⟩⟩
theorem Errs.setL (h : Errs K S p H es) (hl : H l = some (.lst xs)) : Errs K S p (upd H l (.lst ys)) es := fun e he => by
  obtain ⟨C, h1, h2, h3⟩ := h e he
  exact ⟨C, h1.setL hl, h2, h3⟩
end
theorem same_setL {H H' : Hp} {l : Addr} {o : HO} (n : H l = none) (s : Same H H') : Same H (upd H' l o) := fun b u e => by
  rw [upd_ne (ne_of_none e n)]
  exact s b u e
end SpE

set_option maxHeartbeats 4000000
namespace SpE
open PySem PySem.Spec PyProof.Rows L2 He
def Fld (K : PySem.W.Frag) (H : Hp) (e : Addr) (f : Str) (v : V) : Prop := ∃ (C d : Addr) (fs : List (Str × V)), H e = some (exo e C (some d)) ∧ H d = some (exd d fs) ∧ ErC K C ∧ PySem.W.findIn K (.ref C) f = some none ∧ fs.lookup f = some v
section
variable {K : PySem.W.Frag} {H H' H1 : Hp} {e C D m : Addr} {f : Str} {v : V} {es : List Addr} {Qd : Hp → Prop}
theorem Fld.keep (h : Fld K H e f v) (s : Same H H') : Fld K H' e f v := by
  obtain ⟨C, d, fs, a, b, r⟩ := h
  exact ⟨C, d, fs, s _ _ a, s _ _ b, r⟩
theorem fld_lc {σ : L2.St} {j : Nat} (hw : ∀ x, wipe ((wipe σ [j]).set j x) [j] = wipe σ [j]) (hj : ∀ x, ((wipe σ [j]).set j (some x))[j]? = some (some x))
    (hm : H1 m = some (.lst (es.map V.ref))) (hD : H1 D = none) (hF : ∀ e ∈ es, Fld K H1 e f v) (z : es.length ≤ 1000)
    (hd : ∀ H', Same H1 H' → H' D = some (.lst (List.replicate es.length v)) → Qd H') :
    ∃ W : Nat → Nat → Hp → Prop, (∃ m, W 0 m (upd H1 D (.lst []))) ∧ ∀ i k H, W i k H →
      ((Itl K m).stop i H ∧ Qd H) ∨ ((Itl K m).go i H ∧ ∃ Nx : Hp → Prop, (∀ H', Nx H' → ∃ m', m' < k ∧ W (i + 1) m' H') ∧ ∀ x H', (Itl K m).yld i H x H' → gName j x (wipe σ [j]) H' fun σ2 H2 => wipe σ2 [j] = wipe σ [j] ∧ tYes σ2 H2 fun b H3 =>
        if b = true then tExF K f (tVar j) σ2 H3 fun y H4 => ∃ acc, H4 D = some (.lst acc) ∧ acc.length < sizeLine ∧ Nx (upd H4 D (.lst (acc ++ [y]))) else Nx H3) := by
  refine lc_list (xs := es.map V.ref) (fun i H' => i ≤ es.length ∧ H' D = some (.lst (List.replicate i v)) ∧ Same H1 H') ⟨Nat.zero_le _, upd_same, same_upd hD⟩ (fun i H' _ h => SqL.of (h.2.2 _ _ hm)) ?_ (fun H' h => hd H' h.2.2 ?_)
  · rintro i x H' hx ⟨hi, hD', s⟩
    obtain ⟨e, he, rfl⟩ := List.mem_map.mp (List.mem_of_getElem? hx)
    obtain ⟨C, d, fs, a, b, T, n, l⟩ := hF e he
    have hlt : i < es.length := by
      have q := (List.getElem?_eq_some_iff.mp hx).1
      rw [List.length_map] at q
      exact q
    refine ⟨hw _, _, hj _, e, C, d, fs, v, rfl, s _ _ a, s _ _ b, T, n, l, _, hD', ?_, hlt, ?_, same_setL hD s⟩
    · rw [List.length_replicate, sizeLine_eq]
      omega
    · rw [upd_same, List.replicate_succ']
  · have e2 := h.2.1
    rw [List.length_map] at e2
    exact e2
theorem two_errs {a1 d1 a2 d2 : Addr} {fs gs : List (Str × V)} (T : ErC K C) (ha1 : H a1 = none) (hd1 : H d1 = none) (n1 : d1 ≠ a1)
    (ha2 : (upd (upd H d1 (exd d1 fs)) a1 (exo a1 C (some d1))) a2 = none) (hd2 : (upd (upd H d1 (exd d1 fs)) a1 (exo a1 C (some d1))) d2 = none) (n2 : d2 ≠ a2)
    (hm : (upd (upd (upd (upd H d1 (exd d1 fs)) a1 (exo a1 C (some d1))) d2 (exd d2 gs)) a2 (exo a2 C (some d2))) m = none) :
    ∃ G, upd (upd (upd (upd (upd H d1 (exd d1 fs)) a1 (exo a1 C (some d1))) d2 (exd d2 gs)) a2 (exo a2 C (some d2))) m (.lst [.ref a1, .ref a2]) = G ∧
      Same H G ∧ G m = some (.lst ([a1, a2].map V.ref)) ∧ H m = none ∧ (∀ e ∈ [a1, a2], ErrAt K G e C) ∧
      ∀ f v, PySem.W.findIn K (.ref C) f = some none → fs.lookup f = some v → gs.lookup f = some v → ∀ e ∈ [a1, a2], Fld K G e f v := by
  refine ⟨_, rfl, ?_⟩
  generalize hG1 : upd (upd H d1 (exd d1 fs)) a1 (exo a1 C (some d1)) = G1 at *
  have s1 : Same H G1 := by
    rw [← hG1]
    exact (er_new (K := K) T ha1 hd1 n1).2
  have g1 : G1 a1 = some (exo a1 C (some d1)) := by rw [← hG1]; exact upd_same
  have g1d : G1 d1 = some (exd d1 fs) := by rw [← hG1, upd_ne n1]; exact upd_same
  generalize hG2 : upd (upd G1 d2 (exd d2 gs)) a2 (exo a2 C (some d2)) = G2 at *
  have s2 : Same G1 G2 := by
    rw [← hG2]
    exact (er_new (K := K) T ha2 hd2 n2).2
  have g2 : G2 a2 = some (exo a2 C (some d2)) := by rw [← hG2]; exact upd_same
  have g2d : G2 d2 = some (exd d2 gs) := by rw [← hG2, upd_ne n2]; exact upd_same
  have s3 : Same G2 (upd G2 m (.lst [.ref a1, .ref a2])) := same_upd hm
  have hmH : H m = none := by
    cases e : H m with
    | none => rfl
    | some o => rw [s2 _ _ (s1 _ _ e)] at hm; cases hm
  have c1 := s3 _ _ (s2 _ _ g1)
  have c1d := s3 _ _ (s2 _ _ g1d)
  have c2 := s3 _ _ g2
  have c2d := s3 _ _ g2d
  refine ⟨(s1.trans s2).trans s3, upd_same, hmH, fun e he => ?_, fun f v hf l1 l2 e he => ?_⟩
  · rcases List.mem_cons.mp he with rfl | he
    · exact ⟨T, .inr ⟨_, _, c1, c1d⟩⟩
    · rw [List.mem_singleton.mp he]
      exact ⟨T, .inr ⟨_, _, c2, c2d⟩⟩
  · rcases List.mem_cons.mp he with rfl | he
    · exact ⟨_, _, _, c1, c1d, T, hf, l1⟩
    · rw [List.mem_singleton.mp he]
      exact ⟨_, _, _, c2, c2d, T, hf, l2⟩
end
inductive Thing (H : Hp) : V → Nat → Prop where
  | non {n : Nat} : Thing H .non n
  | bl {n : Nat} (b : Bool) : Thing H (.bl b) n
  | int {n : Nat} (i : Int) : Thing H (.int i) n
  | str {n : Nat} (x : Str) : Thing H (.str x) n
  | tup {n : Nat} {p : Addr} {k : Int} (h : H p = some (.tup [.int 1, .int k])) : Thing H (.ref p) n
  | lst {n : Nat} {p q : Addr} {k : Int} (h : H p = some (.lst (.int k :: .ref q :: List.replicate n (.str "more")))) (hq : H q = some (.lst [.int 1])) : Thing H (.ref p) n
  | dct {n : Nat} {p : Addr} {k : Int} (h : H p = some (.dK ((.inr "a", .int k) :: if n = 0 then [] else [(.inr "more", .int 1)]))) : Thing H (.ref p) n
section
variable {K : PySem.W.Frag} {H H' : Hp} {v : V} {n : Nat}
theorem Thing.keep (s : Same H H') (h : Thing H v n) : Thing H' v n := by
  cases h with
  | non => exact .non
  | bl b => exact .bl b
  | int i => exact .int i
  | str x => exact .str x
  | tup h => exact .tup (s _ _ h)
  | lst h hq => exact .lst (s _ _ h) (s _ _ hq)
  | dct h => exact .dct (s _ _ h)
theorem dt_more (n : Nat) : DtAll K H (List.replicate n (.str "more")) (List.replicate n (.str "more")) := by
  induction n with
  | zero => exact .nil
  | succ n ih => exact .cons (.str _) ih
theorem dep_more (n : Nat) : depAll (List.replicate n (.str "more")) = 0 := by
  induction n with
  | zero => rw [List.replicate_zero, depAll]
  | succ n ih => rw [List.replicate_succ, depAll, ih, dep] <;> first | rfl | simp
theorem Thing.dt (h : Thing H v n) (z : n ≤ 1000) : ∃ d, Dt K H v d ∧ dep d < 3 := by
  cases h with
  | non => exact ⟨_, .non, by rw [dep] <;> first | decide | simp⟩
  | bl b => exact ⟨_, .bl b, by rw [dep] <;> first | decide | simp⟩
  | int i => exact ⟨_, .int i, by rw [dep] <;> first | decide | simp⟩
  | str x => exact ⟨_, .str x, by rw [dep] <;> first | decide | simp⟩
  | @tup _ p k h => exact ⟨.tuple [.int 1, .int k], .tup (SqT.of h) (by show 2 ≤ sizeLine; decide) (.cons (.int _) (.cons (.int _) .nil)), by simp [dep, depAll]⟩
  | @lst _ p q k h hq =>
    refine ⟨.list (.int k :: .list [.int 1] :: List.replicate n (.str "more")), .lst (SqL.of h) ?_ (.cons (.int _) (.cons (.lst (SqL.of hq) (by show 1 ≤ sizeLine; decide) (.cons (.int _) .nil)) (dt_more n))), ?_⟩
    · rw [List.length_cons, List.length_cons, List.length_replicate, sizeLine_eq]
      omega
    · simp [dep, depAll, dep_more]
  | @dct _ p k h =>
    by_cases e : n = 0
    · rw [if_pos e] at h
      exact ⟨.dict [(.str "a", .int k)], .dct (Rd.of h) (by show ([.inr "a"] : List Key).Nodup; decide +kernel) (by show 1 ≤ sizeLine; decide) rfl (.cons (.int _) .nil), by simp [dep, depKV]⟩
    · rw [if_neg e] at h
      exact ⟨.dict [(.str "a", .int k), (.str "more", .int 1)], .dct (Rd.of h) (by show ([.inr "a", .inr "more"] : List Key).Nodup; decide +kernel) (by show 2 ≤ sizeLine; decide) rfl (.cons (.int _) (.cons (.int _) .nil)), by simp [dep, depKV]⟩
end
def SameT (v : V) (H H' : Hp) : Prop := ∀ x o, v ≠ .ref x → H x = some o → H' x = some o
theorem SameT.refl (v : V) (H : Hp) : SameT v H H := fun _ _ _ h => h
theorem SameT.trans {v : V} {H H1 H2 : Hp} (h : SameT v H H1) (k : SameT v H1 H2) : SameT v H H2 := fun x o n e => k x o n (h x o n e)
theorem sameT_of {v : V} {H H' : Hp} (s : Same H H') : SameT v H H' := fun x o _ e => s x o e
theorem sameT_upd {p : Addr} {H : Hp} {o : HO} : SameT (.ref p) H (upd H p o) := fun x u n e => by
  rw [upd_ne (fun z => n (congrArg V.ref z).symm)]
  exact e
def spObject : Sp := fun vs H Q _ => ∃ (a b : Addr) (c : Nat), vs = [.ref a] ∧ StA H a b c ∧ c < 1000000000 ∧
  ∀ v H' k, k ≤ 10 → StA H' a b (c + k) → SameB a b H H' → Thing H' v 0 → (∀ p, v = .ref p → H p = none) → Q v H'
theorem none_of {H H' : Hp} {a : Addr} (s : Same H H') (h : H' a = none) : H a = none := by
  cases e : H a with
  | none => rfl
  | some o => rw [s _ _ e] at h; cases h
theorem StA.neA {H : Hp} {a b p : Addr} {c : Nat} (h : StA H a b c) (n : H p = none) : p ≠ a := by
  obtain ⟨d, k, m, ns, ha, hb, _⟩ := h.ex
  exact (ne_of_none ha n).symm
theorem StA.neB {H : Hp} {a b p : Addr} {c : Nat} (h : StA H a b c) (n : H p = none) : p ≠ b := by
  obtain ⟨d, k, m, ns, ha, hb, _⟩ := h.ex
  exact (ne_of_none hb n).symm
theorem noneB {H H' : Hp} {a b p : Addr} {c : Nat} (s : SameB a b H H') (S : StA H' a b c) (n : H' p = none) : H p = none := by
  cases e : H p with
  | none => rfl
  | some o =>
    rw [s p o (S.neA n) (S.neB n) e] at n
    cases n
theorem small_log {i : Int} (h : 0 ≤ i) (k : i < 1000) : i.natAbs.log2 < 1920 := by
  have := Nat.log2_le_self i.natAbs
  omega
theorem small_txt {i : Int} (h : 0 ≤ i) (k : i < 99) : ("w" : Str).length + (Str.ofString (toString i)).length ≤ sizeLine := by
  have e : ∀ n : Fin 99, ("w" : Str).length + (Str.ofString (toString (n.val : Int))).length ≤ sizeLine := by decide +kernel
  have := e ⟨i.toNat, by omega⟩
  rw [show ((⟨i.toNat, by omega⟩ : Fin 99).val : Int) = i from Int.toNat_of_nonneg h] at this
  exact this
theorem Thing.notNew {H : Hp} {v : V} {n : Nat} {p : Addr} (h : Thing H v n) (k : H p = none) : v ≠ .ref p := fun e => by
  subst e
  cases h with
  | tup h => rw [h] at k; cases k
  | lst h _ => rw [h] at k; cases k
  | dct h => rw [h] at k; cases k
def spObj2 : Sp := fun vs H Q _ => ∃ (a b : Addr) (c : Nat), vs = [.ref a] ∧ StA H a b c ∧ c < 1000000000 ∧
  ∀ v H' k, k ≤ 10 → StA H' a b (c + k) → SameB a b H H' → (∀ H2, (∀ x o, H x = none → H' x = some o → H2 x = some o) → Thing H2 v 0) → (∀ p, v = .ref p → H p = none) → Q v H'
theorem StA.keepT {H H' : Hp} {a b : Addr} {c : Nat} {v : V} (h : StA H a b c) (s : SameT v H H') (na : v ≠ .ref a) (nb : v ≠ .ref b) : StA H' a b c := by
  obtain ⟨d, n, m, ns, ha, hb, r⟩ := h.ex
  exact ⟨d, n, m, ns, s _ _ na ha, s _ _ nb hb, r⟩
end SpE

set_option maxHeartbeats 4000000
namespace SpE
open PySem PySem.Spec PyProof.Rows L2 L2H HotX
def Cau (p : Addr × Obj) (C d : Addr) : Prop := p.2.cls = .ref C ∧ p.2.dict = some d ∧ ∃ vs, p.2.data = .fields vs
def IsP (K : PySem.W.Frag) (H : Hp) (a C d : Addr) (x c : V) (b : Bool) : Prop := x = .ref a ∧ (∃ fs : List (Str × V), H d = some (.xd fs)) ∧ ErC K C ∧
  ((∃ u, ClsV c u ∧ PySem.W.kitOne K (.ref C) u = some b) ∨
   (∃ (tp : Addr) (cs : List V) (us : List Value), c = .ref tp ∧ H tp = some (.tup cs) ∧ Paired ClsV cs us ∧ PySem.W.kitAny K (.ref C) us = some b))
def rIsP (K : PySem.W.Frag) (a C d : Addr) : List V → Hp → VK → Prop := fun xs H Q => ∃ (x c : V) (b : Bool), xs = [x, c] ∧ IsP K H a C d x c b ∧ Q (.bl b) H
theorem call_isP {X : Cx} {K : PySem.W.Frag} {p : Addr × Obj} {C d : Addr} (hK : X.K = K) (hp : p ∈ X.pn) (z : Cau p C d) : CallR X (.builtin "isinstance") (rIsP K p.1 C d) := by
  subst hK
  intro pins s σ H xs us Q I r h
  obtain ⟨x, c, b, rfl, ⟨rfl, ⟨fs, ed⟩, T, way⟩, q⟩ := h
  obtain ⟨u1, u2, rfl, r1, r2⟩ := vals2 r
  cases (show u1 = Value.ref p.1 from r1)
  have hx : ObjOk X.prog X.w H s.heap d (.xd fs) := I.hok d _ ed
  obtain ⟨mA, ⟨oD, es, ep, hoD, hrest⟩, rel⟩ := hx
  have ho := (I.pin p (List.mem_append_left _ hp)).1
  obtain ⟨z1, z2, vs, z3⟩ := z
  have J : PySem.W.InstAt s.heap p.1 p.2 C (some oD) := ⟨ho, z1, by unfold PySem.W.notCls; rw [z3], by rw [z2]; exact hoD⟩
  have kx : PySem.W.KitX X.K (.ref p.1) (.ref C) (fun h => PySem.W.InstAt h p.1 p.2 C (some oD)) := PySem.W.kitx_exc T.clsI T.ga T.gg T.o.exC T.cl T.hn T.ht T.hm
  rcases way with ⟨u, k, e⟩ | ⟨tp, cs, ws, rfl, hT, k, e⟩
  · have e2 := k.eq r2
    subst e2
    exact PySem.W.kia_one kx I.kIn J e (fun z => nomatch z) fun tk => ⟨.bl b, H, I.tok tk, rfl, q⟩
  · cases (show u2 = Value.ref tp from r2)
    obtain ⟨_, its, rv, o, h1, h2, n, h3⟩ := (show ObjOk X.prog X.w H s.heap tp (.tup cs) from I.hok tp _ hT)
    have e3 := ClsV.all k rv
    subst e3
    obtain ⟨oc, od, dt, sl⟩ := o
    simp only at h2 h3
    subst h2 h3
    exact PySem.W.kia_tup kx I.kIn J h1 e (fun z => nomatch z) fun tk => ⟨.bl b, H, I.tok tk, rfl, q⟩
theorem isp_er {K : PySem.W.Frag} {H : Hp} {a C d S D : Addr} {fs : List (Str × V)} (e : H d = some (.xd fs)) (h : Below S K C) (TD : ErC K D) (n : D ≠ S) : IsP K H a C d (.ref a) (.ref D) (decide (C = D)) :=
  ⟨rfl, ⟨fs, e⟩, h.er, .inl ⟨_, .own D, kit_er h TD n⟩⟩
structure FnP (p : Addr × Obj) (P : Program) (w : World) (K : PySem.W.Frag) (mg : Str → Option Value) (base : Heap) (k : Nat) (f : Addr) (fd : FuncData) (ps : List Str) (sp : Sp) : Prop where
  len : ∀ vs H Q E, sp vs H Q E → vs.length = ps.length
  go : ∀ (A : Around) (outer : List Env) (s : Shared) (H : Hp) (us : List Value) (vs : List V) (Q : VK), RoomH k A → Hot1 A p → PinOk outer H s p → Env0 P w K mg base A outer s H → BindsTo s fd ⟨us, []⟩ (ps.zip us) → Vals vs us →
    sp vs H Q (fun _ _ _ => False) → codeAny (model P w) A (.call (.ref f) ⟨us, []⟩) (CR CX0 outer P w H s Q fun _ _ _ => False) s
theorem fnP_of {p : Addr × Obj} {P : Program} {w : World} {K : PySem.W.Frag} {mg : Str → Option Value} {base : Heap} {k : Nat} {f : Addr} {fd : FuncData} {x qual : Str} {params : Arguments} {body : List Stmt} {scope : Scope} {N ps : List Str} {sp : Sp}
    (F : FunD K x qual params body scope [] [] f fd) (S : FnScope N ps scope) (len : ∀ vs H Q E, sp vs H Q E → vs.length = ps.length)
    (hbody : ∀ (cdv : Value) (A : Around) (outer : List Env) (s : Shared) (H : Hp) (vs : List V) (Q : VK), Hot1 A p → RoomH k (A.deeper (envOfC qual scope s.heap.objs.size f cdv)) → sp vs H Q (fun _ _ _ => False) →
      ∃ t, PSs (cxH CX0 P w K mg base N qual scope f cdv A outer s H (fun _ _ _ => False) p) body t ∧ t { nx := fun _ H' => Q .non H', rt := Q } (L2.start N vs) H) :
    FnP p P w K mg base (k + 1) f fd ps sp := by
  obtain ⟨oc, od, dV, kV, doc, pm, an, cdv, ct, osl, rfl, lk, hcd, _, _⟩ := F.ex
  refine ⟨len, fun A outer s H us vs Q room hot pin e0 bind r h => ?_⟩
  have hlen := len _ _ _ _ h
  have inK : K.In s.heap := e0.mod.kin.keeps fun b o e => (e0.bs b o e).1
  have par : ∀ y ∈ ps.zip us, scope.names.lookup y.1 = some .local ∨ (scope.names.lookup y.1 = some .cell ∧ ((cellsFrom (s.heap.objs.size + 1) scope.names []).lookup y.1).isSome = true) := by
    rintro ⟨n, v⟩ hy
    exact (S.par n (List.of_mem_zip hy).1).imp id fun q => ⟨q, PySem.W.cellsFrom_some _ _ _ (.inl q)⟩
  refine codeAny_call_function room.depth (inK _ _ lk) rfl S.co S.gen rfl (PySem.W.codeRec_of inK hcd) (bind _ _ _ _ ?_)
  refine wpAny_newFunctionEnv_cells S.kind par fun env henv s1 ic => ?_
  subst henv
  refine ⟨(e0.mod.nolimit.keeps fun b o e => (e0.bs b o e).1).keeps ic.toInCall.keep, codeAny_func ?_⟩
  obtain ⟨t, rule, rd⟩ := hbody cdv A outer s H vs Q hot (room.deeper _) h
  refine wpAny_mono (rule.run [] s1 _ H _ (inv_startH (CX := CX0) (E := fun _ _ _ => False) S pin e0 hlen r ic) rd) (fun fl s' q => ?_) fun _ _ q => q
  match fl, q with
  | .ret u, ⟨v, _, H', J, rv, q⟩ => exact ⟨v, H', J.os, J.bare, J.base, J.hok, rv, q⟩
  | .next, ⟨_, H', J, q⟩ => exact ⟨V.non, H', J.os, J.bare, J.base, J.hok, rfl, q⟩
  | .brk, ⟨_, _, _, q⟩ => exact q.elim
  | .cont, ⟨_, _, _, q⟩ => exact q.elim
theorem pe_callP {X : Cx} {p : Addr × Obj} {k : Nat} {f : Addr} {fd : FuncData} {ps : List Str} {sp : Sp} {x : Str} {q pos : Pos} {e : Expr} {es : List Expr} {t : TA} (F : FnP p X.prog X.w X.K X.mg X.base k f fd ps sp) (hr : RoomH k X.A) (hp : p ∈ X.pn) (hot : Hot1 X.A p)
    (hg : Gl X x) (hm : X.mg x = some (.ref f)) (hk : PySem.W.keepIn X.K (.ref f) = true) (hb : Binds X.K fd ps []) (ha : PA X (e :: es) t)
    (hdb : (x == ("__debug__" : Str)) = false := by decide) (he : starEach (e :: es) X.env = (false, eval e X.env) :: starEach es X.env := by rfl) (hpl : (backTo pos (starEach es X.env)).any (·.1) = false := by rfl) :
    PE X (.Call (.Name x q) (e :: es) [] pos) (tCallS sp (fun _ _ _ _ => False) t) := by
  refine ⟨fun pins s σ H Q I h => ?_⟩
  refine wpAny_Call_Name_kw (ld_glob I hg hm (PySem.W.callWith_K (h₀ := X.base) I.ok.mod.kin hk (thn (ha.run pos pins s σ H _ I h) fun us s1 hh => ?_) he hpl) hdb)
  obtain ⟨vs, H1, I1, r, hsp⟩ := hh
  refine ⟨I1.kIn, ?_⟩
  have hlen : us.length = ps.length := by rw [← r.length]; exact F.len _ _ _ _ hsp
  have b := hb s1 us I1.kIn (by rw [List.append_nil]; exact hlen)
  rw [List.append_nil] at b
  obtain ⟨p1, p2, p3, p4, p5⟩ := I1.pin p (List.mem_append_left _ hp)
  have pin : PinOk X.stack H1 s1 p := ⟨p1, p2, fun hm => (List.mem_cons.mp (I1.stkSub p.1 hm)).elim p3 p4, p5⟩
  refine wpAny_call (codeAny_mono (F.go X.A X.stack s1 H1 us vs Q hr hot pin I1.env0 b r hsp) fun res s' hres => ?_)
  match res, hres with
  | .ok (.ret u), hres => exact I1.after hres
abbrev blkP (X : Cx) (s : Shared) (H : Hp) (scope : Scope) (cenv : Env) (fp : List Addr) : Cx := { X.blk s H scope cenv fp with pn := X.pn }
theorem inv_pn {B : Cx} {l : List (Addr × Obj)} {σ : L2.St} {H : Hp} {s : Shared} (I : Inv B [] σ H s) (k : ∀ p ∈ l, s.heap.get? p.1 = some p.2 ∧ H p.1 = none ∧ p.1 ≠ B.env.locals ∧ p.1 ∉ B.fs ∧ ∀ v, p.2.data ≠ .cell v) : Inv { B with pn := l } [] σ H s := by
  obtain ⟨⟨a1, a2, a3, a4, a5, a6, a7, a8, a9, a10, a11, a12, a13, a14, a15, a16, a17, a18⟩, b1, b2, b3, b4, b5, b6, b7, _, b9, b10⟩ := I
  exact ⟨⟨a1, a2, a3, a4, a5, a6, a7, a8, a9, a10, a11, a12, a13, a14, a15, a16, a17, a18⟩, b1, b2, b3, b4, b5, b6, b7, fun p hp => k p (by rw [List.append_nil] at hp; exact hp), b9, b10⟩
section
variable {X : Cx} {elt tg iter : Expr} {ifs : List Expr} {scope : Scope} {own : List (Str × Nat)} {pos : Pos} {wi : TI} {g : TG} {tt : TT} {te : TE}
theorem pe_lcP (hc : HotC X) (hN : X.N.Nodup) (hi : PIH X tg iter wi) (ok : BlkOk X.N X.env.scope scope own)
    (hg : ∀ s H C cl fp, PG (blkP X s H scope (compEnvC scope cl C X.env) fp) tg g) (ht : ∀ s H C cl fp, PTs (blkP X s H scope (compEnvC scope cl C X.env) fp) ifs tt)
    (he : ∀ s H C cl fp, PE (blkP X s H scope (compEnvC scope cl C X.env) fp) elt te) (hs : ∀ x, foldedSetIterable iter X.env x = pure x := by intro _; rfl) :
    PE X (.ListComp elt [⟨tg, iter, ifs, 0⟩] scope pos) (tLc wi g tt te (own.map (·.2))) := by
  refine ⟨fun pins s σ H Q I rd => ?_⟩
  rw [eval_ListComp]
  have cellOf : ∀ y ∈ scope.names, y.2 = .free → ∃ c, X.env.cells.lookup y.1 = some c := fun y hy e => I.ok.has _ (ok.free y hy e)
  refine wpAny_comprehension_free (use := none) rfl hs (closure_ok cellOf) ok.kind (fun y hy e => (ok.uniq y hy).trans (congrArg some e)) (thn (hi.run pins s σ H _ I rd) fun v s1 h1 => thn h1 fun itv s2 h2 => ?_)
  obtain ⟨it, fp, tn, J, H2, rfl, I2, T, at2, free2, rd2⟩ := h2
  refine wpAny_newObj_type (newEnv_comp ?_) (Nat.zero_le sizeLine)
  generalize eD : s2.heap.objs.size = D
  have noD : H2 D = none := I2.hok.fresh (Nat.le_of_eq eD)
  obtain ⟨W, ⟨m, w0⟩, turn⟩ := rd2 D noD
  generalize eS : ({ s2 with heap := s2.heap.push { cls := .type "list", data := .seq ([] : List Value).toArray } } : Shared) = sL
  have hL : sL.heap = s2.heap.push { cls := .type "list", data := .seq ([] : List Value).toArray } := by rw [← eS]
  have kL : ∀ b o, s2.heap.get? b = some o → sL.heap.get? b = some o := fun b o e => by rw [hL]; exact Heap.get?_push_of_some _ e
  have IL : Inv X pins σ (upd H2 D (.lst [])) sL := by
    have z := I2.laid (a := D) (o := .lst []) (h' := s2.heap.push { cls := .type "list", data := .seq ([] : List Value).toArray }) (t' := s2.toks) (fun b o e => Heap.get?_push_of_some _ e) (Nat.le_of_eq eD) ⟨Nat.zero_le _, [], 0, .nil, by rw [← eD]; exact Heap.get?_push_size _ rfl⟩
    rw [← eS]
    exact z
  have old : ∀ b ∈ fp, b < s2.heap.objs.size := fun b hb => let ⟨_, e, _⟩ := T.obj _ _ at2 b hb; Heap.lt_size e
  have freeL : ∀ b ∈ fp, FpOk X pins (upd H2 D (.lst [])) b ∧ b < sL.heap.objs.size := fun b hb =>
    ⟨⟨(upd_ne (by rw [← eD]; exact Nat.ne_of_lt (old b hb))).trans (free2 b hb).1, (free2 b hb).2⟩, by rw [hL, Heap.size_push]; exact Nat.lt_succ_of_lt (old b hb)⟩
  have atL := T.keep _ _ _ at2 fun b _ o e => kL b o e
  have B0 := block_start IL ok hN freeL
  have rg := hg sL (upd H2 D (.lst [])) sL.heap.objs.size (cellsFrom (sL.heap.objs.size + 1) scope.names (cloFrom X.env.cells scope.names [])) fp
  have rt := ht sL (upd H2 D (.lst [])) sL.heap.objs.size (cellsFrom (sL.heap.objs.size + 1) scope.names (cloFrom X.env.cells scope.names [])) fp
  have re := he sL (upd H2 D (.lst [])) sL.heap.objs.size (cellsFrom (sL.heap.objs.size + 1) scope.names (cloFrom X.env.cells scope.names [])) fp
  show codeAny _ _ (.compStart (.ListComp elt [⟨tg, iter, ifs, 0⟩] scope pos) 0 (.ref it) (.ref D) (compEnvC scope (cellsFrom (sL.heap.objs.size + 1) scope.names (cloFrom X.env.cells scope.names [])) sL.heap.objs.size X.env)) (compPost (model X.prog X.w) X.A X.xe none _ (.ref D) sL.heap.objs.size) { sL with heap := pushCells (sL.heap.push { cls := .type "dict", data := .dict #[] }) scope.names }
  generalize eE : compEnvC scope (cellsFrom (sL.heap.objs.size + 1) scope.names (cloFrom X.env.cells scope.names [])) sL.heap.objs.size X.env = ce at B0 rg rt re ⊢
  have locE : ce.locals = sL.heap.objs.size := by rw [← eE]; rfl
  generalize eH : upd H2 D (.lst []) = HL at IL B0 rg rt re w0 freeL
  generalize eB : ({ sL with heap := pushCells (sL.heap.push { cls := .type "dict", data := .dict #[] }) scope.names } : Shared) = sB at B0 ⊢
  have kB : ∀ b o, sL.heap.get? b = some o → sB.heap.get? b = some o := fun b o e => by rw [← eB]; exact pushCells_keeps _ _ _ _ (Heap.get?_push_of_some _ e)
  have atB := T.keep _ _ _ atL fun b _ o e => kB b o e
  have noFp : ∀ b ∈ fp, HL b = none := fun b hb => (freeL b hb).1.1
  have pinX : ∀ p ∈ X.pn, sB.heap.get? p.1 = some p.2 ∧ HL p.1 = none ∧ p.1 ≠ (X.blk sL HL scope ce fp).env.locals ∧ p.1 ∉ (X.blk sL HL scope ce fp).fs ∧ ∀ v, p.2.data ≠ .cell v := fun p hp => by
    obtain ⟨p1, p2, p3, p4, p5⟩ := IL.pin p (List.mem_append_left _ hp)
    refine ⟨kB _ _ p1, p2, fun z => ?_, fun hm => (List.mem_cons.mp (IL.stkSub p.1 hm)).elim p3 p4, p5⟩
    have z' : p.1 = sL.heap.objs.size := z.trans locE
    exact absurd (Heap.lt_size p1) (by rw [z']; exact Nat.lt_irrefl _)
  have BP : Inv (blkP X sL HL scope ce fp) [] (wipe σ (own.map (·.2))) HL sB := inv_pn B0 pinX
  have hcB : HotC (blkP X sL HL scope ce fp) := hc
  have stays : ∀ {σ' : L2.St} {H' : Hp} {s' : Shared}, Inv (blkP X sL HL scope ce fp) [] σ' H' s' → (∀ b ∈ fp, H' b = none) → ∀ b ∈ fp, FpOk (blkP X sL HL scope ce fp) [] H' b := fun {σ' H' s'} J no b hb =>
    ⟨no b hb, (J.ok.exf b hb).1, J.ok.exfs b hb, .inl hb, fun x c e => (J.ok.exf b hb).2 x c e, fun p hp => by
      rw [List.append_nil] at hp
      exact (freeL b hb).1.2.2.2.2.2 p (List.mem_append_left _ hp)⟩
  have loop : codeAny (model X.prog X.w) X.A (.compLoop (.ListComp elt [⟨tg, iter, ifs, 0⟩] scope pos) 0 (.ref it) (.ref D) ce) (compPost (model X.prog X.w) X.A X.xe none (EP X pins σ Q) (.ref D) sL.heap.objs.size) sB := by
    refine compLoop_any (fun n s' => ∃ i H', Inv (blkP X sL HL scope ce fp) [] (wipe σ (own.map (·.2))) H' s' ∧ tn i s'.heap ∧ (∀ b ∈ fp, H' b = none) ∧ W i n H') (fun n sA hA => ?_) m ⟨0, HL, BP, atB, noFp, w0⟩
    obtain ⟨i, HA, IA, atA, noA, wA⟩ := hA
    cases turn i n HA wA with
    | inl stop =>
      refine thnF (T.done (blkP X sL HL scope ce fp) rfl rfl rfl hcB i [] sA _ HA (fun _ _ => False) IA (stays IA noA) atA stop.1) fun r s6 hr => ?_
      obtain ⟨rfl, I6⟩ := hr
      have back : Inv X pins σ HA s6 := IL.call' (ch := fp) I6.os I6.base I6.hok I6.bare fun b hb => ⟨(freeL b hb).1.2.2.2.1, (freeL b hb).1.2.1, (freeL b hb).1.2.2.2.2.1, (freeL b hb).1.2.2.2.2.2⟩
      have noC : HA sL.heap.objs.size = none := by
        rw [← locE]
        exact I6.free
      obtain ⟨mm, hn, _⟩ := I6.loc
      rw [show (blkP X sL HL scope ce fp).env.locals = sL.heap.objs.size from locE] at hn
      obtain ⟨f0, f1, f2, f3, f4, f5⟩ := IL.fpOk (Nat.le_refl _) noC
      exact ⟨mm, hn, fun h'' same => ⟨.ref D, HA, back.turned (t' := s6.toks) (fun b o hb e => (same.2 b hb).trans e) f0 f1 f3 f4 f5, rfl, stop.2⟩⟩
    | inr more =>
      obtain ⟨go, Nx, less, step⟩ := more
      refine thnF (T.item (blkP X sL HL scope ce fp) rfl rfl rfl hcB i [] sA _ HA (fun _ _ => False) IA (stays IA noA) atA go) fun r s6 hr => ?_
      obtain ⟨u, rfl, h6⟩ := hr
      refine thnF h6 fun _ s7 h7 => ?_
      obtain ⟨x, H7, I7, rx, yl, at7, no7⟩ := h7
      refine thnF (rg.run _ s7 _ H7 x u _ (I7.pinned (stays I7 no7) (T.obj _ _ at7)) rx (step x H7 yl)) fun _ s8 h8 => ?_
      obtain ⟨σ8, H8, I8, ew, rd8⟩ := h8
      refine thnF (rt.run _ s8 σ8 H8 _ I8 rd8) fun b s9 h9 => ?_
      obtain ⟨H9, I9, rd9⟩ := h9
      have next : ∀ {s' : Shared} {H' : Hp}, Inv (blkP X sL HL scope ce fp) ([] ++ pinsAt fp s7.heap) σ8 H' s' → Nx H' → ∃ n', n' < n ∧ ∃ i H', Inv (blkP X sL HL scope ce fp) [] (wipe σ (own.map (·.2))) H' s' ∧ tn i s'.heap ∧ (∀ b ∈ fp, H' b = none) ∧ W i n' H' := fun {s' H'} J nx => by
        obtain ⟨n', lt, w'⟩ := less H' nx
        have there : ∀ b ∈ fp, ∀ o, s7.heap.get? b = some o → s'.heap.get? b = some o ∧ H' b = none := fun b hb o e =>
          let z := J.pin (b, o) (List.mem_append_right _ (List.mem_append_right _ (mem_pinsAt hb e)))
          ⟨z.1, z.2.1⟩
        refine ⟨n', lt, i + 1, H', (J.unpinned (pins := [])).weak (by rw [← ew, wipe_length]) (fun j v e => (wipe_some (show (wipe σ8 (own.map (·.2)))[j]? = some (some v) by rw [ew]; exact e)).1), T.keep _ _ _ at7 fun b hb o e => (there b hb o e).1, fun b hb => ?_, w'⟩
        obtain ⟨o, e, _⟩ := T.obj _ _ at7 b hb
        exact (there b hb o e).2
      match b, rd9 with
      | false, rd9 => exact next I9 (by simpa using rd9)
      | true, rd9 =>
        have rd9 : te σ8 H9 fun y H4 => ∃ acc, H4 D = some (.lst acc) ∧ acc.length < sizeLine ∧ Nx (upd H4 D (.lst (acc ++ [y]))) := by simpa using rd9
        refine thnF (re.run _ s9 σ8 H9 _ I9 rd9) fun z s10 h10 => ?_
        obtain ⟨y, H10, I10, ry, acc, hD10, lt10, nx⟩ := h10
        exact app_ok (X := blkP X sL HL scope ce fp) I10 hD10 lt10 ry fun s11 I11 => next I11 nx
  exact codeAny_compStart_list loop (T.self X.A 0 _ _ _ atB loop)
end
def tMkE (C : Addr) (fs : List Str) (t : TA) : L2.St → Hp → XK → Prop := fun σ H Q => t σ H fun vs H1 => vs.length = fs.length ∧ vs.length ≤ 1000 ∧ ∀ d, H1 d = none → Q (.ref C) (some d) (upd H1 d (.xd (fs.zip vs).reverse))
theorem pmk_er {X : Cx} {x : Str} {C : Addr} {fs : List Str} {j : Nat} {p pos : Pos} {e : Expr} {es : List Expr} {t : TA} (M : ErMk X.prog X.w X.K X.mg X.base x C fs) (hr : Room j X.A) (hk : 2 ≤ j) (hg : Gl X x) (ha : PA X (e :: es) t)
    (hdb : (x == ("__debug__" : Str)) = false := by decide) (he : starEach (e :: es) X.env = (false, eval e X.env) :: starEach es X.env := by rfl) (hpl : (backTo pos (starEach es X.env)).any (·.1) = false := by rfl) :
    L2N.PMk X (.Call (.Name x p) (e :: es) [] pos) (tMkE C fs t) := by
  intro pins s σ H Q I h
  refine wpAny_Call_Name_kw (ld_glob I hg M.gl (PySem.W.callWith_K (h₀ := X.base) I.ok.mod.kin M.er.o.kC (thn (ha.run pos pins s σ H _ I h) fun us s1 hh => ?_) he hpl) hdb)
  obtain ⟨vs, H1, I1, r, hl, hz, q⟩ := hh
  refine ⟨I1.kIn, ?_⟩
  obtain ⟨fI, fd, iC, tI, F1, b1, _⟩ := M.ini
  have T := M.er.o
  obtain ⟨nm, qn, N, bs, bm, sn, sub, ab, col, dd, k0, k1, k2, k3, k5, hC, hbm⟩ := T.cls
  obtain ⟨hp, gs, dr, tk, os⟩ := s1
  have ge : hp.objs.size ≤ hp.objs.size + 1 := Nat.le_succ _
  have new : H1 (hp.objs.size + 1) = none := I1.hok.fresh ge
  have keep : ∀ b o, hp.get? b = some o → ((hp.push (PySem.W.kdv_tup us)).push (PySem.HandSPX.excO C hp.objs.size)).get? b = some o := fun b o z => Heap.get?_push_of_some _ (Heap.get?_push_of_some _ z)
  have I2 : Inv X pins σ (upd H1 (hp.objs.size + 1) (exo (hp.objs.size + 1) C none)) ⟨(hp.push (PySem.W.kdv_tup us)).push (PySem.HandSPX.excO C hp.objs.size), gs, dr, tk, os⟩ :=
    I1.laid (t' := tk) (a := hp.objs.size + 1) keep ge (exo_ok (t1 := hp.objs.size) (by heap_get))
  have args : (us).length ≤ sizeLine := by rw [← r.length, sizeLine_eq]; omega
  have bind := b1 ⟨(hp.push (PySem.W.kdv_tup us)).push (PySem.HandSPX.excO C hp.objs.size), gs, dr, tk, os⟩ (Value.ref (hp.objs.size + 1) :: us) I2.kIn (by
    rw [List.append_nil]
    show us.length + 1 = fs.length + 1
    rw [← r.length, hl])
  rw [List.append_nil] at bind
  have made : spI C fs (.ref (hp.objs.size + 1) :: vs) (upd H1 (hp.objs.size + 1) (exo (hp.objs.size + 1) C none))
      (fun v H2 => v = .non ∧ ∃ d, H2 (hp.objs.size + 1) = some (exo (hp.objs.size + 1) C (some d)) ∧ H2 d = some (exd d (fs.zip vs).reverse) ∧ H1 d = none ∧ Q (.ref C) (some d) (upd (del H2 (hp.objs.size + 1)) d (.xd (fs.zip vs).reverse))) (fun _ _ _ => False) := by
    refine ⟨_, vs, rfl, hl, upd_same, fun d nd ne => ⟨rfl, d, upd_same, by rw [upd_ne ne]; exact upd_same, by rw [upd_ne ne] at nd; exact nd, ?_⟩⟩
    rw [upd_ne ne] at nd
    have eq : upd (del (upd (upd (upd H1 (hp.objs.size + 1) (exo (hp.objs.size + 1) C none)) d (exd d (fs.zip vs).reverse)) (hp.objs.size + 1) (exo (hp.objs.size + 1) C (some d))) (hp.objs.size + 1)) d (.xd (fs.zip vs).reverse) = upd H1 d (.xd (fs.zip vs).reverse) := by
      funext b
      unfold upd del
      by_cases hb : b = d
      · simp [hb]
      · by_cases ha : b = hp.objs.size + 1
        · simp only [ha, new]
          simp [fun z => ne (Eq.symm z)]
        · simp [hb, ha]
    rw [eq]
    exact q d nd
  have room : Room (1 + 1) X.A := hr.mono hk
  refine wpAny_call (callK F.excBase_ValueError (fun Y => PySem.HandSPX.refsVE_contains Y bm hbm) (I1.kIn _ _ hC) (PySem.W.looks_findIn I1.kIn iC) (fun self => PySem.W.bind_fn I1.kIn self tI) args
    (codeAny_mono (F1.run _ X.stack _ _ ⟨_, []⟩ _ _ _ (fun _ _ _ => False) (room.make C us []) (I2.env0.make C us []) bind (show Vals (V.ref (hp.objs.size + 1) :: vs) (Value.ref (hp.objs.size + 1) :: us) from .cons rfl r) made) fun res s' hres => ?_))
  match res, hres with
  | .ok (.ret u), hres =>
    obtain ⟨v, H2, os2, bare2, un2, hok2, rv, ev, d, ea, ed, nd, qd⟩ := hres
    subst ev
    obtain ⟨h2, g2, d2, t2, os'⟩ := s'
    obtain ⟨t0, G, J, kG, noG, hoe, na⟩ := mk_end0 (d2 := d2) (t2 := t2) I1 ge keep un2 hok2 os2 bare2 ea ed nd
    refine ⟨rv, _, _, _, ⟨G, g2, d2, t2, os'⟩, _, .ref C, some d, rfl, J, kG, noG, hoe, ⟨rfl, rfl, fun ws hw => ?_⟩, rfl, rfl, na, rfl, bare2, raises_own T.exC T.tyC, qd⟩
    cases hw
    rfl
theorem pss_ex {X : Cx} {ss : List Stmt} {ι : Type} {p : ι → Prop} {t : ι → TS} (h : ∀ i, p i → PSs X ss (t i)) : PSs X ss (fun D σ H => ∃ i, p i ∧ t i D σ H) :=
  ⟨fun pins s σ H D I ⟨i, a, q⟩ => (h i a).run pins s σ H D I q⟩
theorem takesN {X : Cx} : L2N.Takes X (fun _ _ _ _ => False) := fun _ _ x => by
  obtain ⟨_, _, _, _, _, _, _, _, _, _, _, _, _, _, _, _, _, w⟩ := x
theorem exm_er {K : PySem.W.Frag} {C S : Addr} (m : MroIs K C (above S)) (TS : ErC K S) : PySem.W.exmOne K (.ref C) (.ref S) = some true := by
  obtain ⟨cd, e1, e2⟩ := m.ex
  have n : ((PySem.W.clsIn K S).isSome && PySem.W.typeIn K (.ref S) == some (.type "type")) = true := by
    rw [TS.clsI, TS.o.tyC]
    rfl
  unfold PySem.W.exmOne
  rw [TS.o.exC, if_pos (by decide)]
  unfold PySem.W.kitCls PySem.W.subIn PySem.W.mroIn
  dsimp only
  rw [if_pos n, e1, Option.bind_some, e2, if_neg (by simp)]
  try simp
theorem hot_suite {A : Around} {a : Addr} {oe : Obj} {cls : Value} {d : Option Addr} (z : L2N.Zn cls d oe) (f : ∃ vs, oe.data = .fields vs) : Hot1 (A.mark (some (.ref a))) (a, oe) := by
  obtain ⟨vs, e⟩ := f
  exact ⟨rfl, vs, e, z.2.2 vs e⟩
theorem cau_of {a C dd : Addr} {oe : Obj} {cls : Value} {d : Option Addr} (z : L2N.Zn cls d oe) (f : ∃ vs, oe.data = .fields vs) (e : cls = .ref C ∧ d = some dd) : Cau (a, oe) C dd := ⟨z.1.trans e.1, z.2.1.trans e.2, f⟩
end SpE

set_option maxHeartbeats 4000000
namespace K00
open PySem PySem.Spec PyProof.Rows L2 SpE He
open C8 (Cal pe_c)
def top (i : Nat) : Stmt := PySem.Challenge.pw_sameproof_k00_errors_made.main.body.getD i (.Pass ⟨0, 0, 0, 0⟩)
abbrev s_law_start : Stmt := top 29
abbrev s_law_pick : Stmt := top 30
abbrev s_law_between : Stmt := top 31
abbrev s_law_kinds_first : Stmt := top 32
abbrev s_law_kinds_last : Stmt := top 33
abbrev s_law_kinds : Stmt := top 34
abbrev s_law_form_made : Stmt := top 35
abbrev s_law_text_made : Stmt := top 36
abbrev s_law_other_made : Stmt := top 37
abbrev s_law_made_at : Stmt := top 38
abbrev s_law_object : Stmt := top 39
abbrev s_law_very : Stmt := top 40
abbrev s_law_caught : Stmt := top 41
abbrev s_law : Stmt := top 42
def tab : ErTab := ([("BadOther", ["other"]), ("BadParts", ["p", "n"]), ("BadQuotient", ["q"]), ("BadQuotientText", ["text"]), ("BadSigns", ["given"]), ("BadTerm", ["term"]), ("BadClauses", ["index"]), ("BadClause", ["clause"]), ("BadNumber", ["number"]), ("BadBook", ["book"]), ("BadTermText", ["text"]), ("BadBookText", ["line"]), ("BadLine", ["line"]), ("BadNormal", ["normal"]), ("BadLiteral", ["literal"]), ("BadModel", ["model"]), ("BadAtom", ["atom"]), ("BadProof", ["proof"]), ("BadRows", ["rows"]), ("BadAssumptions", ["index"]), ("BadAnswer", ["answer"]), ("BadPaperText", ["line"]), ("BadTable", ["table"]), ("BadTold", ["told"]), ("BadOrder", ["index"])] : List (Str × List Str))
def none0 : List Str := (["SameError"] : List Str)
structure Txt (P : Program) (w : World) (K : PySem.W.Frag) (mg : Str → Option Value) (base : Heap) : Prop extends Blt mg where
  er : ErFacts "SameError" none0 tab K
  e_SameError : Er0 K mg "SameError" (ga K "SameError")
  e_BadOther : ErMk P w K mg base "BadOther" (ga K "BadOther") ["other"]
  e_BadParts : ErMk P w K mg base "BadParts" (ga K "BadParts") ["p", "n"]
  e_BadQuotient : ErMk P w K mg base "BadQuotient" (ga K "BadQuotient") ["q"]
  e_BadQuotientText : ErMk P w K mg base "BadQuotientText" (ga K "BadQuotientText") ["text"]
  e_BadSigns : ErMk P w K mg base "BadSigns" (ga K "BadSigns") ["given"]
  e_BadTerm : ErMk P w K mg base "BadTerm" (ga K "BadTerm") ["term"]
  e_BadClauses : ErMk P w K mg base "BadClauses" (ga K "BadClauses") ["index"]
  e_BadClause : ErMk P w K mg base "BadClause" (ga K "BadClause") ["clause"]
  e_BadNumber : ErMk P w K mg base "BadNumber" (ga K "BadNumber") ["number"]
  e_BadBook : ErMk P w K mg base "BadBook" (ga K "BadBook") ["book"]
  e_BadTermText : ErMk P w K mg base "BadTermText" (ga K "BadTermText") ["text"]
  e_BadBookText : ErMk P w K mg base "BadBookText" (ga K "BadBookText") ["line"]
  e_BadLine : ErMk P w K mg base "BadLine" (ga K "BadLine") ["line"]
  e_BadNormal : ErMk P w K mg base "BadNormal" (ga K "BadNormal") ["normal"]
  e_BadLiteral : ErMk P w K mg base "BadLiteral" (ga K "BadLiteral") ["literal"]
  e_BadModel : ErMk P w K mg base "BadModel" (ga K "BadModel") ["model"]
  e_BadAtom : ErMk P w K mg base "BadAtom" (ga K "BadAtom") ["atom"]
  e_BadProof : ErMk P w K mg base "BadProof" (ga K "BadProof") ["proof"]
  e_BadRows : ErMk P w K mg base "BadRows" (ga K "BadRows") ["rows"]
  e_BadAssumptions : ErMk P w K mg base "BadAssumptions" (ga K "BadAssumptions") ["index"]
  e_BadAnswer : ErMk P w K mg base "BadAnswer" (ga K "BadAnswer") ["answer"]
  e_BadPaperText : ErMk P w K mg base "BadPaperText" (ga K "BadPaperText") ["line"]
  e_BadTable : ErMk P w K mg base "BadTable" (ga K "BadTable") ["table"]
  e_BadTold : ErMk P w K mg base "BadTold" (ga K "BadTold") ["told"]
  e_BadOrder : ErMk P w K mg base "BadOrder" (ga K "BadOrder") ["index"]
section
variable {P : Program} {w : World} {K : PySem.W.Frag} {mg : Str → Option Value} {base : Heap} {f : Addr} {fd : FuncData}
theorem sc_law_pick : FnScope ["state", "many", "cell", "digit", "mixed"] ["state", "many"] (defScope s_law_pick) := ⟨rfl, rfl, rfl, by decide +kernel, rfl, by decide +kernel, by decide +kernel⟩
theorem ok_pick (T : Blt mg) (F : DefOf K "_law_pick" s_law_pick f fd) (g : mg "_law_pick" = some (.ref f)) (b : Binds K fd ["state", "many"] []) : Cal P w K mg base 1 "_law_pick" spPick [] := by
  refine cal_of F g b sc_law_pick (fun vs H Q E h => ?_) (fun cdv A outer s H vs Q E hr h => ?_)
  · obtain ⟨a, b, c, many, rfl, _⟩ := h
    rfl
  · obtain ⟨a, b, c, many, rfl, hS, hc, hm1, hm2, k⟩ := h
    have hne := hS.ne
    obtain ⟨d, n, m, ns, ha, hb, h1, h2, h3, h4, h5⟩ := hS.ex
    refine ⟨_, pss_cons (ps_asg (pe_op op_add (pe_ix ix_list (pv 0) (pe_int) (fun _ _ => rfl)) (pe_int)) (pg_sub (pv 0) (pe_int) set_list))
  (pss_cons (ps_while PassesOwn.never (PW.pt (pw_and (pt_cmpR op_eq (pe_ix ix_list (pv 0) (pe_int) (fun _ _ => rfl)) (pe_int) (nomark _)) (pw_and1 (pt_cmpR (op_neD hr.units) (pe_ix ix_list (pv 0) (pe_int) (fun _ _ => rfl)) (pe_lst (pa_nil)) (nomark _))))) (pss_cons (ps_set (i := 2) sc_law_pick.nd rfl (Or.inl rfl) (pe_callB call_abs rfl T.abs bt_abs (pa_cons (pe_bm PySem.F.plainAttrs_list PySem.F.slot_list_pop PySem.F.type_list_pop mt_popAt (pe_ix ix_list (pv 0) (pe_int) (fun _ _ => rfl)) (pa_cons (pe_int) pa_nil)) pa_nil)))
  (pss_cons (ps_asg (pe_op op_modN (pe_callTy call_int1 rfl T.int bt_int (pa_cons (pe_op op_add (pe_op op_add (pe_op op_mul (pe_ix ix_list (pv 0) (pe_int) (fun _ _ => rfl)) (pe_int)) (pv 2)) (pe_int)) pa_nil)) (pe_int)) (pg_sub (pv 0) (pe_int) set_list))
  (pss_one (ps_asg (pe_ifExp (pt_cmpR op_ge (pv 2) (pe_op op_pow (pe_int) (pe_int)) (nomark _)) (pv 2) (pe_int)) (pg_sub (pv 0) (pe_int) set_list))))))
  (pss_cons (ps_if (pt_cmpR op_gt (pe_ix ix_list (pv 0) (pe_int) (fun _ _ => rfl)) (pe_int) (nomark _)) (pss_cons (ps_set (i := 3) sc_law_pick.nd rfl (Or.inl rfl) (pe_op op_modN (pe_callTy call_int1 rfl T.int bt_int (pa_cons (pe_ix ix_list (pv 0) (pe_int) (fun _ _ => rfl)) pa_nil)) (pv 1)))
  (pss_cons (ps_asg (pe_op op_fdivN (pe_ix ix_list (pv 0) (pe_int) (fun _ _ => rfl)) (pv 1)) (pg_sub (pv 0) (pe_int) set_list))
  (pss_one (ps_ret (pv 3))))) (pss_nil))
  (pss_cons (ps_set (i := 4) sc_law_pick.nd rfl (Or.inl rfl) (pe_op op_modN (pe_callTy call_int1 rfl T.int bt_int (pa_cons (pe_op op_pow (pe_op op_add (pe_op op_add (pe_ix ix_list (pv 0) (pe_int) (fun _ _ => rfl)) (pe_op op_mul (pe_int) (pe_ix ix_list (pv 0) (pe_int) (fun _ _ => rfl)))) (pe_int)) (pe_int)) pa_nil)) (pe_int)))
  (pss_one (ps_ret (pe_op op_modN (pe_op op_modN (pe_callTy call_int1 rfl T.int bt_int (pa_cons (pe_op op_pow (pe_op op_add (pe_op op_add (pe_op op_mul (pv 4) (pe_int)) (pe_op op_mul (pe_int) (pe_ix ix_list (pv 0) (pe_int) (fun _ _ => rfl)))) (pe_int)) (pe_int)) pa_nil)) (pe_int)) (pv 1))))))), ?_⟩
    -- state[2] = state[2] + 1
    refine ⟨_, rfl, a, _, 2, _, rfl, rfl, SqL.of ha, rfl, n, 1, rfl, rfl, _, rfl, a, _, 2, 2, rfl, rfl, ha, rfl, ?_⟩
    -- the loop
    refine while_k (pickW a b many (n + 1) H) (pickB a b many (n + 1) H) ns.length ⟨none, d, m, ns, rfl, rfl, upd_same, by rw [upd_ne hne.symm]; exact hb, h1, h4, h5, sameB_a⟩ ?_ ?_
    · rintro m1 σ H1 ⟨vc, d, s, ns, rfl, rfl, ha, hb, h1, h4, h5, sB⟩ NX fx
      refine ⟨_, rfl, a, _, 1, _, rfl, rfl, SqL.of ha, rfl, rfl, _, rfl, ?_⟩
      by_cases hd : d = 0
      · subst hd
        refine iteT ⟨_, rfl, a, _, 0, _, rfl, rfl, SqL.of ha, rfl, by show 0 ≤ sizeLine; decide, fun p hp => ?_⟩
        have hpa : a ≠ p := ne_of_none ha hp
        have hpb : b ≠ p := ne_of_none hb hp
        have ha' : upd H1 p (.lst []) a = some (.lst [.ref b, .int 0, .int (n + 1), .int s]) := by rw [upd_ne hpa]; exact ha
        have hb' : upd H1 p (.lst []) b = some (.lst (ns.map V.int)) := by rw [upd_ne hpb]; exact hb
        have sB' : SameB a b H (upd H1 p (.lst [])) := sB.trans (sameB_of (same_upd hp))
        refine ⟨.list (ns.map PyData.int), .list [], .lst (SqL.of hb') (dp_ints ns), .lst (SqL.of upd_same) .nil, PySem.W.ke_shaped_ints ns, by decide, _, rfl, ?_⟩
        rw [eqv_ints_nil]
        cases ns with
        | nil => exact iteF (fx _ _ ⟨_, vc, 0, s, [], rfl, rfl, ha', hb', h1, h4, h5, sB'⟩)
        | cons z r =>
          refine iteT ⟨fun σ' H' => ∃ m', m' < (z :: r).length ∧ pickW a b many (n + 1) H m' σ' H', fun _ _ h => h, ?_⟩
          -- cell = abs(state[0].pop(0))
          refine ⟨_, rfl, a, _, 0, _, rfl, rfl, SqL.of ha', rfl, .inl ⟨rfl, _, SqL.of hb'⟩, b, _, 0, 0, V.int z, rfl, rfl, hb', by decide, by decide, seqIndex0 _, rfl, z, rfl, ?_⟩
          have hba : b ≠ a := hne.symm
          have ha2 : upd (upd H1 p (.lst [])) b (.lst ((V.int z :: r.map V.int).eraseIdx 0)) a = some (.lst [.ref b, .int 0, .int (n + 1), .int s]) := by rw [upd_ne hne]; exact ha'
          have hb2 : upd (upd H1 p (.lst [])) b (.lst ((V.int z :: r.map V.int).eraseIdx 0)) b = some (.lst (r.map V.int)) := upd_same
          -- state[3] = int(state[3] * 6151 + cell + 5) % 2147483647
          refine ⟨_, rfl, a, _, 3, _, rfl, rfl, SqL.of ha2, rfl, _, _, rfl, rfl, .inl ⟨by omega, by omega⟩, _, rfl, _, _, rfl, rfl, _, _, rfl, rfl, .inl ⟨_, rfl, _, _, rfl, rfl, (by show (2147483647 : Int) ≠ 0; decide), _, rfl, a, _, 3, 3, rfl, rfl, ha2, rfl, ?_⟩⟩
          -- state[1] = cell if cell >= 10 ** 18 else 0
          refine ⟨_, rfl, _, _, rfl, rfl, ⟨by decide, by decide, by decide⟩, _, _, rfl, rfl, _, rfl, ?_⟩
          have zc : 0 ≤ (if z < 0 then -z else z) := by split <;> omega
          dsimp only
          generalize hcell : (if z < 0 then -z else z) = cell at zc ⊢
          generalize hs2 : (s * 6151 + cell + 5).fmod 2147483647 = s2
          have s20 : 0 ≤ s2 := by rw [← hs2]; exact fm0 _ (by decide)
          have s21 : s2 < 2147483647 := by rw [← hs2]; exact fm1 _ (by decide)
          refine ite2 (fun _ => ?_) (fun _ => ?_)
          · refine ⟨_, rfl, _, rfl, a, _, 1, 1, rfl, rfl, upd_same, rfl, r.length, Nat.lt_succ_self _, _, cell, s2, r, rfl, rfl, ?_, ?_, zc, s20, s21, ?_⟩
            · exact upd_same
            · rw [upd_ne hba, upd_ne hba]; exact hb2
            · exact ((sB'.trans sameB_b).trans sameB_a).trans sameB_a
          · refine ⟨_, rfl, a, _, 1, 1, rfl, rfl, upd_same, rfl, r.length, Nat.lt_succ_self _, _, 0, s2, r, rfl, rfl, ?_, ?_, by decide, s20, s21, ?_⟩
            · exact upd_same
            · rw [upd_ne hba, upd_ne hba]; exact hb2
            · exact ((sB'.trans sameB_b).trans sameB_a).trans sameB_a
      · rw [decide_eq_false (fun z => hd (V.int.inj z))]
        exact iteF (iteF (fx _ _ ⟨_, vc, d, s, ns, rfl, rfl, ha, hb, h1, h4, h5, sB⟩))
    · rintro σ H1 ⟨m1, vc, d, s, ns, rfl, rfl, ha, hb, h1, h4, h5, sB⟩
      -- if state[1] > 0
      refine ⟨_, rfl, a, _, 1, _, rfl, rfl, SqL.of ha, rfl, _, _, rfl, rfl, _, rfl, ?_⟩
      have hba : b ≠ a := hne.symm
      have mod0 : ∀ x : Int, 0 ≤ x.fmod many := fun x => fm0 x (by omega)
      have mod1 : ∀ x : Int, x.fmod many < many := fun x => fm1 x (by omega)
      refine ite2 (fun _ => ?_) (fun _ => ?_)
      · -- digit = int(state[1]) % many; state[1] = state[1] // many; return digit
        refine ⟨_, rfl, a, _, 1, _, rfl, rfl, SqL.of ha, rfl, .inl ⟨_, rfl, _, rfl, _, _, rfl, rfl, by omega, ?_⟩⟩
        refine ⟨_, rfl, a, _, 1, _, rfl, rfl, SqL.of ha, rfl, _, rfl, _, _, rfl, rfl, ⟨by omega, by omega⟩, _, rfl, a, _, 1, 1, rfl, rfl, ha, rfl, ?_⟩
        refine ⟨_, rfl, k _ _ (mod0 _) (mod1 _) ⟨d.fdiv many, n + 1, s, ns, upd_same, by rw [upd_ne hba]; exact hb, ?_, by omega, by omega, h4, h5⟩ (sB.trans sameB_a)⟩
        rw [Int.fdiv_eq_ediv_of_nonneg _ (by omega)]
        exact Int.ediv_nonneg h1 (by omega)
      · -- mixed = .., return ..
        refine ⟨_, rfl, a, _, 3, _, rfl, rfl, SqL.of ha, rfl, _, rfl, a, _, 2, _, rfl, rfl, SqL.of ha, rfl, _, _, rfl, rfl, .inl ⟨by decide, by decide⟩, _, _, rfl, rfl, _, _, rfl, rfl, _, _, rfl, rfl, ⟨by decide, by decide, ?_⟩, .inl ⟨_, rfl, _, _, rfl, rfl, (by show (2147483629 : Int) ≠ 0; decide), ?_⟩⟩
        · show (s + 7907 * (n + 1) + 104723).natAbs < 2 ^ 64
          omega
        · dsimp only
          generalize hx : Int.fmod _ 2147483629 = mixed
          have x0 : 0 ≤ mixed := by rw [← hx]; exact fm0 _ (by decide)
          have x1 : mixed < 2147483629 := by rw [← hx]; exact fm1 _ (by decide)
          refine ⟨_, rfl, _, _, rfl, rfl, .inl ⟨by omega, by omega⟩, _, rfl, a, _, 2, _, rfl, rfl, SqL.of ha, rfl, _, _, rfl, rfl, .inl ⟨by decide, by decide⟩, _, _, rfl, rfl, _, _, rfl, rfl, _, _, rfl, rfl, ⟨by decide, by decide, ?_⟩, .inl ⟨_, rfl, _, _, rfl, rfl, (by show (1000000007 : Int) ≠ 0; decide), _, rfl, _, _, rfl, rfl, by omega, ?_⟩⟩
          · show (mixed * 48271 + 30011 * (n + 1) + 31).natAbs < 2 ^ 64
            omega
          · exact k _ _ (mod0 _) (mod1 _) ⟨d, n + 1, s, ns, ha, hb, h1, by omega, by omega, h4, h5⟩ sB
end
end K00

set_option maxHeartbeats 4000000
namespace K00
open PySem PySem.Spec PyProof.Rows L2 SpE He L2H
open C8 (Cal pe_c)
section
variable {P : Program} {w : World} {K : PySem.W.Frag} {mg : Str → Option Value} {base : Heap} {f : Addr} {fd : FuncData}
theorem sc_law_start : FnScope ["script"] ["script"] (defScope s_law_start) := ⟨rfl, rfl, rfl, by decide +kernel, rfl, by decide +kernel, by decide +kernel⟩
theorem ok_start (T : Blt mg) (F : DefOf K "_law_start" s_law_start f fd) (g : mg "_law_start" = some (.ref f)) (b : Binds K fd ["script"] []) : Cal P w K mg base 1 "_law_start" (spStart K) [] := by
  refine cal_of F g b sc_law_start (fun vs H Q E h => ?_) (fun cdv A outer s H vs Q E hr h => ?_)
  · obtain ⟨l, ns, rfl, _⟩ := h
    rfl
  · obtain ⟨l, ns, rfl, hS, k⟩ := h
    refine ⟨_, pss_one (ps_ret (pe_lst (pa_cons (pe_callTy call_list_of rfl T.list bt_list (pa_cons (pv 0) pa_nil)) (pa_cons (pe_int) (pa_cons (pe_int) (pa_cons (pe_int) pa_nil)))))), ?_⟩
    refine ⟨_, rfl, l, _, rfl, .inl hS, fun b hb => ⟨by show 4 ≤ sizeLine; decide, fun a ha => ?_⟩⟩
    have hab : a ≠ b := fun e => by
      rw [e, upd_same] at ha
      cases ha
    have ha0 : H a = none := by
      rw [upd_ne hab] at ha
      exact ha
    refine k a b _ ha0 hb ⟨0, 0, 29, ns, upd_same, ?_, by decide, by decide, by decide, by decide, by decide⟩ ((same_upd hb).trans (same_upd ha))
    rw [upd_ne hab.symm, upd_same]
def spBetween : Sp := fun vs H Q _ => ∃ (a b : Addr) (c : Nat) (lo hi : Int), vs = [.ref a, .int lo, .int hi] ∧ StA H a b c ∧ c < 1099511627776 ∧ lo ≤ hi ∧ hi - lo < 1000000000 ∧
  ∀ r H', lo ≤ r → r ≤ hi → StA H' a b (c + 1) → SameB a b H H' → Q (.int r) H'
theorem sc_law_between : FnScope ["state", "low", "high"] ["state", "low", "high"] (defScope s_law_between) := ⟨rfl, rfl, rfl, by decide +kernel, rfl, by decide +kernel, by decide +kernel⟩
theorem ok_between (T : Blt mg) (C_law_pick : Cal P w K mg base 1 "_law_pick" spPick []) (F : DefOf K "_law_between" s_law_between f fd) (g : mg "_law_between" = some (.ref f)) (b : Binds K fd ["state", "low", "high"] []) :
    Cal P w K mg base 2 "_law_between" spBetween [] := by
  refine cal_of F g b sc_law_between (fun vs H Q E h => ?_) (fun cdv A outer s H vs Q E hr h => ?_)
  · obtain ⟨a, b, c, lo, hi, rfl, _⟩ := h
    rfl
  · obtain ⟨a, b, c, lo, hi, rfl, hS, hc, h1, h2, k⟩ := h
    refine ⟨_, pss_one (ps_ret (pe_op op_add (pv 1) (pe_c C_law_pick hr (by first | decide | omega) rfl (pa_cons (pv 0) (pa_cons (pe_op op_add (pe_callB (call_max2 rfl) rfl T.max bt_max (pa_cons (pe_op op_sub (pv 2) (pv 1)) (pa_cons (pe_int) pa_nil))) (pe_int)) pa_nil))))), ?_⟩
    have e : (if (0 : Int) > hi - lo then (0 : Int) else hi - lo) = hi - lo := if_neg (by omega)
    refine ⟨_, rfl, _, rfl, _, rfl, _, rfl, _, _, rfl, rfl, _, _, rfl, _, _, rfl, rfl, a, b, c, _, rfl, hS, hc, ?_, ?_, fun r H' r0 r1 hS' sB => ⟨_, _, rfl, rfl, k _ _ ?_ ?_ hS' sB⟩⟩
    · rw [e]; omega
    · rw [e]; omega
    · omega
    · rw [e] at r1; omega
def kN1 : List Str := ["BadQuotient", "BadQuotientText", "BadSigns", "BadTerm", "BadClauses", "BadClause", "BadNumber", "BadBook", "BadTermText", "BadBookText", "BadLine", "BadNormal"]
def kN2 : List Str := ["BadLiteral", "BadModel", "BadAtom", "BadProof", "BadRows", "BadAssumptions", "BadAnswer", "BadPaperText", "BadTable", "BadTold", "BadOrder"]
def kN : List Str := kN1 ++ kN2
abbrev kA1 (K : PySem.W.Frag) : List Addr := kN1.map (ga K)
abbrev kA2 (K : PySem.W.Frag) : List Addr := kN2.map (ga K)
def erNames : List Str := none0.filter (· != ("SameError" : Str)) ++ tab.map (·.1)
theorem Txt.nS (T : Txt P w K mg base) {x : Str} (h : x ∈ erNames) : ga K x ≠ ga K "SameError" := fun e =>
  (List.nodup_cons.mp T.er.nd).1 (by rw [← e]; exact List.mem_map.mpr ⟨x, h, rfl⟩)
def spKindsA (K : PySem.W.Frag) : Sp := fun vs H Q _ => ∃ (a C : Addr), vs = [.ref a] ∧ ErrAt K H a C ∧ Below (ga K "SameError") K C ∧
  ∀ p H', Same H H' → H' p = some (.lst ((kindsOf (kA1 K) C 12).map fun k : Int => V.int (0 + k))) → Q (.ref p) H'
theorem sc_law_kinds_first : FnScope ["e", "told", "k"] ["e"] (defScope s_law_kinds_first) := ⟨rfl, rfl, rfl, by decide +kernel, rfl, by decide +kernel, by decide +kernel⟩
theorem okKindsA (T : Txt P w K mg base) (F : DefOf K "_law_kinds_first" s_law_kinds_first f fd) (g : mg "_law_kinds_first" = some (.ref f)) (b : Binds K fd ["e"] []) :
    Cal P w K mg base 1 "_law_kinds_first" (spKindsA K) [] := by
  refine cal_of F g b sc_law_kinds_first (fun vs H Q E h => ?_) (fun cdv A outer s H vs Q E hr h => ?_)
  · obtain ⟨a, C, rfl, _⟩ := h
    rfl
  · obtain ⟨a, C, rfl, hE, hB, k⟩ := h
    refine ⟨_, pss_cons (ps_set (i := 1) sc_law_kinds_first.nd rfl (Or.inr rfl) (pe_lst (pa_cons (pe_callB call_isZ rfl T.isinstance bt_isinstance (pa_cons (pv 0) (pa_cons (pe_glob (v := .ref _) rfl T.e_BadQuotient.gl rfl) pa_nil))) (pa_cons (pe_callB call_isZ rfl T.isinstance bt_isinstance (pa_cons (pv 0) (pa_cons (pe_glob (v := .ref _) rfl T.e_BadQuotientText.gl rfl) pa_nil))) (pa_cons (pe_callB call_isZ rfl T.isinstance bt_isinstance (pa_cons (pv 0) (pa_cons (pe_glob (v := .ref _) rfl T.e_BadSigns.gl rfl) pa_nil))) (pa_cons (pe_callB call_isZ rfl T.isinstance bt_isinstance (pa_cons (pv 0) (pa_cons (pe_glob (v := .ref _) rfl T.e_BadTerm.gl rfl) pa_nil))) pa_nil))))))
  (pss_cons (ps_expr (pe_bm PySem.F.plainAttrs_list PySem.F.slot_list_extend PySem.F.type_list_extend mt_extend (pv 1) (pa_cons (pe_lst (pa_cons (pe_callB call_isZ rfl T.isinstance bt_isinstance (pa_cons (pv 0) (pa_cons (pe_glob (v := .ref _) rfl T.e_BadClauses.gl rfl) pa_nil))) (pa_cons (pe_callB call_isZ rfl T.isinstance bt_isinstance (pa_cons (pv 0) (pa_cons (pe_glob (v := .ref _) rfl T.e_BadClause.gl rfl) pa_nil))) (pa_cons (pe_callB call_isZ rfl T.isinstance bt_isinstance (pa_cons (pv 0) (pa_cons (pe_glob (v := .ref _) rfl T.e_BadNumber.gl rfl) pa_nil))) (pa_cons (pe_callB call_isZ rfl T.isinstance bt_isinstance (pa_cons (pv 0) (pa_cons (pe_glob (v := .ref _) rfl T.e_BadBook.gl rfl) pa_nil))) pa_nil))))) pa_nil)))
  (pss_cons (ps_expr (pe_bm PySem.F.plainAttrs_list PySem.F.slot_list_extend PySem.F.type_list_extend mt_extend (pv 1) (pa_cons (pe_lst (pa_cons (pe_callB call_isZ rfl T.isinstance bt_isinstance (pa_cons (pv 0) (pa_cons (pe_glob (v := .ref _) rfl T.e_BadTermText.gl rfl) pa_nil))) (pa_cons (pe_callB call_isZ rfl T.isinstance bt_isinstance (pa_cons (pv 0) (pa_cons (pe_glob (v := .ref _) rfl T.e_BadBookText.gl rfl) pa_nil))) (pa_cons (pe_callB call_isZ rfl T.isinstance bt_isinstance (pa_cons (pv 0) (pa_cons (pe_glob (v := .ref _) rfl T.e_BadLine.gl rfl) pa_nil))) (pa_cons (pe_callB call_isZ rfl T.isinstance bt_isinstance (pa_cons (pv 0) (pa_cons (pe_glob (v := .ref _) rfl T.e_BadNormal.gl rfl) pa_nil))) pa_nil))))) pa_nil)))
  (pss_one (ps_ret (pe_lc (own := [("k", 2)]) (g := gName 2) rfl sc_law_kinds_first.nd (pi_range1 rfl T.range (pa_cons (pe_int) pa_nil)) (blkOk_by (own := [("k", 2)]) (N := ["e", "told", "k"]) (sc := defScope s_law_kinds_first) (by decide +kernel)) (fun _ _ _ _ _ => pg_name (i := 2) sc_law_kinds_first.nd rfl (Or.inl rfl)) (fun _ _ _ _ _ => pts_one (pt_val (pe_ix (ix_listK (K := K) rfl) (pv 1) (pv 2) (fun _ _ => rfl)))) (fun _ _ _ _ _ => pe_op op_add (pe_int) (pv 2))))))), ?_⟩
    dsimp only [cxOf, Cx.nox, Cx.wish]
    have z : ∀ x, ErC K (ga K x) → x ∈ erNames → ∀ H', Same H H' → IsZ K H' (.ref a) (.ref (ga K x)) (decide (C = ga K x)) :=
      fun x TD n H' s => isz_er (hE.keep s) hB TD (T.nS n)
    refine ⟨_, rfl, _, _, _, rfl, z "BadQuotient" T.e_BadQuotient.er (by decide +kernel) _ (Same.refl H), _, rfl, _, _, _, rfl, z "BadQuotientText" T.e_BadQuotientText.er (by decide +kernel) _ (Same.refl H), _, rfl, _, _, _, rfl, z "BadSigns" T.e_BadSigns.er (by decide +kernel) _ (Same.refl H), _, rfl, _, _, _, rfl, z "BadTerm" T.e_BadTerm.er (by decide +kernel) _ (Same.refl H), (by show 4 ≤ sizeLine; decide), fun l hl0 => ?_⟩
    generalize hG0 : upd H l _ = G0
    have g0 : G0 l = some (.lst [.bl (decide (C = ga K "BadQuotient")), .bl (decide (C = ga K "BadQuotientText")), .bl (decide (C = ga K "BadSigns")), .bl (decide (C = ga K "BadTerm"))]) := by rw [← hG0]; exact upd_same
    have s0 : Same H G0 := by rw [← hG0]; exact same_upd hl0
    refine ⟨_, rfl, .inl ⟨rfl, _, SqL.of g0⟩, _, rfl, _, _, _, rfl, z "BadClauses" T.e_BadClauses.er (by decide +kernel) _ s0, _, rfl, _, _, _, rfl, z "BadClause" T.e_BadClause.er (by decide +kernel) _ s0, _, rfl, _, _, _, rfl, z "BadNumber" T.e_BadNumber.er (by decide +kernel) _ s0, _, rfl, _, _, _, rfl, z "BadBook" T.e_BadBook.er (by decide +kernel) _ s0, (by show 4 ≤ sizeLine; decide), fun l1 hl1 => ⟨l, l1, _, _, rfl, rfl, same_upd hl1 _ _ g0, upd_same, by show 8 ≤ sizeLine; decide, ?_⟩⟩
    generalize hG1 : upd (upd G0 l1 _) l _ = G1
    have g1 : G1 l = some (.lst [.bl (decide (C = ga K "BadQuotient")), .bl (decide (C = ga K "BadQuotientText")), .bl (decide (C = ga K "BadSigns")), .bl (decide (C = ga K "BadTerm")), .bl (decide (C = ga K "BadClauses")), .bl (decide (C = ga K "BadClause")), .bl (decide (C = ga K "BadNumber")), .bl (decide (C = ga K "BadBook"))]) := by rw [← hG1]; exact upd_same
    have s1 : Same H G1 := by rw [← hG1]; exact same_setL hl0 (s0.trans (same_upd hl1))
    refine ⟨_, rfl, .inl ⟨rfl, _, SqL.of g1⟩, _, rfl, _, _, _, rfl, z "BadTermText" T.e_BadTermText.er (by decide +kernel) _ s1, _, rfl, _, _, _, rfl, z "BadBookText" T.e_BadBookText.er (by decide +kernel) _ s1, _, rfl, _, _, _, rfl, z "BadLine" T.e_BadLine.er (by decide +kernel) _ s1, _, rfl, _, _, _, rfl, z "BadNormal" T.e_BadNormal.er (by decide +kernel) _ s1, (by show 4 ≤ sizeLine; decide), fun l2 hl2 => ⟨l, l2, _, _, rfl, rfl, same_upd hl2 _ _ g1, upd_same, by show 12 ≤ sizeLine; decide, ?_⟩⟩
    generalize hG2 : upd (upd G1 l2 _) l _ = G2
    have g2 : G2 l = some (.lst [.bl (decide (C = ga K "BadQuotient")), .bl (decide (C = ga K "BadQuotientText")), .bl (decide (C = ga K "BadSigns")), .bl (decide (C = ga K "BadTerm")), .bl (decide (C = ga K "BadClauses")), .bl (decide (C = ga K "BadClause")), .bl (decide (C = ga K "BadNumber")), .bl (decide (C = ga K "BadBook")), .bl (decide (C = ga K "BadTermText")), .bl (decide (C = ga K "BadBookText")), .bl (decide (C = ga K "BadLine")), .bl (decide (C = ga K "BadNormal"))]) := by rw [← hG2]; exact upd_same
    have s2 : Same H G2 := by rw [← hG2]; exact same_setL hl0 (s1.trans (same_upd hl2))
    have e4 : G2 l = some (.lst ((kA1 K).map fun D => V.bl (decide (C = D)))) := g2
    refine ⟨12, rfl, by decide, by decide, fun D hD => lc_range (lo := 0) (n := 12) (fun i H' => H' D = some (.lst ((kindsOf (kA1 K) C i).map (fun k : Int => V.int (0 + k)))) ∧ Same G2 H') ⟨upd_same, same_upd hD⟩ ?_ (fun H' h => k D H' (s2.trans h.2) h.1)⟩
    rintro i H' hi ⟨hD', s'⟩
    have hl' := s' _ _ e4
    obtain ⟨Di, hDi⟩ : ∃ Di, (kA1 K)[i]? = some Di := ⟨_, List.getElem?_eq_getElem (by show i < 12; exact hi)⟩
    refine ⟨rfl, _, rfl, _, rfl, l, _, (i : Int), .bl (decide (C = Di)), rfl, ?_, SqL.of hl', atI_nat (by rw [List.getElem?_map, hDi]; rfl), _, rfl, ?_⟩
    · rw [Int.zero_add]
    · have e5 := kindsOf_succ (kA1 K) C i
      rw [hDi] at e5
      by_cases c : C = Di
      · rw [if_pos (by rw [c])] at e5
        rw [decide_eq_true c]
        refine ⟨_, rfl, _, _, rfl, rfl, _, hD', ?_, ?_, fun b o e => ?_⟩
        · rw [List.length_map]
          have := kindsOf_length (kA1 K) C i
          exact Nat.lt_of_le_of_lt this (Nat.lt_trans hi (by decide))
        · rw [upd_same, e5, List.map_append, Int.zero_add]
          rfl
        · rw [upd_ne (ne_of_none e hD)]
          exact s' _ _ e
      · rw [if_neg (fun q => c (Option.some.inj q))] at e5
        rw [decide_eq_false c]
        refine iteF ⟨?_, s'⟩
        rw [hD', e5]
def spKindsAP (K : PySem.W.Frag) (a C d : Addr) : Sp := fun vs H Q _ => ∃ fs : List (Str × V), vs = [.ref a] ∧ H d = some (.xd fs) ∧ Below (ga K "SameError") K C ∧
  ∀ q H', Same H H' → H' q = some (.lst ((kindsOf (kA1 K) C 12).map fun k : Int => V.int (0 + k))) → Q (.ref q) H'
theorem okKindsAP {p : Addr × Obj} {C d : Addr} (T : Txt P w K mg base) (cau : Cau p C d) (F : DefOf K "_law_kinds_first" s_law_kinds_first f fd) : FnP p P w K mg base 1 f fd ["e"] (spKindsAP K p.1 C d) := by
  refine fnP_of F sc_law_kinds_first (fun vs H Q E h => ?_) (fun cdv A outer s H vs Q hot room h => ?_)
  · obtain ⟨fs, rfl, _⟩ := h
    rfl
  · obtain ⟨fs, rfl, ed, hB, k⟩ := h
    have hcH : HotC (cxH CX0 P w K mg base ["e", "told", "k"] "_law_kinds_first" (defScope s_law_kinds_first) f cdv A outer s H (fun _ _ _ => False) p) := ⟨p, hot, List.mem_singleton.mpr rfl⟩
    refine ⟨_, pss_cons (ps_set (i := 1) sc_law_kinds_first.nd rfl (Or.inr rfl) (pe_lst (pa_cons (pe_callB (call_isP (K := K) rfl (List.mem_singleton.mpr rfl) cau) rfl T.isinstance bt_isinstance (pa_cons (pv 0) (pa_cons (pe_glob (v := .ref _) rfl T.e_BadQuotient.gl rfl) pa_nil))) (pa_cons (pe_callB (call_isP (K := K) rfl (List.mem_singleton.mpr rfl) cau) rfl T.isinstance bt_isinstance (pa_cons (pv 0) (pa_cons (pe_glob (v := .ref _) rfl T.e_BadQuotientText.gl rfl) pa_nil))) (pa_cons (pe_callB (call_isP (K := K) rfl (List.mem_singleton.mpr rfl) cau) rfl T.isinstance bt_isinstance (pa_cons (pv 0) (pa_cons (pe_glob (v := .ref _) rfl T.e_BadSigns.gl rfl) pa_nil))) (pa_cons (pe_callB (call_isP (K := K) rfl (List.mem_singleton.mpr rfl) cau) rfl T.isinstance bt_isinstance (pa_cons (pv 0) (pa_cons (pe_glob (v := .ref _) rfl T.e_BadTerm.gl rfl) pa_nil))) pa_nil))))))
  (pss_cons (ps_expr (pe_bm PySem.F.plainAttrs_list PySem.F.slot_list_extend PySem.F.type_list_extend mt_extend (pv 1) (pa_cons (pe_lst (pa_cons (pe_callB (call_isP (K := K) rfl (List.mem_singleton.mpr rfl) cau) rfl T.isinstance bt_isinstance (pa_cons (pv 0) (pa_cons (pe_glob (v := .ref _) rfl T.e_BadClauses.gl rfl) pa_nil))) (pa_cons (pe_callB (call_isP (K := K) rfl (List.mem_singleton.mpr rfl) cau) rfl T.isinstance bt_isinstance (pa_cons (pv 0) (pa_cons (pe_glob (v := .ref _) rfl T.e_BadClause.gl rfl) pa_nil))) (pa_cons (pe_callB (call_isP (K := K) rfl (List.mem_singleton.mpr rfl) cau) rfl T.isinstance bt_isinstance (pa_cons (pv 0) (pa_cons (pe_glob (v := .ref _) rfl T.e_BadNumber.gl rfl) pa_nil))) (pa_cons (pe_callB (call_isP (K := K) rfl (List.mem_singleton.mpr rfl) cau) rfl T.isinstance bt_isinstance (pa_cons (pv 0) (pa_cons (pe_glob (v := .ref _) rfl T.e_BadBook.gl rfl) pa_nil))) pa_nil))))) pa_nil)))
  (pss_cons (ps_expr (pe_bm PySem.F.plainAttrs_list PySem.F.slot_list_extend PySem.F.type_list_extend mt_extend (pv 1) (pa_cons (pe_lst (pa_cons (pe_callB (call_isP (K := K) rfl (List.mem_singleton.mpr rfl) cau) rfl T.isinstance bt_isinstance (pa_cons (pv 0) (pa_cons (pe_glob (v := .ref _) rfl T.e_BadTermText.gl rfl) pa_nil))) (pa_cons (pe_callB (call_isP (K := K) rfl (List.mem_singleton.mpr rfl) cau) rfl T.isinstance bt_isinstance (pa_cons (pv 0) (pa_cons (pe_glob (v := .ref _) rfl T.e_BadBookText.gl rfl) pa_nil))) (pa_cons (pe_callB (call_isP (K := K) rfl (List.mem_singleton.mpr rfl) cau) rfl T.isinstance bt_isinstance (pa_cons (pv 0) (pa_cons (pe_glob (v := .ref _) rfl T.e_BadLine.gl rfl) pa_nil))) (pa_cons (pe_callB (call_isP (K := K) rfl (List.mem_singleton.mpr rfl) cau) rfl T.isinstance bt_isinstance (pa_cons (pv 0) (pa_cons (pe_glob (v := .ref _) rfl T.e_BadNormal.gl rfl) pa_nil))) pa_nil))))) pa_nil)))
  (pss_one (ps_ret (pe_lcP (own := [("k", 2)]) (g := gName 2) hcH sc_law_kinds_first.nd (pi_range1H rfl T.range (pa_cons (pe_int) pa_nil)) (blkOk_by (own := [("k", 2)]) (N := ["e", "told", "k"]) (sc := defScope s_law_kinds_first) (by decide +kernel)) (fun _ _ _ _ _ => pg_name (i := 2) sc_law_kinds_first.nd rfl (Or.inl rfl)) (fun _ _ _ _ _ => pts_one (pt_val (pe_ix (ix_listK (K := K) rfl) (pv 1) (pv 2) (fun _ _ => rfl)))) (fun _ _ _ _ _ => pe_op op_add (pe_int) (pv 2))))))), ?_⟩
    dsimp only [cxH, cxOf, Cx.nox, Cx.wish]
    have z : ∀ x, ErC K (ga K x) → x ∈ erNames → ∀ H', Same H H' → IsP K H' p.1 C d (.ref p.1) (.ref (ga K x)) (decide (C = ga K x)) :=
      fun x TD n H' s => isp_er (s _ _ ed) hB TD (T.nS n)
    refine ⟨_, rfl, _, _, _, rfl, z "BadQuotient" T.e_BadQuotient.er (by decide +kernel) _ (Same.refl H), _, rfl, _, _, _, rfl, z "BadQuotientText" T.e_BadQuotientText.er (by decide +kernel) _ (Same.refl H), _, rfl, _, _, _, rfl, z "BadSigns" T.e_BadSigns.er (by decide +kernel) _ (Same.refl H), _, rfl, _, _, _, rfl, z "BadTerm" T.e_BadTerm.er (by decide +kernel) _ (Same.refl H), (by show 4 ≤ sizeLine; decide), fun l hl0 => ?_⟩
    generalize hG0 : upd H l _ = G0
    have g0 : G0 l = some (.lst [.bl (decide (C = ga K "BadQuotient")), .bl (decide (C = ga K "BadQuotientText")), .bl (decide (C = ga K "BadSigns")), .bl (decide (C = ga K "BadTerm"))]) := by rw [← hG0]; exact upd_same
    have s0 : Same H G0 := by rw [← hG0]; exact same_upd hl0
    refine ⟨_, rfl, .inl ⟨rfl, _, SqL.of g0⟩, _, rfl, _, _, _, rfl, z "BadClauses" T.e_BadClauses.er (by decide +kernel) _ s0, _, rfl, _, _, _, rfl, z "BadClause" T.e_BadClause.er (by decide +kernel) _ s0, _, rfl, _, _, _, rfl, z "BadNumber" T.e_BadNumber.er (by decide +kernel) _ s0, _, rfl, _, _, _, rfl, z "BadBook" T.e_BadBook.er (by decide +kernel) _ s0, (by show 4 ≤ sizeLine; decide), fun l1 hl1 => ⟨l, l1, _, _, rfl, rfl, same_upd hl1 _ _ g0, upd_same, by show 8 ≤ sizeLine; decide, ?_⟩⟩
    generalize hG1 : upd (upd G0 l1 _) l _ = G1
    have g1 : G1 l = some (.lst [.bl (decide (C = ga K "BadQuotient")), .bl (decide (C = ga K "BadQuotientText")), .bl (decide (C = ga K "BadSigns")), .bl (decide (C = ga K "BadTerm")), .bl (decide (C = ga K "BadClauses")), .bl (decide (C = ga K "BadClause")), .bl (decide (C = ga K "BadNumber")), .bl (decide (C = ga K "BadBook"))]) := by rw [← hG1]; exact upd_same
    have s1 : Same H G1 := by rw [← hG1]; exact same_setL hl0 (s0.trans (same_upd hl1))
    refine ⟨_, rfl, .inl ⟨rfl, _, SqL.of g1⟩, _, rfl, _, _, _, rfl, z "BadTermText" T.e_BadTermText.er (by decide +kernel) _ s1, _, rfl, _, _, _, rfl, z "BadBookText" T.e_BadBookText.er (by decide +kernel) _ s1, _, rfl, _, _, _, rfl, z "BadLine" T.e_BadLine.er (by decide +kernel) _ s1, _, rfl, _, _, _, rfl, z "BadNormal" T.e_BadNormal.er (by decide +kernel) _ s1, (by show 4 ≤ sizeLine; decide), fun l2 hl2 => ⟨l, l2, _, _, rfl, rfl, same_upd hl2 _ _ g1, upd_same, by show 12 ≤ sizeLine; decide, ?_⟩⟩
    generalize hG2 : upd (upd G1 l2 _) l _ = G2
    have g2 : G2 l = some (.lst [.bl (decide (C = ga K "BadQuotient")), .bl (decide (C = ga K "BadQuotientText")), .bl (decide (C = ga K "BadSigns")), .bl (decide (C = ga K "BadTerm")), .bl (decide (C = ga K "BadClauses")), .bl (decide (C = ga K "BadClause")), .bl (decide (C = ga K "BadNumber")), .bl (decide (C = ga K "BadBook")), .bl (decide (C = ga K "BadTermText")), .bl (decide (C = ga K "BadBookText")), .bl (decide (C = ga K "BadLine")), .bl (decide (C = ga K "BadNormal"))]) := by rw [← hG2]; exact upd_same
    have s2 : Same H G2 := by rw [← hG2]; exact same_setL hl0 (s1.trans (same_upd hl2))
    have e4 : G2 l = some (.lst ((kA1 K).map fun D => V.bl (decide (C = D)))) := g2
    refine ⟨12, rfl, by decide, by decide, fun D hD => lc_range (lo := 0) (n := 12) (fun i H' => H' D = some (.lst ((kindsOf (kA1 K) C i).map (fun k : Int => V.int (0 + k)))) ∧ Same G2 H') ⟨upd_same, same_upd hD⟩ ?_ (fun H' h => k D H' (s2.trans h.2) h.1)⟩
    rintro i H' hi ⟨hD', s'⟩
    have hl' := s' _ _ e4
    obtain ⟨Di, hDi⟩ : ∃ Di, (kA1 K)[i]? = some Di := ⟨_, List.getElem?_eq_getElem (by show i < 12; exact hi)⟩
    refine ⟨rfl, _, rfl, _, rfl, l, _, (i : Int), .bl (decide (C = Di)), rfl, ?_, SqL.of hl', atI_nat (by rw [List.getElem?_map, hDi]; rfl), _, rfl, ?_⟩
    · rw [Int.zero_add]
    · have e5 := kindsOf_succ (kA1 K) C i
      rw [hDi] at e5
      by_cases c : C = Di
      · rw [if_pos (by rw [c])] at e5
        rw [decide_eq_true c]
        refine ⟨_, rfl, _, _, rfl, rfl, _, hD', ?_, ?_, fun b o e => ?_⟩
        · rw [List.length_map]
          have := kindsOf_length (kA1 K) C i
          exact Nat.lt_of_le_of_lt this (Nat.lt_trans hi (by decide))
        · rw [upd_same, e5, List.map_append, Int.zero_add]
          rfl
        · rw [upd_ne (ne_of_none e hD)]
          exact s' _ _ e
      · rw [if_neg (fun q => c (Option.some.inj q))] at e5
        rw [decide_eq_false c]
        refine iteF ⟨?_, s'⟩
        rw [hD', e5]
def spKindsB (K : PySem.W.Frag) : Sp := fun vs H Q _ => ∃ (a C : Addr), vs = [.ref a] ∧ ErrAt K H a C ∧ Below (ga K "SameError") K C ∧
  ∀ p H', Same H H' → H' p = some (.lst ((kindsOf (kA2 K) C 11).map fun k : Int => V.int (12 + k))) → Q (.ref p) H'
theorem sc_law_kinds_last : FnScope ["e", "told", "k"] ["e"] (defScope s_law_kinds_last) := ⟨rfl, rfl, rfl, by decide +kernel, rfl, by decide +kernel, by decide +kernel⟩
theorem okKindsB (T : Txt P w K mg base) (F : DefOf K "_law_kinds_last" s_law_kinds_last f fd) (g : mg "_law_kinds_last" = some (.ref f)) (b : Binds K fd ["e"] []) :
    Cal P w K mg base 1 "_law_kinds_last" (spKindsB K) [] := by
  refine cal_of F g b sc_law_kinds_last (fun vs H Q E h => ?_) (fun cdv A outer s H vs Q E hr h => ?_)
  · obtain ⟨a, C, rfl, _⟩ := h
    rfl
  · obtain ⟨a, C, rfl, hE, hB, k⟩ := h
    refine ⟨_, pss_cons (ps_set (i := 1) sc_law_kinds_last.nd rfl (Or.inr rfl) (pe_lst (pa_cons (pe_callB call_isZ rfl T.isinstance bt_isinstance (pa_cons (pv 0) (pa_cons (pe_glob (v := .ref _) rfl T.e_BadLiteral.gl rfl) pa_nil))) (pa_cons (pe_callB call_isZ rfl T.isinstance bt_isinstance (pa_cons (pv 0) (pa_cons (pe_glob (v := .ref _) rfl T.e_BadModel.gl rfl) pa_nil))) (pa_cons (pe_callB call_isZ rfl T.isinstance bt_isinstance (pa_cons (pv 0) (pa_cons (pe_glob (v := .ref _) rfl T.e_BadAtom.gl rfl) pa_nil))) (pa_cons (pe_callB call_isZ rfl T.isinstance bt_isinstance (pa_cons (pv 0) (pa_cons (pe_glob (v := .ref _) rfl T.e_BadProof.gl rfl) pa_nil))) pa_nil))))))
  (pss_cons (ps_expr (pe_bm PySem.F.plainAttrs_list PySem.F.slot_list_extend PySem.F.type_list_extend mt_extend (pv 1) (pa_cons (pe_lst (pa_cons (pe_callB call_isZ rfl T.isinstance bt_isinstance (pa_cons (pv 0) (pa_cons (pe_glob (v := .ref _) rfl T.e_BadRows.gl rfl) pa_nil))) (pa_cons (pe_callB call_isZ rfl T.isinstance bt_isinstance (pa_cons (pv 0) (pa_cons (pe_glob (v := .ref _) rfl T.e_BadAssumptions.gl rfl) pa_nil))) (pa_cons (pe_callB call_isZ rfl T.isinstance bt_isinstance (pa_cons (pv 0) (pa_cons (pe_glob (v := .ref _) rfl T.e_BadAnswer.gl rfl) pa_nil))) (pa_cons (pe_callB call_isZ rfl T.isinstance bt_isinstance (pa_cons (pv 0) (pa_cons (pe_glob (v := .ref _) rfl T.e_BadPaperText.gl rfl) pa_nil))) pa_nil))))) pa_nil)))
  (pss_cons (ps_expr (pe_bm PySem.F.plainAttrs_list PySem.F.slot_list_extend PySem.F.type_list_extend mt_extend (pv 1) (pa_cons (pe_lst (pa_cons (pe_callB call_isZ rfl T.isinstance bt_isinstance (pa_cons (pv 0) (pa_cons (pe_glob (v := .ref _) rfl T.e_BadTable.gl rfl) pa_nil))) (pa_cons (pe_callB call_isZ rfl T.isinstance bt_isinstance (pa_cons (pv 0) (pa_cons (pe_glob (v := .ref _) rfl T.e_BadTold.gl rfl) pa_nil))) (pa_cons (pe_callB call_isZ rfl T.isinstance bt_isinstance (pa_cons (pv 0) (pa_cons (pe_glob (v := .ref _) rfl T.e_BadOrder.gl rfl) pa_nil))) pa_nil)))) pa_nil)))
  (pss_one (ps_ret (pe_lc (own := [("k", 2)]) (g := gName 2) rfl sc_law_kinds_last.nd (pi_range1 rfl T.range (pa_cons (pe_int) pa_nil)) (blkOk_by (own := [("k", 2)]) (N := ["e", "told", "k"]) (sc := defScope s_law_kinds_last) (by decide +kernel)) (fun _ _ _ _ _ => pg_name (i := 2) sc_law_kinds_last.nd rfl (Or.inl rfl)) (fun _ _ _ _ _ => pts_one (pt_val (pe_ix (ix_listK (K := K) rfl) (pv 1) (pv 2) (fun _ _ => rfl)))) (fun _ _ _ _ _ => pe_op op_add (pe_int) (pv 2))))))), ?_⟩
    dsimp only [cxOf, Cx.nox, Cx.wish]
    have z : ∀ x, ErC K (ga K x) → x ∈ erNames → ∀ H', Same H H' → IsZ K H' (.ref a) (.ref (ga K x)) (decide (C = ga K x)) :=
      fun x TD n H' s => isz_er (hE.keep s) hB TD (T.nS n)
    refine ⟨_, rfl, _, _, _, rfl, z "BadLiteral" T.e_BadLiteral.er (by decide +kernel) _ (Same.refl H), _, rfl, _, _, _, rfl, z "BadModel" T.e_BadModel.er (by decide +kernel) _ (Same.refl H), _, rfl, _, _, _, rfl, z "BadAtom" T.e_BadAtom.er (by decide +kernel) _ (Same.refl H), _, rfl, _, _, _, rfl, z "BadProof" T.e_BadProof.er (by decide +kernel) _ (Same.refl H), (by show 4 ≤ sizeLine; decide), fun l hl0 => ?_⟩
    generalize hG0 : upd H l _ = G0
    have g0 : G0 l = some (.lst [.bl (decide (C = ga K "BadLiteral")), .bl (decide (C = ga K "BadModel")), .bl (decide (C = ga K "BadAtom")), .bl (decide (C = ga K "BadProof"))]) := by rw [← hG0]; exact upd_same
    have s0 : Same H G0 := by rw [← hG0]; exact same_upd hl0
    refine ⟨_, rfl, .inl ⟨rfl, _, SqL.of g0⟩, _, rfl, _, _, _, rfl, z "BadRows" T.e_BadRows.er (by decide +kernel) _ s0, _, rfl, _, _, _, rfl, z "BadAssumptions" T.e_BadAssumptions.er (by decide +kernel) _ s0, _, rfl, _, _, _, rfl, z "BadAnswer" T.e_BadAnswer.er (by decide +kernel) _ s0, _, rfl, _, _, _, rfl, z "BadPaperText" T.e_BadPaperText.er (by decide +kernel) _ s0, (by show 4 ≤ sizeLine; decide), fun l1 hl1 => ⟨l, l1, _, _, rfl, rfl, same_upd hl1 _ _ g0, upd_same, by show 8 ≤ sizeLine; decide, ?_⟩⟩
    generalize hG1 : upd (upd G0 l1 _) l _ = G1
    have g1 : G1 l = some (.lst [.bl (decide (C = ga K "BadLiteral")), .bl (decide (C = ga K "BadModel")), .bl (decide (C = ga K "BadAtom")), .bl (decide (C = ga K "BadProof")), .bl (decide (C = ga K "BadRows")), .bl (decide (C = ga K "BadAssumptions")), .bl (decide (C = ga K "BadAnswer")), .bl (decide (C = ga K "BadPaperText"))]) := by rw [← hG1]; exact upd_same
    have s1 : Same H G1 := by rw [← hG1]; exact same_setL hl0 (s0.trans (same_upd hl1))
    refine ⟨_, rfl, .inl ⟨rfl, _, SqL.of g1⟩, _, rfl, _, _, _, rfl, z "BadTable" T.e_BadTable.er (by decide +kernel) _ s1, _, rfl, _, _, _, rfl, z "BadTold" T.e_BadTold.er (by decide +kernel) _ s1, _, rfl, _, _, _, rfl, z "BadOrder" T.e_BadOrder.er (by decide +kernel) _ s1, (by show 3 ≤ sizeLine; decide), fun l2 hl2 => ⟨l, l2, _, _, rfl, rfl, same_upd hl2 _ _ g1, upd_same, by show 11 ≤ sizeLine; decide, ?_⟩⟩
    generalize hG2 : upd (upd G1 l2 _) l _ = G2
    have g2 : G2 l = some (.lst [.bl (decide (C = ga K "BadLiteral")), .bl (decide (C = ga K "BadModel")), .bl (decide (C = ga K "BadAtom")), .bl (decide (C = ga K "BadProof")), .bl (decide (C = ga K "BadRows")), .bl (decide (C = ga K "BadAssumptions")), .bl (decide (C = ga K "BadAnswer")), .bl (decide (C = ga K "BadPaperText")), .bl (decide (C = ga K "BadTable")), .bl (decide (C = ga K "BadTold")), .bl (decide (C = ga K "BadOrder"))]) := by rw [← hG2]; exact upd_same
    have s2 : Same H G2 := by rw [← hG2]; exact same_setL hl0 (s1.trans (same_upd hl2))
    have e4 : G2 l = some (.lst ((kA2 K).map fun D => V.bl (decide (C = D)))) := g2
    refine ⟨11, rfl, by decide, by decide, fun D hD => lc_range (lo := 0) (n := 11) (fun i H' => H' D = some (.lst ((kindsOf (kA2 K) C i).map (fun k : Int => V.int (12 + k)))) ∧ Same G2 H') ⟨upd_same, same_upd hD⟩ ?_ (fun H' h => k D H' (s2.trans h.2) h.1)⟩
    rintro i H' hi ⟨hD', s'⟩
    have hl' := s' _ _ e4
    obtain ⟨Di, hDi⟩ : ∃ Di, (kA2 K)[i]? = some Di := ⟨_, List.getElem?_eq_getElem (by show i < 11; exact hi)⟩
    refine ⟨rfl, _, rfl, _, rfl, l, _, (i : Int), .bl (decide (C = Di)), rfl, ?_, SqL.of hl', atI_nat (by rw [List.getElem?_map, hDi]; rfl), _, rfl, ?_⟩
    · rw [Int.zero_add]
    · have e5 := kindsOf_succ (kA2 K) C i
      rw [hDi] at e5
      by_cases c : C = Di
      · rw [if_pos (by rw [c])] at e5
        rw [decide_eq_true c]
        refine ⟨_, rfl, _, _, rfl, rfl, _, hD', ?_, ?_, fun b o e => ?_⟩
        · rw [List.length_map]
          have := kindsOf_length (kA2 K) C i
          exact Nat.lt_of_le_of_lt this (Nat.lt_trans hi (by decide))
        · rw [upd_same, e5, List.map_append, Int.zero_add]
          rfl
        · rw [upd_ne (ne_of_none e hD)]
          exact s' _ _ e
      · rw [if_neg (fun q => c (Option.some.inj q))] at e5
        rw [decide_eq_false c]
        refine iteF ⟨?_, s'⟩
        rw [hD', e5]
def spKindsBP (K : PySem.W.Frag) (a C d : Addr) : Sp := fun vs H Q _ => ∃ fs : List (Str × V), vs = [.ref a] ∧ H d = some (.xd fs) ∧ Below (ga K "SameError") K C ∧
  ∀ q H', Same H H' → H' q = some (.lst ((kindsOf (kA2 K) C 11).map fun k : Int => V.int (12 + k))) → Q (.ref q) H'
theorem okKindsBP {p : Addr × Obj} {C d : Addr} (T : Txt P w K mg base) (cau : Cau p C d) (F : DefOf K "_law_kinds_last" s_law_kinds_last f fd) : FnP p P w K mg base 1 f fd ["e"] (spKindsBP K p.1 C d) := by
  refine fnP_of F sc_law_kinds_last (fun vs H Q E h => ?_) (fun cdv A outer s H vs Q hot room h => ?_)
  · obtain ⟨fs, rfl, _⟩ := h
    rfl
  · obtain ⟨fs, rfl, ed, hB, k⟩ := h
    have hcH : HotC (cxH CX0 P w K mg base ["e", "told", "k"] "_law_kinds_last" (defScope s_law_kinds_last) f cdv A outer s H (fun _ _ _ => False) p) := ⟨p, hot, List.mem_singleton.mpr rfl⟩
    refine ⟨_, pss_cons (ps_set (i := 1) sc_law_kinds_last.nd rfl (Or.inr rfl) (pe_lst (pa_cons (pe_callB (call_isP (K := K) rfl (List.mem_singleton.mpr rfl) cau) rfl T.isinstance bt_isinstance (pa_cons (pv 0) (pa_cons (pe_glob (v := .ref _) rfl T.e_BadLiteral.gl rfl) pa_nil))) (pa_cons (pe_callB (call_isP (K := K) rfl (List.mem_singleton.mpr rfl) cau) rfl T.isinstance bt_isinstance (pa_cons (pv 0) (pa_cons (pe_glob (v := .ref _) rfl T.e_BadModel.gl rfl) pa_nil))) (pa_cons (pe_callB (call_isP (K := K) rfl (List.mem_singleton.mpr rfl) cau) rfl T.isinstance bt_isinstance (pa_cons (pv 0) (pa_cons (pe_glob (v := .ref _) rfl T.e_BadAtom.gl rfl) pa_nil))) (pa_cons (pe_callB (call_isP (K := K) rfl (List.mem_singleton.mpr rfl) cau) rfl T.isinstance bt_isinstance (pa_cons (pv 0) (pa_cons (pe_glob (v := .ref _) rfl T.e_BadProof.gl rfl) pa_nil))) pa_nil))))))
  (pss_cons (ps_expr (pe_bm PySem.F.plainAttrs_list PySem.F.slot_list_extend PySem.F.type_list_extend mt_extend (pv 1) (pa_cons (pe_lst (pa_cons (pe_callB (call_isP (K := K) rfl (List.mem_singleton.mpr rfl) cau) rfl T.isinstance bt_isinstance (pa_cons (pv 0) (pa_cons (pe_glob (v := .ref _) rfl T.e_BadRows.gl rfl) pa_nil))) (pa_cons (pe_callB (call_isP (K := K) rfl (List.mem_singleton.mpr rfl) cau) rfl T.isinstance bt_isinstance (pa_cons (pv 0) (pa_cons (pe_glob (v := .ref _) rfl T.e_BadAssumptions.gl rfl) pa_nil))) (pa_cons (pe_callB (call_isP (K := K) rfl (List.mem_singleton.mpr rfl) cau) rfl T.isinstance bt_isinstance (pa_cons (pv 0) (pa_cons (pe_glob (v := .ref _) rfl T.e_BadAnswer.gl rfl) pa_nil))) (pa_cons (pe_callB (call_isP (K := K) rfl (List.mem_singleton.mpr rfl) cau) rfl T.isinstance bt_isinstance (pa_cons (pv 0) (pa_cons (pe_glob (v := .ref _) rfl T.e_BadPaperText.gl rfl) pa_nil))) pa_nil))))) pa_nil)))
  (pss_cons (ps_expr (pe_bm PySem.F.plainAttrs_list PySem.F.slot_list_extend PySem.F.type_list_extend mt_extend (pv 1) (pa_cons (pe_lst (pa_cons (pe_callB (call_isP (K := K) rfl (List.mem_singleton.mpr rfl) cau) rfl T.isinstance bt_isinstance (pa_cons (pv 0) (pa_cons (pe_glob (v := .ref _) rfl T.e_BadTable.gl rfl) pa_nil))) (pa_cons (pe_callB (call_isP (K := K) rfl (List.mem_singleton.mpr rfl) cau) rfl T.isinstance bt_isinstance (pa_cons (pv 0) (pa_cons (pe_glob (v := .ref _) rfl T.e_BadTold.gl rfl) pa_nil))) (pa_cons (pe_callB (call_isP (K := K) rfl (List.mem_singleton.mpr rfl) cau) rfl T.isinstance bt_isinstance (pa_cons (pv 0) (pa_cons (pe_glob (v := .ref _) rfl T.e_BadOrder.gl rfl) pa_nil))) pa_nil)))) pa_nil)))
  (pss_one (ps_ret (pe_lcP (own := [("k", 2)]) (g := gName 2) hcH sc_law_kinds_last.nd (pi_range1H rfl T.range (pa_cons (pe_int) pa_nil)) (blkOk_by (own := [("k", 2)]) (N := ["e", "told", "k"]) (sc := defScope s_law_kinds_last) (by decide +kernel)) (fun _ _ _ _ _ => pg_name (i := 2) sc_law_kinds_last.nd rfl (Or.inl rfl)) (fun _ _ _ _ _ => pts_one (pt_val (pe_ix (ix_listK (K := K) rfl) (pv 1) (pv 2) (fun _ _ => rfl)))) (fun _ _ _ _ _ => pe_op op_add (pe_int) (pv 2))))))), ?_⟩
    dsimp only [cxH, cxOf, Cx.nox, Cx.wish]
    have z : ∀ x, ErC K (ga K x) → x ∈ erNames → ∀ H', Same H H' → IsP K H' p.1 C d (.ref p.1) (.ref (ga K x)) (decide (C = ga K x)) :=
      fun x TD n H' s => isp_er (s _ _ ed) hB TD (T.nS n)
    refine ⟨_, rfl, _, _, _, rfl, z "BadLiteral" T.e_BadLiteral.er (by decide +kernel) _ (Same.refl H), _, rfl, _, _, _, rfl, z "BadModel" T.e_BadModel.er (by decide +kernel) _ (Same.refl H), _, rfl, _, _, _, rfl, z "BadAtom" T.e_BadAtom.er (by decide +kernel) _ (Same.refl H), _, rfl, _, _, _, rfl, z "BadProof" T.e_BadProof.er (by decide +kernel) _ (Same.refl H), (by show 4 ≤ sizeLine; decide), fun l hl0 => ?_⟩
    generalize hG0 : upd H l _ = G0
    have g0 : G0 l = some (.lst [.bl (decide (C = ga K "BadLiteral")), .bl (decide (C = ga K "BadModel")), .bl (decide (C = ga K "BadAtom")), .bl (decide (C = ga K "BadProof"))]) := by rw [← hG0]; exact upd_same
    have s0 : Same H G0 := by rw [← hG0]; exact same_upd hl0
    refine ⟨_, rfl, .inl ⟨rfl, _, SqL.of g0⟩, _, rfl, _, _, _, rfl, z "BadRows" T.e_BadRows.er (by decide +kernel) _ s0, _, rfl, _, _, _, rfl, z "BadAssumptions" T.e_BadAssumptions.er (by decide +kernel) _ s0, _, rfl, _, _, _, rfl, z "BadAnswer" T.e_BadAnswer.er (by decide +kernel) _ s0, _, rfl, _, _, _, rfl, z "BadPaperText" T.e_BadPaperText.er (by decide +kernel) _ s0, (by show 4 ≤ sizeLine; decide), fun l1 hl1 => ⟨l, l1, _, _, rfl, rfl, same_upd hl1 _ _ g0, upd_same, by show 8 ≤ sizeLine; decide, ?_⟩⟩
    generalize hG1 : upd (upd G0 l1 _) l _ = G1
    have g1 : G1 l = some (.lst [.bl (decide (C = ga K "BadLiteral")), .bl (decide (C = ga K "BadModel")), .bl (decide (C = ga K "BadAtom")), .bl (decide (C = ga K "BadProof")), .bl (decide (C = ga K "BadRows")), .bl (decide (C = ga K "BadAssumptions")), .bl (decide (C = ga K "BadAnswer")), .bl (decide (C = ga K "BadPaperText"))]) := by rw [← hG1]; exact upd_same
    have s1 : Same H G1 := by rw [← hG1]; exact same_setL hl0 (s0.trans (same_upd hl1))
    refine ⟨_, rfl, .inl ⟨rfl, _, SqL.of g1⟩, _, rfl, _, _, _, rfl, z "BadTable" T.e_BadTable.er (by decide +kernel) _ s1, _, rfl, _, _, _, rfl, z "BadTold" T.e_BadTold.er (by decide +kernel) _ s1, _, rfl, _, _, _, rfl, z "BadOrder" T.e_BadOrder.er (by decide +kernel) _ s1, (by show 3 ≤ sizeLine; decide), fun l2 hl2 => ⟨l, l2, _, _, rfl, rfl, same_upd hl2 _ _ g1, upd_same, by show 11 ≤ sizeLine; decide, ?_⟩⟩
    generalize hG2 : upd (upd G1 l2 _) l _ = G2
    have g2 : G2 l = some (.lst [.bl (decide (C = ga K "BadLiteral")), .bl (decide (C = ga K "BadModel")), .bl (decide (C = ga K "BadAtom")), .bl (decide (C = ga K "BadProof")), .bl (decide (C = ga K "BadRows")), .bl (decide (C = ga K "BadAssumptions")), .bl (decide (C = ga K "BadAnswer")), .bl (decide (C = ga K "BadPaperText")), .bl (decide (C = ga K "BadTable")), .bl (decide (C = ga K "BadTold")), .bl (decide (C = ga K "BadOrder"))]) := by rw [← hG2]; exact upd_same
    have s2 : Same H G2 := by rw [← hG2]; exact same_setL hl0 (s1.trans (same_upd hl2))
    have e4 : G2 l = some (.lst ((kA2 K).map fun D => V.bl (decide (C = D)))) := g2
    refine ⟨11, rfl, by decide, by decide, fun D hD => lc_range (lo := 0) (n := 11) (fun i H' => H' D = some (.lst ((kindsOf (kA2 K) C i).map (fun k : Int => V.int (12 + k)))) ∧ Same G2 H') ⟨upd_same, same_upd hD⟩ ?_ (fun H' h => k D H' (s2.trans h.2) h.1)⟩
    rintro i H' hi ⟨hD', s'⟩
    have hl' := s' _ _ e4
    obtain ⟨Di, hDi⟩ : ∃ Di, (kA2 K)[i]? = some Di := ⟨_, List.getElem?_eq_getElem (by show i < 11; exact hi)⟩
    refine ⟨rfl, _, rfl, _, rfl, l, _, (i : Int), .bl (decide (C = Di)), rfl, ?_, SqL.of hl', atI_nat (by rw [List.getElem?_map, hDi]; rfl), _, rfl, ?_⟩
    · rw [Int.zero_add]
    · have e5 := kindsOf_succ (kA2 K) C i
      rw [hDi] at e5
      by_cases c : C = Di
      · rw [if_pos (by rw [c])] at e5
        rw [decide_eq_true c]
        refine ⟨_, rfl, _, _, rfl, rfl, _, hD', ?_, ?_, fun b o e => ?_⟩
        · rw [List.length_map]
          have := kindsOf_length (kA2 K) C i
          exact Nat.lt_of_le_of_lt this (Nat.lt_trans hi (by decide))
        · rw [upd_same, e5, List.map_append, Int.zero_add]
          rfl
        · rw [upd_ne (ne_of_none e hD)]
          exact s' _ _ e
      · rw [if_neg (fun q => c (Option.some.inj q))] at e5
        rw [decide_eq_false c]
        refine iteF ⟨?_, s'⟩
        rw [hD', e5]
def kinds2 (K : PySem.W.Frag) (C : Addr) : List Int := (kindsOf (kA1 K) C 12).map (fun k => 0 + k) ++ (kindsOf (kA2 K) C 11).map (fun k => 12 + k)
theorem kinds2_v (C : Addr) : ((kindsOf (kA1 K) C 12).map fun k : Int => V.int (0 + k)) ++ ((kindsOf (kA2 K) C 11).map fun k : Int => V.int (12 + k)) = (kinds2 K C).map V.int := by
  unfold kinds2
  rw [List.map_append, List.map_map, List.map_map]
  rfl
theorem kinds2_len (C : Addr) : ((kindsOf (kA1 K) C 12).map fun k : Int => V.int (0 + k)).length + ((kindsOf (kA2 K) C 11).map fun k : Int => V.int (12 + k)).length ≤ sizeLine := by
  rw [List.length_map, List.length_map, sizeLine_eq]
  have a := kindsOf_length (kA1 K) C 12
  have b := kindsOf_length (kA2 K) C 11
  omega
def spKinds (K : PySem.W.Frag) : Sp := fun vs H Q _ => ∃ (a C : Addr), vs = [.ref a] ∧ ErrAt K H a C ∧ Below (ga K "SameError") K C ∧
  ∀ p H', Same H H' → H' p = some (.lst ((kinds2 K C).map V.int)) → Q (.ref p) H'
theorem sc_law_kinds : FnScope ["e"] ["e"] (defScope s_law_kinds) := ⟨rfl, rfl, rfl, by decide +kernel, rfl, by decide +kernel, by decide +kernel⟩
theorem ok_kinds (T : Txt P w K mg base) (C_law_kinds_first : Cal P w K mg base 1 "_law_kinds_first" (spKindsA K) []) (C_law_kinds_last : Cal P w K mg base 1 "_law_kinds_last" (spKindsB K) [])
    (F : DefOf K "_law_kinds" s_law_kinds f fd) (g : mg "_law_kinds" = some (.ref f)) (b : Binds K fd ["e"] []) : Cal P w K mg base 2 "_law_kinds" (spKinds K) [] := by
  refine cal_of F g b sc_law_kinds (fun vs H Q E h => ?_) (fun cdv A outer s H vs Q E hr h => ?_)
  · obtain ⟨a, C, rfl, _⟩ := h
    rfl
  · obtain ⟨a, C, rfl, hE, hB, k⟩ := h
    refine ⟨_, pss_one (ps_ret (pe_op op_cat (pe_c C_law_kinds_first hr (by first | decide | omega) rfl (pa_cons (pv 0) pa_nil)) (pe_c C_law_kinds_last hr (by first | decide | omega) rfl (pa_cons (pv 0) pa_nil)))), ?_⟩
    refine ⟨_, rfl, a, C, rfl, hE, hB, fun p1 H1 s1 h1 => ?_⟩
    refine ⟨_, rfl, a, C, rfl, hE.keep s1, hB, fun p2 H2 s2 h2 => ?_⟩
    refine ⟨p1, p2, _, _, rfl, rfl, s2 _ _ h1, h2, kinds2_len C, fun l hl => ?_⟩
    exact k l _ ((s1.trans s2).trans (same_upd hl)) (by rw [upd_same, kinds2_v])
def spKindsP (K : PySem.W.Frag) (a C d : Addr) : Sp := fun vs H Q _ => ∃ fs : List (Str × V), vs = [.ref a] ∧ H d = some (.xd fs) ∧ Below (ga K "SameError") K C ∧
  ∀ q H', Same H H' → H' q = some (.lst ((kinds2 K C).map V.int)) → Q (.ref q) H'
theorem ok_kindsP {p : Addr × Obj} {C d f1 f2 : Addr} {fd1 fd2 : FuncData} (T : Txt P w K mg base) (cau : Cau p C d) (F1 : DefOf K "_law_kinds_first" s_law_kinds_first f1 fd1) (g1 : mg "_law_kinds_first" = some (.ref f1)) (b1 : Binds K fd1 ["e"] [])
    (F2 : DefOf K "_law_kinds_last" s_law_kinds_last f2 fd2) (g2 : mg "_law_kinds_last" = some (.ref f2)) (b2 : Binds K fd2 ["e"] []) (F : DefOf K "_law_kinds" s_law_kinds f fd) : FnP p P w K mg base 2 f fd ["e"] (spKindsP K p.1 C d) := by
  refine fnP_of F sc_law_kinds (fun vs H Q E h => ?_) (fun cdv A outer s H vs Q hot room h => ?_)
  · obtain ⟨fs, rfl, _⟩ := h
    rfl
  · obtain ⟨fs, rfl, ed, hB, k⟩ := h
    refine ⟨_, pss_one (ps_ret (pe_op op_cat (pe_callP (okKindsAP T cau F1) room (List.mem_singleton.mpr rfl) hot rfl g1 F1.kp b1 (pa_cons (pv 0) pa_nil)) (pe_callP (okKindsBP T cau F2) room (List.mem_singleton.mpr rfl) hot rfl g2 F2.kp b2 (pa_cons (pv 0) pa_nil)))), ?_⟩
    refine ⟨_, rfl, fs, rfl, ed, hB, fun p1 H1 s1 h1 => ?_⟩
    refine ⟨_, rfl, fs, rfl, s1 _ _ ed, hB, fun p2 H2 s2 h2 => ?_⟩
    refine ⟨p1, p2, _, _, rfl, rfl, s2 _ _ h1, h2, kinds2_len (K := K) C, fun l hl => ?_⟩
    exact k l _ ((s1.trans s2).trans (same_upd hl)) (by rw [upd_same]; exact congrArg (fun z => some (HO.lst z)) (kinds2_v (K := K) C))
end
end K00

set_option maxHeartbeats 4000000
namespace K00
open PySem PySem.Spec PyProof.Rows L2 SpE He
open C8 (Cal pe_c)
section
variable {P : Program} {w : World} {K : PySem.W.Frag} {mg : Str → Option Value} {base : Heap} {f : Addr} {fd : FuncData}
theorem mem_kN {x : Str} (h : x ∈ kN) : x ∈ erAll "SameError" none0 tab := by
  have e : ∀ y ∈ kN, y ∈ erAll "SameError" none0 tab := by decide +kernel
  exact e x h
def spMade (K : PySem.W.Frag) (lo hi : Nat) : Sp := fun vs H Q _ => ∃ (k : Nat) (v : V) (y : Str), vs = [.int k, v] ∧ lo ≤ k ∧ k < hi ∧ kN[k]? = some y ∧
  ∀ (t a : Addr) (H' : Hp), Same H H' → H' t = some (.tup [.ref a, v]) → ErrAt K H' a (ga K y) → Q (.ref t) H'
theorem one_err {H : Hp} {a d t C : Addr} {fs : List (Str × V)} (T : ErC K C) (ha : H a = none) (hd : H d = none) (n : d ≠ a) :
    ∃ G, upd (upd H d (exd d fs)) a (exo a C (some d)) = G ∧ Same H G ∧ ErrAt K G a C ∧ G a = some (exo a C (some d)) ∧ G d = some (exd d fs) := by
  obtain ⟨e, s⟩ := er_new (K := K) (fs := fs) T ha hd n
  exact ⟨_, rfl, s, e, upd_same, by rw [upd_ne n]; exact upd_same⟩
theorem sc_law_form_made : FnScope ["at", "x", "made"] ["at", "x"] (defScope s_law_form_made) := ⟨rfl, rfl, rfl, by decide +kernel, rfl, by decide +kernel, by decide +kernel⟩
theorem ok_form (T : Txt P w K mg base) (F : DefOf K "_law_form_made" s_law_form_made f fd) (g : mg "_law_form_made" = some (.ref f)) (b : Binds K fd ["at", "x"] []) :
    Cal P w K mg base 3 "_law_form_made" (spMade K 0 8) [] := by
  refine cal_of F g b sc_law_form_made (fun vs H Q E h => ?_) (fun cdv A outer s H vs Q E hr h => ?_)
  · obtain ⟨k, v, y, rfl, _⟩ := h
    rfl
  · obtain ⟨k, v, y, rfl, k0, k1, hy, q⟩ := h
    refine ⟨_, pss_cons (ps_if (pt_cmpR op_eq (pv 0) (pe_int) (nomark _)) (pss_cons (ps_set (i := 2) sc_law_form_made.nd rfl (Or.inl rfl) (pe_er T.e_BadQuotient hr (by decide) rfl (pa_cons (pv 1) pa_nil)))
  (pss_one (ps_ret (pe_tup (pa_cons (pv 2) (pa_cons (pe_exf (pv 2)) pa_nil)))))) (pss_nil))
  (pss_cons (ps_if (pt_cmpR op_eq (pv 0) (pe_int) (nomark _)) (pss_cons (ps_set (i := 2) sc_law_form_made.nd rfl (Or.inl rfl) (pe_erK T.e_BadQuotientText hr (by decide) rfl (pk_cons (pv 1) pk_nil) rfl))
  (pss_one (ps_ret (pe_tup (pa_cons (pv 2) (pa_cons (pe_exf (pv 2)) pa_nil)))))) (pss_nil))
  (pss_cons (ps_if (pt_cmpR op_eq (pv 0) (pe_int) (nomark _)) (pss_cons (ps_set (i := 2) sc_law_form_made.nd rfl (Or.inl rfl) (pe_er T.e_BadSigns hr (by decide) rfl (pa_cons (pv 1) pa_nil)))
  (pss_one (ps_ret (pe_tup (pa_cons (pv 2) (pa_cons (pe_exf (pv 2)) pa_nil)))))) (pss_nil))
  (pss_cons (ps_if (pt_cmpR op_eq (pv 0) (pe_int) (nomark _)) (pss_cons (ps_set (i := 2) sc_law_form_made.nd rfl (Or.inl rfl) (pe_er T.e_BadTerm hr (by decide) rfl (pa_cons (pv 1) pa_nil)))
  (pss_one (ps_ret (pe_tup (pa_cons (pv 2) (pa_cons (pe_exf (pv 2)) pa_nil)))))) (pss_nil))
  (pss_cons (ps_if (pt_cmpR op_eq (pv 0) (pe_int) (nomark _)) (pss_cons (ps_set (i := 2) sc_law_form_made.nd rfl (Or.inl rfl) (pe_erK T.e_BadClauses hr (by decide) rfl (pk_cons (pv 1) pk_nil) rfl))
  (pss_one (ps_ret (pe_tup (pa_cons (pv 2) (pa_cons (pe_exf (pv 2)) pa_nil)))))) (pss_nil))
  (pss_cons (ps_if (pt_cmpR op_eq (pv 0) (pe_int) (nomark _)) (pss_cons (ps_set (i := 2) sc_law_form_made.nd rfl (Or.inl rfl) (pe_er T.e_BadClause hr (by decide) rfl (pa_cons (pv 1) pa_nil)))
  (pss_one (ps_ret (pe_tup (pa_cons (pv 2) (pa_cons (pe_exf (pv 2)) pa_nil)))))) (pss_nil))
  (pss_cons (ps_if (pt_cmpR op_eq (pv 0) (pe_int) (nomark _)) (pss_cons (ps_set (i := 2) sc_law_form_made.nd rfl (Or.inl rfl) (pe_er T.e_BadNumber hr (by decide) rfl (pa_cons (pv 1) pa_nil)))
  (pss_one (ps_ret (pe_tup (pa_cons (pv 2) (pa_cons (pe_exf (pv 2)) pa_nil)))))) (pss_nil))
  (pss_cons (ps_set (i := 2) sc_law_form_made.nd rfl (Or.inl rfl) (pe_erK T.e_BadBook hr (by decide) rfl (pk_cons (pv 1) pk_nil) rfl))
  (pss_one (ps_ret (pe_tup (pa_cons (pv 2) (pa_cons (pe_exf (pv 2)) pa_nil)))))))))))), ?_⟩
    dsimp only [cxOf, Cx.nox, Cx.wish]
    obtain rfl | rfl | rfl | rfl | rfl | rfl | rfl | rfl : k = 0 ∨ k = 1 ∨ k = 2 ∨ k = 3 ∨ k = 4 ∨ k = 5 ∨ k = 6 ∨ k = 7 := by omega
    · obtain rfl : "BadQuotient" = y := Option.some.inj hy
      refine ⟨_, rfl, rfl, _, rfl, ?_⟩
      refine iteT ?_
      refine ⟨_, rfl, rfl, by show 1 ≤ 1000; decide, fun a d ha hd n => ?_⟩
      obtain ⟨G, hG, sG, gE, ga, gd⟩ := one_err (t := 0) T.e_BadQuotient.er ha hd n
      rw [hG]
      refine ⟨_, rfl, _, rfl, a, _, d, _, v, rfl, ga, gd, T.e_BadQuotient.er, T.er.f ("BadQuotient", ["q"]) (by decide +kernel) "q" (by decide), rfl, by show 2 ≤ sizeLine; decide, fun t ht => ?_⟩
      exact q t a _ (sG.trans (same_upd ht)) upd_same (gE.keep (same_upd ht))
    · obtain rfl : "BadQuotientText" = y := Option.some.inj hy
      refine ⟨_, rfl, rfl, _, rfl, ?_⟩
      refine iteF ?_
      refine ⟨_, rfl, rfl, _, rfl, ?_⟩
      refine iteT ?_
      refine ⟨_, rfl, rfl, fun a d ha hd n => ?_⟩
      obtain ⟨G, hG, sG, gE, ga, gd⟩ := one_err (t := 0) T.e_BadQuotientText.er ha hd n
      rw [hG]
      refine ⟨_, rfl, _, rfl, a, _, d, _, v, rfl, ga, gd, T.e_BadQuotientText.er, T.er.f ("BadQuotientText", ["text"]) (by decide +kernel) "text" (by decide), rfl, by show 2 ≤ sizeLine; decide, fun t ht => ?_⟩
      exact q t a _ (sG.trans (same_upd ht)) upd_same (gE.keep (same_upd ht))
    · obtain rfl : "BadSigns" = y := Option.some.inj hy
      refine ⟨_, rfl, rfl, _, rfl, ?_⟩
      refine iteF ?_
      refine ⟨_, rfl, rfl, _, rfl, ?_⟩
      refine iteF ?_
      refine ⟨_, rfl, rfl, _, rfl, ?_⟩
      refine iteT ?_
      refine ⟨_, rfl, rfl, by show 1 ≤ 1000; decide, fun a d ha hd n => ?_⟩
      obtain ⟨G, hG, sG, gE, ga, gd⟩ := one_err (t := 0) T.e_BadSigns.er ha hd n
      rw [hG]
      refine ⟨_, rfl, _, rfl, a, _, d, _, v, rfl, ga, gd, T.e_BadSigns.er, T.er.f ("BadSigns", ["given"]) (by decide +kernel) "given" (by decide), rfl, by show 2 ≤ sizeLine; decide, fun t ht => ?_⟩
      exact q t a _ (sG.trans (same_upd ht)) upd_same (gE.keep (same_upd ht))
    · obtain rfl : "BadTerm" = y := Option.some.inj hy
      refine ⟨_, rfl, rfl, _, rfl, ?_⟩
      refine iteF ?_
      refine ⟨_, rfl, rfl, _, rfl, ?_⟩
      refine iteF ?_
      refine ⟨_, rfl, rfl, _, rfl, ?_⟩
      refine iteF ?_
      refine ⟨_, rfl, rfl, _, rfl, ?_⟩
      refine iteT ?_
      refine ⟨_, rfl, rfl, by show 1 ≤ 1000; decide, fun a d ha hd n => ?_⟩
      obtain ⟨G, hG, sG, gE, ga, gd⟩ := one_err (t := 0) T.e_BadTerm.er ha hd n
      rw [hG]
      refine ⟨_, rfl, _, rfl, a, _, d, _, v, rfl, ga, gd, T.e_BadTerm.er, T.er.f ("BadTerm", ["term"]) (by decide +kernel) "term" (by decide), rfl, by show 2 ≤ sizeLine; decide, fun t ht => ?_⟩
      exact q t a _ (sG.trans (same_upd ht)) upd_same (gE.keep (same_upd ht))
    · obtain rfl : "BadClauses" = y := Option.some.inj hy
      refine ⟨_, rfl, rfl, _, rfl, ?_⟩
      refine iteF ?_
      refine ⟨_, rfl, rfl, _, rfl, ?_⟩
      refine iteF ?_
      refine ⟨_, rfl, rfl, _, rfl, ?_⟩
      refine iteF ?_
      refine ⟨_, rfl, rfl, _, rfl, ?_⟩
      refine iteF ?_
      refine ⟨_, rfl, rfl, _, rfl, ?_⟩
      refine iteT ?_
      refine ⟨_, rfl, rfl, fun a d ha hd n => ?_⟩
      obtain ⟨G, hG, sG, gE, ga, gd⟩ := one_err (t := 0) T.e_BadClauses.er ha hd n
      rw [hG]
      refine ⟨_, rfl, _, rfl, a, _, d, _, v, rfl, ga, gd, T.e_BadClauses.er, T.er.f ("BadClauses", ["index"]) (by decide +kernel) "index" (by decide), rfl, by show 2 ≤ sizeLine; decide, fun t ht => ?_⟩
      exact q t a _ (sG.trans (same_upd ht)) upd_same (gE.keep (same_upd ht))
    · obtain rfl : "BadClause" = y := Option.some.inj hy
      refine ⟨_, rfl, rfl, _, rfl, ?_⟩
      refine iteF ?_
      refine ⟨_, rfl, rfl, _, rfl, ?_⟩
      refine iteF ?_
      refine ⟨_, rfl, rfl, _, rfl, ?_⟩
      refine iteF ?_
      refine ⟨_, rfl, rfl, _, rfl, ?_⟩
      refine iteF ?_
      refine ⟨_, rfl, rfl, _, rfl, ?_⟩
      refine iteF ?_
      refine ⟨_, rfl, rfl, _, rfl, ?_⟩
      refine iteT ?_
      refine ⟨_, rfl, rfl, by show 1 ≤ 1000; decide, fun a d ha hd n => ?_⟩
      obtain ⟨G, hG, sG, gE, ga, gd⟩ := one_err (t := 0) T.e_BadClause.er ha hd n
      rw [hG]
      refine ⟨_, rfl, _, rfl, a, _, d, _, v, rfl, ga, gd, T.e_BadClause.er, T.er.f ("BadClause", ["clause"]) (by decide +kernel) "clause" (by decide), rfl, by show 2 ≤ sizeLine; decide, fun t ht => ?_⟩
      exact q t a _ (sG.trans (same_upd ht)) upd_same (gE.keep (same_upd ht))
    · obtain rfl : "BadNumber" = y := Option.some.inj hy
      refine ⟨_, rfl, rfl, _, rfl, ?_⟩
      refine iteF ?_
      refine ⟨_, rfl, rfl, _, rfl, ?_⟩
      refine iteF ?_
      refine ⟨_, rfl, rfl, _, rfl, ?_⟩
      refine iteF ?_
      refine ⟨_, rfl, rfl, _, rfl, ?_⟩
      refine iteF ?_
      refine ⟨_, rfl, rfl, _, rfl, ?_⟩
      refine iteF ?_
      refine ⟨_, rfl, rfl, _, rfl, ?_⟩
      refine iteF ?_
      refine ⟨_, rfl, rfl, _, rfl, ?_⟩
      refine iteT ?_
      refine ⟨_, rfl, rfl, by show 1 ≤ 1000; decide, fun a d ha hd n => ?_⟩
      obtain ⟨G, hG, sG, gE, ga, gd⟩ := one_err (t := 0) T.e_BadNumber.er ha hd n
      rw [hG]
      refine ⟨_, rfl, _, rfl, a, _, d, _, v, rfl, ga, gd, T.e_BadNumber.er, T.er.f ("BadNumber", ["number"]) (by decide +kernel) "number" (by decide), rfl, by show 2 ≤ sizeLine; decide, fun t ht => ?_⟩
      exact q t a _ (sG.trans (same_upd ht)) upd_same (gE.keep (same_upd ht))
    · obtain rfl : "BadBook" = y := Option.some.inj hy
      refine ⟨_, rfl, rfl, _, rfl, ?_⟩
      refine iteF ?_
      refine ⟨_, rfl, rfl, _, rfl, ?_⟩
      refine iteF ?_
      refine ⟨_, rfl, rfl, _, rfl, ?_⟩
      refine iteF ?_
      refine ⟨_, rfl, rfl, _, rfl, ?_⟩
      refine iteF ?_
      refine ⟨_, rfl, rfl, _, rfl, ?_⟩
      refine iteF ?_
      refine ⟨_, rfl, rfl, _, rfl, ?_⟩
      refine iteF ?_
      refine ⟨_, rfl, rfl, _, rfl, ?_⟩
      refine iteF ?_
      refine ⟨_, rfl, rfl, fun a d ha hd n => ?_⟩
      obtain ⟨G, hG, sG, gE, ga, gd⟩ := one_err (t := 0) T.e_BadBook.er ha hd n
      rw [hG]
      refine ⟨_, rfl, _, rfl, a, _, d, _, v, rfl, ga, gd, T.e_BadBook.er, T.er.f ("BadBook", ["book"]) (by decide +kernel) "book" (by decide), rfl, by show 2 ≤ sizeLine; decide, fun t ht => ?_⟩
      exact q t a _ (sG.trans (same_upd ht)) upd_same (gE.keep (same_upd ht))
theorem sc_law_text_made : FnScope ["at", "x", "made"] ["at", "x"] (defScope s_law_text_made) := ⟨rfl, rfl, rfl, by decide +kernel, rfl, by decide +kernel, by decide +kernel⟩
theorem ok_text (T : Txt P w K mg base) (F : DefOf K "_law_text_made" s_law_text_made f fd) (g : mg "_law_text_made" = some (.ref f)) (b : Binds K fd ["at", "x"] []) :
    Cal P w K mg base 3 "_law_text_made" (spMade K 8 16) [] := by
  refine cal_of F g b sc_law_text_made (fun vs H Q E h => ?_) (fun cdv A outer s H vs Q E hr h => ?_)
  · obtain ⟨k, v, y, rfl, _⟩ := h
    rfl
  · obtain ⟨k, v, y, rfl, k0, k1, hy, q⟩ := h
    refine ⟨_, pss_cons (ps_if (pt_cmpR op_eq (pv 0) (pe_int) (nomark _)) (pss_cons (ps_set (i := 2) sc_law_text_made.nd rfl (Or.inl rfl) (pe_er T.e_BadTermText hr (by decide) rfl (pa_cons (pv 1) pa_nil)))
  (pss_one (ps_ret (pe_tup (pa_cons (pv 2) (pa_cons (pe_exf (pv 2)) pa_nil)))))) (pss_nil))
  (pss_cons (ps_if (pt_cmpR op_eq (pv 0) (pe_int) (nomark _)) (pss_cons (ps_set (i := 2) sc_law_text_made.nd rfl (Or.inl rfl) (pe_erK T.e_BadBookText hr (by decide) rfl (pk_cons (pv 1) pk_nil) rfl))
  (pss_one (ps_ret (pe_tup (pa_cons (pv 2) (pa_cons (pe_exf (pv 2)) pa_nil)))))) (pss_nil))
  (pss_cons (ps_if (pt_cmpR op_eq (pv 0) (pe_int) (nomark _)) (pss_cons (ps_set (i := 2) sc_law_text_made.nd rfl (Or.inl rfl) (pe_er T.e_BadLine hr (by decide) rfl (pa_cons (pv 1) pa_nil)))
  (pss_one (ps_ret (pe_tup (pa_cons (pv 2) (pa_cons (pe_exf (pv 2)) pa_nil)))))) (pss_nil))
  (pss_cons (ps_if (pt_cmpR op_eq (pv 0) (pe_int) (nomark _)) (pss_cons (ps_set (i := 2) sc_law_text_made.nd rfl (Or.inl rfl) (pe_er T.e_BadNormal hr (by decide) rfl (pa_cons (pv 1) pa_nil)))
  (pss_one (ps_ret (pe_tup (pa_cons (pv 2) (pa_cons (pe_exf (pv 2)) pa_nil)))))) (pss_nil))
  (pss_cons (ps_if (pt_cmpR op_eq (pv 0) (pe_int) (nomark _)) (pss_cons (ps_set (i := 2) sc_law_text_made.nd rfl (Or.inl rfl) (pe_erK T.e_BadLiteral hr (by decide) rfl (pk_cons (pv 1) pk_nil) rfl))
  (pss_one (ps_ret (pe_tup (pa_cons (pv 2) (pa_cons (pe_exf (pv 2)) pa_nil)))))) (pss_nil))
  (pss_cons (ps_if (pt_cmpR op_eq (pv 0) (pe_int) (nomark _)) (pss_cons (ps_set (i := 2) sc_law_text_made.nd rfl (Or.inl rfl) (pe_er T.e_BadModel hr (by decide) rfl (pa_cons (pv 1) pa_nil)))
  (pss_one (ps_ret (pe_tup (pa_cons (pv 2) (pa_cons (pe_exf (pv 2)) pa_nil)))))) (pss_nil))
  (pss_cons (ps_if (pt_cmpR op_eq (pv 0) (pe_int) (nomark _)) (pss_cons (ps_set (i := 2) sc_law_text_made.nd rfl (Or.inl rfl) (pe_er T.e_BadAtom hr (by decide) rfl (pa_cons (pv 1) pa_nil)))
  (pss_one (ps_ret (pe_tup (pa_cons (pv 2) (pa_cons (pe_exf (pv 2)) pa_nil)))))) (pss_nil))
  (pss_cons (ps_set (i := 2) sc_law_text_made.nd rfl (Or.inl rfl) (pe_erK T.e_BadProof hr (by decide) rfl (pk_cons (pv 1) pk_nil) rfl))
  (pss_one (ps_ret (pe_tup (pa_cons (pv 2) (pa_cons (pe_exf (pv 2)) pa_nil)))))))))))), ?_⟩
    dsimp only [cxOf, Cx.nox, Cx.wish]
    obtain rfl | rfl | rfl | rfl | rfl | rfl | rfl | rfl : k = 8 ∨ k = 9 ∨ k = 10 ∨ k = 11 ∨ k = 12 ∨ k = 13 ∨ k = 14 ∨ k = 15 := by omega
    · obtain rfl : "BadTermText" = y := Option.some.inj hy
      refine ⟨_, rfl, rfl, _, rfl, ?_⟩
      refine iteT ?_
      refine ⟨_, rfl, rfl, by show 1 ≤ 1000; decide, fun a d ha hd n => ?_⟩
      obtain ⟨G, hG, sG, gE, ga, gd⟩ := one_err (t := 0) T.e_BadTermText.er ha hd n
      rw [hG]
      refine ⟨_, rfl, _, rfl, a, _, d, _, v, rfl, ga, gd, T.e_BadTermText.er, T.er.f ("BadTermText", ["text"]) (by decide +kernel) "text" (by decide), rfl, by show 2 ≤ sizeLine; decide, fun t ht => ?_⟩
      exact q t a _ (sG.trans (same_upd ht)) upd_same (gE.keep (same_upd ht))
    · obtain rfl : "BadBookText" = y := Option.some.inj hy
      refine ⟨_, rfl, rfl, _, rfl, ?_⟩
      refine iteF ?_
      refine ⟨_, rfl, rfl, _, rfl, ?_⟩
      refine iteT ?_
      refine ⟨_, rfl, rfl, fun a d ha hd n => ?_⟩
      obtain ⟨G, hG, sG, gE, ga, gd⟩ := one_err (t := 0) T.e_BadBookText.er ha hd n
      rw [hG]
      refine ⟨_, rfl, _, rfl, a, _, d, _, v, rfl, ga, gd, T.e_BadBookText.er, T.er.f ("BadBookText", ["line"]) (by decide +kernel) "line" (by decide), rfl, by show 2 ≤ sizeLine; decide, fun t ht => ?_⟩
      exact q t a _ (sG.trans (same_upd ht)) upd_same (gE.keep (same_upd ht))
    · obtain rfl : "BadLine" = y := Option.some.inj hy
      refine ⟨_, rfl, rfl, _, rfl, ?_⟩
      refine iteF ?_
      refine ⟨_, rfl, rfl, _, rfl, ?_⟩
      refine iteF ?_
      refine ⟨_, rfl, rfl, _, rfl, ?_⟩
      refine iteT ?_
      refine ⟨_, rfl, rfl, by show 1 ≤ 1000; decide, fun a d ha hd n => ?_⟩
      obtain ⟨G, hG, sG, gE, ga, gd⟩ := one_err (t := 0) T.e_BadLine.er ha hd n
      rw [hG]
      refine ⟨_, rfl, _, rfl, a, _, d, _, v, rfl, ga, gd, T.e_BadLine.er, T.er.f ("BadLine", ["line"]) (by decide +kernel) "line" (by decide), rfl, by show 2 ≤ sizeLine; decide, fun t ht => ?_⟩
      exact q t a _ (sG.trans (same_upd ht)) upd_same (gE.keep (same_upd ht))
    · obtain rfl : "BadNormal" = y := Option.some.inj hy
      refine ⟨_, rfl, rfl, _, rfl, ?_⟩
      refine iteF ?_
      refine ⟨_, rfl, rfl, _, rfl, ?_⟩
      refine iteF ?_
      refine ⟨_, rfl, rfl, _, rfl, ?_⟩
      refine iteF ?_
      refine ⟨_, rfl, rfl, _, rfl, ?_⟩
      refine iteT ?_
      refine ⟨_, rfl, rfl, by show 1 ≤ 1000; decide, fun a d ha hd n => ?_⟩
      obtain ⟨G, hG, sG, gE, ga, gd⟩ := one_err (t := 0) T.e_BadNormal.er ha hd n
      rw [hG]
      refine ⟨_, rfl, _, rfl, a, _, d, _, v, rfl, ga, gd, T.e_BadNormal.er, T.er.f ("BadNormal", ["normal"]) (by decide +kernel) "normal" (by decide), rfl, by show 2 ≤ sizeLine; decide, fun t ht => ?_⟩
      exact q t a _ (sG.trans (same_upd ht)) upd_same (gE.keep (same_upd ht))
    · obtain rfl : "BadLiteral" = y := Option.some.inj hy
      refine ⟨_, rfl, rfl, _, rfl, ?_⟩
      refine iteF ?_
      refine ⟨_, rfl, rfl, _, rfl, ?_⟩
      refine iteF ?_
      refine ⟨_, rfl, rfl, _, rfl, ?_⟩
      refine iteF ?_
      refine ⟨_, rfl, rfl, _, rfl, ?_⟩
      refine iteF ?_
      refine ⟨_, rfl, rfl, _, rfl, ?_⟩
      refine iteT ?_
      refine ⟨_, rfl, rfl, fun a d ha hd n => ?_⟩
      obtain ⟨G, hG, sG, gE, ga, gd⟩ := one_err (t := 0) T.e_BadLiteral.er ha hd n
      rw [hG]
      refine ⟨_, rfl, _, rfl, a, _, d, _, v, rfl, ga, gd, T.e_BadLiteral.er, T.er.f ("BadLiteral", ["literal"]) (by decide +kernel) "literal" (by decide), rfl, by show 2 ≤ sizeLine; decide, fun t ht => ?_⟩
      exact q t a _ (sG.trans (same_upd ht)) upd_same (gE.keep (same_upd ht))
    · obtain rfl : "BadModel" = y := Option.some.inj hy
      refine ⟨_, rfl, rfl, _, rfl, ?_⟩
      refine iteF ?_
      refine ⟨_, rfl, rfl, _, rfl, ?_⟩
      refine iteF ?_
      refine ⟨_, rfl, rfl, _, rfl, ?_⟩
      refine iteF ?_
      refine ⟨_, rfl, rfl, _, rfl, ?_⟩
      refine iteF ?_
      refine ⟨_, rfl, rfl, _, rfl, ?_⟩
      refine iteF ?_
      refine ⟨_, rfl, rfl, _, rfl, ?_⟩
      refine iteT ?_
      refine ⟨_, rfl, rfl, by show 1 ≤ 1000; decide, fun a d ha hd n => ?_⟩
      obtain ⟨G, hG, sG, gE, ga, gd⟩ := one_err (t := 0) T.e_BadModel.er ha hd n
      rw [hG]
      refine ⟨_, rfl, _, rfl, a, _, d, _, v, rfl, ga, gd, T.e_BadModel.er, T.er.f ("BadModel", ["model"]) (by decide +kernel) "model" (by decide), rfl, by show 2 ≤ sizeLine; decide, fun t ht => ?_⟩
      exact q t a _ (sG.trans (same_upd ht)) upd_same (gE.keep (same_upd ht))
    · obtain rfl : "BadAtom" = y := Option.some.inj hy
      refine ⟨_, rfl, rfl, _, rfl, ?_⟩
      refine iteF ?_
      refine ⟨_, rfl, rfl, _, rfl, ?_⟩
      refine iteF ?_
      refine ⟨_, rfl, rfl, _, rfl, ?_⟩
      refine iteF ?_
      refine ⟨_, rfl, rfl, _, rfl, ?_⟩
      refine iteF ?_
      refine ⟨_, rfl, rfl, _, rfl, ?_⟩
      refine iteF ?_
      refine ⟨_, rfl, rfl, _, rfl, ?_⟩
      refine iteF ?_
      refine ⟨_, rfl, rfl, _, rfl, ?_⟩
      refine iteT ?_
      refine ⟨_, rfl, rfl, by show 1 ≤ 1000; decide, fun a d ha hd n => ?_⟩
      obtain ⟨G, hG, sG, gE, ga, gd⟩ := one_err (t := 0) T.e_BadAtom.er ha hd n
      rw [hG]
      refine ⟨_, rfl, _, rfl, a, _, d, _, v, rfl, ga, gd, T.e_BadAtom.er, T.er.f ("BadAtom", ["atom"]) (by decide +kernel) "atom" (by decide), rfl, by show 2 ≤ sizeLine; decide, fun t ht => ?_⟩
      exact q t a _ (sG.trans (same_upd ht)) upd_same (gE.keep (same_upd ht))
    · obtain rfl : "BadProof" = y := Option.some.inj hy
      refine ⟨_, rfl, rfl, _, rfl, ?_⟩
      refine iteF ?_
      refine ⟨_, rfl, rfl, _, rfl, ?_⟩
      refine iteF ?_
      refine ⟨_, rfl, rfl, _, rfl, ?_⟩
      refine iteF ?_
      refine ⟨_, rfl, rfl, _, rfl, ?_⟩
      refine iteF ?_
      refine ⟨_, rfl, rfl, _, rfl, ?_⟩
      refine iteF ?_
      refine ⟨_, rfl, rfl, _, rfl, ?_⟩
      refine iteF ?_
      refine ⟨_, rfl, rfl, _, rfl, ?_⟩
      refine iteF ?_
      refine ⟨_, rfl, rfl, fun a d ha hd n => ?_⟩
      obtain ⟨G, hG, sG, gE, ga, gd⟩ := one_err (t := 0) T.e_BadProof.er ha hd n
      rw [hG]
      refine ⟨_, rfl, _, rfl, a, _, d, _, v, rfl, ga, gd, T.e_BadProof.er, T.er.f ("BadProof", ["proof"]) (by decide +kernel) "proof" (by decide), rfl, by show 2 ≤ sizeLine; decide, fun t ht => ?_⟩
      exact q t a _ (sG.trans (same_upd ht)) upd_same (gE.keep (same_upd ht))
theorem sc_law_other_made : FnScope ["at", "x", "made"] ["at", "x"] (defScope s_law_other_made) := ⟨rfl, rfl, rfl, by decide +kernel, rfl, by decide +kernel, by decide +kernel⟩
theorem ok_other (T : Txt P w K mg base) (F : DefOf K "_law_other_made" s_law_other_made f fd) (g : mg "_law_other_made" = some (.ref f)) (b : Binds K fd ["at", "x"] []) :
    Cal P w K mg base 3 "_law_other_made" (spMade K 16 23) [] := by
  refine cal_of F g b sc_law_other_made (fun vs H Q E h => ?_) (fun cdv A outer s H vs Q E hr h => ?_)
  · obtain ⟨k, v, y, rfl, _⟩ := h
    rfl
  · obtain ⟨k, v, y, rfl, k0, k1, hy, q⟩ := h
    refine ⟨_, pss_cons (ps_if (pt_cmpR op_eq (pv 0) (pe_int) (nomark _)) (pss_cons (ps_set (i := 2) sc_law_other_made.nd rfl (Or.inl rfl) (pe_er T.e_BadRows hr (by decide) rfl (pa_cons (pv 1) pa_nil)))
  (pss_one (ps_ret (pe_tup (pa_cons (pv 2) (pa_cons (pe_exf (pv 2)) pa_nil)))))) (pss_nil))
  (pss_cons (ps_if (pt_cmpR op_eq (pv 0) (pe_int) (nomark _)) (pss_cons (ps_set (i := 2) sc_law_other_made.nd rfl (Or.inl rfl) (pe_erK T.e_BadAssumptions hr (by decide) rfl (pk_cons (pv 1) pk_nil) rfl))
  (pss_one (ps_ret (pe_tup (pa_cons (pv 2) (pa_cons (pe_exf (pv 2)) pa_nil)))))) (pss_nil))
  (pss_cons (ps_if (pt_cmpR op_eq (pv 0) (pe_int) (nomark _)) (pss_cons (ps_set (i := 2) sc_law_other_made.nd rfl (Or.inl rfl) (pe_er T.e_BadAnswer hr (by decide) rfl (pa_cons (pv 1) pa_nil)))
  (pss_one (ps_ret (pe_tup (pa_cons (pv 2) (pa_cons (pe_exf (pv 2)) pa_nil)))))) (pss_nil))
  (pss_cons (ps_if (pt_cmpR op_eq (pv 0) (pe_int) (nomark _)) (pss_cons (ps_set (i := 2) sc_law_other_made.nd rfl (Or.inl rfl) (pe_er T.e_BadPaperText hr (by decide) rfl (pa_cons (pv 1) pa_nil)))
  (pss_one (ps_ret (pe_tup (pa_cons (pv 2) (pa_cons (pe_exf (pv 2)) pa_nil)))))) (pss_nil))
  (pss_cons (ps_if (pt_cmpR op_eq (pv 0) (pe_int) (nomark _)) (pss_cons (ps_set (i := 2) sc_law_other_made.nd rfl (Or.inl rfl) (pe_erK T.e_BadTable hr (by decide) rfl (pk_cons (pv 1) pk_nil) rfl))
  (pss_one (ps_ret (pe_tup (pa_cons (pv 2) (pa_cons (pe_exf (pv 2)) pa_nil)))))) (pss_nil))
  (pss_cons (ps_if (pt_cmpR op_eq (pv 0) (pe_int) (nomark _)) (pss_cons (ps_set (i := 2) sc_law_other_made.nd rfl (Or.inl rfl) (pe_er T.e_BadTold hr (by decide) rfl (pa_cons (pv 1) pa_nil)))
  (pss_one (ps_ret (pe_tup (pa_cons (pv 2) (pa_cons (pe_exf (pv 2)) pa_nil)))))) (pss_nil))
  (pss_cons (ps_set (i := 2) sc_law_other_made.nd rfl (Or.inl rfl) (pe_er T.e_BadOrder hr (by decide) rfl (pa_cons (pv 1) pa_nil)))
  (pss_one (ps_ret (pe_tup (pa_cons (pv 2) (pa_cons (pe_exf (pv 2)) pa_nil))))))))))), ?_⟩
    dsimp only [cxOf, Cx.nox, Cx.wish]
    obtain rfl | rfl | rfl | rfl | rfl | rfl | rfl : k = 16 ∨ k = 17 ∨ k = 18 ∨ k = 19 ∨ k = 20 ∨ k = 21 ∨ k = 22 := by omega
    · obtain rfl : "BadRows" = y := Option.some.inj hy
      refine ⟨_, rfl, rfl, _, rfl, ?_⟩
      refine iteT ?_
      refine ⟨_, rfl, rfl, by show 1 ≤ 1000; decide, fun a d ha hd n => ?_⟩
      obtain ⟨G, hG, sG, gE, ga, gd⟩ := one_err (t := 0) T.e_BadRows.er ha hd n
      rw [hG]
      refine ⟨_, rfl, _, rfl, a, _, d, _, v, rfl, ga, gd, T.e_BadRows.er, T.er.f ("BadRows", ["rows"]) (by decide +kernel) "rows" (by decide), rfl, by show 2 ≤ sizeLine; decide, fun t ht => ?_⟩
      exact q t a _ (sG.trans (same_upd ht)) upd_same (gE.keep (same_upd ht))
    · obtain rfl : "BadAssumptions" = y := Option.some.inj hy
      refine ⟨_, rfl, rfl, _, rfl, ?_⟩
      refine iteF ?_
      refine ⟨_, rfl, rfl, _, rfl, ?_⟩
      refine iteT ?_
      refine ⟨_, rfl, rfl, fun a d ha hd n => ?_⟩
      obtain ⟨G, hG, sG, gE, ga, gd⟩ := one_err (t := 0) T.e_BadAssumptions.er ha hd n
      rw [hG]
      refine ⟨_, rfl, _, rfl, a, _, d, _, v, rfl, ga, gd, T.e_BadAssumptions.er, T.er.f ("BadAssumptions", ["index"]) (by decide +kernel) "index" (by decide), rfl, by show 2 ≤ sizeLine; decide, fun t ht => ?_⟩
      exact q t a _ (sG.trans (same_upd ht)) upd_same (gE.keep (same_upd ht))
    · obtain rfl : "BadAnswer" = y := Option.some.inj hy
      refine ⟨_, rfl, rfl, _, rfl, ?_⟩
      refine iteF ?_
      refine ⟨_, rfl, rfl, _, rfl, ?_⟩
      refine iteF ?_
      refine ⟨_, rfl, rfl, _, rfl, ?_⟩
      refine iteT ?_
      refine ⟨_, rfl, rfl, by show 1 ≤ 1000; decide, fun a d ha hd n => ?_⟩
      obtain ⟨G, hG, sG, gE, ga, gd⟩ := one_err (t := 0) T.e_BadAnswer.er ha hd n
      rw [hG]
      refine ⟨_, rfl, _, rfl, a, _, d, _, v, rfl, ga, gd, T.e_BadAnswer.er, T.er.f ("BadAnswer", ["answer"]) (by decide +kernel) "answer" (by decide), rfl, by show 2 ≤ sizeLine; decide, fun t ht => ?_⟩
      exact q t a _ (sG.trans (same_upd ht)) upd_same (gE.keep (same_upd ht))
    · obtain rfl : "BadPaperText" = y := Option.some.inj hy
      refine ⟨_, rfl, rfl, _, rfl, ?_⟩
      refine iteF ?_
      refine ⟨_, rfl, rfl, _, rfl, ?_⟩
      refine iteF ?_
      refine ⟨_, rfl, rfl, _, rfl, ?_⟩
      refine iteF ?_
      refine ⟨_, rfl, rfl, _, rfl, ?_⟩
      refine iteT ?_
      refine ⟨_, rfl, rfl, by show 1 ≤ 1000; decide, fun a d ha hd n => ?_⟩
      obtain ⟨G, hG, sG, gE, ga, gd⟩ := one_err (t := 0) T.e_BadPaperText.er ha hd n
      rw [hG]
      refine ⟨_, rfl, _, rfl, a, _, d, _, v, rfl, ga, gd, T.e_BadPaperText.er, T.er.f ("BadPaperText", ["line"]) (by decide +kernel) "line" (by decide), rfl, by show 2 ≤ sizeLine; decide, fun t ht => ?_⟩
      exact q t a _ (sG.trans (same_upd ht)) upd_same (gE.keep (same_upd ht))
    · obtain rfl : "BadTable" = y := Option.some.inj hy
      refine ⟨_, rfl, rfl, _, rfl, ?_⟩
      refine iteF ?_
      refine ⟨_, rfl, rfl, _, rfl, ?_⟩
      refine iteF ?_
      refine ⟨_, rfl, rfl, _, rfl, ?_⟩
      refine iteF ?_
      refine ⟨_, rfl, rfl, _, rfl, ?_⟩
      refine iteF ?_
      refine ⟨_, rfl, rfl, _, rfl, ?_⟩
      refine iteT ?_
      refine ⟨_, rfl, rfl, fun a d ha hd n => ?_⟩
      obtain ⟨G, hG, sG, gE, ga, gd⟩ := one_err (t := 0) T.e_BadTable.er ha hd n
      rw [hG]
      refine ⟨_, rfl, _, rfl, a, _, d, _, v, rfl, ga, gd, T.e_BadTable.er, T.er.f ("BadTable", ["table"]) (by decide +kernel) "table" (by decide), rfl, by show 2 ≤ sizeLine; decide, fun t ht => ?_⟩
      exact q t a _ (sG.trans (same_upd ht)) upd_same (gE.keep (same_upd ht))
    · obtain rfl : "BadTold" = y := Option.some.inj hy
      refine ⟨_, rfl, rfl, _, rfl, ?_⟩
      refine iteF ?_
      refine ⟨_, rfl, rfl, _, rfl, ?_⟩
      refine iteF ?_
      refine ⟨_, rfl, rfl, _, rfl, ?_⟩
      refine iteF ?_
      refine ⟨_, rfl, rfl, _, rfl, ?_⟩
      refine iteF ?_
      refine ⟨_, rfl, rfl, _, rfl, ?_⟩
      refine iteF ?_
      refine ⟨_, rfl, rfl, _, rfl, ?_⟩
      refine iteT ?_
      refine ⟨_, rfl, rfl, by show 1 ≤ 1000; decide, fun a d ha hd n => ?_⟩
      obtain ⟨G, hG, sG, gE, ga, gd⟩ := one_err (t := 0) T.e_BadTold.er ha hd n
      rw [hG]
      refine ⟨_, rfl, _, rfl, a, _, d, _, v, rfl, ga, gd, T.e_BadTold.er, T.er.f ("BadTold", ["told"]) (by decide +kernel) "told" (by decide), rfl, by show 2 ≤ sizeLine; decide, fun t ht => ?_⟩
      exact q t a _ (sG.trans (same_upd ht)) upd_same (gE.keep (same_upd ht))
    · obtain rfl : "BadOrder" = y := Option.some.inj hy
      refine ⟨_, rfl, rfl, _, rfl, ?_⟩
      refine iteF ?_
      refine ⟨_, rfl, rfl, _, rfl, ?_⟩
      refine iteF ?_
      refine ⟨_, rfl, rfl, _, rfl, ?_⟩
      refine iteF ?_
      refine ⟨_, rfl, rfl, _, rfl, ?_⟩
      refine iteF ?_
      refine ⟨_, rfl, rfl, _, rfl, ?_⟩
      refine iteF ?_
      refine ⟨_, rfl, rfl, _, rfl, ?_⟩
      refine iteF ?_
      refine ⟨_, rfl, rfl, by show 1 ≤ 1000; decide, fun a d ha hd n => ?_⟩
      obtain ⟨G, hG, sG, gE, ga, gd⟩ := one_err (t := 0) T.e_BadOrder.er ha hd n
      rw [hG]
      refine ⟨_, rfl, _, rfl, a, _, d, _, v, rfl, ga, gd, T.e_BadOrder.er, T.er.f ("BadOrder", ["index"]) (by decide +kernel) "index" (by decide), rfl, by show 2 ≤ sizeLine; decide, fun t ht => ?_⟩
      exact q t a _ (sG.trans (same_upd ht)) upd_same (gE.keep (same_upd ht))
theorem sc_law_made_at : FnScope ["at", "x"] ["at", "x"] (defScope s_law_made_at) := ⟨rfl, rfl, rfl, by decide +kernel, rfl, by decide +kernel, by decide +kernel⟩
theorem ok_made (T : Txt P w K mg base) (C_law_form_made : Cal P w K mg base 3 "_law_form_made" (spMade K 0 8) []) (C_law_text_made : Cal P w K mg base 3 "_law_text_made" (spMade K 8 16) []) (C_law_other_made : Cal P w K mg base 3 "_law_other_made" (spMade K 16 23) [])
    (F : DefOf K "_law_made_at" s_law_made_at f fd) (g : mg "_law_made_at" = some (.ref f)) (b : Binds K fd ["at", "x"] []) : Cal P w K mg base 4 "_law_made_at" (spMade K 0 23) [] := by
  refine cal_of F g b sc_law_made_at (fun vs H Q E h => ?_) (fun cdv A outer s H vs Q E hr h => ?_)
  · obtain ⟨k, v, y, rfl, _⟩ := h
    rfl
  · obtain ⟨k, v, y, rfl, k0, k1, hy, q⟩ := h
    refine ⟨_, pss_cons (ps_if (pt_cmpR op_lt (pv 0) (pe_int) (nomark _)) (pss_one (ps_ret (pe_c C_law_form_made hr (by first | decide | omega) rfl (pa_cons (pv 0) (pa_cons (pv 1) pa_nil))))) (pss_nil))
  (pss_one (ps_ret (pe_ifExp (pt_cmpR op_lt (pv 0) (pe_int) (nomark _)) (pe_c C_law_text_made hr (by first | decide | omega) rfl (pa_cons (pv 0) (pa_cons (pv 1) pa_nil))) (pe_c C_law_other_made hr (by first | decide | omega) rfl (pa_cons (pv 0) (pa_cons (pv 1) pa_nil)))))), ?_⟩
    refine ⟨_, rfl, _, _, rfl, rfl, _, rfl, ?_⟩
    by_cases h8 : k < 8
    · refine ite2 (fun _ => ⟨_, rfl, _, rfl, k, v, y, rfl, k0, h8, hy, q⟩) fun z => ?_
      exact absurd z (by simp; omega)
    · refine ite2 (fun z => absurd z (by simp; omega)) fun _ => ?_
      refine ⟨_, rfl, _, _, rfl, rfl, _, rfl, ?_⟩
      by_cases h16 : k < 16
      · refine ite2 (fun _ => ⟨_, rfl, _, rfl, k, v, y, rfl, by omega, h16, hy, q⟩) fun z => ?_
        exact absurd z (by simp; omega)
      · refine ite2 (fun z => absurd z (by simp; omega)) fun _ => ?_
        exact ⟨_, rfl, _, rfl, k, v, y, rfl, by omega, k1, hy, q⟩
theorem sc_law_object : FnScope ["state", "way"] ["state"] (defScope s_law_object) := ⟨rfl, rfl, rfl, by decide +kernel, rfl, by decide +kernel, by decide +kernel⟩
theorem ok_object (T : Blt mg) (C_law_pick : Cal P w K mg base 1 "_law_pick" spPick []) (C_law_between : Cal P w K mg base 2 "_law_between" spBetween []) (F : DefOf K "_law_object" s_law_object f fd) (g : mg "_law_object" = some (.ref f)) (b : Binds K fd ["state"] []) :
    Cal P w K mg base 3 "_law_object" spObj2 [] := by
  refine cal_of F g b sc_law_object (fun vs H Q E h => ?_) (fun cdv A outer s H vs Q E hr h => ?_)
  · obtain ⟨a, b, c, rfl, _⟩ := h
    rfl
  · obtain ⟨a, b, c, rfl, hS, hc, k⟩ := h
    refine ⟨_, pss_cons (ps_set (i := 1) sc_law_object.nd rfl (Or.inl rfl) (pe_c C_law_pick hr (by first | decide | omega) rfl (pa_cons (pv 0) (pa_cons (pe_int) pa_nil))))
  (pss_cons (ps_if (pt_cmpR op_lt (pv 1) (pe_int) (nomark _)) (pss_one (ps_ret (pe_ix ix_list (pe_lst (pa_cons (pe_c C_law_between hr (by first | decide | omega) rfl (pa_cons (pv 0) (pa_cons (pe_un un_neg (pe_int)) (pa_cons (pe_int) pa_nil)))) (pa_cons (pe_op op_add_str (pe_str) (pe_callTy call_str_int rfl T.str bt_str (pa_cons (pe_c C_law_pick hr (by first | decide | omega) rfl (pa_cons (pv 0) (pa_cons (pe_int) pa_nil))) pa_nil))) pa_nil))) (pv 1) (fun _ _ => rfl)))) (pss_nil))
  (pss_cons (ps_if (pt_cmpR op_lt (pv 1) (pe_int) (nomark _)) (pss_one (ps_ret (pe_ix ix_list (pe_lst (pa_cons (pe_non) (pa_cons (pe_cmpR op_eq (pe_c C_law_pick hr (by first | decide | omega) rfl (pa_cons (pv 0) (pa_cons (pe_int) pa_nil))) (pe_int) (nomark _)) (pa_cons (pe_tup (pa_cons (pe_int) (pa_cons (pe_c C_law_pick hr (by first | decide | omega) rfl (pa_cons (pv 0) (pa_cons (pe_int) pa_nil))) pa_nil))) pa_nil)))) (pe_op op_sub (pv 1) (pe_int)) (fun _ _ => rfl)))) (pss_nil))
  (pss_one (ps_ret (pe_ifExp (pt_cmpR op_eq (pv 1) (pe_int) (nomark _)) (pe_lst (pa_cons (pe_c C_law_pick hr (by first | decide | omega) rfl (pa_cons (pv 0) (pa_cons (pe_int) pa_nil))) (pa_cons (pe_lst (pa_cons (pe_int) pa_nil)) pa_nil))) (pe_disp (pps_cons (pe_str) (pe_c C_law_pick hr (by first | decide | omega) rfl (pa_cons (pv 0) (pa_cons (pe_int) pa_nil))) pps_nil) rfl rfl (fun z => by cases z) (by decide))))))), ?_⟩
    dsimp only [cxOf, Cx.nox, Cx.wish]
    refine ⟨_, rfl, a, b, _, _, rfl, hS, by omega, by decide, by decide, fun r0 H0 r0a r0b S0 B0 => ?_⟩
    refine ⟨_, rfl, _, _, rfl, rfl, _, rfl, ?_⟩
    by_cases h2 : r0 < 2
    · refine ite2 (fun _ => ?_) fun z => absurd z (by simp; omega)
      refine ⟨_, rfl, _, rfl, a, b, _, _, _, rfl, S0, by omega, by decide, by decide, fun r1 H1 _ _ S1 B1 => ?_⟩
      refine ⟨_, rfl, a, b, _, _, rfl, S1, by omega, by decide, by decide, fun r2 H2 r2a r2b S2 B2 => ?_⟩
      refine ⟨r2, rfl, small_log r2a (by omega), _, _, rfl, rfl, small_txt r2a (by omega), by show 2 ≤ sizeLine; decide, fun l hl => ?_⟩
      have sl := same_upd (o := .lst [.int r1, .str ("w" ++ Str.ofString (toString r2))]) hl
      have B4 := ((B0.trans B1).trans B2).trans (sameB_of sl)
      obtain rfl | rfl : r0 = 0 ∨ r0 = 1 := by omega
      · exact ⟨_, rfl, l, _, _, _, rfl, rfl, SqL.of upd_same, rfl, k _ _ 3 (by decide) (S2.keep sl) B4 (fun _ _ => .int _) fun p z => by cases z⟩
      · exact ⟨_, rfl, l, _, _, _, rfl, rfl, SqL.of upd_same, rfl, k _ _ 3 (by decide) (S2.keep sl) B4 (fun _ _ => .str _) fun p z => by cases z⟩
    · refine ite2 (fun z => absurd z (by simp; omega)) fun _ => ?_
      refine ⟨_, rfl, _, _, rfl, rfl, _, rfl, ?_⟩
      by_cases h5 : r0 < 5
      · refine ite2 (fun _ => ?_) fun z => absurd z (by simp; omega)
        refine ⟨_, rfl, a, b, _, _, rfl, S0, by omega, by decide, by decide, fun r3 H3 _ _ S3 B3 => ?_⟩
        refine ⟨rfl, _, rfl, a, b, _, _, rfl, S3, by omega, by decide, by decide, fun r4 H4 _ _ S4 B4 => ⟨by show 2 ≤ sizeLine; decide, fun p hp => ⟨by show 3 ≤ sizeLine; decide, fun l hl => ?_⟩⟩⟩
        have B5 : SameB a b H H4 := (B0.trans B3).trans B4
        have np := noneB B5 S4 hp
        have s5 := (same_upd (o := .tup [.int 1, .int r4]) hp).trans (same_upd (o := .lst [.non, .bl (decide (V.int r3 = V.int 0)), .ref p]) hl)
        have B7 := B5.trans (sameB_of s5)
        have S5 := S4.keep s5
        have hpH := same_upd (o := .lst [.non, .bl (decide (V.int r3 = V.int 0)), .ref p]) hl p (.tup [.int 1, .int r4]) upd_same
        obtain rfl | rfl | rfl : r0 = 2 ∨ r0 = 3 ∨ r0 = 4 := by omega
        · exact ⟨_, rfl, _, _, rfl, rfl, l, _, 0, _, rfl, rfl, SqL.of upd_same, rfl, k _ _ 3 (by decide) S5 B7 (fun _ _ => .non) fun p z => by cases z⟩
        · exact ⟨_, rfl, _, _, rfl, rfl, l, _, 1, _, rfl, rfl, SqL.of upd_same, rfl, k _ _ 3 (by decide) S5 B7 (fun _ _ => .bl _) fun p z => by cases z⟩
        · exact ⟨_, rfl, _, _, rfl, rfl, l, _, 2, _, rfl, rfl, SqL.of upd_same, rfl, k _ _ 3 (by decide) S5 B7 (fun _ f => .tup (f _ _ np hpH)) fun p z => by cases z; exact np⟩
      · refine ite2 (fun z => absurd z (by simp; omega)) fun _ => ?_
        refine ⟨_, rfl, rfl, _, rfl, ?_⟩
        refine ite2 (fun _ => ?_) fun _ => ?_
        · refine ⟨_, rfl, a, b, _, _, rfl, S0, by omega, by decide, by decide, fun r7 H7 _ _ S7 B8 => ⟨by show 1 ≤ sizeLine; decide, fun q hq => ⟨by show 2 ≤ sizeLine; decide, fun p2 hp2 => ?_⟩⟩⟩
          have s8 := (same_upd (o := .lst [.int 1]) hq).trans (same_upd (o := .lst [.int r7, .ref q]) hp2)
          exact k _ _ 2 (by decide) (S7.keep s8) ((B0.trans B8).trans (sameB_of s8)) (fun _ f => .lst (n := 0) (f _ _ (noneB (B0.trans B8) S7 (none_of (same_upd hq) hp2)) upd_same) (f _ _ (noneB (B0.trans B8) S7 hq) (same_upd hp2 _ _ upd_same))) fun p z => by cases z; exact noneB (B0.trans B8) S7 (none_of (same_upd hq) hp2)
        · refine fun p2 hp2 => ⟨_, rfl, a, b, _, _, rfl, S0.keep (same_upd hp2), by omega, by decide, by decide, fun r7 H7 _ _ S7 B8 => ⟨B8 _ _ (S0.neA hp2) (S0.neB hp2) upd_same, [(.inr "a", .int r7)], rfl, by show 1 ≤ 15; decide, ?_⟩⟩
          have e7 := B8 _ _ (S0.neA hp2) (S0.neB hp2) upd_same
          have n7 : SameB a b H (upd H7 p2 (.dK (mergeK [] [(.inr "a", .int r7)]))) := fun x o n m e => by
            have hx := B0 x o n m e
            rw [upd_ne (ne_of_none hx hp2)]
            exact B8 x o n m (same_upd hp2 _ _ hx)
          have S8 : StA (upd H7 p2 (.dK (mergeK [] [(.inr "a", .int r7)]))) a b (c + 2) := S7.keepB (upd_ne (S0.neA hp2).symm) (upd_ne (S0.neB hp2).symm)
          exact k _ _ 2 (by decide) S8 n7 (fun _ f => .dct (n := 0) (f _ _ (noneB B0 S0 hp2) upd_same)) fun p z => by cases z; exact noneB B0 S0 hp2
def spVery (K : PySem.W.Frag) : Sp := fun vs H Q _ => ∃ (v : V), vs = [v, v] ∧ Thing H v 0 ∧ ∀ H', Same H H' → Q (.bl true) H'
theorem same_back {H H' : Hp} {p : Addr} {o : HO} (s : SameT (.ref p) H H') (h : H p = some o) (h' : H' p = some o) : Same H H' := fun x u e => by
  by_cases c : x = p
  · subst c
    rw [h] at e
    rw [← e]
    exact h'
  · exact s x u (fun z => c (V.ref.inj z).symm) e
theorem sc_law_very : FnScope ["found", "due", "same"] ["found", "due"] (defScope s_law_very) := ⟨rfl, rfl, rfl, by decide +kernel, rfl, by decide +kernel, by decide +kernel⟩
theorem ok_very (T : Blt mg) (F : DefOf K "_law_very" s_law_very f fd) (g : mg "_law_very" = some (.ref f)) (b : Binds K fd ["found", "due"] []) :
    Cal P w K mg base 1 "_law_very" (spVery K) [] := by
  refine cal_of F g b sc_law_very (fun vs H Q E h => ?_) (fun cdv A outer s H vs Q E hr h => ?_)
  · obtain ⟨v, rfl, _⟩ := h
    rfl
  · obtain ⟨v, rfl, ht, k⟩ := h
    refine ⟨_, pss_cons (ps_if (pt_val (pe_callB call_isZ rfl T.isinstance bt_isinstance (pa_cons (pv 1) (pa_cons (pe_bltn (v := .ty "list") rfl T.list bt_list rfl) pa_nil)))) (pss_cons (ps_expr (pe_bm PySem.F.plainAttrs_list PySem.F.slot_list_append PySem.F.type_list_append mt_append (pv 1) (pa_cons (pe_str) pa_nil)))
  (pss_cons (ps_set (i := 2) sc_law_very.nd rfl (Or.inl rfl) (pe_and (pe_callB call_isZ rfl T.isinstance bt_isinstance (pa_cons (pv 0) (pa_cons (pe_bltn (v := .ty "list") rfl T.list bt_list rfl) pa_nil))) (pe_and (pe_cmpR op_eq (pe_callB call_len_seq rfl T.len bt_len (pa_cons (pv 0) pa_nil)) (pe_callB call_len_seq rfl T.len bt_len (pa_cons (pv 1) pa_nil)) (nomark _)) (pe_one (pe_cmpR op_eq (pe_ix ix_list (pv 0) (pe_un un_neg (pe_int)) (fun _ _ => rfl)) (pe_str) (nomark _))))))
  (pss_cons (ps_expr (pe_bm0 PySem.F.plainAttrs_list PySem.F.slot_list_pop PySem.F.type_list_pop mt_pop (pv 1)))
  (pss_one (ps_ret (pe_and (pv 2) (pe_and (pe_callB call_isZ rfl T.isinstance bt_isinstance (pa_cons (pv 0) (pa_cons (pe_bltn (v := .ty "list") rfl T.list bt_list rfl) pa_nil))) (pe_one (pe_cmpR (op_eqV hr.units) (pv 0) (pv 1) (nomark _)))))))))) (pss_nil))
  (pss_cons (ps_if (pt_val (pe_callB call_isZ rfl T.isinstance bt_isinstance (pa_cons (pv 1) (pa_cons (pe_bltn (v := .ty "dict") rfl T.dict bt_dict rfl) pa_nil)))) (pss_cons (ps_asg (pe_int) (pg_sub (pv 1) (pe_str) (set_dict (hu_of hr))))
  (pss_cons (ps_set (i := 2) sc_law_very.nd rfl (Or.inl rfl) (pe_and (pe_callB call_isZ rfl T.isinstance bt_isinstance (pa_cons (pv 0) (pa_cons (pe_bltn (v := .ty "dict") rfl T.dict bt_dict rfl) pa_nil))) (pe_and (pe_cmp (pc_din (hu_of hr) pe_str (pv 0))) (pe_one (pe_cmpR op_eq (pe_callB call_lenD rfl T.len bt_len (pa_cons (pv 0) pa_nil)) (pe_callB call_lenD rfl T.len bt_len (pa_cons (pv 1) pa_nil)) (nomark _))))))
  (pss_cons (ps_expr (pe_dpop1 (pv 1) pe_str ⟨rfl, rfl, rfl, rfl⟩))
  (pss_one (ps_ret (pe_and (pv 2) (pe_and (pe_callB call_isZ rfl T.isinstance bt_isinstance (pa_cons (pv 0) (pa_cons (pe_bltn (v := .ty "dict") rfl T.dict bt_dict rfl) pa_nil))) (pe_one (pe_cmpR (op_eqV hr.units) (pv 0) (pv 1) (nomark _)))))))))) (pss_nil))
  (pss_cons (ps_if (pt_cmpR op_isN (pv 1) (pe_non) (nomark _)) (pss_one (ps_ret (pe_cmpR op_isN (pv 0) (pe_non) (nomark _)))) (pss_nil))
  (pss_cons (ps_if (pt_val (pe_callB call_isZ rfl T.isinstance bt_isinstance (pa_cons (pv 1) (pa_cons (pe_bltn (v := .ty "bool") rfl T.bool bt_bool rfl) pa_nil)))) (pss_one (ps_ret (pe_and (pe_callB call_isZ rfl T.isinstance bt_isinstance (pa_cons (pv 0) (pa_cons (pe_bltn (v := .ty "bool") rfl T.bool bt_bool rfl) pa_nil))) (pe_one (pe_cmpR op_eq (pv 0) (pv 1) (nomark _)))))) (pss_nil))
  (pss_cons (ps_if (pt_val (pe_callB call_isZ rfl T.isinstance bt_isinstance (pa_cons (pv 1) (pa_cons (pe_bltn (v := .ty "int") rfl T.int bt_int rfl) pa_nil)))) (pss_one (ps_ret (pe_and (pe_callB call_isZ rfl T.isinstance bt_isinstance (pa_cons (pv 0) (pa_cons (pe_bltn (v := .ty "int") rfl T.int bt_int rfl) pa_nil))) (pe_and (pe_not (pe_callB call_isZ rfl T.isinstance bt_isinstance (pa_cons (pv 0) (pa_cons (pe_bltn (v := .ty "bool") rfl T.bool bt_bool rfl) pa_nil)))) (pe_one (pe_cmpR op_eq (pv 0) (pv 1) (nomark _))))))) (pss_nil))
  (pss_cons (ps_if (pt_val (pe_callB call_isZ rfl T.isinstance bt_isinstance (pa_cons (pv 1) (pa_cons (pe_bltn (v := .ty "str") rfl T.str bt_str rfl) pa_nil)))) (pss_one (ps_ret (pe_and (pe_callB call_isZ rfl T.isinstance bt_isinstance (pa_cons (pv 0) (pa_cons (pe_bltn (v := .ty "str") rfl T.str bt_str rfl) pa_nil))) (pe_one (pe_cmpR op_eq (pv 0) (pv 1) (nomark _)))))) (pss_nil))
  (pss_one (ps_ret (pe_and (pe_callB call_isZ rfl T.isinstance bt_isinstance (pa_cons (pv 0) (pa_cons (pe_bltn (v := .ty "tuple") rfl T.tuple bt_tuple rfl) pa_nil))) (pe_one (pe_cmpR (op_eqD hr.units) (pe_callTy call_list_of rfl T.list bt_list (pa_cons (pv 0) pa_nil)) (pe_callTy call_list_of rfl T.list bt_list (pa_cons (pv 1) pa_nil)) (nomark _))))))))))), ?_⟩
    dsimp only [cxOf, Cx.nox, Cx.wish]
    cases ht with
    | non =>
      refine ⟨_, rfl, _, _, _, rfl, isz1 .non kb_NoneType_list, _, rfl, ?_⟩
      refine iteF ⟨_, rfl, _, _, _, rfl, isz1 .non kb_NoneType_dict, _, rfl, ?_⟩
      refine iteF ?_
      refine ⟨_, rfl, rfl, _, rfl, ?_⟩
      exact iteT ⟨_, rfl, rfl, k H (Same.refl H)⟩
    | bl c =>
      refine ⟨_, rfl, _, _, _, rfl, isz1 (.bl c) kb_bool_list, _, rfl, ?_⟩
      refine iteF ⟨_, rfl, _, _, _, rfl, isz1 (.bl c) kb_bool_dict, _, rfl, ?_⟩
      refine iteF ?_
      refine ⟨_, rfl, rfl, _, rfl, ?_⟩
      refine iteF ⟨_, rfl, _, _, _, rfl, isz1 (.bl c) kb_bool_bool, _, rfl, ?_⟩
      refine iteT ⟨_, rfl, _, _, _, rfl, isz1 (.bl c) kb_bool_bool, _, rfl, ?_⟩
      refine iteT ⟨_, rfl, _, rfl, by cases c <;> rfl, ?_⟩
      rw [decide_eq_true rfl]
      exact k H (Same.refl H)
    | int i =>
      refine ⟨_, rfl, _, _, _, rfl, isz1 (.int i) kb_int_list, _, rfl, ?_⟩
      refine iteF ⟨_, rfl, _, _, _, rfl, isz1 (.int i) kb_int_dict, _, rfl, ?_⟩
      refine iteF ?_
      refine ⟨_, rfl, rfl, _, rfl, ?_⟩
      refine iteF ⟨_, rfl, _, _, _, rfl, isz1 (.int i) kb_int_bool, _, rfl, ?_⟩
      refine iteF ⟨_, rfl, _, _, _, rfl, isz1 (.int i) kb_int_int, _, rfl, ?_⟩
      refine iteT ⟨_, rfl, _, _, _, rfl, isz1 (.int i) kb_int_int, _, rfl, ?_⟩
      refine iteT ⟨_, rfl, _, _, _, rfl, isz1 (.int i) kb_int_bool, _, rfl, _, rfl, ?_⟩
      refine iteT ⟨_, rfl, _, rfl, rfl, ?_⟩
      rw [decide_eq_true rfl]
      exact k H (Same.refl H)
    | str x =>
      refine ⟨_, rfl, _, _, _, rfl, isz1 (.str x) kb_str_list, _, rfl, ?_⟩
      refine iteF ⟨_, rfl, _, _, _, rfl, isz1 (.str x) kb_str_dict, _, rfl, ?_⟩
      refine iteF ?_
      refine ⟨_, rfl, rfl, _, rfl, ?_⟩
      refine iteF ⟨_, rfl, _, _, _, rfl, isz1 (.str x) kb_str_bool, _, rfl, ?_⟩
      refine iteF ⟨_, rfl, _, _, _, rfl, isz1 (.str x) kb_str_int, _, rfl, ?_⟩
      refine iteF ⟨_, rfl, _, _, _, rfl, isz1 (.str x) kb_str_str, _, rfl, ?_⟩
      refine iteT ⟨_, rfl, _, _, _, rfl, isz1 (.str x) kb_str_str, _, rfl, ?_⟩
      refine iteT ⟨_, rfl, _, rfl, rfl, ?_⟩
      rw [decide_eq_true rfl]
      exact k H (Same.refl H)
    | @tup _ p i hp =>
      have ty : Dt K H (.ref p) (.tuple [.int 1, .int i]) := .tup (SqT.of hp) (by show 2 ≤ sizeLine; decide) (.cons (.int _) (.cons (.int _) .nil))
      refine ⟨_, rfl, _, _, _, rfl, isz1 ty kb_tuple_list, _, rfl, ?_⟩
      refine iteF ⟨_, rfl, _, _, _, rfl, isz1 ty kb_tuple_dict, _, rfl, ?_⟩
      refine iteF ?_
      refine ⟨_, rfl, rfl, _, rfl, ?_⟩
      refine iteF ⟨_, rfl, _, _, _, rfl, isz1 ty kb_tuple_bool, _, rfl, ?_⟩
      refine iteF ⟨_, rfl, _, _, _, rfl, isz1 ty kb_tuple_int, _, rfl, ?_⟩
      refine iteF ⟨_, rfl, _, _, _, rfl, isz1 ty kb_tuple_str, _, rfl, ?_⟩
      refine iteF ⟨_, rfl, _, _, _, rfl, isz1 ty kb_tuple_tuple, _, rfl, ?_⟩
      refine iteT ⟨_, rfl, p, _, rfl, .inr (SqT.of hp), fun l1 hl1 => ⟨_, rfl, p, _, rfl, .inr (SqT.of (same_upd hl1 _ _ hp)), fun l2 hl2 => ?_⟩⟩
      have z := (same_upd (o := .lst [.int 1, .int i]) hl1).trans (same_upd (o := .lst [.int 1, .int i]) hl2)
      refine ⟨.list [.int 1, .int i], .list [.int 1, .int i], .lst (SqL.of (same_upd hl2 _ _ upd_same)) (.cons (.int _) (.cons (.int _) .nil)), .lst (SqL.of upd_same) (.cons (.int _) (.cons (.int _) .nil)), PySem.W.ke_shaped_ints [1, i], PySem.W.ke_shaped_ints [1, i], ?_⟩
      rw [show PyData.eqv (.list [.int 1, .int i]) (.list [.int 1, .int i]) = true by simp [PyData.eqv, PyData.eqvAll]]
      exact k _ z
    | @lst _ p q i hp hq =>
      have npq : q ≠ p := fun e => by
        subst e
        rw [hq] at hp
        cases hp
      have z : TyZ K H (.ref p) (.type "list") := ty_sqL (SqL.of hp)
      refine ⟨_, rfl, _, _, _, rfl, ⟨_, z, .inl ⟨_, .ty _, kit_ty kb_list_list⟩⟩, _, rfl, ?_⟩
      refine iteT ⟨_, rfl, .inl ⟨rfl, _, SqL.of hp⟩, p, _, _, rfl, rfl, hp, by show 2 < sizeLine; decide, ?_⟩
      have h1 : upd H p (.lst ((V.int i :: V.ref q :: List.replicate 0 (V.str "more")) ++ [.str "more"])) p = some (.lst [.int i, .ref q, .str "more"]) := upd_same
      have s1 : SameT (.ref p) H (upd H p (.lst ((V.int i :: V.ref q :: List.replicate 0 (V.str "more")) ++ [.str "more"]))) := sameT_upd
      have q1 : upd H p (.lst ((V.int i :: V.ref q :: List.replicate 0 (V.str "more")) ++ [.str "more"])) q = some (.lst [.int 1]) := by rw [upd_ne npq]; exact hq
      generalize upd H p (.lst ((V.int i :: V.ref q :: List.replicate 0 (V.str "more")) ++ [.str "more"])) = H1 at h1 s1 q1 ⊢
      have z1 : TyZ K H1 (.ref p) (.type "list") := ty_sqL (SqL.of h1)
      refine ⟨_, rfl, _, _, _, rfl, ⟨_, z1, .inl ⟨_, .ty _, kit_ty kb_list_list⟩⟩, _, rfl, ?_⟩
      refine iteT ⟨_, rfl, p, _, rfl, .inl (SqL.of h1), _, rfl, p, _, rfl, .inl (SqL.of h1), rfl, _, rfl, ?_⟩
      refine ite2 (fun _ => ?_) fun n => absurd (decide_eq_true rfl) n
      refine ⟨_, rfl, _, rfl, p, _, _, _, rfl, rfl, SqL.of h1, rfl, rfl, ?_⟩
      refine ⟨_, rfl, .inl ⟨rfl, _, SqL.of h1⟩, p, _, _, rfl, rfl, h1, rfl, ?_⟩
      have h2 : upd H1 p (.lst [.int i, .ref q]) p = some (.lst (V.int i :: V.ref q :: List.replicate 0 (V.str "more"))) := upd_same
      have t2 : Thing (upd H1 p (.lst [.int i, .ref q])) (.ref p) 0 := .lst h2 (by rw [upd_ne npq]; exact q1)
      refine ⟨_, rfl, _, rfl, ?_⟩
      refine ite2 (fun _ => ?_) fun n => absurd (decide_eq_true rfl) n
      refine ⟨_, rfl, _, _, _, rfl, ⟨_, ty_sqL (SqL.of h2), .inl ⟨_, .ty _, kit_ty kb_list_list⟩⟩, _, rfl, ?_⟩
      refine iteT ⟨_, rfl, _, rfl, 1, by decide, .inl ⟨p, p, _, _, rfl, rfl, SqL.of h2, SqL.of h2, .cons (.inl ⟨rfl, rfl⟩) (.cons (.inr (.inl ⟨q, rfl, rfl⟩)) .nil)⟩, ?_⟩
      exact k _ (same_back (s1.trans sameT_upd) hp h2)
    | @dct _ p i hp =>
      have na : ¬ (Str.ofString "a" = Str.ofString "more") := by decide
      have e' : putK ((Sum.inr "a", V.int i) :: if (0 : Nat) = 0 then [] else [(Sum.inr "more", V.int 1)] : List (Key × V)) (Sum.inr "more") (V.int 1) = ([(Sum.inr "a", V.int i), (Sum.inr "more", V.int 1)] : List (Key × V)) := by simp [putK, na]
      have h1 : upd H p (.dK (putK ((Sum.inr "a", V.int i) :: if (0 : Nat) = 0 then [] else [(Sum.inr "more", V.int 1)] : List (Key × V)) (Sum.inr "more") (V.int 1))) p = some (.dK [(Sum.inr "a", V.int i), (Sum.inr "more", V.int 1)]) := by
        rw [upd_same, e']
      refine ⟨_, rfl, _, _, _, rfl, ⟨_, ty_dK (Rd.of hp), .inl ⟨_, .ty _, kit_ty kb_dict_list⟩⟩, _, rfl, ?_⟩
      refine iteF ⟨_, rfl, _, _, _, rfl, ⟨_, ty_dK (Rd.of hp), .inl ⟨_, .ty _, kit_ty kb_dict_dict⟩⟩, _, rfl, ?_⟩
      refine iteT ⟨_, rfl, _, _, rfl, DPut.k (k := .inr "more") hp (by exact (by decide : 1 < sizeLine)), ?_⟩
      have s1 : SameT (.ref p) H (upd H p (.dK (putK ((Sum.inr "a", V.int i) :: if (0 : Nat) = 0 then [] else [(Sum.inr "more", V.int 1)] : List (Key × V)) (Sum.inr "more") (V.int 1)))) := sameT_upd
      generalize upd H p (.dK (putK ((Sum.inr "a", V.int i) :: if (0 : Nat) = 0 then [] else [(Sum.inr "more", V.int 1)] : List (Key × V)) (Sum.inr "more") (V.int 1))) = H1 at h1 s1 ⊢
      have hv : valV ([(Sum.inr "a", V.int i), (Sum.inr "more", V.int 1)] : List (Key × V)) (Sum.inr "more") = some (.int 1) := by simp [valV, na]
      have hg : DGet H1 p (.str "more") (some (.int 1)) := by
        have z := DGet.k (k := .inr "more") h1
        rw [hv] at z
        exact z
      refine ⟨_, rfl, _, _, _, rfl, ⟨_, ty_dK (Rd.of h1), .inl ⟨_, .ty _, kit_ty kb_dict_dict⟩⟩, _, rfl, ?_⟩
      refine iteT ⟨_, rfl, p, _, rfl, hg, _, rfl, ?_⟩
      refine iteT ⟨_, rfl, p, _, rfl, h1, _, rfl, p, _, rfl, h1, rfl, ?_⟩
      refine ⟨_, rfl, p, rfl, .inl ⟨_, Rd.of h1⟩, _, .inr "more", _, h1, rfl, hv, ?_⟩
      have e2 : dropK ([(Sum.inr "a", V.int i), (Sum.inr "more", V.int 1)] : List (Key × V)) (Sum.inr "more") = ((Sum.inr "a", V.int i) :: if (0 : Nat) = 0 then [] else [(Sum.inr "more", V.int 1)] : List (Key × V)) := by simp [dropK, na]
      have h2 : upd H1 p (.dK (dropK ([(Sum.inr "a", V.int i), (Sum.inr "more", V.int 1)] : List (Key × V)) (Sum.inr "more"))) p = some (.dK ((Sum.inr "a", V.int i) :: if (0 : Nat) = 0 then [] else [(Sum.inr "more", V.int 1)])) := by
        rw [upd_same, e2]
      refine ⟨_, rfl, _, rfl, ?_⟩
      refine ite2 (fun _ => ?_) fun n => absurd (decide_eq_true rfl) n
      refine ⟨_, rfl, _, _, _, rfl, ⟨_, ty_dK (Rd.of h2), .inl ⟨_, .ty _, kit_ty kb_dict_dict⟩⟩, _, rfl, ?_⟩
      refine iteT ⟨_, rfl, _, rfl, 1, by decide, .inr ⟨p, p, _, _, rfl, rfl, h2, h2, rfl, fun x hx => ?_⟩, ?_⟩
      · obtain rfl : x = ((Sum.inr (Str.ofString "a"), V.int i) : Key × V) := by simpa using hx
        exact ⟨.int i, by simp [valV], .inl ⟨rfl, rfl⟩⟩
      · exact k _ (same_back (s1.trans sameT_upd) hp h2)
end
end K00

set_option maxHeartbeats 4000000
namespace K00
open PySem PySem.Spec PyProof.Rows L2 SpE He L2H
open C8 (Cal pe_c)
section
variable {P : Program} {w : World} {K : PySem.W.Frag} {mg : Str → Option Value} {base : Heap} {f : Addr} {fd : FuncData}
theorem nd_map {α β : Type} {f : α → β} : ∀ {l : List α}, (∀ x ∈ l, ∀ y ∈ l, f x = f y → x = y) → l.Nodup → (l.map f).Nodup
  | [], _, _ => List.nodup_nil
  | a :: l, h, n => by
    obtain ⟨n1, n2⟩ := List.nodup_cons.mp n
    refine List.nodup_cons.mpr ⟨fun z => ?_, nd_map (fun x hx y hy => h x (List.mem_cons_of_mem _ hx) y (List.mem_cons_of_mem _ hy)) n2⟩
    obtain ⟨x, hx, e⟩ := List.mem_map.mp z
    exact n1 (by rw [← h x (List.mem_cons_of_mem _ hx) a List.mem_cons_self e]; exact hx)
theorem kA1_nd (T : Txt P w K mg base) : (kA1 K).Nodup := nd_map (fun x hx y hy e => T.er.inj (mem_kN (List.mem_append_left _ hx)) (mem_kN (List.mem_append_left _ hy)) e) (by decide +kernel)
theorem kA2_nd (T : Txt P w K mg base) : (kA2 K).Nodup := nd_map (fun x hx y hy e => T.er.inj (mem_kN (List.mem_append_right _ hx)) (mem_kN (List.mem_append_right _ hy)) e) (by decide +kernel)
theorem not_k1 (T : Txt P w K mg base) {y : Str} (m : y ∈ erAll "SameError" none0 tab) (h : y ∉ kN1) : ga K y ∉ kA1 K := fun z => by
  obtain ⟨x, hx, e⟩ := List.mem_map.mp z
  exact T.er.ne (mem_kN (List.mem_append_left _ hx)) m (fun q => h (by rw [← q]; exact hx)) e
theorem not_k2 (T : Txt P w K mg base) {y : Str} (m : y ∈ erAll "SameError" none0 tab) (h : y ∉ kN2) : ga K y ∉ kA2 K := fun z => by
  obtain ⟨x, hx, e⟩ := List.mem_map.mp z
  exact T.er.ne (mem_kN (List.mem_append_right _ hx)) m (fun q => h (by rw [← q]; exact hx)) e
theorem kinds_none (T : Txt P w K mg base) {y : Str} (m : y ∈ erAll "SameError" none0 tab) (h1 : y ∉ kN1) (h2 : y ∉ kN2) : kinds2 K (ga K y) = [] := by
  unfold kinds2
  rw [kindsOf_none (not_k1 T m h1), kindsOf_none (not_k2 T m h2)]
  rfl
theorem apart : ∀ x ∈ kN1, x ∉ kN2 := by decide +kernel
theorem kinds_at (T : Txt P w K mg base) {i : Nat} {y : Str} (h : kN[i]? = some y) : kinds2 K (ga K y) = [(i : Int)] := by
  unfold kinds2
  by_cases c : i < 12
  · have h1 : kN1[i]? = some y := by
      have e : kN[i]? = kN1[i]? := List.getElem?_append_left (by show i < 12; exact c)
      rw [← e]
      exact h
    have m1 : y ∈ kN1 := List.mem_of_getElem? h1
    rw [kindsOf_at (kA1_nd T) (i := i) (by rw [List.getElem?_map, h1]; rfl), if_pos c, kindsOf_none (not_k2 T (mem_kN (List.mem_append_left _ m1)) (apart y m1))]
    show [0 + (i : Int)] = _
    rw [Int.zero_add]
  · have h2 : kN2[i - 12]? = some y := by
      have e : kN[i]? = kN2[i - 12]? := List.getElem?_append_right (by show 12 ≤ i; omega)
      rw [← e]
      exact h
    have m2 : y ∈ kN2 := List.mem_of_getElem? h2
    have lt : i - 12 < 11 := (List.getElem?_eq_some_iff.mp h2).1
    rw [kindsOf_at (kA2_nd T) (i := i - 12) (by rw [List.getElem?_map, h2]; rfl), if_pos lt, kindsOf_none (not_k1 T (mem_kN (List.mem_append_right _ m2)) (fun z => apart y z m2))]
    show [12 + ((i - 12 : Nat) : Int)] = _
    rw [show (12 : Int) + ((i - 12 : Nat) : Int) = (i : Int) by omega]
theorem isz_erV {C a : Addr} {H : Hp} (e : ErrAt K H a C) (h : Below (ga K "SameError") K C) : IsZ K H (.ref a) (.ty "ValueError") true := by
  have z := isz_erB (T := "ValueError") e h (by decide +kernel)
  rw [show aboveS.contains (.type "ValueError") = true by decide +kernel] at z
  exact z
def tsCaught (K : PySem.W.Frag) : Addr → Value → Option Addr → TS := fun a cls d D σ H => ∃ i : Addr × Addr, (cls = .ref i.1 ∧ d = some i.2) ∧ tAsg (tCallS (spKindsP K a i.1 i.2) (fun _ _ _ _ => False) (tCons (tVar 1) tNil)) (gName 2) D σ H
def spCaught (K : PySem.W.Frag) : Sp := fun vs H Q _ => ∃ v : V, vs = [v] ∧ ∀ (t l1 l2 : Addr) (H' : Hp), H' t = some (.tup [.ref l1, .ref l2, .bl true]) → H' l1 = some (.lst [.int 18]) → H' l2 = some (.lst []) → Q (.ref t) H'
theorem sc_law_caught : FnScope ["x", "e", "told", "plain"] ["x"] (defScope s_law_caught) := ⟨rfl, rfl, rfl, by decide +kernel, rfl, by decide +kernel, by decide +kernel⟩
theorem ok_caught {fk f1 f2 : Addr} {fdk fd1 fd2 : FuncData} (T : Txt P w K mg base) (C_law_kinds : Cal P w K mg base 2 "_law_kinds" (spKinds K) [])
    (F1 : DefOf K "_law_kinds_first" s_law_kinds_first f1 fd1) (g1 : mg "_law_kinds_first" = some (.ref f1)) (b1 : Binds K fd1 ["e"] [])
    (F2 : DefOf K "_law_kinds_last" s_law_kinds_last f2 fd2) (g2 : mg "_law_kinds_last" = some (.ref f2)) (b2 : Binds K fd2 ["e"] [])
    (Fk : DefOf K "_law_kinds" s_law_kinds fk fdk) (gk : mg "_law_kinds" = some (.ref fk)) (bk : Binds K fdk ["e"] [])
    (F : DefOf K "_law_caught" s_law_caught f fd) (g : mg "_law_caught" = some (.ref f)) (b : Binds K fd ["x"] []) : Cal P w K mg base 3 "_law_caught" (spCaught K) [] := by
  refine cal_of F g b sc_law_caught (fun vs H Q E h => ?_) (fun cdv A outer s H vs Q E hr h => ?_)
  · obtain ⟨v, rfl, _⟩ := h
    rfl
  · obtain ⟨v, rfl, k⟩ := h
    refine ⟨_, pss_cons (L2N.ps_try_as (i := 1) (tb := fun W => fun _ σ H => tMkE (ga K "BadAnswer") ["answer"] (tCons (tVar 0) tNil) σ H fun cls d H' => W cls d σ H') (ts := tsCaught K) (Wout := fun _ _ _ _ => False) rfl rfl sc_law_caught.nd rfl rfl ⟨rfl, by decide, Or.inl T.e_SameError.gl⟩ takesN (fun W pn xe tk _ => pss_one (L2N.ps_raise rfl tk (pmk_er T.e_BadAnswer hr (by decide) rfl (pa_cons (pv 0) pa_nil)))) (fun a oe cls d pn hz hf => pss_ex fun i hi => pss_one (ps_set (i := 2) sc_law_caught.nd rfl (Or.inl rfl) (pe_callP (ok_kindsP (p := (a, oe)) T (cau_of hz hf hi) F1 g1 b1 F2 g2 b2 Fk) (roomH_mark hr (some (.ref a))) List.mem_cons_self (hot_suite hz hf) rfl gk Fk.kp bk (pa_cons (pv 1) pa_nil)))))
  (pss_cons (ps_set (i := 3) sc_law_caught.nd rfl (Or.inl rfl) (pe_er0 T.e_SameError rfl))
  (pss_one (ps_ret (pe_tup (pa_cons (pv 2) (pa_cons (pe_c C_law_kinds hr (by first | decide | omega) rfl (pa_cons (pv 3) pa_nil)) (pa_cons (pe_callB call_isZ rfl T.isinstance bt_isinstance (pa_cons (pv 3) (pa_cons (pe_bltn (v := .ty "ValueError") rfl T.ValueError bt_ValueError rfl) pa_nil))) pa_nil))))))), ?_⟩
    dsimp only [cxOf, Cx.nox, Cx.wish]
    refine ⟨_, rfl, rfl, by show 1 ≤ 1000; decide, fun d hd => ⟨true, exm_er (T.er.c ("BadAnswer", ["answer"]) (by decide +kernel)).2 T.er.s.1, fun _ a ha => ⟨(ga K "BadAnswer", d), ⟨rfl, rfl⟩, ?_⟩, fun q => Bool.noConfusion q⟩⟩
    refine ⟨_, rfl, _, rfl, upd_same, T.er.below (mem_kN (by decide +kernel)), fun l1 H1 s1 h1 => ?_⟩
    rw [kinds_at T (i := 18) (y := "BadAnswer") rfl] at h1
    refine fun a1 ha1 => ?_
    have E1 : ErrAt K (upd H1 a1 (exo a1 (ga K "SameError") none)) a1 (ga K "SameError") := ⟨T.e_SameError.er, .inl upd_same⟩
    have BS : Below (ga K "SameError") K (ga K "SameError") := ⟨T.er.s.1, .inr ⟨rfl, T.er.s.2⟩⟩
    have s2 := same_upd (o := exo a1 (ga K "SameError") none) ha1
    refine ⟨_, rfl, _, rfl, a1, _, rfl, E1, BS, fun l2 H2 s3 h2 => ?_⟩
    rw [kinds_none T List.mem_cons_self (by decide +kernel) (by decide +kernel)] at h2
    refine ⟨_, rfl, _, _, _, rfl, isz_erV (E1.keep s3) BS, by show 3 ≤ sizeLine; decide, fun t ht => ?_⟩
    have s5 := same_upd (o := .tup [.ref l1, .ref l2, .bl true]) ht
    exact k t l1 l2 _ upd_same (s5 _ _ (s3 _ _ (s2 _ _ h1))) (s5 _ _ h2)
end
end K00

set_option maxHeartbeats 4000000
namespace K00
open PySem PySem.Spec PyProof.Rows L2 SpE He L2H
open C8 (Cal pe_c)
section
variable {P : Program} {w : World} {K : PySem.W.Frag} {mg : Str → Option Value} {base : Heap} {f : Addr} {fd : FuncData}
def spLaw (K : PySem.W.Frag) : Sp := fun vs H Q _ => ∃ (a : Addr) (ns : List Int), vs = [.ref a] ∧ SqL K H a (ns.map V.int) ∧ ∀ H', Q (.bl true) H'
theorem eqv_one (i : Int) : PyData.eqv (.list [.int i]) (.list [.int i]) = true := by simp [PyData.eqv, PyData.eqvAll]
theorem eqv_nil : PyData.eqv (.list []) (.list []) = true := by simp [PyData.eqv, PyData.eqvAll]
def dueC : PyData := .tuple [.list [.int 18], .list [], .bool true]
theorem eqv_due : PyData.eqv dueC dueC = true := by simp [dueC, PyData.eqv, PyData.eqvAll]
theorem kit_no {C : Addr} (h : Below (ga K "SameError") K C) {T : String} (h1 : PySem.W.kitMeta T = true) (h2 : aboveS.contains (.type T) = false) : PySem.W.kitOne K (.ref C) (.type T) = some false := by
  rw [kit_erT h h1, h2]
theorem isz_no5 {a tp : Addr} {H : Hp} {y : Str} (T : Txt P w K mg base) (hy : y ∈ kN) (e : ErrAt K H a (ga K y)) (hp : H tp = some (.tup [.ty "KeyError", .ty "IndexError", .ty "TypeError", .ref (ga K "BadOther"), .ref (ga K "BadParts")])) : IsZ K H (.ref a) (.ref tp) false := by
  have hB := T.er.below (mem_kN hy)
  refine isz_erN e hp (.cons (.ty _) (.cons (.ty _) (.cons (.ty _) (.cons (.own _) (.cons (.own _) .nil))))) fun c hc => ?_
  simp only [List.mem_cons, List.not_mem_nil, or_false] at hc
  have no : ∀ x, x ∉ kN → x ∈ erAll "SameError" none0 tab → ErC K (ga K x) → ga K x ≠ ga K "SameError" → PySem.W.kitOne K (.ref (ga K y)) (.ref (ga K x)) = some false := fun x hx m TD ns => by
    rw [kit_er hB TD ns, decide_eq_false (T.er.ne (mem_kN hy) m fun q => hx (by rw [← q]; exact hy))]
  rcases hc with rfl | rfl | rfl | rfl | rfl
  · exact kit_no hB (by decide +kernel) (by decide +kernel)
  · exact kit_no hB (by decide +kernel) (by decide +kernel)
  · exact kit_no hB (by decide +kernel) (by decide +kernel)
  · exact no "BadOther" (by decide +kernel) (by decide +kernel) T.e_BadOther.er (T.nS (by decide +kernel))
  · exact no "BadParts" (by decide +kernel) (by decide +kernel) T.e_BadParts.er (T.nS (by decide +kernel))
theorem isz_no2 {C a tp : Addr} {H : Hp} (e : ErrAt K H a C) (h : Below (ga K "SameError") K C) (hp : H tp = some (.tup [.ty "KeyError", .ty "TypeError"])) : IsZ K H (.ref a) (.ref tp) false := by
  refine isz_erN e hp (.cons (.ty _) (.cons (.ty _) .nil)) fun c hc => ?_
  simp only [List.mem_cons, List.not_mem_nil, or_false] at hc
  rcases hc with rfl | rfl <;> exact kit_no h (by decide +kernel) (by decide +kernel)
theorem two_errsT {C m : Addr} {H : Hp} {a1 d1 a2 d2 : Addr} {fs gs : List (Str × V)} (T : ErC K C) (ha1 : H a1 = none) (hd1 : H d1 = none) (n1 : d1 ≠ a1)
    (ha2 : (upd (upd H d1 (exd d1 fs)) a1 (exo a1 C (some d1))) a2 = none) (hd2 : (upd (upd H d1 (exd d1 fs)) a1 (exo a1 C (some d1))) d2 = none) (n2 : d2 ≠ a2)
    (hm : (upd (upd (upd (upd H d1 (exd d1 fs)) a1 (exo a1 C (some d1))) d2 (exd d2 gs)) a2 (exo a2 C (some d2))) m = none) :
    ∃ G, upd (upd (upd (upd (upd H d1 (exd d1 fs)) a1 (exo a1 C (some d1))) d2 (exd d2 gs)) a2 (exo a2 C (some d2))) m (.tup [.ref a1, .ref a2]) = G ∧
      Same H G ∧ G m = some (.tup ([a1, a2].map V.ref)) ∧ (∀ e ∈ [a1, a2], ErrAt K G e C) ∧
      ∀ f v, PySem.W.findIn K (.ref C) f = some none → fs.lookup f = some v → gs.lookup f = some v → ∀ e ∈ [a1, a2], Fld K G e f v := by
  refine ⟨_, rfl, ?_⟩
  generalize hG1 : upd (upd H d1 (exd d1 fs)) a1 (exo a1 C (some d1)) = G1 at *
  have s1 : Same H G1 := by
    rw [← hG1]
    exact (er_new (K := K) T ha1 hd1 n1).2
  have g1 : G1 a1 = some (exo a1 C (some d1)) := by rw [← hG1]; exact upd_same
  have g1d : G1 d1 = some (exd d1 fs) := by rw [← hG1, upd_ne n1]; exact upd_same
  generalize hG2 : upd (upd G1 d2 (exd d2 gs)) a2 (exo a2 C (some d2)) = G2 at *
  have s2 : Same G1 G2 := by
    rw [← hG2]
    exact (er_new (K := K) T ha2 hd2 n2).2
  have g2 : G2 a2 = some (exo a2 C (some d2)) := by rw [← hG2]; exact upd_same
  have g2d : G2 d2 = some (exd d2 gs) := by rw [← hG2, upd_ne n2]; exact upd_same
  have s3 : Same G2 (upd G2 m (.tup [.ref a1, .ref a2])) := same_upd hm
  refine ⟨(s1.trans s2).trans s3, upd_same, fun e he => ?_, fun f v hf l1 l2 e he => ?_⟩
  · rcases List.mem_cons.mp he with rfl | he
    · exact ⟨T, .inr ⟨_, _, s3 _ _ (s2 _ _ g1), s3 _ _ (s2 _ _ g1d)⟩⟩
    · rw [List.mem_singleton.mp he]
      exact ⟨T, .inr ⟨_, _, s3 _ _ g2, s3 _ _ g2d⟩⟩
  · rcases List.mem_cons.mp he with rfl | he
    · exact ⟨_, _, _, s3 _ _ (s2 _ _ g1), s3 _ _ (s2 _ _ g1d), T, hf, l1⟩
    · rw [List.mem_singleton.mp he]
      exact ⟨_, _, _, s3 _ _ g2, s3 _ _ g2d, T, hf, l2⟩
theorem at_in {k r : Int} (h0 : 0 ≤ k + r) : ∃ m : Nat, m < 23 ∧ (k + r).fmod 23 = m := by
  have a := fm0 (k + r) (m := 23) (by decide)
  have b := fm1 (k + r) (m := 23) (by decide)
  exact ⟨((k + r).fmod 23).toNat, by omega, by omega⟩
theorem sc_law : FnScope ["script", "state", "k", "at", "one", "two", "made", "kept", "other", "mates"] ["script"] (defScope s_law) := ⟨rfl, rfl, rfl, by decide +kernel, rfl, by decide +kernel, by decide +kernel⟩
def turnW (l a b : Addr) (n : Nat) : L2.St → Hp → Prop := fun σ H => ∃ (v2 v3 v4 v5 v6 v7 v8 v9 : Option V), σ = [some (.ref l), some (.ref a), v2, v3, v4, v5, v6, v7, v8, v9] ∧ StA H a b n
theorem ok_law (T : Txt P w K mg base) (C_law_start : Cal P w K mg base 1 "_law_start" (spStart K) []) (C_law_pick : Cal P w K mg base 1 "_law_pick" spPick [])
    (C_law_object : Cal P w K mg base 3 "_law_object" spObj2 []) (C_law_made_at : Cal P w K mg base 4 "_law_made_at" (spMade K 0 23) []) (C_law_kinds : Cal P w K mg base 2 "_law_kinds" (spKinds K) [])
    (C_law_very : Cal P w K mg base 1 "_law_very" (spVery K) []) (C_law_caught : Cal P w K mg base 3 "_law_caught" (spCaught K) []) (F : DefOf K "law" s_law f fd) : FnOk P w K mg base CX0 5 f fd ["script"] (spLaw K) := by
  refine F.ok sc_law (fun vs H Q E h => ?_) (fun cdv A outer s H vs Q E hr h => ?_)
  · obtain ⟨a, ns, rfl, _⟩ := h
    rfl
  · obtain ⟨l, ns, rfl, hS, kk⟩ := h
    refine ⟨_, PSs.nox (pss_cons (ps_set (i := 1) sc_law.nd rfl (Or.inl rfl) (pe_c C_law_start hr (by first | decide | omega) rfl (pa_cons (pv 0) pa_nil)))
  (pss_cons (ps_for PassesOwn.never rfl (pi_range1 rfl T.range (pa_cons (pe_int) pa_nil)) (pg_name (i := 2) sc_law.nd rfl (Or.inl rfl)) (pss_cons (ps_set (i := 3) sc_law.nd rfl (Or.inl rfl) (pe_ifExp (pt_cmpR op_lt (pv 2) (pe_int) (nomark _)) (pe_op op_modN (pe_callTy call_int1 rfl T.int bt_int (pa_cons (pe_op op_add (pv 2) (pe_c C_law_pick hr (by first | decide | omega) rfl (pa_cons (pv 1) (pa_cons (pe_int) pa_nil)))) pa_nil)) (pe_int)) (pe_op op_sub (pv 2) (pe_int))))
  (pss_cons (ps_par (i := 4) (j := 5) rfl sc_law.nd rfl rfl (by decide) rfl rfl (pa_cons (pe_c C_law_object hr (by first | decide | omega) rfl (pa_cons (pv 1) pa_nil)) (pa_cons (pe_c C_law_object hr (by first | decide | omega) rfl (pa_cons (pv 1) pa_nil)) pa_nil)) rfl)
  (pss_cons (ps_asg (pe_c C_law_made_at hr (by first | decide | omega) rfl (pa_cons (pv 3) (pa_cons (pv 4) pa_nil))) (pg_tup rfl (pgs_cons (pg_name (i := 6) sc_law.nd rfl (Or.inl rfl)) (pgs_cons (pg_name (i := 7) sc_law.nd rfl (Or.inl rfl)) pgs_nil))))
  (pss_cons (ps_asg (pe_c C_law_made_at hr (by first | decide | omega) rfl (pa_cons (pv 3) (pa_cons (pv 5) pa_nil))) (pg_tup rfl (pgs_cons (pg_name (i := 8) sc_law.nd rfl (Or.inl rfl)) (pgs_cons (pg_name (i := 9) sc_law.nd rfl (Or.inl rfl)) pgs_nil))))
  (pss_cons (ps_if (PW.pt (pw_or (pt_not (pt_val (pe_callB call_isZ rfl T.isinstance bt_isinstance (pa_cons (pv 6) (pa_cons (pe_glob (v := .ref _) rfl T.e_SameError.gl rfl) pa_nil))))) (pw_or (pt_not (pt_val (pe_callB call_isZ rfl T.isinstance bt_isinstance (pa_cons (pv 6) (pa_cons (pe_bltn (v := .ty "ValueError") rfl T.ValueError bt_ValueError rfl) pa_nil))))) (pw_or1 (pt_cmpR (op_neD hr.units) (pe_c C_law_kinds hr (by first | decide | omega) rfl (pa_cons (pv 6) pa_nil)) (pe_lst (pa_cons (pv 3) pa_nil)) (nomark _)))))) (pss_one (ps_ret (pe_bl))) (pss_nil))
  (pss_cons (ps_if (PW.pt (pw_or (pt_val (pe_callB call_isZ rfl T.isinstance bt_isinstance (pa_cons (pv 6) (pa_cons (pe_tup (pa_cons (pe_bltn (v := .ty "KeyError") rfl T.KeyError bt_KeyError rfl) (pa_cons (pe_bltn (v := .ty "IndexError") rfl T.IndexError bt_IndexError rfl) (pa_cons (pe_bltn (v := .ty "TypeError") rfl T.TypeError bt_TypeError rfl) (pa_cons (pe_glob (v := .ref _) rfl T.e_BadOther.gl rfl) (pa_cons (pe_glob (v := .ref _) rfl T.e_BadParts.gl rfl) pa_nil)))))) pa_nil)))) (pw_or1 (pt_val (pe_callB call_isZ rfl T.isinstance bt_isinstance (pa_cons (pv 8) (pa_cons (pe_tup (pa_cons (pe_bltn (v := .ty "KeyError") rfl T.KeyError bt_KeyError rfl) (pa_cons (pe_bltn (v := .ty "TypeError") rfl T.TypeError bt_TypeError rfl) pa_nil))) pa_nil))))))) (pss_one (ps_ret (pe_bl))) (pss_nil))
  (pss_one (ps_if (PW.pt (pw_or (pt_not (pt_val (pe_c C_law_very hr (by first | decide | omega) rfl (pa_cons (pv 7) (pa_cons (pv 4) pa_nil))))) (pw_or1 (pt_not (pt_val (pe_c C_law_very hr (by first | decide | omega) rfl (pa_cons (pv 9) (pa_cons (pv 5) pa_nil)))))))) (pss_one (ps_ret (pe_bl))) (pss_nil))))))))))
  (pss_cons (ps_par (i := 4) (j := 5) rfl sc_law.nd rfl rfl (by decide) rfl rfl (pa_cons (pe_c C_law_object hr (by first | decide | omega) rfl (pa_cons (pv 1) pa_nil)) (pa_cons (pe_c C_law_object hr (by first | decide | omega) rfl (pa_cons (pv 1) pa_nil)) pa_nil)) rfl)
  (pss_cons (ps_for PassesOwn.never rfl (pi_tup (pe_tup (pa_cons (pe_er T.e_BadParts hr (by decide) rfl (pa_cons (pv 4) (pa_cons (pv 5) pa_nil))) (pa_cons (pe_erK T.e_BadParts hr (by decide) rfl (pk_cons (pv 5) (pk_cons (pv 4) pk_nil)) rfl) pa_nil)))) (pg_name (i := 6) sc_law.nd rfl (Or.inl rfl)) (pss_one (ps_if (PW.pt (pw_or (pt_not (pt_val (pe_callB call_isZ rfl T.isinstance bt_isinstance (pa_cons (pv 6) (pa_cons (pe_glob (v := .ref _) rfl T.e_SameError.gl rfl) pa_nil))))) (pw_or (pt_cmpR (op_neD hr.units) (pe_c C_law_kinds hr (by first | decide | omega) rfl (pa_cons (pv 6) pa_nil)) (pe_lst (pa_nil)) (nomark _)) (pw_or (pt_not (pt_val (pe_c C_law_very hr (by first | decide | omega) rfl (pa_cons (pe_exf (pv 6)) (pa_cons (pv 4) pa_nil))))) (pw_or1 (pt_not (pt_val (pe_c C_law_very hr (by first | decide | omega) rfl (pa_cons (pe_exf (pv 6)) (pa_cons (pv 5) pa_nil)))))))))) (pss_one (ps_ret (pe_bl))) (pss_nil))))
  (pss_one (ps_ret (pe_cmpR (op_eqD hr.units) (pe_c C_law_caught hr (by first | decide | omega) rfl (pa_cons (pe_c C_law_object hr (by first | decide | omega) rfl (pa_cons (pv 1) pa_nil)) pa_nil)) (pe_tup (pa_cons (pe_lst (pa_cons (pe_int) pa_nil)) (pa_cons (pe_lst (pa_nil)) (pa_cons (pe_bl) pa_nil)))) (nomark _)))))))), ?_⟩
    refine ⟨_, rfl, l, ns, rfl, hS, fun a b H1 _ _ S1 _ => ?_⟩
    refine ⟨46, rfl, by decide, by decide, for_range (lo := 0) (n := 46) (fun i => turnW l a b (21 * i)) ⟨_, _, _, _, _, _, _, _, rfl, S1⟩ ?_ ?_⟩
    · rintro k σ H0 hk ⟨v2, v3, v4, v5, v6, v7, v8, v9, rfl, S0⟩
      refine ⟨_, rfl, _, _, rfl, rfl, _, rfl, ?_⟩
      by_cases h10 : k < 23
      · refine ite2 (fun _ => ?_) fun z => absurd z (by simp; omega)
        refine ⟨_, rfl, _, rfl, a, b, _, _, rfl, S0, by omega, by decide, by decide, fun r H1 r0 r1 S1 _ => ?_⟩
        refine ⟨_, _, rfl, rfl, .inl ⟨_, rfl, _, _, rfl, rfl, (by show (23 : Int) ≠ 0; decide), ?_⟩⟩
        obtain ⟨m, hm, e⟩ := at_in (k := 0 + (k : Int)) (r := r) (by omega)
        dsimp only
        rw [e]
        clear S0 e
        obtain ⟨y, hy⟩ : ∃ y, kN[m]? = some y := ⟨_, List.getElem?_eq_getElem hm⟩
        have hyk : y ∈ kN := List.mem_of_getElem? hy
        have hB := T.er.below (mem_kN hyk)
        refine ⟨_, rfl, a, b, _, rfl, S1, by omega, fun v1 H2 k2 hk2 S2 B2 T2 f2 => ?_⟩
        refine ⟨_, rfl, a, b, _, rfl, S2, by omega, fun v2 H3 k3 hk3 S3 B3 T3 f3 => ?_⟩
        refine ⟨_, _, rfl, _, rfl, _, rfl, m, v1, y, rfl, Nat.zero_le _, hm, hy, fun t a1 H4 s4 ht hE1 => ?_⟩
        refine ⟨t, _, rfl, SqT.of ht, rfl, _, _, rfl, _, _, rfl, rfl, ?_⟩
        refine ⟨_, rfl, _, rfl, m, v2, y, rfl, Nat.zero_le _, hm, hy, fun u a2 H5 s5 hu hE2 => ?_⟩
        refine ⟨u, _, rfl, SqT.of hu, rfl, _, _, rfl, _, _, rfl, rfl, ?_⟩
        have E1 := hE1.keep s5
        refine ⟨_, rfl, _, _, _, rfl, isz_erS E1 hB T.er.s.1, _, rfl, ?_⟩
        refine iteF ⟨_, rfl, _, _, _, rfl, isz_erV E1 hB, _, rfl, ?_⟩
        refine iteF ⟨_, rfl, a1, _, rfl, E1, hB, fun p H6 s6 hp => ⟨_, rfl, by show 1 ≤ sizeLine; decide, fun q hq => ?_⟩⟩
        rw [kinds_at T hy] at hp
        refine ⟨.list [.int m], .list [.int m], .lst (SqL.of (same_upd hq _ _ hp)) (.cons (.int _) .nil), .lst (SqL.of upd_same) (.cons (.int _) .nil), PySem.W.ke_shaped_ints [(m : Int)], PySem.W.ke_shaped_ints [(m : Int)], _, rfl, ?_⟩
        rw [eqv_one]
        have s7 := s6.trans (same_upd (o := .lst [.int m]) hq)
        refine iteF ⟨_, rfl, by show 5 ≤ sizeLine; decide, fun tp htp => ⟨_, _, _, rfl, isz_no5 T hyk ((E1.keep s7).keep (same_upd htp)) upd_same, _, rfl, ?_⟩⟩
        have s8 := s7.trans (same_upd (o := .tup [.ty "KeyError", .ty "IndexError", .ty "TypeError", .ref (ga K "BadOther"), .ref (ga K "BadParts")]) htp)
        refine iteF ⟨_, rfl, by show 2 ≤ sizeLine; decide, fun tq htq => ⟨_, _, _, rfl, isz_no2 ((hE2.keep s8).keep (same_upd htq)) hB upd_same, _, rfl, ?_⟩⟩
        have s9 := s8.trans (same_upd (o := .tup [.ty "KeyError", .ty "TypeError"]) htq)
        have s39 := (s4.trans s5).trans s9
        refine iteF ⟨_, rfl, _, rfl, v1, rfl, T2 _ fun x o n e => s39 _ _ (B3 x o (S1.neA n) (S1.neB n) e), fun H10 s10 => ⟨_, rfl, ?_⟩⟩
        refine iteF ⟨_, rfl, _, rfl, v2, rfl, T3 _ fun x o n e => s10 _ _ (s39 _ _ e), fun H11 s11 => ⟨_, rfl, ?_⟩⟩
        exact iteF ⟨_, _, _, _, _, _, _, _, rfl, (((S3.keep s39).keep s10).keep s11).mono (by omega)⟩
      · refine ite2 (fun z => absurd z (by simp; omega)) fun _ => ?_
        refine ⟨_, rfl, _, _, rfl, rfl, ?_⟩
        obtain ⟨m, hm, e⟩ : ∃ m : Nat, m < 23 ∧ (0 + (k : Int)) - 23 = m := ⟨k - 23, by omega, by omega⟩
        dsimp only
        rw [e]
        have S1 : StA H0 a b (21 * k + 1) := S0.mono (by omega)
        clear S0 e
        generalize H0 = H1 at S1 ⊢
        obtain ⟨y, hy⟩ : ∃ y, kN[m]? = some y := ⟨_, List.getElem?_eq_getElem hm⟩
        have hyk : y ∈ kN := List.mem_of_getElem? hy
        have hB := T.er.below (mem_kN hyk)
        refine ⟨_, rfl, a, b, _, rfl, S1, by omega, fun v1 H2 k2 hk2 S2 B2 T2 f2 => ?_⟩
        refine ⟨_, rfl, a, b, _, rfl, S2, by omega, fun v2 H3 k3 hk3 S3 B3 T3 f3 => ?_⟩
        refine ⟨_, _, rfl, _, rfl, _, rfl, m, v1, y, rfl, Nat.zero_le _, hm, hy, fun t a1 H4 s4 ht hE1 => ?_⟩
        refine ⟨t, _, rfl, SqT.of ht, rfl, _, _, rfl, _, _, rfl, rfl, ?_⟩
        refine ⟨_, rfl, _, rfl, m, v2, y, rfl, Nat.zero_le _, hm, hy, fun u a2 H5 s5 hu hE2 => ?_⟩
        refine ⟨u, _, rfl, SqT.of hu, rfl, _, _, rfl, _, _, rfl, rfl, ?_⟩
        have E1 := hE1.keep s5
        refine ⟨_, rfl, _, _, _, rfl, isz_erS E1 hB T.er.s.1, _, rfl, ?_⟩
        refine iteF ⟨_, rfl, _, _, _, rfl, isz_erV E1 hB, _, rfl, ?_⟩
        refine iteF ⟨_, rfl, a1, _, rfl, E1, hB, fun p H6 s6 hp => ⟨_, rfl, by show 1 ≤ sizeLine; decide, fun q hq => ?_⟩⟩
        rw [kinds_at T hy] at hp
        refine ⟨.list [.int m], .list [.int m], .lst (SqL.of (same_upd hq _ _ hp)) (.cons (.int _) .nil), .lst (SqL.of upd_same) (.cons (.int _) .nil), PySem.W.ke_shaped_ints [(m : Int)], PySem.W.ke_shaped_ints [(m : Int)], _, rfl, ?_⟩
        rw [eqv_one]
        have s7 := s6.trans (same_upd (o := .lst [.int m]) hq)
        refine iteF ⟨_, rfl, by show 5 ≤ sizeLine; decide, fun tp htp => ⟨_, _, _, rfl, isz_no5 T hyk ((E1.keep s7).keep (same_upd htp)) upd_same, _, rfl, ?_⟩⟩
        have s8 := s7.trans (same_upd (o := .tup [.ty "KeyError", .ty "IndexError", .ty "TypeError", .ref (ga K "BadOther"), .ref (ga K "BadParts")]) htp)
        refine iteF ⟨_, rfl, by show 2 ≤ sizeLine; decide, fun tq htq => ⟨_, _, _, rfl, isz_no2 ((hE2.keep s8).keep (same_upd htq)) hB upd_same, _, rfl, ?_⟩⟩
        have s9 := s8.trans (same_upd (o := .tup [.ty "KeyError", .ty "TypeError"]) htq)
        have s39 := (s4.trans s5).trans s9
        refine iteF ⟨_, rfl, _, rfl, v1, rfl, T2 _ fun x o n e => s39 _ _ (B3 x o (S1.neA n) (S1.neB n) e), fun H10 s10 => ⟨_, rfl, ?_⟩⟩
        refine iteF ⟨_, rfl, _, rfl, v2, rfl, T3 _ fun x o n e => s10 _ _ (s39 _ _ e), fun H11 s11 => ⟨_, rfl, ?_⟩⟩
        exact iteF ⟨_, _, _, _, _, _, _, _, rfl, (((S3.keep s39).keep s10).keep s11).mono (by omega)⟩
    · rintro σ H1 ⟨v2, v3, v4, v5, v6, v7, v8, v9, rfl, S1⟩
      refine ⟨_, rfl, a, b, _, rfl, S1, by decide, fun v1 H2 k2 hk2 S2 B2 T2 f2 => ?_⟩
      refine ⟨_, rfl, a, b, _, rfl, S2, by omega, fun v2 H3 k3 hk3 S3 B3 T3 f3 => ?_⟩
      refine ⟨_, _, rfl, ?_⟩
      refine ⟨_, rfl, _, rfl, rfl, by show 2 ≤ 1000; decide, fun a1 d1 ha1 hd1 n1 => ⟨_, rfl, _, rfl, rfl, fun a2 d2 ha2 hd2 n2 => ⟨by show 2 ≤ sizeLine; decide, fun p hp => ?_⟩⟩⟩
      have hT : Thing H3 v1 0 := T2 _ fun x o n e => B3 x o (S1.neA n) (S1.neB n) e
      have hU : Thing H3 v2 0 := T3 _ fun _ _ _ e => e
      obtain ⟨G, hG, sG, gp, gE, gF⟩ := two_errsT T.e_BadParts.er ha1 hd1 n1 ha2 hd2 n2 hp
      rw [hG]
      have Fp := gF "p" v1 (T.er.f ("BadParts", ["p", "n"]) (by decide +kernel) "p" (by decide)) rfl rfl
      have Fn := gF "n" v2 (T.er.f ("BadParts", ["p", "n"]) (by decide +kernel) "n" (by decide)) rfl rfl
      have hB := T.er.below (x := "BadParts") (by decide +kernel)
      refine ⟨p, rfl, ⟨_, SqT.of gp⟩, for_tup (xs := [a1, a2].map V.ref) (fun i σ H => ∃ (v2' v3' w6 v7' v8' v9' : Option V), σ = [some (.ref l), some (.ref a), v2', v3', some v1, some v2, w6, v7', v8', v9'] ∧ Same G H) ⟨_, _, _, _, _, _, rfl, Same.refl G⟩ (fun i σ H _ h => ?_) ?_ ?_⟩
      · obtain ⟨_, _, _, _, _, _, _, s⟩ := h
        exact SqT.of (s _ _ gp)
      · rintro i x σ H4 hx ⟨w2, w3, w6, w7, w8, w9, rfl, s4⟩
        obtain ⟨e, he, rfl⟩ := List.mem_map.mp (List.mem_of_getElem? hx)
        have hEe := (gE e he).keep s4
        have s34 := sG.trans s4
        refine ⟨_, rfl, _, _, _, rfl, isz_erS hEe hB T.er.s.1, _, rfl, ?_⟩
        refine iteF ⟨_, rfl, e, _, rfl, hEe, hB, fun q H5 s5 hq => ⟨by show 0 ≤ sizeLine; exact Nat.zero_le _, fun u hu => ?_⟩⟩
        rw [kinds_none T (by decide +kernel) (by decide +kernel) (by decide +kernel)] at hq
        have s6 := s5.trans (same_upd (o := .lst []) hu)
        refine ⟨.list [], .list [], .lst (SqL.of (same_upd hu _ _ hq)) .nil, .lst (SqL.of upd_same) .nil, by decide, by decide, _, rfl, ?_⟩
        rw [eqv_nil]
        obtain ⟨C1, D1, fs1, x1, x2, x3, x4, x5⟩ := ((Fp e he).keep s4).keep s6
        refine iteF ⟨_, rfl, e, C1, D1, fs1, _, rfl, x1, x2, x3, x4, x5, _, rfl, v1, rfl, hT.keep (s34.trans s6), fun H7 s7 => ⟨_, rfl, ?_⟩⟩
        obtain ⟨C2, D2, fs2, y1, y2, y3, y4, y5⟩ := (((Fn e he).keep s4).keep s6).keep s7
        refine iteF ⟨_, rfl, e, C2, D2, fs2, _, rfl, y1, y2, y3, y4, y5, _, rfl, v2, rfl, hU.keep ((s34.trans s6).trans s7), fun H8 s8 => ⟨_, rfl, ?_⟩⟩
        exact iteF ⟨_, _, _, _, _, _, rfl, ((s4.trans s6).trans s7).trans s8⟩
      · rintro σ H4 ⟨w2, w3, w6, w7, w8, w9, rfl, s4⟩
        refine ⟨_, rfl, a, b, _, rfl, S3.keep (sG.trans s4), by omega, fun v H5 _ _ _ _ _ _ => ⟨v, rfl, fun t l1 l2 H6 ht h1 h2 => ?_⟩⟩
        refine ⟨by show 1 ≤ sizeLine; decide, fun q1 hq1 => ⟨by show 0 ≤ sizeLine; exact Nat.zero_le _, fun q2 hq2 => ⟨by show 3 ≤ sizeLine; decide, fun u hu => ?_⟩⟩⟩
        have z1 := same_upd (o := .lst [.int 18]) hq1
        have z2 := same_upd (o := .lst []) hq2
        have z3 := same_upd (o := .tup [.ref q1, .ref q2, .bl true]) hu
        have z := (z1.trans z2).trans z3
        refine ⟨dueC, dueC, .tup (SqT.of (z _ _ ht)) (.cons (.lst (SqL.of (z _ _ h1)) (.cons (.int _) .nil)) (.cons (.lst (SqL.of (z _ _ h2)) .nil) (.cons (.bl _) .nil))),
          .tup (SqT.of upd_same) (.cons (.lst (SqL.of (z3 _ _ (z2 _ _ upd_same))) (.cons (.int _) .nil)) (.cons (.lst (SqL.of (z3 _ _ upd_same)) .nil) (.cons (.bl _) .nil))), by decide +kernel, by decide +kernel, ?_⟩
        rw [eqv_due]
        exact kk _
end
end K00

set_option maxHeartbeats 0
namespace K00
open PySem PySem.Spec PyProof.Rows L2 SpE
def d_law_start : He.DefD := ⟨("_law_start", none), "_law_start", "_law_start", defArgs s_law_start, defBody s_law_start, defScope s_law_start, [], []⟩
def d_law_pick : He.DefD := ⟨("_law_pick", none), "_law_pick", "_law_pick", defArgs s_law_pick, defBody s_law_pick, defScope s_law_pick, [], []⟩
def d_law_between : He.DefD := ⟨("_law_between", none), "_law_between", "_law_between", defArgs s_law_between, defBody s_law_between, defScope s_law_between, [], []⟩
def d_law_kinds_first : He.DefD := ⟨("_law_kinds_first", none), "_law_kinds_first", "_law_kinds_first", defArgs s_law_kinds_first, defBody s_law_kinds_first, defScope s_law_kinds_first, [], []⟩
def d_law_kinds_last : He.DefD := ⟨("_law_kinds_last", none), "_law_kinds_last", "_law_kinds_last", defArgs s_law_kinds_last, defBody s_law_kinds_last, defScope s_law_kinds_last, [], []⟩
def d_law_kinds : He.DefD := ⟨("_law_kinds", none), "_law_kinds", "_law_kinds", defArgs s_law_kinds, defBody s_law_kinds, defScope s_law_kinds, [], []⟩
def d_law_form_made : He.DefD := ⟨("_law_form_made", none), "_law_form_made", "_law_form_made", defArgs s_law_form_made, defBody s_law_form_made, defScope s_law_form_made, [], []⟩
def d_law_text_made : He.DefD := ⟨("_law_text_made", none), "_law_text_made", "_law_text_made", defArgs s_law_text_made, defBody s_law_text_made, defScope s_law_text_made, [], []⟩
def d_law_other_made : He.DefD := ⟨("_law_other_made", none), "_law_other_made", "_law_other_made", defArgs s_law_other_made, defBody s_law_other_made, defScope s_law_other_made, [], []⟩
def d_law_made_at : He.DefD := ⟨("_law_made_at", none), "_law_made_at", "_law_made_at", defArgs s_law_made_at, defBody s_law_made_at, defScope s_law_made_at, [], []⟩
def d_law_object : He.DefD := ⟨("_law_object", none), "_law_object", "_law_object", defArgs s_law_object, defBody s_law_object, defScope s_law_object, [], []⟩
def d_law_very : He.DefD := ⟨("_law_very", none), "_law_very", "_law_very", defArgs s_law_very, defBody s_law_very, defScope s_law_very, [], []⟩
def d_law_caught : He.DefD := ⟨("_law_caught", none), "_law_caught", "_law_caught", defArgs s_law_caught, defBody s_law_caught, defScope s_law_caught, [], []⟩
def d_law : He.DefD := ⟨("law", none), "law", "law", defArgs s_law, defBody s_law, defScope s_law, [], []⟩
abbrev i_BadOther : Stmt := inClass (top 2) 0
def d_BadOther : He.DefD := ⟨("BadOther", some "__init__"), "__init__", "BadOther.__init__", defArgs i_BadOther, defBody i_BadOther, defScope i_BadOther, [], []⟩
abbrev i_BadParts : Stmt := inClass (top 4) 0
def d_BadParts : He.DefD := ⟨("BadParts", some "__init__"), "__init__", "BadParts.__init__", defArgs i_BadParts, defBody i_BadParts, defScope i_BadParts, [], []⟩
abbrev i_BadQuotient : Stmt := inClass (top 5) 0
def d_BadQuotient : He.DefD := ⟨("BadQuotient", some "__init__"), "__init__", "BadQuotient.__init__", defArgs i_BadQuotient, defBody i_BadQuotient, defScope i_BadQuotient, [], []⟩
abbrev i_BadQuotientText : Stmt := inClass (top 6) 0
def d_BadQuotientText : He.DefD := ⟨("BadQuotientText", some "__init__"), "__init__", "BadQuotientText.__init__", defArgs i_BadQuotientText, defBody i_BadQuotientText, defScope i_BadQuotientText, [], []⟩
abbrev i_BadSigns : Stmt := inClass (top 7) 0
def d_BadSigns : He.DefD := ⟨("BadSigns", some "__init__"), "__init__", "BadSigns.__init__", defArgs i_BadSigns, defBody i_BadSigns, defScope i_BadSigns, [], []⟩
abbrev i_BadTerm : Stmt := inClass (top 8) 0
def d_BadTerm : He.DefD := ⟨("BadTerm", some "__init__"), "__init__", "BadTerm.__init__", defArgs i_BadTerm, defBody i_BadTerm, defScope i_BadTerm, [], []⟩
abbrev i_BadClauses : Stmt := inClass (top 9) 0
def d_BadClauses : He.DefD := ⟨("BadClauses", some "__init__"), "__init__", "BadClauses.__init__", defArgs i_BadClauses, defBody i_BadClauses, defScope i_BadClauses, [], []⟩
abbrev i_BadClause : Stmt := inClass (top 10) 0
def d_BadClause : He.DefD := ⟨("BadClause", some "__init__"), "__init__", "BadClause.__init__", defArgs i_BadClause, defBody i_BadClause, defScope i_BadClause, [], []⟩
abbrev i_BadNumber : Stmt := inClass (top 11) 0
def d_BadNumber : He.DefD := ⟨("BadNumber", some "__init__"), "__init__", "BadNumber.__init__", defArgs i_BadNumber, defBody i_BadNumber, defScope i_BadNumber, [], []⟩
abbrev i_BadBook : Stmt := inClass (top 12) 0
def d_BadBook : He.DefD := ⟨("BadBook", some "__init__"), "__init__", "BadBook.__init__", defArgs i_BadBook, defBody i_BadBook, defScope i_BadBook, [], []⟩
abbrev i_BadTermText : Stmt := inClass (top 13) 0
def d_BadTermText : He.DefD := ⟨("BadTermText", some "__init__"), "__init__", "BadTermText.__init__", defArgs i_BadTermText, defBody i_BadTermText, defScope i_BadTermText, [], []⟩
abbrev i_BadBookText : Stmt := inClass (top 14) 0
def d_BadBookText : He.DefD := ⟨("BadBookText", some "__init__"), "__init__", "BadBookText.__init__", defArgs i_BadBookText, defBody i_BadBookText, defScope i_BadBookText, [], []⟩
abbrev i_BadLine : Stmt := inClass (top 15) 0
def d_BadLine : He.DefD := ⟨("BadLine", some "__init__"), "__init__", "BadLine.__init__", defArgs i_BadLine, defBody i_BadLine, defScope i_BadLine, [], []⟩
abbrev i_BadNormal : Stmt := inClass (top 16) 0
def d_BadNormal : He.DefD := ⟨("BadNormal", some "__init__"), "__init__", "BadNormal.__init__", defArgs i_BadNormal, defBody i_BadNormal, defScope i_BadNormal, [], []⟩
abbrev i_BadLiteral : Stmt := inClass (top 17) 0
def d_BadLiteral : He.DefD := ⟨("BadLiteral", some "__init__"), "__init__", "BadLiteral.__init__", defArgs i_BadLiteral, defBody i_BadLiteral, defScope i_BadLiteral, [], []⟩
abbrev i_BadModel : Stmt := inClass (top 18) 0
def d_BadModel : He.DefD := ⟨("BadModel", some "__init__"), "__init__", "BadModel.__init__", defArgs i_BadModel, defBody i_BadModel, defScope i_BadModel, [], []⟩
abbrev i_BadAtom : Stmt := inClass (top 19) 0
def d_BadAtom : He.DefD := ⟨("BadAtom", some "__init__"), "__init__", "BadAtom.__init__", defArgs i_BadAtom, defBody i_BadAtom, defScope i_BadAtom, [], []⟩
abbrev i_BadProof : Stmt := inClass (top 20) 0
def d_BadProof : He.DefD := ⟨("BadProof", some "__init__"), "__init__", "BadProof.__init__", defArgs i_BadProof, defBody i_BadProof, defScope i_BadProof, [], []⟩
abbrev i_BadRows : Stmt := inClass (top 21) 0
def d_BadRows : He.DefD := ⟨("BadRows", some "__init__"), "__init__", "BadRows.__init__", defArgs i_BadRows, defBody i_BadRows, defScope i_BadRows, [], []⟩
abbrev i_BadAssumptions : Stmt := inClass (top 22) 0
def d_BadAssumptions : He.DefD := ⟨("BadAssumptions", some "__init__"), "__init__", "BadAssumptions.__init__", defArgs i_BadAssumptions, defBody i_BadAssumptions, defScope i_BadAssumptions, [], []⟩
abbrev i_BadAnswer : Stmt := inClass (top 23) 0
def d_BadAnswer : He.DefD := ⟨("BadAnswer", some "__init__"), "__init__", "BadAnswer.__init__", defArgs i_BadAnswer, defBody i_BadAnswer, defScope i_BadAnswer, [], []⟩
abbrev i_BadPaperText : Stmt := inClass (top 24) 0
def d_BadPaperText : He.DefD := ⟨("BadPaperText", some "__init__"), "__init__", "BadPaperText.__init__", defArgs i_BadPaperText, defBody i_BadPaperText, defScope i_BadPaperText, [], []⟩
abbrev i_BadTable : Stmt := inClass (top 25) 0
def d_BadTable : He.DefD := ⟨("BadTable", some "__init__"), "__init__", "BadTable.__init__", defArgs i_BadTable, defBody i_BadTable, defScope i_BadTable, [], []⟩
abbrev i_BadTold : Stmt := inClass (top 26) 0
def d_BadTold : He.DefD := ⟨("BadTold", some "__init__"), "__init__", "BadTold.__init__", defArgs i_BadTold, defBody i_BadTold, defScope i_BadTold, [], []⟩
abbrev i_BadOrder : Stmt := inClass (top 27) 0
def d_BadOrder : He.DefD := ⟨("BadOrder", some "__init__"), "__init__", "BadOrder.__init__", defArgs i_BadOrder, defBody i_BadOrder, defScope i_BadOrder, [], []⟩
def fn : List He.DefD := ([d_law_start, d_law_pick, d_law_between, d_law_kinds_first, d_law_kinds_last, d_law_kinds, d_law_form_made, d_law_text_made, d_law_other_made, d_law_made_at, d_law_object, d_law_very, d_law_caught, d_law, d_BadOther, d_BadParts, d_BadQuotient, d_BadQuotientText, d_BadSigns, d_BadTerm, d_BadClauses, d_BadClause, d_BadNumber, d_BadBook, d_BadTermText, d_BadBookText, d_BadLine, d_BadNormal, d_BadLiteral, d_BadModel] : List He.DefD) ++
  ([d_BadAtom, d_BadProof, d_BadRows, d_BadAssumptions, d_BadAnswer, d_BadPaperText, d_BadTable, d_BadTold, d_BadOrder] : List He.DefD)
def fa : List He.Fa := ([.glo "_law_start", .glo "_law_pick", .glo "_law_between", .glo "_law_kinds_first", .glo "_law_kinds_last", .glo "_law_kinds", .glo "_law_form_made", .glo "_law_text_made", .glo "_law_other_made", .glo "_law_made_at", .glo "_law_object", .glo "_law_very", .glo "_law_caught", .glo "law", .glo "SameError", .glo "BadOther", .glo "BadParts", .glo "BadQuotient", .glo "BadQuotientText", .glo "BadSigns", .glo "BadTerm", .glo "BadClauses", .glo "BadClause", .glo "BadNumber", .glo "BadBook", .glo "BadTermText", .glo "BadBookText", .glo "BadLine", .glo "BadNormal", .glo "BadLiteral"] : List He.Fa) ++
  ([.glo "BadModel", .glo "BadAtom", .glo "BadProof", .glo "BadRows", .glo "BadAssumptions", .glo "BadAnswer", .glo "BadPaperText", .glo "BadTable", .glo "BadTold", .glo "BadOrder", .free "isinstance", .free "len", .free "abs", .free "all", .free "any", .free "max", .free "min", .free "int", .free "str", .free "bool", .free "list", .free "tuple", .free "dict", .free "range", .free "zip", .free "ValueError", .free "KeyError", .free "IndexError", .free "TypeError"] : List He.Fa)
abbrev R : PySem.W.OpenRow := PySem.W.OpenLaw.row PySem.Challenge.rw_sameproof_k00_errors_made
def ex : PySem.W.Frag → Bool := exTab "SameError" none0 tab
abbrev hk : PySem.W.Hook := hookY 4 fa fn ex
def ob (s : PySem.W.SharedT) : He.AlD × Bool := obsYG 4 fa fn ex (HandSHeadRun.getT s)
theorem ob_eq (s : PySem.W.SharedT) : ob s = hk.obs s.abs := obsY_eq (HandSHeadRun.getT_eq s)
def loose : List Str := (["_law_start", "_law_pick", "_law_between", "_law_kinds_first", "_law_kinds_last", "_law_kinds", "_law_form_made", "_law_text_made", "_law_other_made", "_law_made_at", "_law_object", "_law_very", "_law_caught", "SameError", "BadOther", "BadParts", "BadQuotient", "BadQuotientText", "BadSigns", "BadTerm", "BadClauses", "BadClause", "BadNumber", "BadBook", "BadTermText", "BadBookText", "BadLine", "BadNormal", "BadLiteral", "BadModel"] : List Str) ++
  (["BadAtom", "BadProof", "BadRows", "BadAssumptions", "BadAnswer", "BadPaperText", "BadTable", "BadTold", "BadOrder"] : List Str)
abbrev qv : Program := PySem.W.view R.prog [42]
theorem run (w : World) : HandSHeadRun.RunEq R qv hk ob 14000 loose w := by
  intro os
  kernel_rfl
end K00

set_option maxHeartbeats 0
namespace K00
open PySem PySem.Spec PyProof.Rows L2 SpE He
section
variable {P : Program} {w : World} {K : PySem.W.Frag} {mg : Str → Option Value} {base : Heap} {h : Heap}
theorem tb_BadOther : (("BadOther", ["other"]) : Str × List Str) ∈ tab := List.mem_of_getElem? (i := 0) rfl
theorem mk_BadOther (er : ErFacts "SameError" none0 tab K) (X : K.In h) (G : h.Ns mainGlobals mg) (c : He.SaysD fa fn K) : ErMk P w K mg base "BadOther" (ga K "BadOther") ["other"] := by
  obtain ⟨fd, F⟩ := c.def_ 14 (d := d_BadOther) rfl
  exact ermk1 F (⟨rfl, rfl, rfl, by decide +kernel, rfl, by decide +kernel, by decide +kernel⟩ : FnScope ["self", "other"] ["self", "other"] (defScope i_BadOther)) (He.glo_ok X G (c.fact 15 (f := .glo "BadOther") rfl)) (er.c ("BadOther", ["other"]) tb_BadOther).1 (er.f ("BadOther", ["other"]) tb_BadOther "other" (by decide)) (er.i ("BadOther", ["other"]) tb_BadOther).1 (er.i ("BadOther", ["other"]) tb_BadOther).2 (by decide) (by decide)
    (fun _ _ _ _ _ _ us hl => match us, hl with | [_, _], _ => rfl) (fun _ _ _ _ _ _ _ _ => rfl)
theorem tb_BadParts : (("BadParts", ["p", "n"]) : Str × List Str) ∈ tab := List.mem_of_getElem? (i := 1) rfl
theorem mk_BadParts (er : ErFacts "SameError" none0 tab K) (X : K.In h) (G : h.Ns mainGlobals mg) (c : He.SaysD fa fn K) : ErMk P w K mg base "BadParts" (ga K "BadParts") ["p", "n"] := by
  obtain ⟨fd, F⟩ := c.def_ 15 (d := d_BadParts) rfl
  exact ermk2 F (⟨rfl, rfl, rfl, by decide +kernel, rfl, by decide +kernel, by decide +kernel⟩ : FnScope ["self", "p", "n"] ["self", "p", "n"] (defScope i_BadParts)) (He.glo_ok X G (c.fact 16 (f := .glo "BadParts") rfl)) (er.c ("BadParts", ["p", "n"]) tb_BadParts).1 (er.f ("BadParts", ["p", "n"]) tb_BadParts "p" (by decide)) (er.f ("BadParts", ["p", "n"]) tb_BadParts "n" (by decide)) (er.i ("BadParts", ["p", "n"]) tb_BadParts).1 (er.i ("BadParts", ["p", "n"]) tb_BadParts).2 (by decide) (by decide) (by decide) (by decide)
    (fun _ _ _ _ _ _ us hl => match us, hl with | [_, _, _], _ => rfl) (fun _ _ _ _ _ _ _ _ _ => rfl)
theorem tb_BadQuotient : (("BadQuotient", ["q"]) : Str × List Str) ∈ tab := List.mem_of_getElem? (i := 2) rfl
theorem mk_BadQuotient (er : ErFacts "SameError" none0 tab K) (X : K.In h) (G : h.Ns mainGlobals mg) (c : He.SaysD fa fn K) : ErMk P w K mg base "BadQuotient" (ga K "BadQuotient") ["q"] := by
  obtain ⟨fd, F⟩ := c.def_ 16 (d := d_BadQuotient) rfl
  exact ermk1 F (⟨rfl, rfl, rfl, by decide +kernel, rfl, by decide +kernel, by decide +kernel⟩ : FnScope ["self", "q"] ["self", "q"] (defScope i_BadQuotient)) (He.glo_ok X G (c.fact 17 (f := .glo "BadQuotient") rfl)) (er.c ("BadQuotient", ["q"]) tb_BadQuotient).1 (er.f ("BadQuotient", ["q"]) tb_BadQuotient "q" (by decide)) (er.i ("BadQuotient", ["q"]) tb_BadQuotient).1 (er.i ("BadQuotient", ["q"]) tb_BadQuotient).2 (by decide) (by decide)
    (fun _ _ _ _ _ _ us hl => match us, hl with | [_, _], _ => rfl) (fun _ _ _ _ _ _ _ _ => rfl)
theorem tb_BadQuotientText : (("BadQuotientText", ["text"]) : Str × List Str) ∈ tab := List.mem_of_getElem? (i := 3) rfl
theorem mk_BadQuotientText (er : ErFacts "SameError" none0 tab K) (X : K.In h) (G : h.Ns mainGlobals mg) (c : He.SaysD fa fn K) : ErMk P w K mg base "BadQuotientText" (ga K "BadQuotientText") ["text"] := by
  obtain ⟨fd, F⟩ := c.def_ 17 (d := d_BadQuotientText) rfl
  exact ermk1 F (⟨rfl, rfl, rfl, by decide +kernel, rfl, by decide +kernel, by decide +kernel⟩ : FnScope ["self", "text"] ["self", "text"] (defScope i_BadQuotientText)) (He.glo_ok X G (c.fact 18 (f := .glo "BadQuotientText") rfl)) (er.c ("BadQuotientText", ["text"]) tb_BadQuotientText).1 (er.f ("BadQuotientText", ["text"]) tb_BadQuotientText "text" (by decide)) (er.i ("BadQuotientText", ["text"]) tb_BadQuotientText).1 (er.i ("BadQuotientText", ["text"]) tb_BadQuotientText).2 (by decide) (by decide)
    (fun _ _ _ _ _ _ us hl => match us, hl with | [_, _], _ => rfl) (fun _ _ _ _ _ _ _ _ => rfl)
theorem tb_BadSigns : (("BadSigns", ["given"]) : Str × List Str) ∈ tab := List.mem_of_getElem? (i := 4) rfl
theorem mk_BadSigns (er : ErFacts "SameError" none0 tab K) (X : K.In h) (G : h.Ns mainGlobals mg) (c : He.SaysD fa fn K) : ErMk P w K mg base "BadSigns" (ga K "BadSigns") ["given"] := by
  obtain ⟨fd, F⟩ := c.def_ 18 (d := d_BadSigns) rfl
  exact ermk1 F (⟨rfl, rfl, rfl, by decide +kernel, rfl, by decide +kernel, by decide +kernel⟩ : FnScope ["self", "given"] ["self", "given"] (defScope i_BadSigns)) (He.glo_ok X G (c.fact 19 (f := .glo "BadSigns") rfl)) (er.c ("BadSigns", ["given"]) tb_BadSigns).1 (er.f ("BadSigns", ["given"]) tb_BadSigns "given" (by decide)) (er.i ("BadSigns", ["given"]) tb_BadSigns).1 (er.i ("BadSigns", ["given"]) tb_BadSigns).2 (by decide) (by decide)
    (fun _ _ _ _ _ _ us hl => match us, hl with | [_, _], _ => rfl) (fun _ _ _ _ _ _ _ _ => rfl)
theorem tb_BadTerm : (("BadTerm", ["term"]) : Str × List Str) ∈ tab := List.mem_of_getElem? (i := 5) rfl
theorem mk_BadTerm (er : ErFacts "SameError" none0 tab K) (X : K.In h) (G : h.Ns mainGlobals mg) (c : He.SaysD fa fn K) : ErMk P w K mg base "BadTerm" (ga K "BadTerm") ["term"] := by
  obtain ⟨fd, F⟩ := c.def_ 19 (d := d_BadTerm) rfl
  exact ermk1 F (⟨rfl, rfl, rfl, by decide +kernel, rfl, by decide +kernel, by decide +kernel⟩ : FnScope ["self", "term"] ["self", "term"] (defScope i_BadTerm)) (He.glo_ok X G (c.fact 20 (f := .glo "BadTerm") rfl)) (er.c ("BadTerm", ["term"]) tb_BadTerm).1 (er.f ("BadTerm", ["term"]) tb_BadTerm "term" (by decide)) (er.i ("BadTerm", ["term"]) tb_BadTerm).1 (er.i ("BadTerm", ["term"]) tb_BadTerm).2 (by decide) (by decide)
    (fun _ _ _ _ _ _ us hl => match us, hl with | [_, _], _ => rfl) (fun _ _ _ _ _ _ _ _ => rfl)
theorem tb_BadClauses : (("BadClauses", ["index"]) : Str × List Str) ∈ tab := List.mem_of_getElem? (i := 6) rfl
theorem mk_BadClauses (er : ErFacts "SameError" none0 tab K) (X : K.In h) (G : h.Ns mainGlobals mg) (c : He.SaysD fa fn K) : ErMk P w K mg base "BadClauses" (ga K "BadClauses") ["index"] := by
  obtain ⟨fd, F⟩ := c.def_ 20 (d := d_BadClauses) rfl
  exact ermk1 F (⟨rfl, rfl, rfl, by decide +kernel, rfl, by decide +kernel, by decide +kernel⟩ : FnScope ["self", "index"] ["self", "index"] (defScope i_BadClauses)) (He.glo_ok X G (c.fact 21 (f := .glo "BadClauses") rfl)) (er.c ("BadClauses", ["index"]) tb_BadClauses).1 (er.f ("BadClauses", ["index"]) tb_BadClauses "index" (by decide)) (er.i ("BadClauses", ["index"]) tb_BadClauses).1 (er.i ("BadClauses", ["index"]) tb_BadClauses).2 (by decide) (by decide)
    (fun _ _ _ _ _ _ us hl => match us, hl with | [_, _], _ => rfl) (fun _ _ _ _ _ _ _ _ => rfl)
theorem tb_BadClause : (("BadClause", ["clause"]) : Str × List Str) ∈ tab := List.mem_of_getElem? (i := 7) rfl
theorem mk_BadClause (er : ErFacts "SameError" none0 tab K) (X : K.In h) (G : h.Ns mainGlobals mg) (c : He.SaysD fa fn K) : ErMk P w K mg base "BadClause" (ga K "BadClause") ["clause"] := by
  obtain ⟨fd, F⟩ := c.def_ 21 (d := d_BadClause) rfl
  exact ermk1 F (⟨rfl, rfl, rfl, by decide +kernel, rfl, by decide +kernel, by decide +kernel⟩ : FnScope ["self", "clause"] ["self", "clause"] (defScope i_BadClause)) (He.glo_ok X G (c.fact 22 (f := .glo "BadClause") rfl)) (er.c ("BadClause", ["clause"]) tb_BadClause).1 (er.f ("BadClause", ["clause"]) tb_BadClause "clause" (by decide)) (er.i ("BadClause", ["clause"]) tb_BadClause).1 (er.i ("BadClause", ["clause"]) tb_BadClause).2 (by decide) (by decide)
    (fun _ _ _ _ _ _ us hl => match us, hl with | [_, _], _ => rfl) (fun _ _ _ _ _ _ _ _ => rfl)
theorem tb_BadNumber : (("BadNumber", ["number"]) : Str × List Str) ∈ tab := List.mem_of_getElem? (i := 8) rfl
theorem mk_BadNumber (er : ErFacts "SameError" none0 tab K) (X : K.In h) (G : h.Ns mainGlobals mg) (c : He.SaysD fa fn K) : ErMk P w K mg base "BadNumber" (ga K "BadNumber") ["number"] := by
  obtain ⟨fd, F⟩ := c.def_ 22 (d := d_BadNumber) rfl
  exact ermk1 F (⟨rfl, rfl, rfl, by decide +kernel, rfl, by decide +kernel, by decide +kernel⟩ : FnScope ["self", "number"] ["self", "number"] (defScope i_BadNumber)) (He.glo_ok X G (c.fact 23 (f := .glo "BadNumber") rfl)) (er.c ("BadNumber", ["number"]) tb_BadNumber).1 (er.f ("BadNumber", ["number"]) tb_BadNumber "number" (by decide)) (er.i ("BadNumber", ["number"]) tb_BadNumber).1 (er.i ("BadNumber", ["number"]) tb_BadNumber).2 (by decide) (by decide)
    (fun _ _ _ _ _ _ us hl => match us, hl with | [_, _], _ => rfl) (fun _ _ _ _ _ _ _ _ => rfl)
theorem tb_BadBook : (("BadBook", ["book"]) : Str × List Str) ∈ tab := List.mem_of_getElem? (i := 9) rfl
theorem mk_BadBook (er : ErFacts "SameError" none0 tab K) (X : K.In h) (G : h.Ns mainGlobals mg) (c : He.SaysD fa fn K) : ErMk P w K mg base "BadBook" (ga K "BadBook") ["book"] := by
  obtain ⟨fd, F⟩ := c.def_ 23 (d := d_BadBook) rfl
  exact ermk1 F (⟨rfl, rfl, rfl, by decide +kernel, rfl, by decide +kernel, by decide +kernel⟩ : FnScope ["self", "book"] ["self", "book"] (defScope i_BadBook)) (He.glo_ok X G (c.fact 24 (f := .glo "BadBook") rfl)) (er.c ("BadBook", ["book"]) tb_BadBook).1 (er.f ("BadBook", ["book"]) tb_BadBook "book" (by decide)) (er.i ("BadBook", ["book"]) tb_BadBook).1 (er.i ("BadBook", ["book"]) tb_BadBook).2 (by decide) (by decide)
    (fun _ _ _ _ _ _ us hl => match us, hl with | [_, _], _ => rfl) (fun _ _ _ _ _ _ _ _ => rfl)
theorem tb_BadTermText : (("BadTermText", ["text"]) : Str × List Str) ∈ tab := List.mem_of_getElem? (i := 10) rfl
theorem mk_BadTermText (er : ErFacts "SameError" none0 tab K) (X : K.In h) (G : h.Ns mainGlobals mg) (c : He.SaysD fa fn K) : ErMk P w K mg base "BadTermText" (ga K "BadTermText") ["text"] := by
  obtain ⟨fd, F⟩ := c.def_ 24 (d := d_BadTermText) rfl
  exact ermk1 F (⟨rfl, rfl, rfl, by decide +kernel, rfl, by decide +kernel, by decide +kernel⟩ : FnScope ["self", "text"] ["self", "text"] (defScope i_BadTermText)) (He.glo_ok X G (c.fact 25 (f := .glo "BadTermText") rfl)) (er.c ("BadTermText", ["text"]) tb_BadTermText).1 (er.f ("BadTermText", ["text"]) tb_BadTermText "text" (by decide)) (er.i ("BadTermText", ["text"]) tb_BadTermText).1 (er.i ("BadTermText", ["text"]) tb_BadTermText).2 (by decide) (by decide)
    (fun _ _ _ _ _ _ us hl => match us, hl with | [_, _], _ => rfl) (fun _ _ _ _ _ _ _ _ => rfl)
theorem tb_BadBookText : (("BadBookText", ["line"]) : Str × List Str) ∈ tab := List.mem_of_getElem? (i := 11) rfl
theorem mk_BadBookText (er : ErFacts "SameError" none0 tab K) (X : K.In h) (G : h.Ns mainGlobals mg) (c : He.SaysD fa fn K) : ErMk P w K mg base "BadBookText" (ga K "BadBookText") ["line"] := by
  obtain ⟨fd, F⟩ := c.def_ 25 (d := d_BadBookText) rfl
  exact ermk1 F (⟨rfl, rfl, rfl, by decide +kernel, rfl, by decide +kernel, by decide +kernel⟩ : FnScope ["self", "line"] ["self", "line"] (defScope i_BadBookText)) (He.glo_ok X G (c.fact 26 (f := .glo "BadBookText") rfl)) (er.c ("BadBookText", ["line"]) tb_BadBookText).1 (er.f ("BadBookText", ["line"]) tb_BadBookText "line" (by decide)) (er.i ("BadBookText", ["line"]) tb_BadBookText).1 (er.i ("BadBookText", ["line"]) tb_BadBookText).2 (by decide) (by decide)
    (fun _ _ _ _ _ _ us hl => match us, hl with | [_, _], _ => rfl) (fun _ _ _ _ _ _ _ _ => rfl)
theorem tb_BadLine : (("BadLine", ["line"]) : Str × List Str) ∈ tab := List.mem_of_getElem? (i := 12) rfl
theorem mk_BadLine (er : ErFacts "SameError" none0 tab K) (X : K.In h) (G : h.Ns mainGlobals mg) (c : He.SaysD fa fn K) : ErMk P w K mg base "BadLine" (ga K "BadLine") ["line"] := by
  obtain ⟨fd, F⟩ := c.def_ 26 (d := d_BadLine) rfl
  exact ermk1 F (⟨rfl, rfl, rfl, by decide +kernel, rfl, by decide +kernel, by decide +kernel⟩ : FnScope ["self", "line"] ["self", "line"] (defScope i_BadLine)) (He.glo_ok X G (c.fact 27 (f := .glo "BadLine") rfl)) (er.c ("BadLine", ["line"]) tb_BadLine).1 (er.f ("BadLine", ["line"]) tb_BadLine "line" (by decide)) (er.i ("BadLine", ["line"]) tb_BadLine).1 (er.i ("BadLine", ["line"]) tb_BadLine).2 (by decide) (by decide)
    (fun _ _ _ _ _ _ us hl => match us, hl with | [_, _], _ => rfl) (fun _ _ _ _ _ _ _ _ => rfl)
theorem tb_BadNormal : (("BadNormal", ["normal"]) : Str × List Str) ∈ tab := List.mem_of_getElem? (i := 13) rfl
theorem mk_BadNormal (er : ErFacts "SameError" none0 tab K) (X : K.In h) (G : h.Ns mainGlobals mg) (c : He.SaysD fa fn K) : ErMk P w K mg base "BadNormal" (ga K "BadNormal") ["normal"] := by
  obtain ⟨fd, F⟩ := c.def_ 27 (d := d_BadNormal) rfl
  exact ermk1 F (⟨rfl, rfl, rfl, by decide +kernel, rfl, by decide +kernel, by decide +kernel⟩ : FnScope ["self", "normal"] ["self", "normal"] (defScope i_BadNormal)) (He.glo_ok X G (c.fact 28 (f := .glo "BadNormal") rfl)) (er.c ("BadNormal", ["normal"]) tb_BadNormal).1 (er.f ("BadNormal", ["normal"]) tb_BadNormal "normal" (by decide)) (er.i ("BadNormal", ["normal"]) tb_BadNormal).1 (er.i ("BadNormal", ["normal"]) tb_BadNormal).2 (by decide) (by decide)
    (fun _ _ _ _ _ _ us hl => match us, hl with | [_, _], _ => rfl) (fun _ _ _ _ _ _ _ _ => rfl)
theorem tb_BadLiteral : (("BadLiteral", ["literal"]) : Str × List Str) ∈ tab := List.mem_of_getElem? (i := 14) rfl
theorem mk_BadLiteral (er : ErFacts "SameError" none0 tab K) (X : K.In h) (G : h.Ns mainGlobals mg) (c : He.SaysD fa fn K) : ErMk P w K mg base "BadLiteral" (ga K "BadLiteral") ["literal"] := by
  obtain ⟨fd, F⟩ := c.def_ 28 (d := d_BadLiteral) rfl
  exact ermk1 F (⟨rfl, rfl, rfl, by decide +kernel, rfl, by decide +kernel, by decide +kernel⟩ : FnScope ["self", "literal"] ["self", "literal"] (defScope i_BadLiteral)) (He.glo_ok X G (c.fact 29 (f := .glo "BadLiteral") rfl)) (er.c ("BadLiteral", ["literal"]) tb_BadLiteral).1 (er.f ("BadLiteral", ["literal"]) tb_BadLiteral "literal" (by decide)) (er.i ("BadLiteral", ["literal"]) tb_BadLiteral).1 (er.i ("BadLiteral", ["literal"]) tb_BadLiteral).2 (by decide) (by decide)
    (fun _ _ _ _ _ _ us hl => match us, hl with | [_, _], _ => rfl) (fun _ _ _ _ _ _ _ _ => rfl)
theorem tb_BadModel : (("BadModel", ["model"]) : Str × List Str) ∈ tab := List.mem_of_getElem? (i := 15) rfl
theorem mk_BadModel (er : ErFacts "SameError" none0 tab K) (X : K.In h) (G : h.Ns mainGlobals mg) (c : He.SaysD fa fn K) : ErMk P w K mg base "BadModel" (ga K "BadModel") ["model"] := by
  obtain ⟨fd, F⟩ := c.def_ 29 (d := d_BadModel) rfl
  exact ermk1 F (⟨rfl, rfl, rfl, by decide +kernel, rfl, by decide +kernel, by decide +kernel⟩ : FnScope ["self", "model"] ["self", "model"] (defScope i_BadModel)) (He.glo_ok X G (c.fact 30 (f := .glo "BadModel") rfl)) (er.c ("BadModel", ["model"]) tb_BadModel).1 (er.f ("BadModel", ["model"]) tb_BadModel "model" (by decide)) (er.i ("BadModel", ["model"]) tb_BadModel).1 (er.i ("BadModel", ["model"]) tb_BadModel).2 (by decide) (by decide)
    (fun _ _ _ _ _ _ us hl => match us, hl with | [_, _], _ => rfl) (fun _ _ _ _ _ _ _ _ => rfl)
theorem tb_BadAtom : (("BadAtom", ["atom"]) : Str × List Str) ∈ tab := List.mem_of_getElem? (i := 16) rfl
theorem mk_BadAtom (er : ErFacts "SameError" none0 tab K) (X : K.In h) (G : h.Ns mainGlobals mg) (c : He.SaysD fa fn K) : ErMk P w K mg base "BadAtom" (ga K "BadAtom") ["atom"] := by
  obtain ⟨fd, F⟩ := c.def_ 30 (d := d_BadAtom) rfl
  exact ermk1 F (⟨rfl, rfl, rfl, by decide +kernel, rfl, by decide +kernel, by decide +kernel⟩ : FnScope ["self", "atom"] ["self", "atom"] (defScope i_BadAtom)) (He.glo_ok X G (c.fact 31 (f := .glo "BadAtom") rfl)) (er.c ("BadAtom", ["atom"]) tb_BadAtom).1 (er.f ("BadAtom", ["atom"]) tb_BadAtom "atom" (by decide)) (er.i ("BadAtom", ["atom"]) tb_BadAtom).1 (er.i ("BadAtom", ["atom"]) tb_BadAtom).2 (by decide) (by decide)
    (fun _ _ _ _ _ _ us hl => match us, hl with | [_, _], _ => rfl) (fun _ _ _ _ _ _ _ _ => rfl)
theorem tb_BadProof : (("BadProof", ["proof"]) : Str × List Str) ∈ tab := List.mem_of_getElem? (i := 17) rfl
theorem mk_BadProof (er : ErFacts "SameError" none0 tab K) (X : K.In h) (G : h.Ns mainGlobals mg) (c : He.SaysD fa fn K) : ErMk P w K mg base "BadProof" (ga K "BadProof") ["proof"] := by
  obtain ⟨fd, F⟩ := c.def_ 31 (d := d_BadProof) rfl
  exact ermk1 F (⟨rfl, rfl, rfl, by decide +kernel, rfl, by decide +kernel, by decide +kernel⟩ : FnScope ["self", "proof"] ["self", "proof"] (defScope i_BadProof)) (He.glo_ok X G (c.fact 32 (f := .glo "BadProof") rfl)) (er.c ("BadProof", ["proof"]) tb_BadProof).1 (er.f ("BadProof", ["proof"]) tb_BadProof "proof" (by decide)) (er.i ("BadProof", ["proof"]) tb_BadProof).1 (er.i ("BadProof", ["proof"]) tb_BadProof).2 (by decide) (by decide)
    (fun _ _ _ _ _ _ us hl => match us, hl with | [_, _], _ => rfl) (fun _ _ _ _ _ _ _ _ => rfl)
theorem tb_BadRows : (("BadRows", ["rows"]) : Str × List Str) ∈ tab := List.mem_of_getElem? (i := 18) rfl
theorem mk_BadRows (er : ErFacts "SameError" none0 tab K) (X : K.In h) (G : h.Ns mainGlobals mg) (c : He.SaysD fa fn K) : ErMk P w K mg base "BadRows" (ga K "BadRows") ["rows"] := by
  obtain ⟨fd, F⟩ := c.def_ 32 (d := d_BadRows) rfl
  exact ermk1 F (⟨rfl, rfl, rfl, by decide +kernel, rfl, by decide +kernel, by decide +kernel⟩ : FnScope ["self", "rows"] ["self", "rows"] (defScope i_BadRows)) (He.glo_ok X G (c.fact 33 (f := .glo "BadRows") rfl)) (er.c ("BadRows", ["rows"]) tb_BadRows).1 (er.f ("BadRows", ["rows"]) tb_BadRows "rows" (by decide)) (er.i ("BadRows", ["rows"]) tb_BadRows).1 (er.i ("BadRows", ["rows"]) tb_BadRows).2 (by decide) (by decide)
    (fun _ _ _ _ _ _ us hl => match us, hl with | [_, _], _ => rfl) (fun _ _ _ _ _ _ _ _ => rfl)
theorem tb_BadAssumptions : (("BadAssumptions", ["index"]) : Str × List Str) ∈ tab := List.mem_of_getElem? (i := 19) rfl
theorem mk_BadAssumptions (er : ErFacts "SameError" none0 tab K) (X : K.In h) (G : h.Ns mainGlobals mg) (c : He.SaysD fa fn K) : ErMk P w K mg base "BadAssumptions" (ga K "BadAssumptions") ["index"] := by
  obtain ⟨fd, F⟩ := c.def_ 33 (d := d_BadAssumptions) rfl
  exact ermk1 F (⟨rfl, rfl, rfl, by decide +kernel, rfl, by decide +kernel, by decide +kernel⟩ : FnScope ["self", "index"] ["self", "index"] (defScope i_BadAssumptions)) (He.glo_ok X G (c.fact 34 (f := .glo "BadAssumptions") rfl)) (er.c ("BadAssumptions", ["index"]) tb_BadAssumptions).1 (er.f ("BadAssumptions", ["index"]) tb_BadAssumptions "index" (by decide)) (er.i ("BadAssumptions", ["index"]) tb_BadAssumptions).1 (er.i ("BadAssumptions", ["index"]) tb_BadAssumptions).2 (by decide) (by decide)
    (fun _ _ _ _ _ _ us hl => match us, hl with | [_, _], _ => rfl) (fun _ _ _ _ _ _ _ _ => rfl)
theorem tb_BadAnswer : (("BadAnswer", ["answer"]) : Str × List Str) ∈ tab := List.mem_of_getElem? (i := 20) rfl
theorem mk_BadAnswer (er : ErFacts "SameError" none0 tab K) (X : K.In h) (G : h.Ns mainGlobals mg) (c : He.SaysD fa fn K) : ErMk P w K mg base "BadAnswer" (ga K "BadAnswer") ["answer"] := by
  obtain ⟨fd, F⟩ := c.def_ 34 (d := d_BadAnswer) rfl
  exact ermk1 F (⟨rfl, rfl, rfl, by decide +kernel, rfl, by decide +kernel, by decide +kernel⟩ : FnScope ["self", "answer"] ["self", "answer"] (defScope i_BadAnswer)) (He.glo_ok X G (c.fact 35 (f := .glo "BadAnswer") rfl)) (er.c ("BadAnswer", ["answer"]) tb_BadAnswer).1 (er.f ("BadAnswer", ["answer"]) tb_BadAnswer "answer" (by decide)) (er.i ("BadAnswer", ["answer"]) tb_BadAnswer).1 (er.i ("BadAnswer", ["answer"]) tb_BadAnswer).2 (by decide) (by decide)
    (fun _ _ _ _ _ _ us hl => match us, hl with | [_, _], _ => rfl) (fun _ _ _ _ _ _ _ _ => rfl)
theorem tb_BadPaperText : (("BadPaperText", ["line"]) : Str × List Str) ∈ tab := List.mem_of_getElem? (i := 21) rfl
theorem mk_BadPaperText (er : ErFacts "SameError" none0 tab K) (X : K.In h) (G : h.Ns mainGlobals mg) (c : He.SaysD fa fn K) : ErMk P w K mg base "BadPaperText" (ga K "BadPaperText") ["line"] := by
  obtain ⟨fd, F⟩ := c.def_ 35 (d := d_BadPaperText) rfl
  exact ermk1 F (⟨rfl, rfl, rfl, by decide +kernel, rfl, by decide +kernel, by decide +kernel⟩ : FnScope ["self", "line"] ["self", "line"] (defScope i_BadPaperText)) (He.glo_ok X G (c.fact 36 (f := .glo "BadPaperText") rfl)) (er.c ("BadPaperText", ["line"]) tb_BadPaperText).1 (er.f ("BadPaperText", ["line"]) tb_BadPaperText "line" (by decide)) (er.i ("BadPaperText", ["line"]) tb_BadPaperText).1 (er.i ("BadPaperText", ["line"]) tb_BadPaperText).2 (by decide) (by decide)
    (fun _ _ _ _ _ _ us hl => match us, hl with | [_, _], _ => rfl) (fun _ _ _ _ _ _ _ _ => rfl)
theorem tb_BadTable : (("BadTable", ["table"]) : Str × List Str) ∈ tab := List.mem_of_getElem? (i := 22) rfl
theorem mk_BadTable (er : ErFacts "SameError" none0 tab K) (X : K.In h) (G : h.Ns mainGlobals mg) (c : He.SaysD fa fn K) : ErMk P w K mg base "BadTable" (ga K "BadTable") ["table"] := by
  obtain ⟨fd, F⟩ := c.def_ 36 (d := d_BadTable) rfl
  exact ermk1 F (⟨rfl, rfl, rfl, by decide +kernel, rfl, by decide +kernel, by decide +kernel⟩ : FnScope ["self", "table"] ["self", "table"] (defScope i_BadTable)) (He.glo_ok X G (c.fact 37 (f := .glo "BadTable") rfl)) (er.c ("BadTable", ["table"]) tb_BadTable).1 (er.f ("BadTable", ["table"]) tb_BadTable "table" (by decide)) (er.i ("BadTable", ["table"]) tb_BadTable).1 (er.i ("BadTable", ["table"]) tb_BadTable).2 (by decide) (by decide)
    (fun _ _ _ _ _ _ us hl => match us, hl with | [_, _], _ => rfl) (fun _ _ _ _ _ _ _ _ => rfl)
theorem tb_BadTold : (("BadTold", ["told"]) : Str × List Str) ∈ tab := List.mem_of_getElem? (i := 23) rfl
theorem mk_BadTold (er : ErFacts "SameError" none0 tab K) (X : K.In h) (G : h.Ns mainGlobals mg) (c : He.SaysD fa fn K) : ErMk P w K mg base "BadTold" (ga K "BadTold") ["told"] := by
  obtain ⟨fd, F⟩ := c.def_ 37 (d := d_BadTold) rfl
  exact ermk1 F (⟨rfl, rfl, rfl, by decide +kernel, rfl, by decide +kernel, by decide +kernel⟩ : FnScope ["self", "told"] ["self", "told"] (defScope i_BadTold)) (He.glo_ok X G (c.fact 38 (f := .glo "BadTold") rfl)) (er.c ("BadTold", ["told"]) tb_BadTold).1 (er.f ("BadTold", ["told"]) tb_BadTold "told" (by decide)) (er.i ("BadTold", ["told"]) tb_BadTold).1 (er.i ("BadTold", ["told"]) tb_BadTold).2 (by decide) (by decide)
    (fun _ _ _ _ _ _ us hl => match us, hl with | [_, _], _ => rfl) (fun _ _ _ _ _ _ _ _ => rfl)
theorem tb_BadOrder : (("BadOrder", ["index"]) : Str × List Str) ∈ tab := List.mem_of_getElem? (i := 24) rfl
theorem mk_BadOrder (er : ErFacts "SameError" none0 tab K) (X : K.In h) (G : h.Ns mainGlobals mg) (c : He.SaysD fa fn K) : ErMk P w K mg base "BadOrder" (ga K "BadOrder") ["index"] := by
  obtain ⟨fd, F⟩ := c.def_ 38 (d := d_BadOrder) rfl
  exact ermk1 F (⟨rfl, rfl, rfl, by decide +kernel, rfl, by decide +kernel, by decide +kernel⟩ : FnScope ["self", "index"] ["self", "index"] (defScope i_BadOrder)) (He.glo_ok X G (c.fact 39 (f := .glo "BadOrder") rfl)) (er.c ("BadOrder", ["index"]) tb_BadOrder).1 (er.f ("BadOrder", ["index"]) tb_BadOrder "index" (by decide)) (er.i ("BadOrder", ["index"]) tb_BadOrder).1 (er.i ("BadOrder", ["index"]) tb_BadOrder).2 (by decide) (by decide)
    (fun _ _ _ _ _ _ us hl => match us, hl with | [_, _], _ => rfl) (fun _ _ _ _ _ _ _ _ => rfl)
theorem blt_ok (X : K.In h) (G : h.Ns mainGlobals mg) (c : He.SaysD fa fn K) : Blt mg := ⟨He.free_ok X G (c.fact 40 (f := .free "isinstance") rfl), He.free_ok X G (c.fact 41 (f := .free "len") rfl), He.free_ok X G (c.fact 42 (f := .free "abs") rfl), He.free_ok X G (c.fact 43 (f := .free "all") rfl), He.free_ok X G (c.fact 44 (f := .free "any") rfl), He.free_ok X G (c.fact 45 (f := .free "max") rfl), He.free_ok X G (c.fact 46 (f := .free "min") rfl), He.free_ok X G (c.fact 47 (f := .free "int") rfl), He.free_ok X G (c.fact 48 (f := .free "str") rfl), He.free_ok X G (c.fact 49 (f := .free "bool") rfl), He.free_ok X G (c.fact 50 (f := .free "list") rfl), He.free_ok X G (c.fact 51 (f := .free "tuple") rfl), He.free_ok X G (c.fact 52 (f := .free "dict") rfl), He.free_ok X G (c.fact 53 (f := .free "range") rfl), He.free_ok X G (c.fact 54 (f := .free "zip") rfl), He.free_ok X G (c.fact 55 (f := .free "ValueError") rfl), He.free_ok X G (c.fact 56 (f := .free "KeyError") rfl), He.free_ok X G (c.fact 57 (f := .free "IndexError") rfl), He.free_ok X G (c.fact 58 (f := .free "TypeError") rfl)⟩
theorem txt_ok (X : K.In h) (G : h.Ns mainGlobals mg) (c : He.SaysD fa fn K) (x : ex K = true) : Txt P w K mg base :=
  have er := exTab_ok x
  { toBlt := blt_ok X G c, er := er, e_SameError := ⟨He.glo_ok X G (c.fact 14 (f := .glo "SameError") rfl), (er.s).1, er.n "SameError" (by decide)⟩,
    e_BadOther := mk_BadOther er X G c,
    e_BadParts := mk_BadParts er X G c,
    e_BadQuotient := mk_BadQuotient er X G c,
    e_BadQuotientText := mk_BadQuotientText er X G c,
    e_BadSigns := mk_BadSigns er X G c,
    e_BadTerm := mk_BadTerm er X G c,
    e_BadClauses := mk_BadClauses er X G c,
    e_BadClause := mk_BadClause er X G c,
    e_BadNumber := mk_BadNumber er X G c,
    e_BadBook := mk_BadBook er X G c,
    e_BadTermText := mk_BadTermText er X G c,
    e_BadBookText := mk_BadBookText er X G c,
    e_BadLine := mk_BadLine er X G c,
    e_BadNormal := mk_BadNormal er X G c,
    e_BadLiteral := mk_BadLiteral er X G c,
    e_BadModel := mk_BadModel er X G c,
    e_BadAtom := mk_BadAtom er X G c,
    e_BadProof := mk_BadProof er X G c,
    e_BadRows := mk_BadRows er X G c,
    e_BadAssumptions := mk_BadAssumptions er X G c,
    e_BadAnswer := mk_BadAnswer er X G c,
    e_BadPaperText := mk_BadPaperText er X G c,
    e_BadTable := mk_BadTable er X G c,
    e_BadTold := mk_BadTold er X G c,
    e_BadOrder := mk_BadOrder er X G c }
theorem bd_law_start {f : Addr} {fd : FuncData} (F : DefOf K "_law_start" s_law_start f fd) : Binds K fd ["script"] [] := F.bindsN fun _ _ _ _ _ _ us hl => match us, hl with | [_], _ => rfl
theorem bd_law_pick {f : Addr} {fd : FuncData} (F : DefOf K "_law_pick" s_law_pick f fd) : Binds K fd ["state", "many"] [] := F.bindsN fun _ _ _ _ _ _ us hl => match us, hl with | [_, _], _ => rfl
theorem bd_law_between {f : Addr} {fd : FuncData} (F : DefOf K "_law_between" s_law_between f fd) : Binds K fd ["state", "low", "high"] [] := F.bindsN fun _ _ _ _ _ _ us hl => match us, hl with | [_, _, _], _ => rfl
theorem bd_law_kinds_first {f : Addr} {fd : FuncData} (F : DefOf K "_law_kinds_first" s_law_kinds_first f fd) : Binds K fd ["e"] [] := F.bindsN fun _ _ _ _ _ _ us hl => match us, hl with | [_], _ => rfl
theorem bd_law_kinds_last {f : Addr} {fd : FuncData} (F : DefOf K "_law_kinds_last" s_law_kinds_last f fd) : Binds K fd ["e"] [] := F.bindsN fun _ _ _ _ _ _ us hl => match us, hl with | [_], _ => rfl
theorem bd_law_kinds {f : Addr} {fd : FuncData} (F : DefOf K "_law_kinds" s_law_kinds f fd) : Binds K fd ["e"] [] := F.bindsN fun _ _ _ _ _ _ us hl => match us, hl with | [_], _ => rfl
theorem bd_law_form_made {f : Addr} {fd : FuncData} (F : DefOf K "_law_form_made" s_law_form_made f fd) : Binds K fd ["at", "x"] [] := F.bindsN fun _ _ _ _ _ _ us hl => match us, hl with | [_, _], _ => rfl
theorem bd_law_text_made {f : Addr} {fd : FuncData} (F : DefOf K "_law_text_made" s_law_text_made f fd) : Binds K fd ["at", "x"] [] := F.bindsN fun _ _ _ _ _ _ us hl => match us, hl with | [_, _], _ => rfl
theorem bd_law_other_made {f : Addr} {fd : FuncData} (F : DefOf K "_law_other_made" s_law_other_made f fd) : Binds K fd ["at", "x"] [] := F.bindsN fun _ _ _ _ _ _ us hl => match us, hl with | [_, _], _ => rfl
theorem bd_law_made_at {f : Addr} {fd : FuncData} (F : DefOf K "_law_made_at" s_law_made_at f fd) : Binds K fd ["at", "x"] [] := F.bindsN fun _ _ _ _ _ _ us hl => match us, hl with | [_, _], _ => rfl
theorem bd_law_object {f : Addr} {fd : FuncData} (F : DefOf K "_law_object" s_law_object f fd) : Binds K fd ["state"] [] := F.bindsN fun _ _ _ _ _ _ us hl => match us, hl with | [_], _ => rfl
theorem bd_law_very {f : Addr} {fd : FuncData} (F : DefOf K "_law_very" s_law_very f fd) : Binds K fd ["found", "due"] [] := F.bindsN fun _ _ _ _ _ _ us hl => match us, hl with | [_, _], _ => rfl
theorem bd_law_caught {f : Addr} {fd : FuncData} (F : DefOf K "_law_caught" s_law_caught f fd) : Binds K fd ["x"] [] := F.bindsN fun _ _ _ _ _ _ us hl => match us, hl with | [_], _ => rfl
theorem bd_law {f : Addr} {fd : FuncData} (F : DefOf K "law" s_law f fd) : Binds K fd ["script"] [] := F.bindsN fun _ _ _ _ _ _ us hl => match us, hl with | [_], _ => rfl
end
theorem facts {P : Program} {w : World} {K : PySem.W.Frag} {h : Heap} {mg : Str → Option Value} {f : Addr} (X : K.In h) (G : h.Ns mainGlobals mg) (hfa : mg ("law" : Str) = some (.ref f)) (c : He.SaysD fa fn K) (x : ex K = true) :
    ∃ fd : FuncData, (∀ (s : Shared) (v : Value), BindsTo s fd ⟨[v], []⟩ [("script", v)]) ∧ ∀ base : Heap, K.In base → base.Ns mainGlobals mg → FnOk P w K mg base CX0 5 f fd ["script"] (spLaw K) := by
  obtain ⟨fd_law_start, F_law_start⟩ := c.def_ 0 (d := d_law_start) rfl
  have G_law_start := He.glo_ok X G (c.fact 0 (f := .glo "_law_start") rfl)
  obtain ⟨fd_law_pick, F_law_pick⟩ := c.def_ 1 (d := d_law_pick) rfl
  have G_law_pick := He.glo_ok X G (c.fact 1 (f := .glo "_law_pick") rfl)
  obtain ⟨fd_law_between, F_law_between⟩ := c.def_ 2 (d := d_law_between) rfl
  have G_law_between := He.glo_ok X G (c.fact 2 (f := .glo "_law_between") rfl)
  obtain ⟨fd_law_kinds_first, F_law_kinds_first⟩ := c.def_ 3 (d := d_law_kinds_first) rfl
  have G_law_kinds_first := He.glo_ok X G (c.fact 3 (f := .glo "_law_kinds_first") rfl)
  obtain ⟨fd_law_kinds_last, F_law_kinds_last⟩ := c.def_ 4 (d := d_law_kinds_last) rfl
  have G_law_kinds_last := He.glo_ok X G (c.fact 4 (f := .glo "_law_kinds_last") rfl)
  obtain ⟨fd_law_kinds, F_law_kinds⟩ := c.def_ 5 (d := d_law_kinds) rfl
  have G_law_kinds := He.glo_ok X G (c.fact 5 (f := .glo "_law_kinds") rfl)
  obtain ⟨fd_law_form_made, F_law_form_made⟩ := c.def_ 6 (d := d_law_form_made) rfl
  have G_law_form_made := He.glo_ok X G (c.fact 6 (f := .glo "_law_form_made") rfl)
  obtain ⟨fd_law_text_made, F_law_text_made⟩ := c.def_ 7 (d := d_law_text_made) rfl
  have G_law_text_made := He.glo_ok X G (c.fact 7 (f := .glo "_law_text_made") rfl)
  obtain ⟨fd_law_other_made, F_law_other_made⟩ := c.def_ 8 (d := d_law_other_made) rfl
  have G_law_other_made := He.glo_ok X G (c.fact 8 (f := .glo "_law_other_made") rfl)
  obtain ⟨fd_law_made_at, F_law_made_at⟩ := c.def_ 9 (d := d_law_made_at) rfl
  have G_law_made_at := He.glo_ok X G (c.fact 9 (f := .glo "_law_made_at") rfl)
  obtain ⟨fd_law_object, F_law_object⟩ := c.def_ 10 (d := d_law_object) rfl
  have G_law_object := He.glo_ok X G (c.fact 10 (f := .glo "_law_object") rfl)
  obtain ⟨fd_law_very, F_law_very⟩ := c.def_ 11 (d := d_law_very) rfl
  have G_law_very := He.glo_ok X G (c.fact 11 (f := .glo "_law_very") rfl)
  obtain ⟨fd_law_caught, F_law_caught⟩ := c.def_ 12 (d := d_law_caught) rfl
  have G_law_caught := He.glo_ok X G (c.fact 12 (f := .glo "_law_caught") rfl)
  obtain ⟨fd_law, F_law⟩ := c.def_ 13 (d := d_law) rfl
  have e := hfa.symm.trans (He.glo_ok X G (c.fact 13 (f := .glo "law") rfl))
  cases e
  have b := FunD.bindsA (ps := ["script"]) F_law fun _ _ _ _ _ _ us hl => match us, hl with | [_], _ => rfl
  refine ⟨fd_law, fun s v => b s [v] rfl, fun base _ _ => ?_⟩
  have T : Txt P w K mg base := txt_ok X G c x
  have B := T.toBlt
  have C_start := ok_start B F_law_start G_law_start (bd_law_start F_law_start) (P := P) (w := w) (base := base)
  have C_pick := ok_pick B F_law_pick G_law_pick (bd_law_pick F_law_pick) (P := P) (w := w) (base := base)
  have C_between := ok_between B C_pick F_law_between G_law_between (bd_law_between F_law_between)
  have C_ka := okKindsA T F_law_kinds_first G_law_kinds_first (bd_law_kinds_first F_law_kinds_first)
  have C_kb := okKindsB T F_law_kinds_last G_law_kinds_last (bd_law_kinds_last F_law_kinds_last)
  have C_kinds := ok_kinds T C_ka C_kb F_law_kinds G_law_kinds (bd_law_kinds F_law_kinds)
  have C_mf := ok_form T F_law_form_made G_law_form_made (bd_law_form_made F_law_form_made)
  have C_mt := ok_text T F_law_text_made G_law_text_made (bd_law_text_made F_law_text_made)
  have C_mo := ok_other T F_law_other_made G_law_other_made (bd_law_other_made F_law_other_made)
  have C_made := ok_made T C_mf C_mt C_mo F_law_made_at G_law_made_at (bd_law_made_at F_law_made_at)
  have C_obj := ok_object B C_pick C_between F_law_object G_law_object (bd_law_object F_law_object)
  have C_very := ok_very B F_law_very G_law_very (bd_law_very F_law_very) (P := P) (w := w) (base := base)
  have C_caught := ok_caught T C_kinds F_law_kinds_first G_law_kinds_first (bd_law_kinds_first F_law_kinds_first) F_law_kinds_last G_law_kinds_last (bd_law_kinds_last F_law_kinds_last) F_law_kinds G_law_kinds (bd_law_kinds F_law_kinds) F_law_caught G_law_caught (bd_law_caught F_law_caught)
  exact ok_law T C_start C_pick C_obj C_made C_kinds C_very C_caught F_law
end K00
open PySem PySem.W PySem.Calls PyProof.Rows
theorem PySem.Challenge.cw_sameproof_k00_errors_made_holds : PySem.Challenge.rw_sameproof_k00_errors_made.Holds := by
  w_on; o_law
  refine HandSHeadRun.head_any (r := OpenLaw.row PySem.Challenge.rw_sameproof_k00_errors_made) (q := view (OpenLaw.row PySem.Challenge.rw_sameproof_k00_errors_made).prog [42]) (H := K00.hk) (ob := K00.ob) (M := 14000) (loose := K00.loose) (d := HandSHeadRun.topDef (OpenLaw.row PySem.Challenge.rw_sameproof_k00_errors_made).prog 42) (kwd := []) K00.ob_eq
    (by kernel_rfl) (fun s => by kernel_rfl) K00.run (by kernel_rfl) (by kernel_rfl) (by kernel_rfl) (by rfl) (by first | assumption | decide +kernel) (by decide +kernel) ⟨rfl, rfl, rfl, rfl, rfl, by decide +kernel⟩ ?hw ?hc
  case hw => w_witness2
  case hc =>
    refine L2.walk_ofE (l := PySem.Challenge.rw_sameproof_k00_errors_made) (k := 5) (x := "script") (CX := L2.CX0) rfl (by decide) (by kernel_rfl) ⟨rfl, by decide, by decide⟩ ?F (fun _ _ _ _ z => z)
    intro w mg fa h Y G hmg0
    obtain ⟨K, KX, c, x⟩ := Y
    have hmg : mg ("law" : PySem.Str) = some (.ref fa) := by
      have e : (HandSHeadRun.topDef (OpenLaw.row PySem.Challenge.rw_sameproof_k00_errors_made).prog 42).name = ("law" : PySem.Str) := by kernel_rfl
      rw [← e]
      exact hmg0
    obtain ⟨fd, hb, hF⟩ := K00.facts (P := (PySem.Challenge.rw_sameproof_k00_errors_made).prog) (w := w) KX G hmg c x
    exact ⟨K, fd, K00.spLaw K, KX, hb, fun H a ns hl _ hS => ⟨a, ns, rfl, hS, fun _ => rfl⟩, hF⟩
