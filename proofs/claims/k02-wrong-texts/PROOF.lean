import PyProof.Rows.All
import Wide.All
import OpenK.AllK
import Wide.FinOn
import HandS.Text
import KE.KStateDown
import HandS.Head0
import HandS.Head1
import HandS.Head2
import HandS.HeadEnd
import HandS.HeadHook1
import HandS.HeadHook2
import HandS.HeadHook3
import HandS.Ends
import HandS.More
import HandS.Words
import HandS.WordsExc
import HandS.Defaults
import HandS.Style
import HandS.Exc
import HandS.ExcInit
import HandS.MakeKw
import HandS.CallSlots
import PyProof.EnumMake
import KE.GoesMore
import HandS.Iter
import HandS.Zip
import HandS.NoneIn
import PyProof.TupleOfStr
import HandS.RaiseMore
import HandS.Conv
import HandS.Wide
import HandS.Strs
import HandS.Deep
import PyProof.NeKinds
import HandS.TupLe
import HandS.TupAny
import HandS.IsInst
import HandS.Flow
import HandS.Base
import HandS.Call
import HandS.List
import HandS.Comp
import HandS.Slots
import HandS.ExcIs
import HandS.ExcField
import HandS.ExcValue
import HandS.TryOnly
import KE.SortData
import HandS.SortOrd
import PySem.Challenge.RW_seatsahead_k02_wrong_texts
set_option Elab.async false
set_option linter.all false
set_option maxRecDepth 100000
set_option maxHeartbeats 0
section -- ZX3
/-! ZX3: own exceptions made with keywords (the layer makes them with values alone). -/
namespace Z
open PySem PySem.Calls PyProof.Rows PySem.HandSPX
section
variable {prog : Program} {w : World} {A : Around} {E : Value → Shared → Prop} {R : Result → Shared → Prop} {h : Heap} {g : Array GenState} {d : Drawn} {t : Nat} {os : OsState}
variable {nm q : Str} {C N : Addr} {bs bm bmB : List Value} {hdct : Bool} {sn : List Str} {sub : List Value} {ab : Bool} {col : Option Bool} {dd : Option Addr} {k0 k1 k2 k3 k5 : Option Value} {B newId initId : String}
theorem kw_check {M : Model} (F : ExcBaseFacts B newId initId bmB) (hT : ∀ X : String, bm.contains (.type X) = bmB.contains (.type X)) {rest : List Value} {kw : List (Str × Value)} {Q : Unit → Shared → Prop}
    (hC : h.get? C = some (excClassObj nm q C N bs bm hdct sn sub ab col dd k0 k1 k2 k3 k5 newId)) (hq : Q () ⟨h, g, d, t, os⟩) : wpAny M A (checkBuiltinCall newId ⟨.ref C :: rest, kw⟩) Q E ⟨h, g, d, t, os⟩ := by
  have z1 : (Value.ref C :: bm).contains (.type B) = true := by rw [List.contains_cons, hT, F.hasB, Bool.or_true]
  have z2 := F.noStar
  simp only [checkBuiltinCall, F.newKind, F.newSplit, F.newRow]
  repeat (first | refine wpAny_loadPart_at hC ?_ | (refine wpAny_isSubtype_exc hC ?_; rw [z1]) | refine wpAny_staticBase_exc hC ?_ | refine wpAny_madeBy_exc hC ?_ | simp only [bne_self_eq_false, Bool.false_eq_true, if_false] | wp_step)
  exact hq
theorem kw_new (F : ExcBaseFacts B newId initId bmB) (hT : ∀ X : String, bm.contains (.type X) = bmB.contains (.type X)) {rest : List Value} {kw : List (Str × Value)}
    (hC : h.get? C = some (excClassObj nm q C N bs bm hdct sn sub ab col dd k0 k1 k2 k3 k5 newId))
    (hq : R (.ok (.ret (.ref (h.objs.size + 1)))) ⟨(h.push (W.kdv_tup rest)).push (excO C h.objs.size), g, d, t, os⟩) (hl : rest.length ≤ sizeLine) :
    codeAny (model prog w) A (.builtin newId ⟨.ref C :: rest, kw⟩) R ⟨h, g, d, t, os⟩ := by
  have z0 := F.ends
  have z1 : (Value.ref C :: bm).contains (.type B) = true := by rw [List.contains_cons, hT, F.hasB, Bool.or_true]
  have z2 : (Value.ref C :: bm).contains (.type "AttributeError") = false := by rw [List.contains_cons, hT, F.noAttr]; rfl
  have z3 : (Value.ref C :: bm).contains (.type "NameError") = false := by rw [List.contains_cons, hT, F.noName]; rfl
  refine codeAny_builtinAt F.entry ?_
  unfold Builtin.«BaseException.__new__»
  refine PySem.wpAt_bind ?_
  show PySem.wpAt _ _ _ (stack >>= _) _ _ _
  refine PySem.wpAt_bind (PySem.wpAt_stack fun p below => PySem.wpAt_of_wpAny ?_)
  wp_walk
  refine PySem.wpAt_of_wpAny ?_
  rw [F.owner]
  repeat (first | with_reducible refine wpAny_madeHere_exc F.canon hC ?_ | with_reducible refine wpAny_loadPart_at hC ?_ | (with_reducible refine wpAny_isSubtype_exc hC ?_; first | rw [z1] | rw [z2] | rw [z3]) | wp_step)
  show R _ _
  rw [Heap.size_push]
  exact hq
theorem kw_type (F : ExcBaseFacts B newId initId bmB) (hT : ∀ X : String, bm.contains (.type X) = bmB.contains (.type X)) {rest : List Value} {kw : List (Str × Value)} {fI : Addr} {Q : Fin → Shared → Prop}
    (hC : h.get? C = some (excClassObj nm q C N bs bm hdct sn sub ab col dd k0 k1 k2 k3 k5 newId))
    (hi : W.Looks (model prog w) h (typeLookup (.ref C) "__init__") (some (.ref fI))) (hb : ∀ self, W.Looks (model prog w) h (bindSpecial (.ref fI) self) (.ref fI, [self])) (hl : rest.length ≤ sizeLine)
    (hq : codeAny (model prog w) A (.call (.ref fI) ⟨.ref (h.objs.size + 1) :: rest, kw⟩)
      (fun r s' => match r with | .ok (.ret v) => v = .none ∧ Q (.done (.ret (.ref (h.objs.size + 1)))) s' | .ok _ => False | .error e => E e s')
      ⟨(h.push (W.kdv_tup rest)).push (excO C h.objs.size), g, d, t, os⟩) :
    wpAny (model prog w) A (Builtin.«type.__call__» ⟨.ref C :: rest, kw⟩) Q E ⟨h, g, d, t, os⟩ := by
  repeat (first | with_reducible refine wpAny_loadPart_at hC ?_ | with_reducible refine wpAny_madeBy_exc hC ?_ | wp_step)
  refine codeAny_call_builtin_code (Code.quiet_builtin _ F.quiet) (kw_check F hT hC (kw_new F hT hC ?_ hl))
  show wpAny _ _ _ _ _ _
  have k : ∀ b o, h.get? b = some o → ((h.push (W.kdv_tup rest)).push (excO C h.objs.size)).get? b = some o := fun b o e => Heap.get?_push_of_some _ (Heap.get?_push_of_some _ e)
  have c1 := k _ _ hC
  have c2 : ((h.push (W.kdv_tup rest)).push (excO C h.objs.size)).get? (h.objs.size + 1) = some (excO C h.objs.size) := by heap_get
  have c3 : (Value.ref C :: bm).contains (.ref C) = true := by simp
  have i1 := hi.keeps k
  have b1 := (hb (.ref (h.objs.size + 1))).keeps k
  unfold isInstance
  repeat (first | with_reducible refine wpAny_loadPart_at c2 ?_ | (with_reducible refine wpAny_isSubtype_exc c1 ?_; rw [c3]) | wp_step)
  show wpAny _ _ (typeLookup (.ref C) _) _ _ _
  refine i1.at (wpAny_holding (wpAny_bind (b1.at (wpAny_bind (wpAny_call (codeAny_mono hq fun r s' z => ?_))))))
  rcases r with e | (v | _ | _ | _) <;> first | exact z | exact z.elim | skip
  obtain ⟨rfl, z⟩ := z
  first
    | exact wpAny_pure (wpAny_pure z)
    | (wp_walk; exact z)
theorem kw_call (F : ExcBaseFacts B newId initId bmB) (hT : ∀ X : String, bm.contains (.type X) = bmB.contains (.type X)) {rest : List Value} {kw : List (Str × Value)} {fI : Addr}
    (hC : h.get? C = some (excClassObj nm q C N bs bm hdct sn sub ab col dd k0 k1 k2 k3 k5 newId))
    (hi : W.Looks (model prog w) h (typeLookup (.ref C) "__init__") (some (.ref fI))) (hb : ∀ self, W.Looks (model prog w) h (bindSpecial (.ref fI) self) (.ref fI, [self])) (hl : rest.length ≤ sizeLine)
    (hq : codeAny (model prog w) (A.under (.builtin "type.__call__" ⟨.ref C :: rest, kw⟩)) (.call (.ref fI) ⟨.ref (h.objs.size + 1) :: rest, kw⟩) (W.InitBack (h.objs.size + 1) R)
      ⟨(h.push (W.kdv_tup rest)).push (excO C h.objs.size), g, d, t, os⟩) :
    codeAny (model prog w) A (.call (.ref C) ⟨rest, kw⟩) R ⟨h, g, d, t, os⟩ := by
  have f1 := tc_lookup
  have f2 := tc_bind (.ref C)
  have ty : (⟨h, g, d, t, os⟩ : Shared).TypeIs (.ref C) "type" := ⟨_, hC, rfl⟩
  refine codeAny_of_tree ?_
  show wpAny _ _ (callAny (.ref C) _) _ _ _
  repeat (any_goals (first | assumption | with_reducible refine wpAny_loadPart_at hC ?_ | wp_step))
  refine ⟨rfl, codeAny_call_builtin_at (Code.quiet_builtin _ (by decide +kernel)) entry_typeCall (wpAny_check_type_call_sub hC (kw_type F hT hC hi hb hl (codeAny_mono hq fun r s' z => ?_)))⟩
  rcases r with e | (v | _ | _ | _) <;> exact z
end
end Z
namespace Z
open PySem PySem.Spec PyProof.Rows L2
section
variable {X : Cx}
/-- C(..) run, whatever values and keywords -/
theorem run_ex {CX : CXT} {pins : List (Addr × Obj)} {σ : L2.St} {H1 : Hp} {s1 : Shared} {C fI : Addr} {k : Nat} {fd : FuncData} {ps : List Str} {sp : Sp} {Q : XK} {us ws : List Value} {kw : List (Str × Value)} {vs : List V} (T : OexC X.K C) (iC : PySem.W.findIn X.K (.ref C) "__init__" = some (some (.ref fI))) (tI : PySem.W.typeIn X.K (.ref fI) = some (.type "function"))
    (F1 : FnOk X.prog X.w X.K X.mg X.base CX k fI fd ps sp) (hr : Room (k + 1) X.A) (hx : Passes CX X (fun _ _ _ => False)) (I1 : Inv X pins σ H1 s1) (hus : us.length ≤ sizeLine)
    (hb : ∀ (s : Shared) (a : Addr), X.K.In s.heap → BindsTo s fd ⟨.ref a :: us, kw⟩ (ps.zip (.ref a :: ws))) (rv : Vals vs ws)
    (h : ∀ a, H1 a = none → sp (.ref a :: vs) (upd H1 a (exo a C none)) (fun v H2 => v = .non ∧ ∃ (d : Addr) (fs : List (Str × V)), H2 a = some (exo a C (some d)) ∧ H2 d = some (exd d fs) ∧ H1 d = none ∧ Q (.ref C) (some d) (upd (del H2 a) d (.xd fs))) (fun _ _ _ => False)) :
    wpAny (model X.prog X.w) X.A (call (.ref C) us kw) (MkP X pins σ Q) X.xe s1 := by
  obtain ⟨nm, q, N, bs, bm, sn, sub, ab, col, dd, k0, k1, k2, k3, k5, hC, hbm⟩ := T.cls
  obtain ⟨hp, g, dr, tk, os⟩ := s1
  have hsz : hp.objs.size ≤ hp.objs.size + 1 := Nat.le_succ _
  have hq := h (hp.objs.size + 1) (I1.hok.fresh hsz)
  have kk : ∀ b o, hp.get? b = some o → ((hp.push (PySem.W.kdv_tup us)).push (PySem.HandSPX.excO C hp.objs.size)).get? b = some o := fun b o e => Heap.get?_push_of_some _ (Heap.get?_push_of_some _ e)
  have hget : ((hp.push (PySem.W.kdv_tup us)).push (PySem.HandSPX.excO C hp.objs.size)).get? (hp.objs.size + 1) = some (PySem.HandSPX.excO C hp.objs.size) := by heap_get
  have I2 : Inv X pins σ (upd H1 (hp.objs.size + 1) (exo (hp.objs.size + 1) C none)) ⟨(hp.push (PySem.W.kdv_tup us)).push (PySem.HandSPX.excO C hp.objs.size), g, dr, tk, os⟩ := I1.laid (t' := tk) kk hsz (exo_ok hget)
  have r2 : Vals (V.ref (hp.objs.size + 1) :: vs) (Value.ref (hp.objs.size + 1) :: ws) := .cons rfl rv
  refine wpAny_call (kw_call F.excBase_ValueError (fun Y => PySem.HandSPX.refsVE_contains Y bm hbm) (I1.kIn _ _ hC) (PySem.W.looks_findIn I1.kIn iC) (fun self => PySem.W.bind_fn I1.kIn self tI) hus (codeAny_mono (F1.run _ X.stack _ _ ⟨Value.ref (hp.objs.size + 1) :: us, kw⟩ (Value.ref (hp.objs.size + 1) :: ws) _ _ (fun _ _ _ => False) (hr.make C us kw) (I2.env0.make C us kw) (hb _ _ I2.kIn) r2 hq) fun r s' z => ?_))
  cases r with
  | error er => exact hx pins σ _ _ er s' I2 z
  | ok fl =>
    cases fl with
    | ret u =>
      obtain ⟨v, H2, os2, bare2, un2, hok2, rv, ev, d, fs, ea, ed, hd1, q2⟩ := z
      subst ev
      obtain ⟨h2, g2, d2, t2, os'⟩ := s'
      exact ⟨rv, mk_end (raises_own T.exC T.tyC) I1 hsz kk un2 hok2 os2 bare2 ea ed hd1 q2⟩
    | next => exact False.elim z
    | brk => exact False.elim z
    | cont => exact False.elim z
end
end Z

end
section -- ZX0
/-! ZX0: exceptions that are held as values: made, caught. -/
namespace Z
open PySem PySem.Spec PyProof.Rows L2
/-- an exception, raised or not, of the class cls, its dict d, at a -/
def EXV (cls : Value) (d : Option Addr) (a : Addr) : HO := .ext fun h => ∃ (oe : Obj) (vs : Array Value), h.get? a = some oe ∧ Zc cls d oe ∧ oe.data = .fields vs
theorem exv_ok {P : Program} {w : World} {H : Hp} {h : Heap} {a : Addr} {cls : Value} {d : Option Addr} {oe : Obj} {vs : Array Value} (e : h.get? a = some oe) (z : Zc cls d oe) (q : oe.data = .fields vs) : ObjOk P w H h a (EXV cls d a) :=
  ⟨⟨oe, vs, e, z, q⟩, ⟨oe, e⟩, fun _ _ ⟨o, v, r1, r2⟩ k => ⟨o, v, k o r1, r2⟩⟩
theorem exv_at {P : Program} {w : World} {H : Hp} {h : Heap} {a : Addr} {cls : Value} {d : Option Addr} (hok : HOk P w H h) (e : H a = some (EXV cls d a)) : ∃ (oe : Obj) (vs : Array Value), h.get? a = some oe ∧ Zc cls d oe ∧ oe.data = .fields vs := by
  have x : ObjOk P w H h a (.ext fun h => ∃ (oe : Obj) (vs : Array Value), h.get? a = some oe ∧ Zc cls d oe ∧ oe.data = .fields vs) := hok a _ e
  exact x.1
section
variable {X : Cx} {pins : List (Addr × Obj)} {σ : L2.St} {H : Hp} {s : Shared}
/-- what makes an exception for a raise makes one as a value, too -/
theorem pe_of_pmk {e : Expr} {t : L2.St → Hp → XK → Prop} (h : PMk X e t) : PE X e (fun σ H Q => t σ H fun cls d H1 => ∀ a, H1 a = none → Q (.ref a) (upd H1 a (EXV cls d a))) := by
  refine ⟨fun pins s σ H Q I q => wpAny_mono (h pins s σ H _ I q) (fun u s1 m => ?_) fun _ _ x => x⟩
  obtain ⟨a, oe, vs, sI, H1, cls, d, rfl, J, k, n0, ha, hz, hd, h1, na, os, ag, r, q1⟩ := m
  refine ⟨.ref a, upd H1 a (EXV cls d a), ?_, rfl, q1 a na⟩
  refine J.call' (ch := []) os ⟨fun b o e _ _ _ => k b o e, fun b o e _ _ _ => ⟨o.slots, k b o e⟩, fun b o e n _ => ?_, fun b o e _ => ⟨o, k b o e⟩, fun b xs e => ?_, fun b o u e => ?_, fun b ps e => ⟨#[], ?_⟩⟩ (J.hok.laidN k na (exv_ok ha hz hd)) ag (fun _ z => nomatch z)
  · rw [upd_ne (fun z => by rw [z, n0] at e; cases e)]; exact n
  · rw [upd_ne (ne_of_none e na)]; exact e
  · rw [upd_ne (ne_of_none e na)]; exact e
  · rw [upd_ne (ne_of_none e na), e]; simp
/-- what is caught is held as a value -/
theorem landedX {B : Heap} {sI s' : Shared} {a : Addr} {cls : Value} {d : Option Addr} {oe : Obj} {vs : Array Value} (I : Inv X pins σ H sI) (nb : ∀ b o, sI.heap.get? b = some o → b ∉ frs X.stack → B.get? b = some o) (st : B.StaysIn s'.heap) (up : sI.heap.UpToSlots s'.heap)
    (os : s'.os = sI.os) (ag : AllBare s'.gens) (n0 : sI.heap.get? a = none) (na : H a = none) (ha : s'.heap.get? a = some oe) (hz : Zc cls d oe) (hd : oe.data = .fields vs) : Inv X pins σ (upd H a (EXV cls d a)) s' := by
  have fr : ∀ b ∈ frs X.stack, ∀ o, sI.heap.get? b = some o → ∃ sl, s'.heap.get? b = some { o with slots := sl } := by
    intro b hb o e
    obtain ⟨_, o', e', q⟩ := I.stack.mem hb
    rw [e] at e'
    cases e'
    exact up b o e q
  have hk : HOk X.prog X.w H s'.heap := (I.inGround nb).kept st
  refine I.call' (ch := []) os ⟨fun b o e _ hb _ => st b o (nb b o e hb), fun b o e _ hb _ => fr b hb o e, fun b o e n _ => ?_, fun b o e _ => ?_, fun b xs e => ?_, fun b o u e => ?_, fun b ps e => ⟨#[], ?_⟩⟩ (hk.laidN (fun _ _ z => z) na (exv_ok ha hz hd)) ag (fun _ z => nomatch z)
  · rw [upd_ne (fun z => by rw [z, n0] at e; cases e)]; exact n
  · by_cases hb : b ∈ frs X.stack
    · obtain ⟨sl, q⟩ := fr b hb o e
      exact ⟨_, q⟩
    · exact ⟨o, st b o (nb b o e hb)⟩
  · rw [upd_ne (ne_of_none e na)]; exact e
  · rw [upd_ne (ne_of_none e na)]; exact e
  · rw [upd_ne (ne_of_none e na), e]; simp
theorem toHot (I : Inv X pins σ H s) (a : Addr) : Inv (X.suite a (X.pn ++ pins)) [] σ H s :=
  ⟨I.ok.suite _ _, I.os, I.bare, I.base, I.loc, I.cell, I.free, I.freeC, fun p hp => I.pin p (by rw [List.append_nil] at hp; exact hp), I.hok, I.len⟩
theorem ofHot {a : Addr} {pn' : List (Addr × Obj)} (I : Inv (X.suite a (X.pn ++ pins)) pn' σ H s) (ok : X.Ok) : Inv X pins σ H s :=
  ⟨ok, I.os, I.bare, I.base, I.loc, I.cell, I.free, I.freeC, fun p hp => I.pin p (List.mem_append_left _ hp), I.hok, I.len⟩
end
/-- the ends of a suite that lets a name go -/
def Ends.gone (D : Ends) (i : Nat) : Ends := { nx := fun τ G => D.nx (τ.set i none) G, rt := D.rt, bk := fun τ G => D.bk (τ.set i none) G, ct := fun τ G => D.ct (τ.set i none) G }
/-- what 'except x as n' wishes of what its body raises; n's slot is i; what is caught is held -/
def wHeld (K : PySem.W.Frag) (c : Value) (i : Nat) (ts : TS) (Wout : WX) (D : Ends) : WX := fun cls d τ G =>
  ∃ b, PySem.W.exmOne K cls c = some b ∧ (b = true → ∀ a, G a = none → ts (Ends.gone D i) (τ.set i (some (.ref a))) (upd G a (EXV cls d a))) ∧ (b = false → Wout cls d τ G)
section
variable {X : Cx} {x n : Str} {c : Value} {i : Nat} {body suite : List Stmt} {b₀ : Stmt} {np pos pos' : Pos} {tb : WX → TS} {ts : TS} {Wout : WX}
theorem ps_try_held (hs : X.stack = X.env :: X.outer) (hf : X.env.frame = some X.env.locals) (hN : X.N.Nodup) (hi : X.N[i]? = some n) (hln : X.env.kindOf n = some .local) (hc : Names X x c) (tk : Takes X Wout)
    (hb : ∀ (W : WX) (pn : List (Addr × Obj)) (xe : Value → Shared → Prop), Takes (X.tr pn xe) W → PassesOwn (model X.prog X.w) X.A X.env xe → PSs (X.tr pn xe) body (tb W))
    (hsu : ∀ (a : Addr) (pn : List (Addr × Obj)), PSs (X.suite a pn) (b₀ :: suite) ts) :
    PS X (.Try body [.ExceptHandler (some (.Name x np)) (some n) (b₀ :: suite) pos'] [] [] pos) (fun D σ H => tb (wHeld X.K c i ts Wout D) D σ H) := by
  refine ⟨fun pins s σ H D I h => ?_⟩
  have ok := I.ok
  have fram : X.A.frames = some (X.env :: X.outer) := ok.frames.trans (congrArg some hs)
  refine wpAny_Try_except (wpAny_mono ((hb (wHeld X.K c i ts Wout D) (X.pn ++ pins) _ (fun u s1 xx => ?_) PassesOwn.looking).run [] s σ H D (I.toTry _) h) (fun f s1 z => ?_) (fun e s1 z => z))
  · obtain ⟨a, B, sI, pins1, τ, G, cls, d, rfl, J1, nb, up, sky, na, os, ag, b, m, yes, no⟩ := xx
    have J : Inv X pins τ G sI := J1.ofTry ok
    refine Sky.land (Z := Zc cls d) Zc.steady fram hf (by rw [← hs]; exact sky) fun h3 fl3 up3 => ?_
    have J3 : Inv X pins τ G { s1 with heap := h3 } := J.landed nb fl3.1 (up.trans up3) os ag
    obtain ⟨o3, v3, e3, z3, d3⟩ := fl3.there
    have nfr : a ∉ frs X.stack := fun hm => by
      rw [hs] at hm
      obtain ⟨_, o', e', q⟩ := fl3.2.2.1.mem hm
      rw [e3] at e'
      cases e'
      exact q _ d3
    have n0 : sI.heap.get? a = none := by
      cases q : sI.heap.get? a with
      | none => rfl
      | some o =>
        have := nb a o q nfr
        rw [fl3.2.1] at this
        cases this
    have hot3 := toHot J3 a
    refine wpAny_handleBy_cons (codeAny_handlers_test ?_) (fun z => nomatch z)
    have ty : PySem.W.Looks (model X.prog X.w) h3 (typeOf (.ref a)) cls := fun A Q E s k q => wpAny_typeOf_ref (k _ _ e3) (by rw [z3.1]; exact q)
    have mt := PySem.W.exm_one (M := model X.prog X.w) J3.kIn ty m
    have nm : ∀ {Q : Value → Shared → Prop} {E : Value → Shared → Prop}, Q c { s1 with heap := h3 } → wpAny (model X.prog X.w) (X.A.mark (some (.ref a))) (eval (.Name x np) X.env) Q E { s1 with heap := h3 } := by
      intro Q E q
      obtain ⟨hg, hdb, g | ⟨g, hv, hn⟩⟩ := hc
      · exact ld_glob (X := X.suite a (X.pn ++ pins)) hot3 hg g q hdb
      · exact ld_blt (X := X.suite a (X.pn ++ pins)) hot3 hg g hv q hn hdb
    refine nm (mt.here ?_)
    cases b with
    | false =>
      refine wpAny_handleBy_nil ?_
      obtain ⟨_, _, _, oe, vs, T, oT, tt, he, _, hd, h1, _⟩ := id fl3
      unfold PySem.passOn
      refine wpAny_bind (wpAny_field he hd h1 ?_)
      rw [if_neg (by simp)]
      have on : wpAny (model X.prog X.w) X.A (setFlight (.ref a) X.env.frame) (fun _ s4 => wpAny (model X.prog X.w) X.A (throw (.ref a) : Sem Flow) (SP X pins D) X.xe s4) X.xe { s1 with heap := h3 } := by
        rw [hf]
        exact HandSPX.setFlight_upZ fl3 fun h4 l4 up4 => wpAny_throw (tk _ _ ⟨a, B, sI, pins, τ, G, cls, d, rfl, J, nb, (up.trans up3).trans up4, .inr (.inr (by rw [hs]; exact l4)), na, os, ag, no rfl⟩)
      first
        | exact wpAny_bind (wpAny_pure (wpAny_bind on))
        | exact wpAny_bind on
    | true =>
      refine codeAny_handlers_suite_as (HandSPX.lands_againZ fl3 fun h4 fl4 up4 => ?_)
      obtain ⟨o4, v4, e4, z4, d4⟩ := fl4.there
      have J4 : Inv X pins τ (upd G a (EXV cls d a)) { s1 with heap := h4 } := landedX J nb fl4.1 ((up.trans up3).trans up4) os ag n0 na e4 z4 d4
      refine store_ok (X := X.suite a (X.pn ++ pins)) (v := .ref a) (toHot J4 a) hN hi (.inl hln) rfl (fun s5 S5 => ?_) (.inr hln)
      refine wpAny_mono ((hsu a (X.pn ++ pins)).run [] s5 _ _ (Ends.gone D i) S5 (yes rfl a na)) (fun f s6 z => ?_) (fun _ _ z => False.elim z)
      have fin : ∀ {τ6 : L2.St} {H6 : Hp} {Q : Shared → Prop}, Inv (X.suite a (X.pn ++ pins)) [] τ6 H6 s6 → (∀ s7, Inv X pins (τ6.set i none) H6 s7 → Q s7) → wpAny (model X.prog X.w) X.A (do bindName X.env n .none; unbindBehindTheSuite X.env n pos') (fun _ s7 => Q s7) X.xe s6 :=
        fun {τ6 H6 Q} S6 k => gone_ok (ofHot S6 ok) hN hi hln k
      cases f with
      | next => obtain ⟨τ6, H6, S6, q⟩ := z; exact fin S6 fun s7 J7 => ⟨_, _, J7, q⟩
      | brk => obtain ⟨τ6, H6, S6, q⟩ := z; exact fin S6 fun s7 J7 => ⟨_, _, J7, q⟩
      | cont => obtain ⟨τ6, H6, S6, q⟩ := z; exact fin S6 fun s7 J7 => ⟨_, _, J7, q⟩
      | ret u => obtain ⟨v6, τ6, H6, S6, r6, q⟩ := z; exact fin S6 fun s7 J7 => ⟨_, _, _, J7, r6, q⟩
  · cases f with
    | next => obtain ⟨τ, G, J, q⟩ := z; exact wpAny_execs_nil ⟨τ, G, J.ofTry ok, q⟩
    | brk => obtain ⟨τ, G, J, q⟩ := z; exact ⟨τ, G, J.ofTry ok, q⟩
    | cont => obtain ⟨τ, G, J, q⟩ := z; exact ⟨τ, G, J.ofTry ok, q⟩
    | ret u => obtain ⟨v, τ, G, J, r, q⟩ := z; exact ⟨v, τ, G, J.ofTry ok, r, q⟩
end
end Z

end
section -- ZX1
/-! ZX1: a held exception's fields, and of which class it is. -/
namespace Z
open PySem PySem.Spec PyProof.Rows L2
section
variable {prog : Program} {w : World} {A : Around} {E : Value → Shared → Prop} {s : Shared} {K : PySem.W.Frag} {x D : Addr} {ox : Obj} {od : Option Obj}
theorem find_cls {a g : Value} {nm : Str} (hc : PySem.W.hasDictIn K D = true) (ha : PySem.W.findIn K (.ref D) nm = some (some a)) (hg : PySem.W.specialIn K a "__get__" = some (some g)) (ht : PySem.W.takesIn K a = some true) : PySem.W.findObj K D od nm = some (.bind g a) := by
  obtain ⟨cd, hc, _⟩ := PySem.W.any_some hc
  unfold PySem.W.findObj
  rw [hc, Option.bind_some, ha, Option.bind_some]
  cases od <;> simp [hg, ht]
theorem ask_cls {Q : Option Value → Shared → Prop} (C : ExcC K D) (X : K.In s.heap) (I : PySem.W.InstAt s.heap x ox D od) (h : Q (some (.ref D)) { s with toks := s.toks + 1 }) : wpAny (model prog w) A (getAttr? (.ref x) "__class__") Q E s := by
  have ff : PySem.W.findObj K D od "__class__" = some (.bind (.builtin "getset_descriptor.__get__") (.builtin "object.__class__")) := find_cls C.hd C.ha C.hn C.ht
  obtain ⟨hp, g, dr, tk, os⟩ := s
  have y0 := I.type (M := model prog w)
  have y1 := PySem.W.looks_findIn (M := model prog w) X C.hg
  have y2 := PySem.W.looks_findIn (M := model prog w) X C.hk
  have y3 := PySem.W.looks_find (M := model prog w) X I ff
  have ys : PySem.W.Looks (model prog w) hp (isInstance (.ref x) (.type "BaseException")) true := y0.andThen (PySem.W.looks_subIn X C.hs)
  have b0 : (Value.builtin "BaseException.__getattribute__" == Value.builtin "object.__getattribute__") = false := by decide +kernel
  unfold getAttr? getAttrBy? getAttrBy
  refine wpAny_bind (wpAny_mkText (wpAny_bind (wpAny_attempt (wpAny_holding (wpAny_bind (y0.at (wpAny_bind (y1.at ?_))))))))
  show wpAny _ _ (if (onTheHeap (Value.ref D) && Value.builtin "BaseException.__getattribute__" == Value.builtin "object.__getattribute__") = true then _ else _) _ _ _
  rw [show (onTheHeap (Value.ref D) && Value.builtin "BaseException.__getattribute__" == Value.builtin "object.__getattribute__") = false from by rw [b0]; rfl, if_neg Bool.false_ne_true]
  unfold getAttrByItsOwn hookBefore
  refine wpAny_bind ?_
  rw [if_pos (show onTheHeap (Value.ref D) = true from rfl)]
  refine y2.at (wpAny_bind (wpAny_attempt (wpAny_holding ?_)))
  unfold callGetattribute
  rw [show (false && onTheHeap (Value.builtin "BaseException.__getattribute__")) = false from rfl, if_neg Bool.false_ne_true]
  unfold boundAndCalled
  rw [PySem.F.excAttr_ValueError.ga.bind (.ref x)]
  refine wpAny_bind (wpAny_pure ?_)
  refine wpAny_call (codeAny_call_builtin PySem.F.excAttr_ValueError.ga.plain PySem.F.entry_bexc_ga (@PySem.W.check_slot (model prog w) _ _ ⟨hp, g, dr, tk + 1, os⟩ "BaseException.__getattribute__" "BaseException" "__getattribute__" (.ref x) [.str "__class__" tk] [] _ (by decide +kernel) (by decide +kernel) ys (PySem.F.args_bexc_ga (.ref x) (.str "__class__" tk)) ?_))
  unfold Builtin.«object.__getattribute__»
  refine wpAny_bind (wpAny_of_eq (a := ((Value.ref x : Value), [Value.str "__class__" tk])) (by first | rfl | (simp only [slotArgs]; rfl)) (wpAny_bind (wpAny_pure (wpAny_bind (y0.at (wpAny_bind (y3.at ?_)))))))
  show wpAny _ _ (holding [Value.builtin "object.__class__"] (call (.builtin "getset_descriptor.__get__") [.builtin "object.__class__", .ref x, .ref D]) >>= ret) _ _ _
  refine wpAny_bind (wpAny_holding (wpAny_call (PySem.W.class_get (s := ⟨hp, g, dr, tk + 1, os⟩) (ox := ox) (od := od) X I C.hm (wpAny_pure ?_))))
  show wpAny _ _ (handedOut (.ref D)) _ _ _
  rw [PySem.W.handedOut_of (v := .ref D) rfl]
  first
    | exact wpAny_pure (wpAny_pure h)
    | exact wpAny_pure h
    | exact wpAny_pure (wpAny_bind (wpAny_pure (wpAny_pure h)))
theorem kitX_exc (C : ExcC K D) : PySem.W.KitX K (.ref x) (.ref D) (fun h => ∃ ox od, PySem.W.InstAt h x ox D od) where
  ty := fun _ _ _ ⟨_, _, I⟩ => I.type
  it := fun _ _ X _ => by
    obtain ⟨cd, hc, _⟩ := PySem.W.any_some C.hd
    unfold PySem.W.clsIn at hc
    split at hc
    · rename_i ho
      intro A' Q' E' s' k q
      unfold isType loadHead
      exact wpAny_bind (wpAny_loadPart (k _ _ (X _ _ ho)) (wpAny_pure q))
    · cases hc
  ne := fun h tp dd its n sl X htp => by
    obtain ⟨cd, hc, _⟩ := PySem.W.any_some C.hd
    refine Bool.eq_false_iff.mpr fun q => ?_
    have e : D = tp := Value.ref.inj (beq_iff_eq.mp q)
    subst e
    unfold PySem.W.clsIn at hc
    split at hc
    · rename_i ho
      have z := (X _ _ ho).symm.trans htp
      cases z
    · cases hc
  ca := fun X ⟨_, _, I⟩ k => ask_cls C X I k
end
section
variable {X : Cx} {pins : List (Addr × Obj)} {σ : L2.St} {H : Hp} {s : Shared}
theorem exv_inst (I : Inv X pins σ H s) {a D dx : Addr} {fs : List (Str × V)} (ha : H a = some (EXV (.ref D) (some dx) a)) (hd : H dx = some (.xd fs)) : ∃ (oe od : Obj) (mA : Str → Option Value), PySem.W.InstAt s.heap a oe D (some od) ∧ (∀ n, PySem.W.lookIn n od = some (mA n)) ∧ ∀ n, RelO (fs.lookup n) (mA n) := by
  obtain ⟨oe, vs, e1, z, q⟩ := exv_at I.hok ha
  have hx : ObjOk X.prog X.w H s.heap dx (.xd fs) := I.hok dx _ hd
  obtain ⟨mA, hns, hr⟩ := hx
  obtain ⟨od, ho, hl⟩ := lookIn_ns hns
  exact ⟨oe, od, mA, ⟨e1, z.1, by unfold PySem.W.notCls; rw [q] <;> rfl, by rw [z.2]; exact ho⟩, hl, hr⟩
/-- e.n, e a held exception -/
def rXf (K : PySem.W.Frag) (n : Str) : V → Hp → VK → Prop := fun x H Q => ∃ (a D dx : Addr) (fs : List (Str × V)) (v : V), x = .ref a ∧ XfC K D ∧ PySem.W.findIn K (.ref D) n = some none ∧ H a = some (EXV (.ref D) (some dx) a) ∧ H dx = some (.xd fs) ∧ fs.lookup n = some v ∧ Q v H
theorem pe_xv {e : Expr} {te : TE} {pos : Pos} {n : Str} (he : PE X e te) (hb : attributeBase e n X.env (eval e X.env) = eval e X.env) : PE X (.Attribute e n pos) (fun σ H Q => te σ H fun x H1 => rXf X.K n x H1 Q) := by
  refine ⟨fun pins s σ H Q I h => attr_of hb (thn (he.run pins s σ H _ I h) fun u s1 z => ?_)⟩
  obtain ⟨x, H1, I1, rx, a, D, dx, fs, v, rfl, T, hno, ha, hd, l, q⟩ := z
  obtain rfl : u = Value.ref a := rx
  obtain ⟨oe, od, mA, J, hl, hr⟩ := exv_inst I1 ha hd
  obtain ⟨u, hu, ru⟩ := RelO.some_of (v := v) (o := mA n) (by rw [← l]; exact hr n)
  exact HandSPX.exc_get I1.kIn J T.ga T.gg T.exC (PySem.W.findObj_own T.hdC hno rfl (by rw [hl, hu])) (handed_of ru) ⟨v, H1, I1.tok _, ru, q⟩
/-- isinstance(e, c), e a held exception -/
def rIsX (K : PySem.W.Frag) : List V → Hp → VK → Prop := fun xs H Q => ∃ (a D dx : Addr) (fs : List (Str × V)) (c : V) (cv : Value) (b : Bool), xs = [.ref a, c] ∧ ExcC K D ∧ H a = some (EXV (.ref D) (some dx) a) ∧ H dx = some (.xd fs) ∧ (∀ u, RelV c u → u = cv) ∧ PySem.W.kitOne K (.ref D) cv = some b ∧ Q (.bl b) H
theorem call_isX : CallR X (.builtin "isinstance") (rIsX X.K) := by
  intro pins s σ H xs us Q I r h
  obtain ⟨a, D, dx, fs, c, cv, b, rfl, C, ha, hd, hcv, e, q⟩ := h
  cases r with
  | cons rx rr =>
    cases rr with
    | cons rt rr =>
      cases rr
      cases rx
      have ec := hcv _ rt
      subst ec
      obtain ⟨oe, od, mA, J, _, _⟩ := exv_inst I ha hd
      exact PySem.W.kia_one (kitX_exc C) I.kIn ⟨_, _, J⟩ e (fun z => nomatch z) fun tk => ⟨.bl b, H, I.kept (t' := tk) fun _ _ z => z, rfl, q⟩
end
end Z

end
section -- Z0
/-! Z0: plain values, our small heap, how they stand for the layer's values and heap. -/
namespace Z
open PySem PySem.Spec PyProof.Rows L2

inductive PV where
  | non | bl (b : Bool) | int (i : Int) | str (x : Str)
  | tup (xs : List PV) | lst (xs : List PV)
  | dic (ks : List PV) (vs : List PV)
  | ins (c : Str) (ns : List Str) (vs : List PV)
  | exc (c : Str) (ns : List Str) (vs : List PV)
  | ref (n : Nat)
  | fn (f : Str) | cls (c : Str) | ty (n : String)

/-- a thing that may be changed -/
inductive MO where
  | lst (xs : List PV)
  | dic (ks : List PV) (vs : List PV)
  | ins (c : Str) (ns : List Str) (vs : List (Option PV))
  /-- a list that nobody may change (the script) -/
  | frz (xs : List PV)

abbrev Mem := List MO
abbrev Envr := List (Option PV)

/-- an exception's class: one of the text's own, a built-in one -/
inductive Xc where
  | own (c : Str) | bi (n : String)

inductive Res (α : Type) where
  | ok (a : α) (h : Mem)
  | exc (c : Xc) (ns : List Str) (vs : List PV) (h : Mem)
  | bad

def Res.bind {α β : Type} : Res α → (α → Mem → Res β) → Res β
  | .ok a h, k => k a h
  | .exc c ns vs h, _ => .exc c ns vs h
  | .bad, _ => .bad

/-! ### data: no ref within -/
mutual
def isData : PV → Bool
  | .tup xs => areData xs
  | .lst xs => areData xs
  | .dic ks vs => areData ks && areData vs
  | .ins _ _ vs => areData vs
  | .exc _ _ vs => areData vs
  | .ref _ => false
  | _ => true
def areData : List PV → Bool
  | [] => true
  | x :: xs => isData x && areData xs
end

/-- the addresses of our things, by number; others that are ours to change just now -/
structure Rho where
  ix : List Addr
  own : List Addr
def Rho.has (ρ : Rho) (a : Addr) : Prop := a ∈ ρ.ix ∨ a ∈ ρ.own

/-- the classes' and defs' addresses -/
structure Ads where
  cls : Str → Addr
  fn : Str → Addr

section
variable (K : PySem.W.Frag) (ad : Ads)

/-- the written part's tuple -/
def KTup (a : Addr) (xs : List V) : Prop :=
  ∃ (o : Obj) (its : Array Value) (n : Nat), K.lookup a = some o ∧ o.cls = .type "tuple" ∧ o.data = .seq its n ∧ its.size ≤ sizeLine ∧ Vals xs its.toList
def TupAt (ρ : Rho) (H : Hp) (a : Addr) (vs : List V) : Prop := (¬ ρ.has a ∧ H a = some (.tup vs)) ∨ KTup K a vs

/-- an instance with slots at a, its own dict at dx -/
def SlA (ρ : Rho) (H : Hp) (a C dx : Addr) (vs : List (Option V)) : Prop := SlX.Slt H a C dx vs ∧ ¬ ρ.has dx ∧ ∃ o, H dx = some o
mutual
def VR (ρ : Rho) (H : Hp) : PV → V → Prop
  | .non, v => v = .non
  | .bl b, v => v = .bl b
  | .int i, v => v = .int i
  | .str x, v => v = .str x
  | .tup xs, v => ∃ a vs, v = .ref a ∧ TupAt K ρ H a vs ∧ VRs ρ H xs vs
  | .lst xs, v => ∃ a vs, v = .ref a ∧ ¬ ρ.has a ∧ H a = some (.lst vs) ∧ VRs ρ H xs vs
  | .dic _ _, _ => False
  | .ins c ns xs, v => ∃ a dx vs us, v = .ref a ∧ ¬ ρ.has a ∧ SlA ρ H a (ad.cls c) dx vs ∧ ns.length = xs.length ∧ (∀ (i : Nat) (u : V), us[i]? = some u → vs[i]? = some (some u)) ∧ VRs ρ H xs us
  | .exc c ns xs, v => ∃ a dx vs, v = .ref a ∧ ¬ ρ.has a ∧ H a = some (EXV (.ref (ad.cls c)) (some dx) a) ∧ ¬ ρ.has dx ∧ H dx = some (.xd (ns.zip vs)) ∧ ns.length = xs.length ∧ VRs ρ H xs vs
  | .ref n, v => ∃ a, v = .ref a ∧ ρ.ix[n]? = some a
  | .fn f, v => v = .ref (ad.fn f)
  | .cls c, v => v = .ref (ad.cls c)
  | .ty n, v => v = .ty n
def VRs (ρ : Rho) (H : Hp) : List PV → List V → Prop
  | [], vs => vs = []
  | x :: xs, vs => ∃ y ys, vs = y :: ys ∧ VR ρ H x y ∧ VRs ρ H xs ys
end

def OR (ρ : Rho) (H : Hp) (a : Addr) : MO → Prop
  | .lst xs => ∃ vs, H a = some (.lst vs) ∧ VRs K ad ρ H xs vs
  | .dic _ _ => False
  | .ins c ns xs => ∃ dx vs, SlA ρ H a (ad.cls c) dx vs ∧ ns.length = xs.length ∧ ∀ (i : Nat) (p : PV), xs[i]? = some (some p) → ∃ v, vs[i]? = some (some v) ∧ VR K ad ρ H p v
  | .frz xs => ∃ vs, Rd H a (.lst vs) ∧ VRs K ad ρ H xs vs

structure HR (ρ : Rho) (H : Hp) (h : Mem) : Prop where
  len : ρ.ix.length = h.length
  nd : ρ.ix.Nodup
  at_ : ∀ (n : Nat) (o : MO) (a : Addr), h[n]? = some o → ρ.ix[n]? = some a → OR K ad ρ H a o
  own : ∀ a ∈ ρ.own, (∃ o, H a = some o) ∧ a ∉ ρ.ix

structure Keep (ρ : Rho) (H : Hp) (ρ' : Rho) (H' : Hp) : Prop where
  kept : ∀ a o, ¬ ρ.has a → H a = some o → ¬ ρ'.has a ∧ H' a = some o
  ix : ∀ (n : Nat) (a : Addr), ρ.ix[n]? = some a → ρ'.ix[n]? = some a
structure Step (ρ : Rho) (H : Hp) (ρ' : Rho) (H' : Hp) : Prop extends Keep ρ H ρ' H' where
  own : ∀ a ∈ ρ.own, a ∈ ρ'.own ∧ H' a = H a

theorem Keep.trans {ρ H ρ1 H1 ρ2 H2} (a : Keep ρ H ρ1 H1) (b : Keep ρ1 H1 ρ2 H2) : Keep ρ H ρ2 H2 :=
  ⟨fun c o hn e => let ⟨n1, e1⟩ := a.kept c o hn e; b.kept c o n1 e1, fun n c e => b.ix n c (a.ix n c e)⟩
theorem Step.refl (ρ : Rho) (H : Hp) : Step ρ H ρ H := ⟨⟨fun _ _ n e => ⟨n, e⟩, fun _ _ e => e⟩, fun _ h => ⟨h, rfl⟩⟩
theorem Step.trans {ρ H ρ1 H1 ρ2 H2} (a : Step ρ H ρ1 H1) (b : Step ρ1 H1 ρ2 H2) : Step ρ H ρ2 H2 :=
  ⟨a.toKeep.trans b.toKeep, fun c h => let ⟨h1, e1⟩ := a.own c h; let ⟨h2, e2⟩ := b.own c h1; ⟨h2, e2.trans e1⟩⟩
theorem Keep.out {ρ H ρ1 H1} (s : Keep ρ H ρ1 H1) {a : Addr} {o : HO} (hn : ¬ ρ.has a) (e : H a = some o) : ¬ ρ1.has a := (s.kept a o hn e).1
theorem Keep.keep {ρ H ρ1 H1} (s : Keep ρ H ρ1 H1) (a : Addr) (o : HO) (hn : ¬ ρ.has a) (e : H a = some o) : H1 a = some o := (s.kept a o hn e).2
theorem Keep.get {ρ H ρ' H'} (s : Keep ρ H ρ' H') {n : Nat} {a : Addr} (e : ρ.ix[n]? = some a) : ρ'.ix[n]? = some a := s.ix n a e
theorem Keep.tup {K : PySem.W.Frag} {ρ H ρ' H'} (s : Keep ρ H ρ' H') {a : Addr} {vs : List V} (r : TupAt K ρ H a vs) : TupAt K ρ' H' a vs := by
  rcases r with ⟨hn, r⟩ | r
  · exact .inl ⟨s.out hn r, s.keep _ _ hn r⟩
  · exact .inr r
theorem SlA.keep {ρ H ρ' H'} (s : Keep ρ H ρ' H') {a C dx : Addr} {vs : List (Option V)} (e : H' a = H a) (r : SlA ρ H a C dx vs) : SlA ρ' H' a C dx vs := by
  obtain ⟨h1, h2, o, h3⟩ := r
  obtain ⟨k1, k2⟩ := s.kept dx o h2 h3
  refine ⟨?_, k1, o, k2⟩
  rcases h1 with ⟨a1, a2⟩ | ⟨a1, a2⟩
  · exact .inl ⟨e.trans a1, a2⟩
  · exact .inr ⟨e.trans a1, by rw [k2, ← h3]; exact a2⟩
theorem SlA.some {ρ H} {a C dx : Addr} {vs : List (Option V)} (r : SlA ρ H a C dx vs) : ∃ o, H a = some o := by
  rcases r.1 with ⟨a1, _⟩ | ⟨a1, _⟩ <;> exact ⟨_, a1⟩
theorem SlA.keepA {ρ H ρ' H'} (s : Keep ρ H ρ' H') {a C dx : Addr} {vs : List (Option V)} (hn : ¬ ρ.has a) (r : SlA ρ H a C dx vs) : ¬ ρ'.has a ∧ SlA ρ' H' a C dx vs := by
  obtain ⟨o, e⟩ := r.some
  obtain ⟨k1, k2⟩ := s.kept a o hn e
  exact ⟨k1, r.keep s (k2.trans e.symm)⟩
mutual
theorem VR.monoK {K : PySem.W.Frag} {ad : Ads} {ρ H ρ' H'} (s : Keep ρ H ρ' H') : ∀ (p : PV) {v : V}, VR K ad ρ H p v → VR K ad ρ' H' p v
  | .non, _, h => h
  | .bl _, _, h => h
  | .int _, _, h => h
  | .str _, _, h => h
  | .tup xs, _, ⟨a, vs, e, t, r⟩ => ⟨a, vs, e, s.tup t, VRs.monoK s xs r⟩
  | .lst xs, _, ⟨a, vs, e, hn, t, r⟩ => ⟨a, vs, e, s.out hn t, s.keep _ _ hn t, VRs.monoK s xs r⟩
  | .dic _ _, _, h => h
  | .ins c ns xs, _, ⟨a, dx, vs, us, e, hn, t, l, g, r⟩ => ⟨a, dx, vs, us, e, (t.keepA s hn).1, (t.keepA s hn).2, l, g, VRs.monoK s xs r⟩
  | .exc c ns xs, _, ⟨a, dx, vs, e, hn, t, hn2, t2, l, r⟩ => ⟨a, dx, vs, e, s.out hn t, s.keep _ _ hn t, s.out hn2 t2, s.keep _ _ hn2 t2, l, VRs.monoK s xs r⟩
  | .ref n, _, ⟨a, e, r⟩ => ⟨a, e, s.get r⟩
  | .fn _, _, h => h
  | .cls _, _, h => h
  | .ty _, _, h => h
theorem VRs.monoK {K : PySem.W.Frag} {ad : Ads} {ρ H ρ' H'} (s : Keep ρ H ρ' H') : ∀ (ps : List PV) {vs : List V}, VRs K ad ρ H ps vs → VRs K ad ρ' H' ps vs
  | [], _, h => h
  | x :: xs, _, ⟨y, ys, e, a, b⟩ => ⟨y, ys, e, VR.monoK s x a, VRs.monoK s xs b⟩
end
theorem VR.mono {K : PySem.W.Frag} {ad : Ads} {ρ H ρ' H'} (s : Step ρ H ρ' H') (p : PV) {v : V} (r : VR K ad ρ H p v) : VR K ad ρ' H' p v := VR.monoK s.toKeep p r
theorem VRs.mono {K : PySem.W.Frag} {ad : Ads} {ρ H ρ' H'} (s : Step ρ H ρ' H') (ps : List PV) {vs : List V} (r : VRs K ad ρ H ps vs) : VRs K ad ρ' H' ps vs := VRs.monoK s.toKeep ps r
theorem OR.some {K : PySem.W.Frag} {ad : Ads} {ρ H} {a : Addr} {o : MO} (q : OR K ad ρ H a o) : ∃ o, H a = some o := by
  cases o with
  | lst xs => obtain ⟨vs, e, _⟩ := q; exact ⟨_, e⟩
  | dic _ _ => exact q.elim
  | ins c ns xs => obtain ⟨dx, vs, e, _⟩ := q; exact e.some
  | frz xs =>
    obtain ⟨vs, e | ⟨o, e⟩, _⟩ := q
    · exact ⟨_, e⟩
    · exact ⟨_, e⟩
theorem HR.mem {K : PySem.W.Frag} {ad : Ads} {ρ : Rho} {H : Hp} {h : Mem} (r : HR K ad ρ H h) {a : Addr} (ha : ρ.has a) : ∃ o, H a = some o := by
  rcases ha with ha | ha
  · obtain ⟨n, hn, e⟩ := List.mem_iff_getElem.mp ha
    have hl : n < h.length := by rw [← r.len]; exact hn
    exact (r.at_ n h[n] a (List.getElem?_eq_getElem hl) (by rw [List.getElem?_eq_getElem hn, e])).some
  · exact (r.own a ha).1
theorem OR.monoK {K : PySem.W.Frag} {ad : Ads} {ρ H ρ' H'} (s : Keep ρ H ρ' H') {a : Addr} {o : MO} (e : H' a = H a) (r : OR K ad ρ H a o) : OR K ad ρ' H' a o := by
  cases o with
  | lst xs => obtain ⟨vs, e1, r⟩ := r; exact ⟨vs, e.trans e1, VRs.monoK s _ r⟩
  | dic _ _ => exact r
  | ins c ns xs => obtain ⟨dx, vs, e1, l, r⟩ := r; exact ⟨dx, vs, e1.keep s e, l, fun i p hp => let ⟨v, q1, q2⟩ := r i p hp; ⟨v, q1, VR.monoK s p q2⟩⟩
  | frz xs => obtain ⟨vs, e1, r⟩ := r; exact ⟨vs, e1.elim (fun z => .inl (e.trans z)) (fun ⟨o, z⟩ => .inr ⟨o, e.trans z⟩), VRs.monoK s _ r⟩
/-- a new thing that is not ours to change -/
theorem HR.laid {K : PySem.W.Frag} {ad : Ads} {ρ : Rho} {H : Hp} {h : Mem} (r : HR K ad ρ H h) {p : Addr} (hp : H p = none) (o : HO) :
    ¬ ρ.has p ∧ Step ρ H ρ (upd H p o) ∧ HR K ad ρ (upd H p o) h := by
  have hn : ¬ ρ.has p := fun hm => by obtain ⟨o, e⟩ := r.mem hm; rw [hp] at e; cases e
  have hne : ∀ a, ρ.has a → a ≠ p := fun a ha z => hn (z ▸ ha)
  have st : Step ρ H ρ (upd H p o) := ⟨⟨fun a u n e => ⟨n, by rw [upd_ne (ne_of_none e hp)]; exact e⟩, fun _ _ e => e⟩, fun a ha => ⟨ha, upd_ne (hne a (.inr ha))⟩⟩
  refine ⟨hn, st, r.len, r.nd, fun n u a e1 e2 => OR.monoK st.toKeep (upd_ne (hne a (.inl (List.mem_of_getElem? e2)))) (r.at_ n u a e1 e2), fun a ha => ?_⟩
  rw [upd_ne (hne a (.inr ha))]
  exact r.own a ha
/-- a new thing that is ours for a while -/
theorem HR.lent {K : PySem.W.Frag} {ad : Ads} {ρ : Rho} {H : Hp} {h : Mem} (r : HR K ad ρ H h) {p : Addr} (hp : H p = none) (o : HO) :
    Step ρ H ⟨ρ.ix, p :: ρ.own⟩ (upd H p o) ∧ HR K ad ⟨ρ.ix, p :: ρ.own⟩ (upd H p o) h := by
  have hn : ¬ ρ.has p := fun hm => by obtain ⟨o, e⟩ := r.mem hm; rw [hp] at e; cases e
  have hne : ∀ a, ρ.has a → a ≠ p := fun a ha z => hn (z ▸ ha)
  have st : Step ρ H ⟨ρ.ix, p :: ρ.own⟩ (upd H p o) := by
    refine ⟨⟨fun a u n e => ⟨fun z => ?_, by rw [upd_ne (ne_of_none e hp)]; exact e⟩, fun _ _ e => e⟩, fun a ha => ⟨List.mem_cons_of_mem _ ha, upd_ne (hne a (.inr ha))⟩⟩
    rcases z with z | z
    · exact n (.inl z)
    · rcases List.mem_cons.mp z with z | z
      · subst z; rw [hp] at e; cases e
      · exact n (.inr z)
  refine ⟨st, r.len, r.nd, fun n u a e1 e2 => OR.monoK st.toKeep (upd_ne (hne a (.inl (List.mem_of_getElem? e2)))) (r.at_ n u a e1 e2), fun a ha => ?_⟩
  rcases List.mem_cons.mp ha with z | z
  · subst z; exact ⟨⟨o, upd_same⟩, fun z => hn (.inl z)⟩
  · rw [upd_ne (hne a (.inr z))]
    exact r.own a z
/-- it is changed -/
theorem HR.turned {K : PySem.W.Frag} {ad : Ads} {ρ : Rho} {H : Hp} {h : Mem} (r : HR K ad ρ H h) {p : Addr} (hp : p ∈ ρ.own) (o : HO) : Keep ρ H ρ (upd H p o) ∧ HR K ad ρ (upd H p o) h := by
  have kp : Keep ρ H ρ (upd H p o) := ⟨fun a u n e => ⟨n, by rw [upd_ne (fun z => n (by rw [z]; exact .inr hp))]; exact e⟩, fun _ _ e => e⟩
  refine ⟨kp, r.len, r.nd, fun n u a e1 e2 => OR.monoK kp (upd_ne (fun z => (r.own p hp).2 (by rw [← z]; exact List.mem_of_getElem? e2))) (r.at_ n u a e1 e2), fun a ha => ⟨?_, (r.own a ha).2⟩⟩
  by_cases e : a = p
  · subst e; exact ⟨o, upd_same⟩
  · rw [upd_ne e]; exact (r.own a ha).1
/-- .. and given away -/
theorem HR.given {K : PySem.W.Frag} {ad : Ads} {ρ : Rho} {H : Hp} {h : Mem} (r : HR K ad ρ H h) {p : Addr} (hp : p ∈ ρ.own) : Keep ρ H ⟨ρ.ix, ρ.own.filter (· ≠ p)⟩ H ∧ HR K ad ⟨ρ.ix, ρ.own.filter (· ≠ p)⟩ H h ∧ ¬ (⟨ρ.ix, ρ.own.filter (· ≠ p)⟩ : Rho).has p := by
  have kp : Keep ρ H ⟨ρ.ix, ρ.own.filter (· ≠ p)⟩ H := by
    refine ⟨fun a u n e => ⟨fun z => n ?_, e⟩, fun _ _ e => e⟩
    rcases z with z | z
    · exact .inl z
    · exact .inr (List.mem_filter.mp z).1
  refine ⟨kp, ⟨r.len, r.nd, fun n u a e1 e2 => OR.monoK kp rfl (r.at_ n u a e1 e2), fun a ha => r.own a (List.mem_filter.mp ha).1⟩, fun z => ?_⟩
  rcases z with z | z
  · exact (r.own p hp).2 z
  · have := (List.mem_filter.mp z).2
    simp at this
theorem VRs.length {K : PySem.W.Frag} {ad : Ads} {ρ H} : ∀ {ps : List PV} {vs : List V}, VRs K ad ρ H ps vs → ps.length = vs.length
  | [], _, h => by cases h; rfl
  | _ :: _, _, ⟨_, _, e, _, r⟩ => by cases e; simp [VRs.length r]
theorem VRs.get {K : PySem.W.Frag} {ad : Ads} {ρ H} : ∀ {ps : List PV} {vs : List V} {i : Nat} {p : PV}, VRs K ad ρ H ps vs → ps[i]? = some p → ∃ v, vs[i]? = some v ∧ VR K ad ρ H p v
  | [], _, _, _, _, e => by simp at e
  | _ :: _, _, 0, _, ⟨y, ys, e, a, r⟩, q => by cases e; simp at q; subst q; exact ⟨y, rfl, a⟩
  | _ :: _, _, i + 1, _, ⟨y, ys, e, a, r⟩, q => by
    cases e
    obtain ⟨v, h1, h2⟩ := VRs.get (i := i) r (by simpa using q)
    exact ⟨v, by simpa using h1, h2⟩
theorem VRs.get' {K : PySem.W.Frag} {ad : Ads} {ρ H} : ∀ {ps : List PV} {vs : List V} {i : Nat} {v : V}, VRs K ad ρ H ps vs → vs[i]? = some v → ∃ p, ps[i]? = some p ∧ VR K ad ρ H p v
  | [], _, _, _, h, e => by cases h; simp at e
  | p :: _, _, 0, _, ⟨y, ys, e, a, r⟩, q => by cases e; simp at q; subst q; exact ⟨p, rfl, a⟩
  | _ :: _, _, i + 1, _, ⟨y, ys, e, a, r⟩, q => by
    cases e
    obtain ⟨v, h1, h2⟩ := VRs.get' (i := i) r (by simpa using q)
    exact ⟨v, by simpa using h1, h2⟩
theorem VRs.append {K : PySem.W.Frag} {ad : Ads} {ρ H} : ∀ {ps qs : List PV} {vs us : List V}, VRs K ad ρ H ps vs → VRs K ad ρ H qs us → VRs K ad ρ H (ps ++ qs) (vs ++ us)
  | [], _, _, _, h, q => by cases h; exact q
  | _ :: _, _, _, _, ⟨y, ys, e, a, r⟩, q => by cases e; exact ⟨y, _, rfl, a, VRs.append r q⟩
theorem VRs.drop {K : PySem.W.Frag} {ad : Ads} {ρ H} : ∀ (n : Nat) {ps : List PV} {vs : List V}, VRs K ad ρ H ps vs → VRs K ad ρ H (ps.drop n) (vs.drop n)
  | 0, _, _, h => h
  | _ + 1, [], _, h => by cases h; exact rfl
  | n + 1, _ :: _, _, ⟨y, ys, e, a, r⟩ => by cases e; exact VRs.drop n r
theorem VRs.take {K : PySem.W.Frag} {ad : Ads} {ρ H} : ∀ (n : Nat) {ps : List PV} {vs : List V}, VRs K ad ρ H ps vs → VRs K ad ρ H (ps.take n) (vs.take n)
  | 0, _, _, _ => rfl
  | _ + 1, [], _, h => by cases h; exact rfl
  | n + 1, _ :: _, _, ⟨y, ys, e, a, r⟩ => by cases e; exact ⟨y, _, rfl, a, VRs.take n r⟩
theorem VRs.set {K : PySem.W.Frag} {ad : Ads} {ρ H} {p : PV} {v : V} (q : VR K ad ρ H p v) : ∀ (n : Nat) {ps : List PV} {vs : List V}, VRs K ad ρ H ps vs → VRs K ad ρ H (ps.set n p) (vs.set n v)
  | _, [], _, h => by cases h; exact rfl
  | 0, _ :: _, _, ⟨y, ys, e, a, r⟩ => by cases e; exact ⟨v, ys, rfl, q, r⟩
  | n + 1, _ :: _, _, ⟨y, ys, e, a, r⟩ => by cases e; exact ⟨y, _, rfl, a, VRs.set q n r⟩
theorem VRs.reverse {K : PySem.W.Frag} {ad : Ads} {ρ H} : ∀ {ps : List PV} {vs : List V}, VRs K ad ρ H ps vs → VRs K ad ρ H ps.reverse vs.reverse
  | [], _, h => by cases h; exact rfl
  | _ :: _, _, ⟨y, ys, e, a, r⟩ => by
    cases e
    rw [List.reverse_cons, List.reverse_cons]
    exact VRs.append (VRs.reverse r) ⟨y, [], rfl, a, rfl⟩
end
end Z

end
section -- Z1
/-! Z1: what a piece of syntax gives, by our values, and that the layer's reading follows from it. -/
namespace Z
open PySem PySem.Spec PyProof.Rows L2

abbrev Ev := Mem → Envr → Mem → Res PV
abbrev EvT := Mem → Envr → Mem → Res Bool
abbrev EvA := Mem → Envr → Mem → Res (List PV)

section
variable (K : PySem.W.Frag) (ad : Ads)
def ER (ρ : Rho) (H : Hp) (env : Envr) (σ : L2.St) : Prop :=
  env.length = σ.length ∧ ∀ (i : Nat) (v : PV), env[i]? = some (some v) → ∃ v', σ[i]? = some (some v') ∧ VR K ad ρ H v v'
def XR (ρ : Rho) (H : Hp) (c : Xc) (ns : List Str) (vs : List PV) (cl : Value) (d : Option Addr) : Prop :=
  match c with
  | .own c => cl = .ref (ad.cls c) ∧ ∃ dx us, d = some dx ∧ ¬ ρ.has dx ∧ H dx = some (.xd (ns.zip us)) ∧ ns.length = vs.length ∧ VRs K ad ρ H vs us
  | .bi n => cl = .type n ∧ d = none ∧ ns = [] ∧ vs = []
def SimR {α : Type} (W : XK) (R : Mem) (ρ : Rho) (H : Hp) (r : Res α) (P : Rho → Hp → α → Mem → Prop) : Prop :=
  match r with
  | .ok v h' => ∀ ρ' H', Step ρ H ρ' H' → HR K ad ρ' H' (R ++ h') → P ρ' H' v h'
  | .exc c ns vs h' => ∀ ρ' H' cl d, Step ρ H ρ' H' → HR K ad ρ' H' (R ++ h') → XR K ad ρ' H' c ns vs cl d → W cl d H'
  | .bad => False
abbrev WX' := WX
def simE (W : WX) (e : Ev) : TE := fun σ H Q => ∃ ρ R env h, ER K ad ρ H env σ ∧ HR K ad ρ H (R ++ h) ∧
  SimR K ad (fun c d H' => W c d σ H') R ρ H (e R env h) (fun ρ' H' v _ => ∀ v', VR K ad ρ' H' v v' → Q v' H')
def simT (W : WX) (e : EvT) : TT := fun σ H Q => ∃ ρ R env h, ER K ad ρ H env σ ∧ HR K ad ρ H (R ++ h) ∧
  SimR K ad (fun c d H' => W c d σ H') R ρ H (e R env h) (fun _ H' v _ => Q v H')
def simA (W : WX) (e : EvA) : TA := fun σ H Q => ∃ ρ R env h, ER K ad ρ H env σ ∧ HR K ad ρ H (R ++ h) ∧
  SimR K ad (fun c d H' => W c d σ H') R ρ H (e R env h) (fun ρ' H' vs _ => ∀ vs', VRs K ad ρ' H' vs vs' → Q vs' H')
end

section
variable {K : PySem.W.Frag} {ad : Ads}
theorem ER.mono {ρ H ρ' H'} {env : Envr} {σ : L2.St} (s : Step ρ H ρ' H') (e : ER K ad ρ H env σ) : ER K ad ρ' H' env σ :=
  ⟨e.1, fun i v q => let ⟨v', a, b⟩ := e.2 i v q; ⟨v', a, VR.mono s _ b⟩⟩
theorem ER.monoK {ρ H ρ' H'} {env : Envr} {σ : L2.St} (s : Keep ρ H ρ' H') (e : ER K ad ρ H env σ) : ER K ad ρ' H' env σ :=
  ⟨e.1, fun i v q => let ⟨v', a, b⟩ := e.2 i v q; ⟨v', a, VR.monoK s _ b⟩⟩
theorem SimR.bind {α β : Type} {W : XK} {R : Mem} {ρ : Rho} {H : Hp} {r : Res α} {k : α → Mem → Res β} {P : Rho → Hp → β → Mem → Prop} (s : SimR K ad W R ρ H (r.bind k) P) :
    SimR K ad W R ρ H r (fun ρ' H' v h' => SimR K ad W R ρ' H' (k v h') P) := by
  cases r with
  | ok v h' =>
    intro ρ' H' st hr
    have s : SimR K ad W R ρ H (k v h') P := s
    cases e : k v h' with
    | ok u h2 => rw [e] at s; exact fun ρ2 H2 st2 hr2 => s ρ2 H2 (st.trans st2) hr2
    | exc c ns vs h2 => rw [e] at s; exact fun ρ2 H2 cl d st2 hr2 x => s ρ2 H2 cl d (st.trans st2) hr2 x
    | bad => rw [e] at s; exact s
  | exc c ns vs h' => exact s
  | bad => exact s
theorem SimR.imp {α : Type} {W : XK} {R : Mem} {ρ : Rho} {H : Hp} {r : Res α} {P P' : Rho → Hp → α → Mem → Prop} (s : SimR K ad W R ρ H r P)
    (h : ∀ ρ' H' v h', Step ρ H ρ' H' → HR K ad ρ' H' (R ++ h') → P ρ' H' v h' → P' ρ' H' v h') : SimR K ad W R ρ H r P' := by
  cases r with
  | ok v h' => exact fun ρ' H' st hr => h ρ' H' v h' st hr (s ρ' H' st hr)
  | exc c ns vs h' => exact s
  | bad => exact s
/-- nothing left to run -/
theorem SimR.here {α : Type} {W : XK} {R : Mem} {ρ : Rho} {H : Hp} {v : α} {h : Mem} {P : Rho → Hp → α → Mem → Prop} (s : SimR K ad W R ρ H (.ok v h) P) (hr : HR K ad ρ H (R ++ h)) : P ρ H v h :=
  s ρ H (Step.refl ρ H) hr
end

theorem PE.imp {X : Cx} {e : Expr} {t t' : TE} (h : PE X e t) (i : ∀ σ H Q, t' σ H Q → t σ H Q) : PE X e t' := ⟨fun pins s σ H Q I q => h.run pins s σ H Q I (i σ H Q q)⟩
theorem PT.imp {X : Cx} {e : Expr} {t t' : TT} (h : PT X e t) (i : ∀ σ H Q, t' σ H Q → t σ H Q) : PT X e t' := ⟨fun pins s σ H Q I q => h.run pins s σ H Q I (i σ H Q q)⟩
theorem PW.imp {X : Cx} {e : Expr} {t t' : TT} (h : PW X e t) (i : ∀ σ H Q, t' σ H Q → t σ H Q) : PW X e t' := ⟨fun wh pins s σ H Q I q => h.run wh pins s σ H Q I (i σ H Q q)⟩
theorem PA.imp {X : Cx} {e : List Expr} {t t' : TA} (h : PA X e t) (i : ∀ σ H Q, t' σ H Q → t σ H Q) : PA X e t' := ⟨fun pos pins s σ H Q I q => h.run pos pins s σ H Q I (i σ H Q q)⟩
theorem PS.imp {X : Cx} {e : Stmt} {t t' : TS} (h : PS X e t) (i : ∀ D σ H, t' D σ H → t D σ H) : PS X e t' := ⟨fun pins s σ H D I q => h.run pins s σ H D I (i D σ H q)⟩
theorem PSs.imp {X : Cx} {e : List Stmt} {t t' : TS} (h : PSs X e t) (i : ∀ D σ H, t' D σ H → t D σ H) : PSs X e t' := ⟨fun pins s σ H D I q => h.run pins s σ H D I (i D σ H q)⟩

/-! ### combinators -/
def cC (v : PV) : Ev := fun _ _ h => .ok v h
def cVar (i : Nat) : Ev := fun _ env h => match env[i]? with
  | some (some v) => .ok v h
  | _ => .bad
def liftO {α : Type} (h : Mem) : Option α → Res α
  | some v => .ok v h
  | none => .bad
def cOp1 (f : Mem → PV → Option PV) (a : Ev) : Ev := fun R env h => (a R env h).bind fun x h1 => liftO h1 (f (R ++ h1) x)
def cOp2 (f : Mem → PV → PV → Option PV) (a b : Ev) : Ev := fun R env h => (a R env h).bind fun x h1 => (b R env h1).bind fun y h2 => liftO h2 (f (R ++ h2) x y)
def cNil : EvA := fun _ _ h => .ok [] h
def cCons (a : Ev) (r : EvA) : EvA := fun R env h => (a R env h).bind fun x h1 => (r R env h1).bind fun xs h2 => .ok (x :: xs) h2
def cFn (f : Mem → List PV → Option PV) (a : EvA) : Ev := fun R env h => (a R env h).bind fun xs h1 => liftO h1 (f (R ++ h1) xs)
def cIf (t : EvT) (a b : Ev) : Ev := fun R env h => (t R env h).bind fun c h1 => if c = true then a R env h1 else b R env h1
def tAnd2 (t u : EvT) : EvT := fun R env h => (t R env h).bind fun c h1 => if c = true then u R env h1 else .ok false h1
def tOr2 (t u : EvT) : EvT := fun R env h => (t R env h).bind fun c h1 => if c = true then .ok true h1 else u R env h1
def tNot1 (t : EvT) : EvT := fun R env h => (t R env h).bind fun c h1 => .ok (!c) h1
/-- a value's truth -/
def truth (m : Mem) : PV → Option Bool
  | .non => some false
  | .bl b => some b
  | .int i => some (i != 0)
  | .str y => if y.length ≤ sizeLine then some ((y.length : Int) != 0) else none
  | .tup xs => some (!xs.isEmpty)
  | .lst xs => some (!xs.isEmpty)
  | .ref n => match m[n]? with
    | some (.lst xs) => some (!xs.isEmpty)
    | some (.frz xs) => some (!xs.isEmpty)
    | _ => none
  | _ => none
def cTruth (a : Ev) : EvT := fun R env h => (a R env h).bind fun x h1 => liftO h1 (truth (R ++ h1) x)
def cAndV (a b : Ev) : Ev := fun R env h => (a R env h).bind fun x h1 => match truth (R ++ h1) x with
  | some true => b R env h1
  | some false => .ok x h1
  | none => .bad
def cOrV (a b : Ev) : Ev := fun R env h => (a R env h).bind fun x h1 => match truth (R ++ h1) x with
  | some true => .ok x h1
  | some false => b R env h1
  | none => .bad
def cNotV (a : Ev) : Ev := fun R env h => (a R env h).bind fun x h1 => liftO h1 ((truth (R ++ h1) x).map fun b => .bl (!b))
def cChain (f g : Mem → PV → PV → Option PV) (a b c : Ev) : Ev := fun R env h => (a R env h).bind fun x h1 => (b R env h1).bind fun y h2 => match f (R ++ h2) x y with
  | some (.bl true) => (c R env h2).bind fun z h3 => liftO h3 (g (R ++ h3) y z)
  | some (.bl false) => .ok (.bl false) h2
  | _ => .bad

section
variable {X : Cx} {ad : Ads} {W : WX}
/-- two values in, one out, by the layer -/
def rOp2 (K : PySem.W.Frag) (ad : Ads) (f : Mem → PV → PV → Option PV) : R2 := fun x y H Q => ∃ ρ m px py v, HR K ad ρ H m ∧ VR K ad ρ H px x ∧ VR K ad ρ H py y ∧ f m px py = some v ∧
  ∀ ρ' H' v', Step ρ H ρ' H' → HR K ad ρ' H' m → VR K ad ρ' H' v v' → Q v' H'
def rOp1 (K : PySem.W.Frag) (ad : Ads) (f : Mem → PV → Option PV) : V → Hp → VK → Prop := fun x H Q => ∃ ρ m px v, HR K ad ρ H m ∧ VR K ad ρ H px x ∧ f m px = some v ∧
  ∀ ρ' H' v', Step ρ H ρ' H' → HR K ad ρ' H' m → VR K ad ρ' H' v v' → Q v' H'
def rFn (K : PySem.W.Frag) (ad : Ads) (f : Mem → List PV → Option PV) : List V → Hp → VK → Prop := fun xs H Q => ∃ ρ m ps v, HR K ad ρ H m ∧ VRs K ad ρ H ps xs ∧ f m ps = some v ∧
  ∀ ρ' H' v', Step ρ H ρ' H' → HR K ad ρ' H' m → VR K ad ρ' H' v v' → Q v' H'

theorem SimR.lift {α : Type} {K : PySem.W.Frag} {W : XK} {R : Mem} {ρ : Rho} {H : Hp} {o : Option α} {h : Mem} {P : Rho → Hp → α → Mem → Prop} (s : SimR K ad W R ρ H (liftO h o) P) : ∃ v, o = some v ∧ ∀ ρ' H', Step ρ H ρ' H' → HR K ad ρ' H' (R ++ h) → P ρ' H' v h := by
  cases o with
  | none => exact s.elim
  | some v => exact ⟨v, rfl, s⟩

theorem sim_op2 {a b : Ev} {f : Mem → PV → PV → Option PV} {σ : L2.St} {H : Hp} {Q : VK} (h : simE X.K ad W (cOp2 f a b) σ H Q) : tOp (rOp2 X.K ad f) (simE X.K ad W a) (simE X.K ad W b) σ H Q := by
  obtain ⟨ρ, R, env, h0, er, hr, s⟩ := h
  refine ⟨ρ, R, env, h0, er, hr, (SimR.bind s).imp fun ρ1 H1 x h1 st1 hr1 s1 x' vx => ?_⟩
  refine ⟨ρ1, R, env, h1, er.mono st1, hr1, (SimR.bind s1).imp fun ρ2 H2 y h2 st2 hr2 s2 y' vy => ?_⟩
  obtain ⟨v, e, k⟩ := SimR.lift s2
  exact ⟨ρ2, R ++ h2, x, y, v, hr2, VR.mono st2 _ vx, vy, e, fun ρ3 H3 v' st3 hr3 => k ρ3 H3 st3 hr3 v'⟩
theorem sim_op1 {a : Ev} {f : Mem → PV → Option PV} {σ : L2.St} {H : Hp} {Q : VK} (h : simE X.K ad W (cOp1 f a) σ H Q) : tUn (rOp1 X.K ad f) (simE X.K ad W a) σ H Q := by
  obtain ⟨ρ, R, env, h0, er, hr, s⟩ := h
  refine ⟨ρ, R, env, h0, er, hr, (SimR.bind s).imp fun ρ1 H1 x h1 st1 hr1 s1 x' vx => ?_⟩
  obtain ⟨v, e, k⟩ := SimR.lift s1
  exact ⟨ρ1, R ++ h1, x, v, hr1, vx, e, fun ρ3 H3 v' st3 hr3 => k ρ3 H3 st3 hr3 v'⟩
theorem sim_fn {a : EvA} {f : Mem → List PV → Option PV} {σ : L2.St} {H : Hp} {Q : VK} (h : simE X.K ad W (cFn f a) σ H Q) : simA X.K ad W a σ H fun xs H1 => rFn X.K ad f xs H1 Q := by
  obtain ⟨ρ, R, env, h0, er, hr, s⟩ := h
  refine ⟨ρ, R, env, h0, er, hr, (SimR.bind s).imp fun ρ1 H1 x h1 st1 hr1 s1 x' vx => ?_⟩
  obtain ⟨v, e, k⟩ := SimR.lift s1
  exact ⟨ρ1, R ++ h1, x, v, hr1, vx, e, fun ρ3 H3 v' st3 hr3 => k ρ3 H3 st3 hr3 v'⟩

/-! ### the rules -/
theorem z_var {i : Nat} {x : Str} {pos : Pos} (hN : X.N[i]? = some x) (hv : Vis X.env.scope x) (hd : (x == ("__debug__" : Str)) = false) (hcd : (x == ("__classdict__" : Str)) = false) : PE X (.Name x pos) (simE X.K ad W (cVar i)) := by
  refine PE.imp (pe_var hN hv hd hcd) fun σ H Q h => ?_
  obtain ⟨ρ, R, env, h0, er, hr, s⟩ := h
  unfold cVar at s
  cases e : env[i]? with
  | none => rw [e] at s; exact s.elim
  | some o =>
    rw [e] at s
    cases o with
    | none => exact s.elim
    | some v =>
      obtain ⟨v', e1, r⟩ := er.2 i v e
      exact ⟨v', e1, SimR.here s hr v' r⟩
theorem z_const {e : Expr} {v : V} {p : PV} (h : PE X e (tC v)) (r : ∀ ρ H, VR X.K ad ρ H p v) : PE X e (simE X.K ad W (cC p)) := by
  refine PE.imp h fun σ H Q h => ?_
  obtain ⟨ρ, R, env, h0, er, hr, s⟩ := h
  exact SimR.here s hr v (r _ _)
theorem z_if {c a b : Expr} {t : EvT} {ea eb : Ev} {pos : Pos} (hc : PT X c (simT X.K ad W t)) (ha : PE X a (simE X.K ad W ea)) (hb : PE X b (simE X.K ad W eb)) : PE X (.IfExp c a b pos) (simE X.K ad W (cIf t ea eb)) := by
  refine PE.imp (pe_ifExp hc ha hb) fun σ H Q h => ?_
  obtain ⟨ρ, R, env, h0, er, hr, s⟩ := h
  refine ⟨ρ, R, env, h0, er, hr, (SimR.bind s).imp fun ρ1 H1 x h1 st1 hr1 s1 => ?_⟩
  cases x with
  | true => exact ⟨ρ1, R, env, h1, er.mono st1, hr1, s1⟩
  | false => exact ⟨ρ1, R, env, h1, er.mono st1, hr1, s1⟩
theorem z_nil : PA X [] (simA X.K ad W cNil) := by
  refine PA.imp pa_nil fun σ H Q h => ?_
  obtain ⟨ρ, R, env, h0, er, hr, s⟩ := h
  exact SimR.here s hr [] rfl
theorem z_cons {e : Expr} {es : List Expr} {a : Ev} {r : EvA} (ha : PE X e (simE X.K ad W a)) (hr : PA X es (simA X.K ad W r)) (hs : starEach (e :: es) X.env = (false, eval e X.env) :: starEach es X.env) : PA X (e :: es) (simA X.K ad W (cCons a r)) := by
  refine PA.imp (pa_cons ha hr hs) fun σ H Q h => ?_
  obtain ⟨ρ, R, env, h0, er, hr, s⟩ := h
  refine ⟨ρ, R, env, h0, er, hr, (SimR.bind s).imp fun ρ1 H1 x h1 st1 hr1 s1 x' vx => ?_⟩
  refine ⟨ρ1, R, env, h1, er.mono st1, hr1, (SimR.bind s1).imp fun ρ2 H2 y h2 st2 hr2 s2 y' vy => ?_⟩
  exact SimR.here s2 hr2 _ ⟨x', y', rfl, VR.mono st2 _ vx, vy⟩
theorem z_op2 {a b : Expr} {op : Operator} {pos : Pos} {ea eb : Ev} {f : Mem → PV → PV → Option PV} (ho : OpR X (binaryOp op) (rOp2 X.K ad f)) (ha : PE X a (simE X.K ad W ea)) (hb : PE X b (simE X.K ad W eb)) :
    PE X (.BinOp a op b pos) (simE X.K ad W (cOp2 f ea eb)) := PE.imp (pe_op ho ha hb) fun _ _ _ h => sim_op2 h
theorem z_un {a : Expr} {op : UnaryOp} {pos : Pos} {ea : Ev} {f : Mem → PV → Option PV} (ho : UnR X (unaryOp op) (rOp1 X.K ad f)) (ha : PE X a (simE X.K ad W ea)) :
    PE X (.UnaryOp op a pos) (simE X.K ad W (cOp1 f ea)) := PE.imp (pe_un ho ha) fun _ _ _ h => sim_op1 h
theorem z_cmp {a b : Expr} {op : CmpOp} {pos : Pos} {ea eb : Ev} {f : Mem → PV → PV → Option PV} (ho : OpR X (compareOp op) (rOp2 X.K ad f)) (ha : PE X a (simE X.K ad W ea)) (hb : PE X b (simE X.K ad W eb)) (hm : behindInMarks op b = false) :
    PE X (.Compare a [op] [b] pos) (simE X.K ad W (cOp2 f ea eb)) := PE.imp (pe_cmpR ho ha hb hm) fun _ _ _ h => sim_op2 h
theorem z_ix {a b : Expr} {pos : Pos} {ea eb : Ev} {f : Mem → PV → PV → Option PV} (ho : IxR X (rOp2 X.K ad f)) (ha : PE X a (simE X.K ad W ea)) (hb : PE X b (simE X.K ad W eb)) (hs : PlainIx b) :
    PE X (.Subscript a b pos) (simE X.K ad W (cOp2 f ea eb)) := PE.imp (pe_ix ho ha hb hs) fun _ _ _ h => sim_op2 h

/-! ### tuples, lists as displays -/
def fTup (_ : Mem) (xs : List PV) : Option PV := if xs.length ≤ sizeLine then some (.tup xs) else none
def fLst (_ : Mem) (xs : List PV) : Option PV := if xs.length ≤ sizeLine then some (.lst xs) else none
theorem new_tup {K : PySem.W.Frag} {ρ : Rho} {H : Hp} {m : Mem} {xs : List PV} {vs : List V} (hr : HR K ad ρ H m) (r : VRs K ad ρ H xs vs) {p : Addr} (hp : H p = none) :
    Step ρ H ρ (upd H p (.tup vs)) ∧ HR K ad ρ (upd H p (.tup vs)) m ∧ VR K ad ρ (upd H p (.tup vs)) (.tup xs) (.ref p) := by
  obtain ⟨hn, st, hr'⟩ := hr.laid hp (.tup vs)
  exact ⟨st, hr', p, vs, rfl, .inl ⟨hn, upd_same⟩, VRs.mono st _ r⟩
theorem new_lst {K : PySem.W.Frag} {ρ : Rho} {H : Hp} {m : Mem} {xs : List PV} {vs : List V} (hr : HR K ad ρ H m) (r : VRs K ad ρ H xs vs) {p : Addr} (hp : H p = none) :
    Step ρ H ρ (upd H p (.lst vs)) ∧ HR K ad ρ (upd H p (.lst vs)) m ∧ VR K ad ρ (upd H p (.lst vs)) (.lst xs) (.ref p) := by
  obtain ⟨hn, st, hr'⟩ := hr.laid hp (.lst vs)
  exact ⟨st, hr', p, vs, rfl, hn, upd_same, VRs.mono st _ r⟩
theorem z_tup {es : List Expr} {x1 pos} {a : EvA} (ha : PA X es (simA X.K ad W a)) : PE X (.Tuple es x1 pos) (simE X.K ad W (cFn fTup a)) := by
  refine PE.imp (pe_tup ha) fun σ H Q h => ?_
  obtain ⟨ρ, R, env, h0, er, hr, s⟩ := sim_fn h
  refine ⟨ρ, R, env, h0, er, hr, s.imp fun ρ1 H1 xs h1 st1 hr1 k vs r => ?_⟩
  obtain ⟨ρ2, m, ps, v, hr2, r2, e, k⟩ := k vs r
  unfold fTup at e
  split at e
  · rename_i hl
    cases e
    refine ⟨by rw [← r2.length]; exact hl, fun p hp => ?_⟩
    obtain ⟨st, hr', vr⟩ := new_tup hr2 r2 hp
    exact k _ _ _ st hr' vr
  · cases e
theorem z_lst {es : List Expr} {pos} {a : EvA} (ha : PA X es (simA X.K ad W a)) : PE X (.List es pos) (simE X.K ad W (cFn fLst a)) := by
  refine PE.imp (pe_lst ha) fun σ H Q h => ?_
  obtain ⟨ρ, R, env, h0, er, hr, s⟩ := sim_fn h
  refine ⟨ρ, R, env, h0, er, hr, s.imp fun ρ1 H1 xs h1 st1 hr1 k vs r => ?_⟩
  obtain ⟨ρ2, m, ps, v, hr2, r2, e, k⟩ := k vs r
  unfold fLst at e
  split at e
  · rename_i hl
    cases e
    refine ⟨by rw [← r2.length]; exact hl, fun p hp => ?_⟩
    obtain ⟨st, hr', vr⟩ := new_lst hr2 r2 hp
    exact k _ _ _ st hr' vr
  · cases e
end
end Z

end
section -- Z2
/-! Z2: == and order of plain data. -/
namespace Z
open PySem PySem.Spec PyProof.Rows L2
open PySem.SeqAt (EqAt RcAt)
open Ob (RcOp lexAt)

mutual
def plain : PV → Bool
  | .non => true
  | .bl _ => true
  | .int _ => true
  | .str _ => true
  | .tup xs => plains xs
  | .lst xs => plains xs
  | _ => false
def plains : List PV → Bool
  | [] => true
  | x :: xs => plain x && plains xs
end
mutual
def dep : PV → Nat
  | .tup xs => deps xs + 1
  | .lst xs => deps xs + 1
  | _ => 0
def deps : List PV → Nat
  | [] => 0
  | x :: xs => max (dep x) (deps xs)
end
mutual
def eqv : PV → PV → Bool
  | .non, .non => true
  | .bl a, .bl b => a == b
  | .bl a, .int j => (if a then 1 else 0) == j
  | .int i, .bl b => i == (if b then 1 else 0)
  | .int i, .int j => i == j
  | .str x, .str y => x == y
  | .tup xs, .tup ys => eqvs xs ys
  | .lst xs, .lst ys => eqvs xs ys
  | _, _ => false
def eqvs : List PV → List PV → Bool
  | [], [] => true
  | x :: xs, y :: ys => eqv x y && eqvs xs ys
  | _, _ => false
end
mutual
theorem eqv_refl : ∀ p : PV, plain p = true → eqv p p = true
  | .non, _ => rfl
  | .bl a, _ => by simp [eqv]
  | .int a, _ => by simp [eqv]
  | .str a, _ => by simp [eqv]
  | .tup xs, h => by rw [eqv]; exact eqvs_refl xs (by simpa [plain] using h)
  | .lst xs, h => by rw [eqv]; exact eqvs_refl xs (by simpa [plain] using h)
  | .dic _ _, h => by simp [plain] at h
  | .ins _ _ _, h => by simp [plain] at h
  | .exc _ _ _, h => by simp [plain] at h
  | .ref _, h => by simp [plain] at h
  | .fn _, h => by simp [plain] at h
  | .cls _, h => by simp [plain] at h
  | .ty _, h => by simp [plain] at h
theorem eqvs_refl : ∀ ps : List PV, plains ps = true → eqvs ps ps = true
  | [], _ => rfl
  | x :: xs, h => by
    rw [plains, Bool.and_eq_true] at h
    rw [eqvs, eqv_refl x h.1, eqvs_refl xs h.2]; rfl
end
theorem eqvs_length : ∀ {xs ys : List PV}, eqvs xs ys = true → xs.length = ys.length
  | [], [], _ => rfl
  | _ :: xs, _ :: ys, h => by
    rw [eqvs, Bool.and_eq_true] at h
    simp [eqvs_length h.2]
  | [], _ :: _, h => by simp [eqvs] at h
  | _ :: _, [], h => by simp [eqvs] at h
theorem eqvs_all : ∀ {xs ys : List PV}, xs.length = ys.length → eqvs xs ys = (List.range xs.length).all fun j => eqv (xs.getD j .non) (ys.getD j .non)
  | [], [], _ => rfl
  | x :: xs, y :: ys, h => by
    have ih := eqvs_all (xs := xs) (ys := ys) (by simpa using h)
    rw [eqvs, ih, List.length_cons, List.range_succ_eq_map, List.all_cons, List.all_map]
    rfl
  | [], _ :: _, h => by simp at h
  | _ :: _, [], h => by simp at h

section
variable {K : PySem.W.Frag} {ad : Ads} {ρ : Rho} {H : Hp}
theorem TupAt.sq {a : Addr} {vs : List V} (t : TupAt K ρ H a vs) : SqT K H a vs := by
  rcases t with ⟨_, r⟩ | r
  · exact SqT.of r
  · exact .inr r
theorem plains_get : ∀ {xs : List PV} {j : Nat} {p : PV}, plains xs = true → xs[j]? = some p → plain p = true
  | [], _, _, _, e => by simp at e
  | x :: xs, 0, _, h, e => by
    rw [plains, Bool.and_eq_true] at h; simp at e; subst e; exact h.1
  | x :: xs, j + 1, _, h, e => by
    rw [plains, Bool.and_eq_true] at h
    exact plains_get (j := j) h.2 (by simpa using e)
theorem deps_get : ∀ {xs : List PV} {j : Nat} {p : PV}, xs[j]? = some p → dep p ≤ deps xs
  | [], _, _, e => by simp at e
  | x :: xs, 0, _, e => by simp at e; subst e; rw [deps]; omega
  | x :: xs, j + 1, _, e => by
    have := deps_get (xs := xs) (j := j) (by simpa using e)
    rw [deps]; omega
end

/-! ### plain data to be read, whoever may change it -/
section
variable (K : PySem.W.Frag) (H : Hp)
mutual
def RR : PV → V → Prop
  | .non, v => v = .non
  | .bl b, v => v = .bl b
  | .int i, v => v = .int i
  | .str x, v => v = .str x
  | .tup xs, v => ∃ a vs, v = .ref a ∧ SqT K H a vs ∧ RRs xs vs
  | .lst xs, v => ∃ a vs, v = .ref a ∧ SqL K H a vs ∧ RRs xs vs
  | _, _ => False
def RRs : List PV → List V → Prop
  | [], vs => vs = []
  | x :: xs, vs => ∃ y ys, vs = y :: ys ∧ RR x y ∧ RRs xs ys
end
end
section
variable {K : PySem.W.Frag} {ad : Ads} {ρ : Rho} {H : Hp}
mutual
theorem RR.of : ∀ (p : PV) (v : V), plain p = true → VR K ad ρ H p v → RR K H p v
  | .non, _, _, r => r
  | .bl _, _, _, r => r
  | .int _, _, _, r => r
  | .str _, _, _, r => r
  | .tup xs, _, h, ⟨a, vs, e, t, r⟩ => ⟨a, vs, e, t.sq, RRs.of xs vs (by simpa [plain] using h) r⟩
  | .lst xs, _, h, ⟨a, vs, e, _, t, r⟩ => ⟨a, vs, e, SqL.of t, RRs.of xs vs (by simpa [plain] using h) r⟩
  | .dic _ _, _, h, _ => by cases h
  | .ins _ _ _, _, h, _ => by cases h
  | .exc _ _ _, _, h, _ => by cases h
  | .ref _, _, h, _ => by cases h
  | .fn _, _, h, _ => by cases h
  | .cls _, _, h, _ => by cases h
  | .ty _, _, h, _ => by cases h
theorem RRs.of : ∀ (ps : List PV) (vs : List V), plains ps = true → VRs K ad ρ H ps vs → RRs K H ps vs
  | [], _, _, r => r
  | x :: xs, _, h, ⟨y, ys, e, a, r⟩ => by
    rw [plains, Bool.and_eq_true] at h
    exact ⟨y, ys, e, RR.of x y h.1 a, RRs.of xs ys h.2 r⟩
end
theorem RRs.length : ∀ {ps : List PV} {vs : List V}, RRs K H ps vs → ps.length = vs.length
  | [], _, h => by cases h; rfl
  | _ :: _, _, ⟨_, _, e, _, r⟩ => by cases e; simp [RRs.length r]
theorem RRs.get : ∀ {ps : List PV} {vs : List V} {i : Nat} {p : PV}, RRs K H ps vs → ps[i]? = some p → ∃ v, vs[i]? = some v ∧ RR K H p v
  | [], _, _, _, _, e => by simp at e
  | _ :: _, _, 0, _, ⟨y, ys, e, a, r⟩, q => by cases e; simp at q; subst q; exact ⟨y, rfl, a⟩
  | _ :: _, _, i + 1, _, ⟨y, ys, e, a, r⟩, q => by
    cases e
    obtain ⟨v, h1, h2⟩ := RRs.get (i := i) r (by simpa using q)
    exact ⟨v, by simpa using h1, h2⟩
end

section
variable {X : Cx} {pins : List (Addr × Obj)} {σ : L2.St} {H : Hp} {s : Shared}
/-- one value stands for one datum -/
theorem RR.inj (I : Inv X pins σ H s) : ∀ (n : Nat) (p q : PV) (v : V), dep p ≤ n → plain p = true → plain q = true → RR X.K H p v → RR X.K H q v → p = q
  | n, p, q, v, hd, hp, hq, a, b => by
    have lists : ∀ (k : Nat), (k < n) → ∀ xs ys vs, deps xs ≤ k → plains xs = true → plains ys = true → RRs X.K H xs vs → RRs X.K H ys vs → xs = ys := by
      intro k hk xs
      induction xs with
      | nil =>
        intro ys vs _ _ _ h1 h2
        cases h1
        cases ys with
        | nil => rfl
        | cons y ys => obtain ⟨_, _, e, _⟩ := h2; cases e
      | cons x xs ih =>
        intro ys vs h0 h1 h2 h3 h4
        obtain ⟨z, zs, rfl, r1, r2⟩ := h3
        cases ys with
        | nil => cases h4
        | cons y ys =>
          obtain ⟨z', zs', e, r3, r4⟩ := h4
          cases e
          rw [plains, Bool.and_eq_true] at h1 h2
          rw [deps] at h0
          rw [RR.inj I k x y z (by omega) h1.1 h2.1 r1 r3, ih ys zs (by omega) h1.2 h2.2 r2 r4]
    cases p <;> cases q <;> first
      | rfl
      | (cases hp; done) | (cases hq; done)
      | (cases a; cases b; rfl)
      | (cases a; cases b; done)
      | (obtain ⟨_, _, e, _⟩ := a; cases b; cases e; done)
      | (obtain ⟨_, _, e, _⟩ := b; cases a; cases e; done)
      | skip
    · rename_i xs ys
      obtain ⟨a1, v1, rfl, t1, r1⟩ := a
      obtain ⟨a2, v2, e, t2, r2⟩ := b
      cases e
      have := I.tuple_inj t1 t2
      subst this
      rw [dep] at hd
      rw [lists (n - 1) (by omega) xs ys v1 (by omega) (by simpa [plain] using hp) (by simpa [plain] using hq) r1 r2]
    · rename_i xs ys
      obtain ⟨a1, v1, rfl, t1, r1⟩ := a
      obtain ⟨a2, v2, e, t2, r2⟩ := b
      cases e
      exfalso
      obtain ⟨_, _, ⟨o, ho, hc, _⟩, _⟩ := I.tuple t1
      obtain ⟨_, _, ⟨o', _, ho', hc', _⟩, _⟩ := I.list t2
      rw [ho] at ho'; cases ho'
      rw [hc] at hc'; injection hc' with e; exact absurd e (by decide)
    · rename_i xs ys
      obtain ⟨a1, v1, rfl, t1, r1⟩ := a
      obtain ⟨a2, v2, e, t2, r2⟩ := b
      cases e
      exfalso
      obtain ⟨_, _, ⟨o, ho, hc, _⟩, _⟩ := I.tuple t2
      obtain ⟨_, _, ⟨o', _, ho', hc', _⟩, _⟩ := I.list t1
      rw [ho] at ho'; cases ho'
      rw [hc] at hc'; injection hc' with e; exact absurd e (by decide)
    · rename_i xs ys
      obtain ⟨a1, v1, rfl, t1, r1⟩ := a
      obtain ⟨a2, v2, e, t2, r2⟩ := b
      cases e
      have := I.list_inj t1 t2
      subst this
      rw [dep] at hd
      rw [lists (n - 1) (by omega) xs ys v1 (by omega) (by simpa [plain] using hp) (by simpa [plain] using hq) r1 r2]
termination_by n => n

theorem RelV.ref_inv {a : Addr} {u : Value} (r : RelV (.ref a) u) : u = .ref a := r
theorem getD_of {xs : List PV} {j : Nat} {p : PV} (e : xs[j]? = some p) : xs.getD j .non = p := by rw [List.getD_eq_getElem?_getD, e]; rfl
/-- == of plain data, by the machine -/
theorem eq_at (I : Inv X pins σ H s) : ∀ (n : Nat) (A : Around) (p q : PV) (x y : V) (v u : Value), A.units + n < cLine → (dep p ≤ n ∨ dep q ≤ n) → plain p = true → plain q = true →
    RR X.K H p x → RR X.K H q y → RelV x v → RelV y u → EqAt A s v u (eqv p q)
  | n, A, p, q, x, y, v, u, hA, hd, hp, hq, a, b, rx, ry => by
    have hu : A.units < cLine := by omega
    have elems : ∀ (xs ys : List PV) (vx vy : List V) (ix iy : List Value), 0 < n → (deps xs ≤ n - 1 ∨ deps ys ≤ n - 1) → plains xs = true → plains ys = true → RRs X.K H xs vx → RRs X.K H ys vy → Vals vx ix → Vals vy iy →
        ∀ j (h1 : j < ix.toArray.size) (h2 : j < iy.toArray.size), EqAt A.in1 s ix.toArray[j] iy.toArray[j] (eqv (xs.getD j .non) (ys.getD j .non)) := by
      intro xs ys vx vy ix iy h0 hd h1 h2 h3 h4 h5 h6 j l1 l2
      rw [List.size_toArray] at l1 l2
      have lx := h5.length; have ly := h6.length
      have mx := h3.length; have my := h4.length
      obtain ⟨vj, e1, r1⟩ := h3.get (i := j) (List.getElem?_eq_getElem (by omega))
      obtain ⟨wj, e2, r2⟩ := h4.get (i := j) (List.getElem?_eq_getElem (by omega))
      obtain ⟨uj, e3, r3⟩ := h5.get e1
      obtain ⟨tj, e4, r4⟩ := h6.get e2
      have z1 : ix.toArray[j] = uj := by
        have := List.getElem?_eq_getElem l1
        rw [e3] at this
        simpa using (Option.some.inj this).symm
      have z2 : iy.toArray[j] = tj := by
        have := List.getElem?_eq_getElem l2
        rw [e4] at this
        simpa using (Option.some.inj this).symm
      rw [z1, z2]
      have g1 := getD_of (List.getElem?_eq_getElem (l := xs) (i := j) (by omega))
      have g2 := getD_of (List.getElem?_eq_getElem (l := ys) (i := j) (by omega))
      rw [g1, g2]
      refine eq_at I (n - 1) A.in1 _ _ vj wj uj tj (by show A.units + 1 + (n - 1) < cLine; omega) ?_ (plains_get h1 (List.getElem?_eq_getElem (by omega))) (plains_get h2 (List.getElem?_eq_getElem (by omega))) r1 r2 r3 r4
      rcases hd with hd | hd
      · left; have := deps_get (List.getElem?_eq_getElem (l := xs) (i := j) (by omega)); omega
      · right; have := deps_get (List.getElem?_eq_getElem (l := ys) (i := j) (by omega)); omega
    by_cases same : v = u
    · have exy : x = y := by subst same; exact RelV.inj rx ry
      subst exy
      have := RR.inj I (dep p) p q x (Nat.le_refl _) hp hq a b
      subst this
      rw [eqv_refl p hp, same]
      exact SeqAt.EqAt.same u
    cases p with
    | dic _ _ => cases hp
    | ins _ _ _ => cases hp
    | exc _ _ _ => cases hp
    | ref _ => cases hp
    | fn _ => cases hp
    | cls _ => cases hp
    | ty _ => cases hp
    | non =>
      cases a; cases rx
      cases q with
      | non => cases b; cases ry; exact absurd rfl same
      | bl c => cases b; cases ry; exact SeqAt.EqAt.none_bool c
      | int c => cases b; obtain ⟨t, rfl⟩ := ry; exact SeqAt.EqAt.none_int c t
      | str c => cases b; obtain ⟨t, rfl⟩ := ry; exact SeqAt.EqAt.none_str c t
      | tup ys => obtain ⟨c, vs, rfl, t, _⟩ := b; cases ry; obtain ⟨_, _, h, _⟩ := I.tuple t; exact SeqAt.EqAt.none_tuple h hu
      | lst ys => obtain ⟨c, vs, rfl, t, _⟩ := b; cases ry; obtain ⟨_, _, h, _⟩ := I.list t; exact SeqAt.EqAt.none_list h.isList hu
      | _ => cases hq
    | bl e =>
      cases a; cases rx
      cases q with
      | non => cases b; cases ry; exact SeqAt.EqAt.bool_none e
      | bl c => cases b; cases ry; exact SeqAt.EqAt.bool_bool e c
      | int c => cases b; obtain ⟨t, rfl⟩ := ry; exact SeqAt.EqAt.bool_int e c t
      | str c => cases b; obtain ⟨t, rfl⟩ := ry; exact SeqAt.EqAt.bool_str e c t
      | tup ys => obtain ⟨c, vs, rfl, t, _⟩ := b; cases ry; obtain ⟨_, _, h, _⟩ := I.tuple t; exact SeqAt.EqAt.bool_tuple e h hu
      | lst ys => obtain ⟨c, vs, rfl, t, _⟩ := b; cases ry; obtain ⟨_, _, h, _⟩ := I.list t; exact SeqAt.EqAt.bool_list e h.isList hu
      | _ => cases hq
    | int e =>
      cases a; obtain ⟨te, rfl⟩ := rx
      cases q with
      | non => cases b; cases ry; exact SeqAt.EqAt.int_none e te
      | bl c => cases b; cases ry; exact SeqAt.EqAt.int_bool e te c
      | int c => cases b; obtain ⟨t, rfl⟩ := ry; exact SeqAt.EqAt.int_int e te c t
      | str c => cases b; obtain ⟨t, rfl⟩ := ry; exact SeqAt.EqAt.int_str e te c t
      | tup ys => obtain ⟨c, vs, rfl, t, _⟩ := b; cases ry; obtain ⟨_, _, h, _⟩ := I.tuple t; exact SeqAt.EqAt.int_tuple e te h hu
      | lst ys => obtain ⟨c, vs, rfl, t, _⟩ := b; cases ry; obtain ⟨_, _, h, _⟩ := I.list t; exact SeqAt.EqAt.int_list e te h.isList hu
      | _ => cases hq
    | str e =>
      cases a; obtain ⟨te, rfl⟩ := rx
      cases q with
      | non => cases b; cases ry; exact SeqAt.EqAt.str_none e te
      | bl c => cases b; cases ry; exact SeqAt.EqAt.str_bool e te c
      | int c => cases b; obtain ⟨t, rfl⟩ := ry; exact SeqAt.EqAt.str_int e te c t
      | str c => cases b; obtain ⟨t, rfl⟩ := ry; exact SeqAt.EqAt.str_str e te c t
      | tup ys => obtain ⟨c, vs, rfl, t, _⟩ := b; cases ry; obtain ⟨_, _, h, _⟩ := I.tuple t; exact SeqAt.EqAt.str_tuple e te h hu
      | lst ys => obtain ⟨c, vs, rfl, t, _⟩ := b; cases ry; obtain ⟨_, _, h, _⟩ := I.list t; exact SeqAt.EqAt.str_list e te h.isList hu
      | _ => cases hq
    | tup xs =>
      obtain ⟨a1, vx, rfl, t1, r1⟩ := a
      cases rx
      obtain ⟨ix, w1, h1, _⟩ := I.tuple t1
      cases q with
      | non => cases b; cases ry; exact SeqAt.EqAt.tuple_none h1 hu
      | bl c => cases b; cases ry; exact SeqAt.EqAt.tuple_bool c h1 hu
      | int c => cases b; obtain ⟨t, rfl⟩ := ry; exact SeqAt.EqAt.tuple_int c t h1 hu
      | str c => cases b; obtain ⟨t, rfl⟩ := ry; exact SeqAt.EqAt.tuple_str c t h1 hu
      | lst ys => obtain ⟨c, vs, rfl, t, _⟩ := b; cases ry; obtain ⟨_, _, h, _⟩ := I.list t; exact SeqAt.EqAt.tuple_list h1 h.isList hu
      | tup ys =>
        obtain ⟨a2, vy, rfl, t2, r2⟩ := b
        cases ry
        obtain ⟨iy, w2, h2, _⟩ := I.tuple t2
        have hn : 0 < n := by rcases hd with hd | hd <;> rw [dep] at hd <;> omega
        have R := SeqAt.RcAt.tuples (A := A) h1 h2 hu (elems xs ys vx vy ix iy hn (by rcases hd with hd | hd <;> rw [dep] at hd <;> omega) (by simpa [plain] using hp) (by simpa [plain] using hq) r1 r2 w1 w2)
        refine SeqAt.EqAt.of_refs (fun e => same (by rw [e])) ?_
        have l1 : ix.toArray.size = xs.length := by rw [List.size_toArray, ← w1.length, r1.length]
        have l2 : iy.toArray.size = ys.length := by rw [List.size_toArray, ← w2.length, r2.length]
        rw [l1, l2] at R
        have z : eqv (.tup xs) (.tup ys) = ((List.range (min xs.length ys.length)).all (fun j => eqv (xs.getD j .non) (ys.getD j .non)) && xs.length == ys.length) := by
          rw [eqv]
          by_cases hl : xs.length = ys.length
          · rw [eqvs_all hl, hl]; simp
          · cases hz : eqvs xs ys with
            | true => exact absurd (eqvs_length hz) hl
            | false => simp [hl]
        rw [z]; exact R
      | _ => cases hq
    | lst xs =>
      obtain ⟨a1, vx, rfl, t1, r1⟩ := a
      cases rx
      obtain ⟨ix, w1, h1, _⟩ := I.list t1
      cases q with
      | non => cases b; cases ry; exact SeqAt.EqAt.list_none h1.isList hu
      | bl c => cases b; cases ry; exact SeqAt.EqAt.list_bool c h1.isList hu
      | int c => cases b; obtain ⟨t, rfl⟩ := ry; exact SeqAt.EqAt.list_int c t h1.isList hu
      | str c => cases b; obtain ⟨t, rfl⟩ := ry; exact SeqAt.EqAt.list_str c t h1.isList hu
      | tup ys => obtain ⟨c, vs, rfl, t, _⟩ := b; cases ry; obtain ⟨_, _, h, _⟩ := I.tuple t; exact SeqAt.EqAt.list_tuple h1.isList h hu
      | lst ys =>
        obtain ⟨a2, vy, rfl, t2, r2⟩ := b
        cases ry
        obtain ⟨iy, w2, h2, _⟩ := I.list t2
        have l1 : ix.toArray.size = xs.length := by rw [List.size_toArray, ← w1.length, r1.length]
        have l2 : iy.toArray.size = ys.length := by rw [List.size_toArray, ← w2.length, r2.length]
        refine SeqAt.EqAt.of_refs (fun e => same (by rw [e])) ?_
        by_cases hl : xs.length = ys.length
        · have hn : 0 < n := by rcases hd with hd | hd <;> rw [dep] at hd <;> omega
          have R := SeqAt.RcAt.lists (A := A) h1.isList h2.isList (by rw [l1, l2, hl]) hu (elems xs ys vx vy ix iy hn (by rcases hd with hd | hd <;> rw [dep] at hd <;> omega) (by simpa [plain] using hp) (by simpa [plain] using hq) r1 r2 w1 w2)
          rw [eqv, eqvs_all hl]
          rw [l1] at R
          exact R
        · have z : eqv (.lst xs) (.lst ys) = false := by
            rw [eqv]
            cases hz : eqvs xs ys with
            | true => exact absurd (eqvs_length hz) hl
            | false => rfl
          rw [z]
          exact SeqAt.RcAt.lists_lengths h1.isList h2.isList (by rw [l1, l2]; simpa using hl) hu
      | _ => cases hq
termination_by n => n
end
end Z

end
section -- Z3
/-! Z3: order of plain data; in, not in; == as operations. -/
namespace Z
open PySem PySem.Spec PyProof.Rows L2
open PySem.SeqAt (EqAt RcAt)
open Ob (RcOp lexAt)

inductive O4 where
  | lt | le | gt | ge
def O4.op : O4 → CmpOp
  | .lt => .Lt | .le => .LtE | .gt => .Gt | .ge => .GtE
def ordI : O4 → Int → Int → Bool
  | .lt, i, j => decide (i < j)
  | .le, i, j => decide (i ≤ j)
  | .gt, i, j => decide (j < i)
  | .ge, i, j => decide (j ≤ i)
def ordS : O4 → Str → Str → Bool
  | .lt, x, y => decide (x.cps.toList < y.cps.toList)
  | .le, x, y => !decide (y.cps.toList < x.cps.toList)
  | .gt, x, y => decide (y.cps.toList < x.cps.toList)
  | .ge, x, y => !decide (x.cps.toList < y.cps.toList)
def ordN : O4 → Nat → Nat → Bool
  | .lt, i, j => decide (i < j)
  | .le, i, j => decide (i ≤ j)
  | .gt, i, j => decide (j < i)
  | .ge, i, j => decide (j ≤ i)
mutual
def cmpv (o : O4) : PV → PV → Option Bool
  | .int i, .int j => some (ordI o i j)
  | .str x, .str y => some (ordS o x y)
  | .tup xs, .tup ys => cmpvs o xs ys
  | _, _ => none
def cmpvs (o : O4) : List PV → List PV → Option Bool
  | [], ys => some (ordN o 0 ys.length)
  | x :: xs, [] => some (ordN o (xs.length + 1) 0)
  | x :: xs, y :: ys => match cmpvs o xs ys with
    | none => none
    | some r => if eqv x y = true then some r else cmpv o x y
end
theorem RcOp.ordI {A : Around} {s : Shared} (o : O4) (a b : Int) (t u : Tok) : RcOp o.op A s (.int a t) (.int b u) (ordI o a b) := by
  cases o
  · exact Ob.RcOp.lt_int a b t u
  · exact Ob.RcOp.le_int a b t u
  · exact Ob.RcOp.gt_int a b t u
  · exact Ob.RcOp.ge_int a b t u
theorem RcOp.ordS {A : Around} {s : Shared} (o : O4) (a b : Str) (t u : Tok) : RcOp o.op A s (.str a t) (.str b u) (ordS o a b) := by
  intro prog w E Q h
  cases o
  · exact PyProof.Rows.lt_str (by simpa [Z.ordS] using h)
  · exact PySem.P.le_str (by simpa [Z.ordS] using h)
  · exact PySem.P.gt_str (by simpa [Z.ordS] using h)
  · exact PySem.P.ge_str (by simpa [Z.ordS] using h)
theorem RcOp.tuples {A : Around} {s : Shared} (o : O4) {l b : Addr} {items items2 : Array Value} {e r : Nat → Bool} (hl : s.heap.IsTuple l items) (hb : s.heap.IsTuple b items2) (hu : A.units < cLine)
    (he : ∀ j (h1 : j < items.size) (h2 : j < items2.size), EqAt A.in1 s items[j] items2[j] (e j))
    (hr : ∀ j (h1 : j < items.size) (h2 : j < items2.size), e j = false → RcOp o.op A.in1 s items[j] items2[j] (r j)) :
    RcOp o.op A s (.ref l) (.ref b) (lexAt e r (ordN o items.size items2.size) 0 (min items.size items2.size)) := by
  cases o
  · exact Ob.RcOp.tuples_lt hl hb hu he hr
  · exact Ob.RcOp.tuples_le hl hb hu he hr
  · exact Ob.RcOp.tuples_gt hl hb hu he hr
  · exact Ob.RcOp.tuples_ge hl hb hu he hr
theorem ordN_succ (o : O4) (i j : Nat) : ordN o (i + 1) (j + 1) = ordN o i j := by cases o <;> simp [ordN]
theorem lexAt_shift {e r e' r' : Nat → Bool} {z : Bool} (he : ∀ j, e (j + 1) = e' j) (hr : ∀ j, r (j + 1) = r' j) : ∀ (k i : Nat), lexAt e r z (i + 1) k = lexAt e' r' z i k
  | 0, _ => rfl
  | k + 1, i => by
    rw [Ob.lexAt_succ, Ob.lexAt_succ, he, hr, lexAt_shift he hr k (i + 1)]
theorem cmpvs_lex (o : O4) : ∀ {xs ys : List PV} {b : Bool}, cmpvs o xs ys = some b →
    lexAt (fun j => eqv (xs.getD j .non) (ys.getD j .non)) (fun j => (cmpv o (xs.getD j .non) (ys.getD j .non)).getD false) (ordN o xs.length ys.length) 0 (min xs.length ys.length) = b
  | [], ys, b, h => by
    rw [cmpvs] at h
    simp only [List.length_nil, Nat.zero_min, Ob.lexAt_zero]
    exact Option.some.inj h
  | x :: xs, [], b, h => by
    rw [cmpvs] at h
    simp only [List.length_nil, Nat.min_zero, Ob.lexAt_zero, List.length_cons]
    exact Option.some.inj h
  | x :: xs, y :: ys, b, h => by
    rw [cmpvs] at h
    have hm : min (x :: xs).length (y :: ys).length = min xs.length ys.length + 1 := by simp only [List.length_cons]; omega
    rw [hm, Ob.lexAt_succ]
    split at h
    · cases h
    rename_i r hr
    split at h
    · rename_i he
      have he' : eqv ((x :: xs).getD 0 .non) ((y :: ys).getD 0 .non) = true := he
      rw [if_pos he', List.length_cons, List.length_cons, ordN_succ]
      rw [lexAt_shift (e' := fun j => eqv (xs.getD j .non) (ys.getD j .non)) (r' := fun j => (cmpv o (xs.getD j .non) (ys.getD j .non)).getD false) (fun j => rfl) (fun j => rfl)]
      exact cmpvs_lex o (hr.trans h)
    · rename_i he
      have he' : ¬ eqv ((x :: xs).getD 0 .non) ((y :: ys).getD 0 .non) = true := he
      rw [if_neg he']
      show (cmpv o x y).getD false = b
      rw [h]; rfl
theorem cmpvs_some (o : O4) : ∀ {xs ys : List PV} {b : Bool}, cmpvs o xs ys = some b → ∀ (j : Nat) (p q : PV), xs[j]? = some p → ys[j]? = some q → eqv p q = false → ∃ c, cmpv o p q = some c
  | [], _, _, _, _, _, _, e, _, _ => by simp at e
  | _ :: _, [], _, _, _, _, _, _, e, _ => by simp at e
  | x :: xs, y :: ys, b, h, j, p, q, e1, e2, hne => by
    rw [cmpvs] at h
    split at h
    · cases h
    rename_i r hr
    cases j with
    | zero =>
      simp at e1 e2
      subst e1; subst e2
      rw [hne] at h
      exact ⟨b, by simpa using h⟩
    | succ j => exact cmpvs_some o hr j p q (by simpa using e1) (by simpa using e2) hne
section
variable {X : Cx} {pins : List (Addr × Obj)} {σ : L2.St} {H : Hp} {s : Shared}
/-- whether each pair that is not equal can be compared: all that lexAt may ask -/
theorem cmp_at (I : Inv X pins σ H s) (o : O4) : ∀ (n : Nat) (A : Around) (p q : PV) (x y : V) (v u : Value) (b : Bool), A.units + n < cLine → dep p ≤ n → plain p = true → plain q = true → cmpv o p q = some b →
    RR X.K H p x → RR X.K H q y → RelV x v → RelV y u → RcOp o.op A s v u b
  | n, A, p, q, x, y, v, u, b, hA, hd, hp, hq, hc, ha, hb, rx, ry => by
    have hu : A.units < cLine := by omega
    cases p with
    | int i =>
      cases q with
      | int j =>
        rw [cmpv] at hc; cases hc
        cases ha; cases hb
        obtain ⟨t, rfl⟩ := rx; obtain ⟨t', rfl⟩ := ry
        exact RcOp.ordI o i j t t'
      | _ => simp [cmpv] at hc
    | str i =>
      cases q with
      | str j =>
        rw [cmpv] at hc; cases hc
        cases ha; cases hb
        obtain ⟨t, rfl⟩ := rx; obtain ⟨t', rfl⟩ := ry
        exact RcOp.ordS o i j t t'
      | _ => simp [cmpv] at hc
    | tup xs =>
      cases q with
      | tup ys =>
        rw [cmpv] at hc
        obtain ⟨a1, vx, rfl, t1, r1⟩ := ha
        obtain ⟨a2, vy, rfl, t2, r2⟩ := hb
        cases rx; cases ry
        obtain ⟨ix, w1, h1, _⟩ := I.tuple t1
        obtain ⟨iy, w2, h2, _⟩ := I.tuple t2
        have px : plains xs = true := by simpa [plain] using hp
        have py : plains ys = true := by simpa [plain] using hq
        have hn : 0 < n := by rw [dep] at hd; omega
        rw [dep] at hd
        have l1 : ix.toArray.size = xs.length := by rw [List.size_toArray, ← w1.length, r1.length]
        have l2 : iy.toArray.size = ys.length := by rw [List.size_toArray, ← w2.length, r2.length]
        have items : ∀ j (g1 : j < ix.toArray.size) (g2 : j < iy.toArray.size), ∃ (pj qj : PV) (vj wj : V), xs[j]? = some pj ∧ ys[j]? = some qj ∧ RR X.K H pj vj ∧ RR X.K H qj wj ∧ RelV vj ix.toArray[j] ∧ RelV wj iy.toArray[j] := by
          intro j g1 g2
          have lx : j < xs.length := by omega
          have ly : j < ys.length := by omega
          obtain ⟨vj, e1, r1'⟩ := r1.get (i := j) (List.getElem?_eq_getElem lx)
          obtain ⟨wj, e2, r2'⟩ := r2.get (i := j) (List.getElem?_eq_getElem ly)
          obtain ⟨uj, e3, r3⟩ := w1.get e1
          obtain ⟨tj, e4, r4⟩ := w2.get e2
          have z1 : ix.toArray[j] = uj := by
            have := List.getElem?_eq_getElem (l := ix) (i := j) (by rw [List.size_toArray] at g1; exact g1)
            rw [e3] at this
            simpa using (Option.some.inj this).symm
          have z2 : iy.toArray[j] = tj := by
            have := List.getElem?_eq_getElem (l := iy) (i := j) (by rw [List.size_toArray] at g2; exact g2)
            rw [e4] at this
            simpa using (Option.some.inj this).symm
          rw [z1, z2]
          exact ⟨_, _, vj, wj, List.getElem?_eq_getElem lx, List.getElem?_eq_getElem ly, r1', r2', r3, r4⟩
        have R := RcOp.tuples (A := A) o (e := fun j => eqv (xs.getD j .non) (ys.getD j .non)) (r := fun j => (cmpv o (xs.getD j .non) (ys.getD j .non)).getD false) h1 h2 hu
          (fun j g1 g2 => by
            obtain ⟨pj, qj, vj, wj, e1, e2, a1, a2, b1, b2⟩ := items j g1 g2
            show EqAt _ _ _ _ (eqv (xs.getD j .non) (ys.getD j .non))
            rw [getD_of e1, getD_of e2]
            exact eq_at I (n - 1) A.in1 pj qj vj wj _ _ (by show A.units + 1 + (n - 1) < cLine; omega) (.inl (by have := deps_get e1; omega)) (plains_get px e1) (plains_get py e2) a1 a2 b1 b2)
          (fun j g1 g2 hne => by
            obtain ⟨pj, qj, vj, wj, e1, e2, a1, a2, b1, b2⟩ := items j g1 g2
            have hne : eqv (xs.getD j .non) (ys.getD j .non) = false := hne
            show RcOp _ _ _ _ _ ((cmpv o (xs.getD j .non) (ys.getD j .non)).getD false)
            rw [getD_of e1, getD_of e2] at hne ⊢
            obtain ⟨c, ec⟩ := cmpvs_some o hc j pj qj e1 e2 hne
            rw [ec]
            exact cmp_at I o (n - 1) A.in1 pj qj vj wj _ _ c (by show A.units + 1 + (n - 1) < cLine; omega) (by have := deps_get e1; omega) (plains_get px e1) (plains_get py e2) ec a1 a2 b1 b2)
        rw [l1, l2, cmpvs_lex o hc] at R
        exact R
      | _ => simp [cmpv] at hc
    | _ => simp [cmpv] at hc
termination_by n => n

end

/-! ### as operations -/
/-- a list that may change, as it stands now -/
def deref (m : Mem) : PV → Option PV
  | .ref n => match m[n]? with
    | some (.lst xs) => some (.lst xs)
    | _ => none
  | p => some p
section
variable {K : PySem.W.Frag} {ad : Ads} {ρ : Rho} {H : Hp} {m : Mem}
/-- what a sequence's items are -/
def lstOf (m : Mem) : PV → Option (List PV)
  | .lst xs => some xs
  | .ref n => match m[n]? with
    | some (.lst xs) => some xs
    | some (.frz xs) => some xs
    | _ => none
  | _ => none
/-- .. and not the script -/
def lstW (m : Mem) : PV → Option (List PV)
  | .lst xs => some xs
  | .ref n => match m[n]? with
    | some (.lst xs) => some xs
    | _ => none
  | _ => none
def tupOf : PV → Option (List PV)
  | .tup xs => some xs
  | _ => none
theorem lstOf_at (hr : HR K ad ρ H m) {p : PV} {v : V} {xs : List PV} (e : lstOf m p = some xs) (r : VR K ad ρ H p v) : ∃ a vs, v = .ref a ∧ Rd H a (.lst vs) ∧ VRs K ad ρ H xs vs := by
  cases p with
  | lst ys => cases e; obtain ⟨a, vs, e1, _, e2, e3⟩ := r; exact ⟨a, vs, e1, .inl e2, e3⟩
  | ref n =>
    obtain ⟨a, rfl, ha⟩ := r
    rw [lstOf] at e
    cases q : m[n]? with
    | none => rw [q] at e; cases e
    | some o =>
      rw [q] at e
      cases o with
      | lst ys =>
        cases e
        obtain ⟨vs, e1, e2⟩ := hr.at_ n _ a q ha
        exact ⟨a, vs, rfl, .inl e1, e2⟩
      | frz ys =>
        cases e
        obtain ⟨vs, e1, e2⟩ := hr.at_ n _ a q ha
        exact ⟨a, vs, rfl, e1, e2⟩
      | _ => cases e
  | _ => cases e
theorem lstW_at (hr : HR K ad ρ H m) {p : PV} {v : V} {xs : List PV} (e : lstW m p = some xs) (r : VR K ad ρ H p v) : ∃ a vs, v = .ref a ∧ H a = some (.lst vs) ∧ VRs K ad ρ H xs vs := by
  cases p with
  | lst ys => cases e; obtain ⟨a, vs, e1, _, e2, e3⟩ := r; exact ⟨a, vs, e1, e2, e3⟩
  | ref n =>
    obtain ⟨a, rfl, ha⟩ := r
    rw [lstW] at e
    cases q : m[n]? with
    | none => rw [q] at e; cases e
    | some o =>
      rw [q] at e
      cases o with
      | lst ys =>
        cases e
        obtain ⟨vs, e1, e2⟩ := hr.at_ n _ a q ha
        exact ⟨a, vs, rfl, e1, e2⟩
      | _ => cases e
  | _ => cases e
theorem tupOf_at {p : PV} {v : V} {xs : List PV} (e : tupOf p = some xs) (r : VR K ad ρ H p v) : ∃ a vs, v = .ref a ∧ SqT K H a vs ∧ VRs K ad ρ H xs vs := by
  cases p with
  | tup ys => cases e; obtain ⟨a, vs, e1, t, e3⟩ := r; exact ⟨a, vs, e1, t.sq, e3⟩
  | _ => cases e
end
end Z

end
section -- Z4
/-! Z4: ==, !=, order, in, as operations on our values. -/
namespace Z
open PySem PySem.Spec PyProof.Rows L2
open PySem.SeqAt (EqAt RcAt RcNeAt)
open Ob (RcOp lexAt)
section
variable {X : Cx} {pins : List (Addr × Obj)} {σ : L2.St} {H : Hp} {s : Shared}
theorem elems_at (I : Inv X pins σ H s) {n : Nat} {A : Around} {xs ys : List PV} {vx vy : List V} {ix iy : List Value} (hA : A.units + n < cLine) (hd : deps xs ≤ n ∨ deps ys ≤ n) (h1 : plains xs = true) (h2 : plains ys = true)
    (h3 : RRs X.K H xs vx) (h4 : RRs X.K H ys vy) (h5 : Vals vx ix) (h6 : Vals vy iy) : ∀ j (h1 : j < ix.toArray.size) (h2 : j < iy.toArray.size), EqAt A s ix.toArray[j] iy.toArray[j] (eqv (xs.getD j .non) (ys.getD j .non)) := by
  intro j l1 l2
  rw [List.size_toArray] at l1 l2
  have lx := h5.length; have ly := h6.length
  have mx := h3.length; have my := h4.length
  obtain ⟨vj, e1, r1⟩ := h3.get (i := j) (List.getElem?_eq_getElem (by omega))
  obtain ⟨wj, e2, r2⟩ := h4.get (i := j) (List.getElem?_eq_getElem (by omega))
  obtain ⟨uj, e3, r3⟩ := h5.get e1
  obtain ⟨tj, e4, r4⟩ := h6.get e2
  have z1 : ix.toArray[j] = uj := by
    have := List.getElem?_eq_getElem l1
    rw [e3] at this
    simpa using (Option.some.inj this).symm
  have z2 : iy.toArray[j] = tj := by
    have := List.getElem?_eq_getElem l2
    rw [e4] at this
    simpa using (Option.some.inj this).symm
  rw [z1, z2]
  have g1 := getD_of (List.getElem?_eq_getElem (l := xs) (i := j) (by omega))
  have g2 := getD_of (List.getElem?_eq_getElem (l := ys) (i := j) (by omega))
  rw [g1, g2]
  refine eq_at I n A _ _ vj wj uj tj hA ?_ (plains_get h1 (List.getElem?_eq_getElem (by omega))) (plains_get h2 (List.getElem?_eq_getElem (by omega))) r1 r2 r3 r4
  rcases hd with hd | hd
  · left; have := deps_get (List.getElem?_eq_getElem (l := xs) (i := j) (by omega)); omega
  · right; have := deps_get (List.getElem?_eq_getElem (l := ys) (i := j) (by omega)); omega
theorem eqv_tup {xs ys : List PV} : eqv (.tup xs) (.tup ys) = ((List.range (min xs.length ys.length)).all (fun j => eqv (xs.getD j .non) (ys.getD j .non)) && xs.length == ys.length) := by
  rw [eqv]
  by_cases hl : xs.length = ys.length
  · rw [eqvs_all hl, hl]; simp
  · cases hz : eqvs xs ys with
    | true => exact absurd (eqvs_length hz) hl
    | false => simp [hl]
theorem eqv_lst_ne {xs ys : List PV} (hl : ¬ xs.length = ys.length) : eqv (.lst xs) (.lst ys) = false := by
  rw [eqv]
  cases hz : eqvs xs ys with
  | true => exact absurd (eqvs_length hz) hl
  | false => rfl
variable {A : Around} {n : Nat} {xs ys : List PV} {vx vy : List V} {ix iy : List Value} {a1 a2 : Addr}
theorem rcat_tuples (I : Inv X pins σ H s) (hA : A.units + 65 < cLine) (hd : dep (.tup xs) ≤ 64 ∨ dep (.tup ys) ≤ 64) (hp : plain (.tup xs) = true) (hq : plain (.tup ys) = true) (r1 : RRs X.K H xs vx) (r2 : RRs X.K H ys vy) (w1 : Vals vx ix) (w2 : Vals vy iy)
    (h1 : IsTup s.heap a1 ix.toArray) (h2 : IsTup s.heap a2 iy.toArray) : RcAt A s (.ref a1) (.ref a2) (eqv (.tup xs) (.tup ys)) := by
  have R := SeqAt.RcAt.tuples (A := A) h1 h2 (by omega) (elems_at I (n := 64) (A := A.in1) (by show A.units + 1 + 64 < cLine; omega) (by rcases hd with hd | hd <;> rw [dep] at hd <;> omega) (by simpa [plain] using hp) (by simpa [plain] using hq) r1 r2 w1 w2)
  have l1 : ix.toArray.size = xs.length := by rw [List.size_toArray, ← w1.length, r1.length]
  have l2 : iy.toArray.size = ys.length := by rw [List.size_toArray, ← w2.length, r2.length]
  rw [l1, l2] at R
  rw [eqv_tup]; exact R
theorem rcat_lists (I : Inv X pins σ H s) (hA : A.units + 65 < cLine) (hd : dep (.lst xs) ≤ 64 ∨ dep (.lst ys) ≤ 64) (hp : plain (.lst xs) = true) (hq : plain (.lst ys) = true) (r1 : RRs X.K H xs vx) (r2 : RRs X.K H ys vy) (w1 : Vals vx ix) (w2 : Vals vy iy)
    (h1 : s.heap.IsList a1 ix.toArray) (h2 : s.heap.IsList a2 iy.toArray) : RcAt A s (.ref a1) (.ref a2) (eqv (.lst xs) (.lst ys)) := by
  have l1 : ix.toArray.size = xs.length := by rw [List.size_toArray, ← w1.length, r1.length]
  have l2 : iy.toArray.size = ys.length := by rw [List.size_toArray, ← w2.length, r2.length]
  by_cases hl : xs.length = ys.length
  · have R := SeqAt.RcAt.lists (A := A) h1 h2 (by rw [l1, l2, hl]) (by omega) (elems_at I (n := 64) (A := A.in1) (by show A.units + 1 + 64 < cLine; omega) (by rcases hd with hd | hd <;> rw [dep] at hd <;> omega) (by simpa [plain] using hp) (by simpa [plain] using hq) r1 r2 w1 w2)
    rw [eqv, eqvs_all hl]
    rw [l1] at R
    exact R
  · rw [eqv_lst_ne hl]
    exact SeqAt.RcAt.lists_lengths h1 h2 (by rw [l1, l2]; simpa using hl) (by omega)
theorem rcat_at (I : Inv X pins σ H s) {p q : PV} {x y : V} {v u : Value} (hA : A.units + 65 < cLine) (hd : dep p ≤ 64 ∨ dep q ≤ 64) (hp : plain p = true) (hq : plain q = true)
    (a : RR X.K H p x) (b : RR X.K H q y) (rx : RelV x v) (ry : RelV y u) : RcAt A s v u (eqv p q) := by
  have hu : A.units < cLine := by omega
  cases p with
  | non =>
      cases a; cases rx
      cases q with
      | non => cases b; cases ry; exact SeqAt.RcAt.none_none
      | bl c => cases b; cases ry; exact SeqAt.RcAt.none_bool c
      | int c => cases b; obtain ⟨t, rfl⟩ := ry; exact SeqAt.RcAt.none_int c t
      | str c => cases b; obtain ⟨t, rfl⟩ := ry; exact SeqAt.RcAt.none_str c t
      | tup c => obtain ⟨a2, vy, rfl, t2, r2⟩ := b; cases ry; obtain ⟨iy, w2, h2, _⟩ := I.tuple t2; exact SeqAt.RcAt.none_tuple h2 hu
      | lst c => obtain ⟨a2, vy, rfl, t2, r2⟩ := b; cases ry; obtain ⟨iy, w2, hl2, _⟩ := I.list t2; have h2 := hl2.isList; exact SeqAt.RcAt.none_list h2 hu
      | _ => cases hq
  | bl e =>
      cases a; cases rx
      cases q with
      | non => cases b; cases ry; exact SeqAt.RcAt.bool_none e
      | bl c => cases b; cases ry; exact SeqAt.RcAt.bool_bool e c
      | int c => cases b; obtain ⟨t, rfl⟩ := ry; exact SeqAt.RcAt.bool_int e c t
      | str c => cases b; obtain ⟨t, rfl⟩ := ry; exact SeqAt.RcAt.bool_str e c t
      | tup c => obtain ⟨a2, vy, rfl, t2, r2⟩ := b; cases ry; obtain ⟨iy, w2, h2, _⟩ := I.tuple t2; exact SeqAt.RcAt.bool_tuple e h2 hu
      | lst c => obtain ⟨a2, vy, rfl, t2, r2⟩ := b; cases ry; obtain ⟨iy, w2, hl2, _⟩ := I.list t2; have h2 := hl2.isList; exact SeqAt.RcAt.bool_list e h2 hu
      | _ => cases hq
  | int e =>
      cases a; obtain ⟨te, rfl⟩ := rx
      cases q with
      | non => cases b; cases ry; exact SeqAt.RcAt.int_none e te
      | bl c => cases b; cases ry; exact SeqAt.RcAt.int_bool e te c
      | int c => cases b; obtain ⟨t, rfl⟩ := ry; exact SeqAt.RcAt.int_int e te c t
      | str c => cases b; obtain ⟨t, rfl⟩ := ry; exact SeqAt.RcAt.int_str e te c t
      | tup c => obtain ⟨a2, vy, rfl, t2, r2⟩ := b; cases ry; obtain ⟨iy, w2, h2, _⟩ := I.tuple t2; exact SeqAt.RcAt.int_tuple e te h2 hu
      | lst c => obtain ⟨a2, vy, rfl, t2, r2⟩ := b; cases ry; obtain ⟨iy, w2, hl2, _⟩ := I.list t2; have h2 := hl2.isList; exact SeqAt.RcAt.int_list e te h2 hu
      | _ => cases hq
  | str e =>
      cases a; obtain ⟨te, rfl⟩ := rx
      cases q with
      | non => cases b; cases ry; exact SeqAt.RcAt.str_none e te
      | bl c => cases b; cases ry; exact SeqAt.RcAt.str_bool e te c
      | int c => cases b; obtain ⟨t, rfl⟩ := ry; exact SeqAt.RcAt.str_int e te c t
      | str c => cases b; obtain ⟨t, rfl⟩ := ry; exact SeqAt.RcAt.str_str e te c t
      | tup c => obtain ⟨a2, vy, rfl, t2, r2⟩ := b; cases ry; obtain ⟨iy, w2, h2, _⟩ := I.tuple t2; exact SeqAt.RcAt.str_tuple e te h2 hu
      | lst c => obtain ⟨a2, vy, rfl, t2, r2⟩ := b; cases ry; obtain ⟨iy, w2, hl2, _⟩ := I.list t2; have h2 := hl2.isList; exact SeqAt.RcAt.str_list e te h2 hu
      | _ => cases hq
  | tup e =>
      obtain ⟨a1, vx, rfl, t1, r1⟩ := a; cases rx; obtain ⟨ix, w1, h1, _⟩ := I.tuple t1
      cases q with
      | non => cases b; cases ry; exact SeqAt.RcAt.tuple_none h1 hu
      | bl c => cases b; cases ry; exact SeqAt.RcAt.tuple_bool c h1 hu
      | int c => cases b; obtain ⟨t, rfl⟩ := ry; exact SeqAt.RcAt.tuple_int c t h1 hu
      | str c => cases b; obtain ⟨t, rfl⟩ := ry; exact SeqAt.RcAt.tuple_str c t h1 hu
      | tup c =>
        obtain ⟨a2, vy, rfl, t2, r2⟩ := b; cases ry; obtain ⟨iy, w2, h2, _⟩ := I.tuple t2
        exact rcat_tuples I hA hd hp hq r1 r2 w1 w2 h1 h2
      | lst c => obtain ⟨a2, vy, rfl, t2, r2⟩ := b; cases ry; obtain ⟨iy, w2, hl2, _⟩ := I.list t2; have h2 := hl2.isList; exact SeqAt.RcAt.tuple_list h1 h2 hu
      | _ => cases hq
  | lst e =>
      obtain ⟨a1, vx, rfl, t1, r1⟩ := a; cases rx; obtain ⟨ix, w1, hl1, _⟩ := I.list t1; have h1 := hl1.isList
      cases q with
      | non => cases b; cases ry; exact SeqAt.RcAt.list_none h1 hu
      | bl c => cases b; cases ry; exact SeqAt.RcAt.list_bool c h1 hu
      | int c => cases b; obtain ⟨t, rfl⟩ := ry; exact SeqAt.RcAt.list_int c t h1 hu
      | str c => cases b; obtain ⟨t, rfl⟩ := ry; exact SeqAt.RcAt.list_str c t h1 hu
      | tup c => obtain ⟨a2, vy, rfl, t2, r2⟩ := b; cases ry; obtain ⟨iy, w2, h2, _⟩ := I.tuple t2; exact SeqAt.RcAt.list_tuple h1 h2 hu
      | lst c =>
        obtain ⟨a2, vy, rfl, t2, r2⟩ := b; cases ry; obtain ⟨iy, w2, hl2, _⟩ := I.list t2; have h2 := hl2.isList
        exact rcat_lists I hA hd hp hq r1 r2 w1 w2 h1 h2
      | _ => cases hq
  | _ => cases hp
theorem rcneat_tuples (I : Inv X pins σ H s) (hA : A.units + 65 < cLine) (hd : dep (.tup xs) ≤ 64 ∨ dep (.tup ys) ≤ 64) (hp : plain (.tup xs) = true) (hq : plain (.tup ys) = true) (r1 : RRs X.K H xs vx) (r2 : RRs X.K H ys vy) (w1 : Vals vx ix) (w2 : Vals vy iy)
    (h1 : IsTup s.heap a1 ix.toArray) (h2 : IsTup s.heap a2 iy.toArray) : RcNeAt A s (.ref a1) (.ref a2) (!eqv (.tup xs) (.tup ys)) := by
  have R := SeqAt.RcNeAt.tuples (A := A) h1 h2 (by omega) (elems_at I (n := 64) (A := A.in1) (by show A.units + 1 + 64 < cLine; omega) (by rcases hd with hd | hd <;> rw [dep] at hd <;> omega) (by simpa [plain] using hp) (by simpa [plain] using hq) r1 r2 w1 w2)
  have l1 : ix.toArray.size = xs.length := by rw [List.size_toArray, ← w1.length, r1.length]
  have l2 : iy.toArray.size = ys.length := by rw [List.size_toArray, ← w2.length, r2.length]
  rw [l1, l2] at R
  rw [eqv_tup]; exact R
theorem rcneat_lists (I : Inv X pins σ H s) (hA : A.units + 65 < cLine) (hd : dep (.lst xs) ≤ 64 ∨ dep (.lst ys) ≤ 64) (hp : plain (.lst xs) = true) (hq : plain (.lst ys) = true) (r1 : RRs X.K H xs vx) (r2 : RRs X.K H ys vy) (w1 : Vals vx ix) (w2 : Vals vy iy)
    (h1 : s.heap.IsList a1 ix.toArray) (h2 : s.heap.IsList a2 iy.toArray) : RcNeAt A s (.ref a1) (.ref a2) (!eqv (.lst xs) (.lst ys)) := by
  have l1 : ix.toArray.size = xs.length := by rw [List.size_toArray, ← w1.length, r1.length]
  have l2 : iy.toArray.size = ys.length := by rw [List.size_toArray, ← w2.length, r2.length]
  by_cases hl : xs.length = ys.length
  · have R := SeqAt.RcNeAt.lists (A := A) h1 h2 (by rw [l1, l2, hl]) (by omega) (elems_at I (n := 64) (A := A.in1) (by show A.units + 1 + 64 < cLine; omega) (by rcases hd with hd | hd <;> rw [dep] at hd <;> omega) (by simpa [plain] using hp) (by simpa [plain] using hq) r1 r2 w1 w2)
    rw [eqv, eqvs_all hl]
    rw [l1] at R
    exact R
  · rw [eqv_lst_ne hl]
    exact SeqAt.RcNeAt.lists_lengths h1 h2 (by rw [l1, l2]; simpa using hl) (by omega)
theorem rcneat_at (I : Inv X pins σ H s) {p q : PV} {x y : V} {v u : Value} (hA : A.units + 65 < cLine) (hd : dep p ≤ 64 ∨ dep q ≤ 64) (hp : plain p = true) (hq : plain q = true)
    (a : RR X.K H p x) (b : RR X.K H q y) (rx : RelV x v) (ry : RelV y u) : RcNeAt A s v u (!eqv p q) := by
  have hu : A.units < cLine := by omega
  cases p with
  | non =>
      cases a; cases rx
      cases q with
      | non => cases b; cases ry; exact SeqAt.RcNeAt.none_none
      | bl c => cases b; cases ry; exact SeqAt.RcNeAt.none_bool c
      | int c => cases b; obtain ⟨t, rfl⟩ := ry; exact SeqAt.RcNeAt.none_int c t
      | str c => cases b; obtain ⟨t, rfl⟩ := ry; exact SeqAt.RcNeAt.none_str c t
      | tup c => obtain ⟨a2, vy, rfl, t2, r2⟩ := b; cases ry; obtain ⟨iy, w2, h2, _⟩ := I.tuple t2; exact SeqAt.RcNeAt.none_tuple h2 hu
      | lst c => obtain ⟨a2, vy, rfl, t2, r2⟩ := b; cases ry; obtain ⟨iy, w2, hl2, _⟩ := I.list t2; have h2 := hl2.isList; exact SeqAt.RcNeAt.none_list h2 hu
      | _ => cases hq
  | bl e =>
      cases a; cases rx
      cases q with
      | non => cases b; cases ry; exact SeqAt.RcNeAt.bool_none e
      | bl c => cases b; cases ry; exact SeqAt.RcNeAt.bool_bool e c
      | int c => cases b; obtain ⟨t, rfl⟩ := ry; exact SeqAt.RcNeAt.bool_int e c t
      | str c => cases b; obtain ⟨t, rfl⟩ := ry; exact SeqAt.RcNeAt.bool_str e c t
      | tup c => obtain ⟨a2, vy, rfl, t2, r2⟩ := b; cases ry; obtain ⟨iy, w2, h2, _⟩ := I.tuple t2; exact SeqAt.RcNeAt.bool_tuple e h2 hu
      | lst c => obtain ⟨a2, vy, rfl, t2, r2⟩ := b; cases ry; obtain ⟨iy, w2, hl2, _⟩ := I.list t2; have h2 := hl2.isList; exact SeqAt.RcNeAt.bool_list e h2 hu
      | _ => cases hq
  | int e =>
      cases a; obtain ⟨te, rfl⟩ := rx
      cases q with
      | non => cases b; cases ry; exact SeqAt.RcNeAt.int_none e te
      | bl c => cases b; cases ry; exact SeqAt.RcNeAt.int_bool e te c
      | int c => cases b; obtain ⟨t, rfl⟩ := ry; exact SeqAt.RcNeAt.int_int e te c t
      | str c => cases b; obtain ⟨t, rfl⟩ := ry; exact SeqAt.RcNeAt.int_str e te c t
      | tup c => obtain ⟨a2, vy, rfl, t2, r2⟩ := b; cases ry; obtain ⟨iy, w2, h2, _⟩ := I.tuple t2; exact SeqAt.RcNeAt.int_tuple e te h2 hu
      | lst c => obtain ⟨a2, vy, rfl, t2, r2⟩ := b; cases ry; obtain ⟨iy, w2, hl2, _⟩ := I.list t2; have h2 := hl2.isList; exact SeqAt.RcNeAt.int_list e te h2 hu
      | _ => cases hq
  | str e =>
      cases a; obtain ⟨te, rfl⟩ := rx
      cases q with
      | non => cases b; cases ry; exact SeqAt.RcNeAt.str_none e te
      | bl c => cases b; cases ry; exact SeqAt.RcNeAt.str_bool e te c
      | int c => cases b; obtain ⟨t, rfl⟩ := ry; exact SeqAt.RcNeAt.str_int e te c t
      | str c => cases b; obtain ⟨t, rfl⟩ := ry; exact SeqAt.RcNeAt.str_str e te c t
      | tup c => obtain ⟨a2, vy, rfl, t2, r2⟩ := b; cases ry; obtain ⟨iy, w2, h2, _⟩ := I.tuple t2; exact SeqAt.RcNeAt.str_tuple e te h2 hu
      | lst c => obtain ⟨a2, vy, rfl, t2, r2⟩ := b; cases ry; obtain ⟨iy, w2, hl2, _⟩ := I.list t2; have h2 := hl2.isList; exact SeqAt.RcNeAt.str_list e te h2 hu
      | _ => cases hq
  | tup e =>
      obtain ⟨a1, vx, rfl, t1, r1⟩ := a; cases rx; obtain ⟨ix, w1, h1, _⟩ := I.tuple t1
      cases q with
      | non => cases b; cases ry; exact SeqAt.RcNeAt.tuple_none h1 hu
      | bl c => cases b; cases ry; exact SeqAt.RcNeAt.tuple_bool c h1 hu
      | int c => cases b; obtain ⟨t, rfl⟩ := ry; exact SeqAt.RcNeAt.tuple_int c t h1 hu
      | str c => cases b; obtain ⟨t, rfl⟩ := ry; exact SeqAt.RcNeAt.tuple_str c t h1 hu
      | tup c =>
        obtain ⟨a2, vy, rfl, t2, r2⟩ := b; cases ry; obtain ⟨iy, w2, h2, _⟩ := I.tuple t2
        exact rcneat_tuples I hA hd hp hq r1 r2 w1 w2 h1 h2
      | lst c => obtain ⟨a2, vy, rfl, t2, r2⟩ := b; cases ry; obtain ⟨iy, w2, hl2, _⟩ := I.list t2; have h2 := hl2.isList; exact SeqAt.RcNeAt.tuple_list h1 h2 hu
      | _ => cases hq
  | lst e =>
      obtain ⟨a1, vx, rfl, t1, r1⟩ := a; cases rx; obtain ⟨ix, w1, hl1, _⟩ := I.list t1; have h1 := hl1.isList
      cases q with
      | non => cases b; cases ry; exact SeqAt.RcNeAt.list_none h1 hu
      | bl c => cases b; cases ry; exact SeqAt.RcNeAt.list_bool c h1 hu
      | int c => cases b; obtain ⟨t, rfl⟩ := ry; exact SeqAt.RcNeAt.list_int c t h1 hu
      | str c => cases b; obtain ⟨t, rfl⟩ := ry; exact SeqAt.RcNeAt.list_str c t h1 hu
      | tup c => obtain ⟨a2, vy, rfl, t2, r2⟩ := b; cases ry; obtain ⟨iy, w2, h2, _⟩ := I.tuple t2; exact SeqAt.RcNeAt.list_tuple h1 h2 hu
      | lst c =>
        obtain ⟨a2, vy, rfl, t2, r2⟩ := b; cases ry; obtain ⟨iy, w2, hl2, _⟩ := I.list t2; have h2 := hl2.isList
        exact rcneat_lists I hA hd hp hq r1 r2 w1 w2 h1 h2
      | _ => cases hq
  | _ => cases hp
end
end Z

end
section -- Z5
/-! Z5: operators and built-in functions on our values. -/
namespace Z
open PySem PySem.Spec PyProof.Rows L2
open PySem.SeqAt (EqAt RcAt RcNeAt)
open Ob (RcOp lexAt)

/-- a datum to be compared -/
def datum (m : Mem) (p : PV) : Option PV := match lstOf m p with
  | some xs => if plains xs = true then some (.lst xs) else none
  | none => if plain p = true then some p else none
theorem datum_at {K : PySem.W.Frag} {ad : Ads} {ρ : Rho} {H : Hp} {m : Mem} (hr : HR K ad ρ H m) {p d : PV} {v : V} (e : datum m p = some d) (r : VR K ad ρ H p v) : RR K H d v ∧ plain d = true := by
  unfold datum at e
  cases q : lstOf m p with
  | some xs =>
    rw [q] at e
    simp only at e
    split at e
    · rename_i h
      cases e
      obtain ⟨a, vs, e1, e2, e3⟩ := lstOf_at hr q r
      exact ⟨⟨a, vs, e1, .inl e2, RRs.of xs vs h e3⟩, by simpa [plain] using h⟩
    · cases e
  | none =>
    rw [q] at e
    simp only at e
    split at e
    · rename_i h
      cases e
      exact ⟨RR.of p v h r, h⟩
    · cases e
def fEq (m : Mem) (p q : PV) : Option PV := match datum m p, datum m q with
  | some a, some b => if dep a ≤ 64 ∨ dep b ≤ 64 then some (.bl (eqv a b)) else none
  | _, _ => none
def fNe (m : Mem) (p q : PV) : Option PV := match datum m p, datum m q with
  | some a, some b => if dep a ≤ 64 ∨ dep b ≤ 64 then some (.bl (!eqv a b)) else none
  | _, _ => none
def fOrd (o : O4) (_ : Mem) (p q : PV) : Option PV := match cmpv o p q with
  | some b => if plain p = true ∧ plain q = true ∧ dep p ≤ 64 then some (.bl b) else none
  | none => none
def isNone : PV → Bool
  | .non => true
  | _ => false
def fIs (_ : Mem) (p q : PV) : Option PV := match q with
  | .non => some (.bl (isNone p))
  | _ => none
def fIsNot (_ : Mem) (p q : PV) : Option PV := match q with
  | .non => some (.bl (!isNone p))
  | _ => none
/-- the items of a sequence (a list or a tuple) -/
def seqOf (m : Mem) (p : PV) : Option (List PV) := match lstOf m p with
  | some xs => some xs
  | none => tupOf p
theorem seqOf_at {K : PySem.W.Frag} {ad : Ads} {ρ : Rho} {H : Hp} {m : Mem} (hr : HR K ad ρ H m) {p : PV} {v : V} {xs : List PV} (e : seqOf m p = some xs) (r : VR K ad ρ H p v) : ∃ a vs, v = .ref a ∧ (SqL K H a vs ∨ SqT K H a vs) ∧ VRs K ad ρ H xs vs := by
  unfold seqOf at e
  cases q : lstOf m p with
  | some ys =>
    rw [q] at e; cases e
    obtain ⟨a, vs, e1, e2, e3⟩ := lstOf_at hr q r
    exact ⟨a, vs, e1, .inl (.inl e2), e3⟩
  | none =>
    rw [q] at e
    obtain ⟨a, vs, e1, e2, e3⟩ := tupOf_at e r
    exact ⟨a, vs, e1, .inr e2, e3⟩
/-- the one text within the other -/
def inStr (x y : Str) : Bool := !(Builtin.Str.occurrences y x 0 y.length 1).isEmpty
def memv (x : PV) (ys : List PV) : Bool := ys.any fun y => eqv y x
def isIn (m : Mem) (x ys : PV) : Option Bool := match ys with
  | .str z => match x with
    | .str y => some (inStr y z)
    | _ => none
  | _ => match seqOf m ys, datum m x with
    | some zs, some d => if plains zs = true ∧ dep d ≤ 64 then some (memv d zs) else none
    | _, _ => none
def fIn (m : Mem) (x ys : PV) : Option PV := (isIn m x ys).map fun b => .bl b
def fNotIn (m : Mem) (x ys : PV) : Option PV := (isIn m x ys).map fun b => .bl (!b)

section
variable {X : Cx} {ad : Ads}
theorem VR.of_bl {K : PySem.W.Frag} {ρ : Rho} {H : Hp} (b : Bool) : VR K ad ρ H (.bl b) (.bl b) := rfl
theorem o_eq (hu : X.A.units + 65 < cLine) : OpR X (compareOp .Eq) (rOp2 X.K ad fEq) := by
  intro pins s σ H x y v u Q I rx ry ⟨ρ, m, p, q, r, hr, vp, vq, e, k⟩
  unfold fEq at e
  split at e
  · rename_i a b ea eb
    split at e
    · rename_i hd
      cases e
      obtain ⟨ra, pa⟩ := datum_at hr ea vp
      obtain ⟨rb, pb⟩ := datum_at hr eb vq
      exact rcat_at I hu hd pa pb ra rb rx ry X.prog X.w X.xe (EP X pins σ Q) ⟨.bl _, H, I, rfl, k ρ H _ (Step.refl _ _) hr rfl⟩
    · cases e
  · cases e
theorem o_ne (hu : X.A.units + 65 < cLine) : OpR X (compareOp .NotEq) (rOp2 X.K ad fNe) := by
  intro pins s σ H x y v u Q I rx ry ⟨ρ, m, p, q, r, hr, vp, vq, e, k⟩
  unfold fNe at e
  split at e
  · rename_i a b ea eb
    split at e
    · rename_i hd
      cases e
      obtain ⟨ra, pa⟩ := datum_at hr ea vp
      obtain ⟨rb, pb⟩ := datum_at hr eb vq
      exact rcneat_at I hu hd pa pb ra rb rx ry X.prog X.w X.xe (EP X pins σ Q) ⟨.bl _, H, I, rfl, k ρ H _ (Step.refl _ _) hr rfl⟩
    · cases e
  · cases e
theorem o_ord (o : O4) (hu : X.A.units + 65 < cLine) : OpR X (compareOp o.op) (rOp2 X.K ad (fOrd o)) := by
  intro pins s σ H x y v u Q I rx ry ⟨ρ, m, p, q, r, hr, vp, vq, e, k⟩
  unfold fOrd at e
  split at e
  · rename_i b eb
    split at e
    · rename_i hd
      cases e
      have z := cmp_at I o 64 X.A p q x y v u b (by omega) hd.2.2 hd.1 hd.2.1 eb (RR.of p x hd.1 vp) (RR.of q y hd.2.1 vq) rx ry X.prog X.w X.xe (EP X pins σ Q) ⟨.bl _, H, I, rfl, k ρ H _ (Step.refl _ _) hr rfl⟩
      cases o <;> exact z
    · cases e
  · cases e
theorem isNone_of {K : PySem.W.Frag} {ρ : Rho} {H : Hp} {p : PV} {x : V} (r : VR K ad ρ H p x) : decide (x = .non) = isNone p := by
  cases p with
  | non => cases r; rfl
  | bl _ => cases r; rfl
  | int _ => cases r; rfl
  | str _ => cases r; rfl
  | tup _ => obtain ⟨_, _, rfl, _⟩ := r; rfl
  | lst _ => obtain ⟨_, _, rfl, _⟩ := r; rfl
  | dic _ _ => exact r.elim
  | ins _ _ _ => obtain ⟨_, _, _, _, e, _⟩ := r; subst e; rfl
  | exc _ _ _ => obtain ⟨_, _, _, e, _⟩ := r; subst e; rfl
  | ref _ => obtain ⟨_, rfl, _⟩ := r; rfl
  | fn _ => cases r; rfl
  | cls _ => cases r; rfl
  | ty _ => cases r; rfl
theorem o_is : OpR X (compareOp .Is) (rOp2 X.K ad fIs) := by
  intro pins s σ H x y v u Q I rx ry ⟨ρ, m, p, q, r, hr, vp, vq, e, k⟩
  unfold fIs at e
  split at e
  · cases e
    cases vq
    refine op_isN pins s σ H x _ v u Q I rx ry ⟨rfl, ?_⟩
    rw [isNone_of vp]
    exact k ρ H _ (Step.refl _ _) hr rfl
  · cases e
theorem o_isnot : OpR X (compareOp .IsNot) (rOp2 X.K ad fIsNot) := by
  intro pins s σ H x y v u Q I rx ry ⟨ρ, m, p, q, r, hr, vp, vq, e, k⟩
  unfold fIsNot at e
  split at e
  · cases e
    cases vq
    refine op_notN pins s σ H x _ v u Q I rx ry ⟨rfl, ?_⟩
    rw [isNone_of vp]
    exact k ρ H _ (Step.refl _ _) hr rfl
  · cases e
/-- each item of a sequence beside x -/
theorem mem_at {pins : List (Addr × Obj)} {σ : L2.St} {H : Hp} {s : Shared} (I : Inv X pins σ H s) {A : Around} (hA : A.units + 64 < cLine) {d : PV} {x : V} {v : Value} (rd : RR X.K H d x) (pd : plain d = true) (hd : dep d ≤ 64) (rx : RelV x v) :
    ∀ {zs : List PV} {vs : List V} {us : List Value}, plains zs = true → RRs X.K H zs vs → Vals vs us → ∃ e : Value → Bool, (∀ w ∈ us, EqAt A s w v (e w)) ∧ us.any e = memv d zs := by
  intro zs vs us hz r w
  -- one value has one datum: e is read off the machine's value
  have each : ∀ w ∈ us, ∃ b, EqAt A s w v b ∧ ∀ (i : Nat) (z : PV), zs[i]? = some z → us[i]? = some w → eqv z d = b := by
    intro u hu
    obtain ⟨i, hi, e⟩ := List.mem_iff_getElem.mp hu
    have hl := w.length
    have hm := r.length
    have e1 : us[i]? = some u := by rw [List.getElem?_eq_getElem hi, e]
    have l1 : i < zs.length := by omega
    obtain ⟨y, e2, r2⟩ := r.get (List.getElem?_eq_getElem l1)
    obtain ⟨u', e3, r3⟩ := w.get e2
    rw [e1] at e3; cases e3
    refine ⟨eqv zs[i] d, eq_at I 64 A _ d y x u v hA (.inr hd) (plains_get hz (List.getElem?_eq_getElem l1)) pd r2 rd r3 rx, fun j z ez ej => ?_⟩
    obtain ⟨y', e4, r4⟩ := r.get ez
    obtain ⟨u2, e5, r5⟩ := w.get e4
    rw [ej] at e5; cases e5
    have hy : y = y' := RelV.inj r3 r5
    subst hy
    rw [RR.inj I (dep z) z zs[i] y (Nat.le_refl _) (plains_get hz ez) (plains_get hz (List.getElem?_eq_getElem l1)) r4 r2]
  classical
  refine ⟨fun w => if h : w ∈ us then (each w h).choose else false, fun w hw => ?_, ?_⟩
  · simp only [dif_pos hw]
    exact (each w hw).choose_spec.1
  · have key : ∀ (i : Nat) (z : PV) (w : Value), zs[i]? = some z → us[i]? = some w → (if h : w ∈ us then (each w h).choose else false) = eqv z d := by
      intro i z w ez ew
      have hm := List.mem_of_getElem? ew
      rw [dif_pos hm]
      exact ((each w hm).choose_spec.2 i z ez ew).symm
    have len : us.length = zs.length := by rw [← w.length, r.length]
    rw [memv]
    apply Bool.eq_iff_iff.mpr
    simp only [List.any_eq_true]
    constructor
    · rintro ⟨u, hu, h⟩
      obtain ⟨i, hi, e⟩ := List.mem_iff_getElem.mp hu
      have l1 : i < zs.length := by omega
      refine ⟨zs[i], List.getElem_mem l1, ?_⟩
      rw [← key i zs[i] u (List.getElem?_eq_getElem l1) (by rw [List.getElem?_eq_getElem hi, e])]
      exact h
    · rintro ⟨z, hz', h⟩
      obtain ⟨i, hi, e⟩ := List.mem_iff_getElem.mp hz'
      have l1 : i < us.length := by omega
      refine ⟨us[i], List.getElem_mem l1, ?_⟩
      rw [key i z us[i] (by rw [List.getElem?_eq_getElem hi, e]) (List.getElem?_eq_getElem l1)]
      exact h
theorem isIn_at {pins : List (Addr × Obj)} {σ : L2.St} {H : Hp} {s : Shared} {ρ : Rho} {m : Mem} (I : Inv X pins σ H s) (hu : X.A.units + 65 < cLine) {p q : PV} {x y : V} {v u : Value} {b : Bool} (hr : HR X.K ad ρ H m) (e : isIn m p q = some b) (vp : VR X.K ad ρ H p x) (vq : VR X.K ad ρ H q y)
    (rx : RelV x v) (ry : RelV y u) (Q : VK) (E : Value → Shared → Prop) : (Q (.bl b) H → wpAny (model X.prog X.w) X.A (compareOp .In v u) (EP X pins σ Q) X.xe s) ∧ (Q (.bl (!b)) H → wpAny (model X.prog X.w) X.A (compareOp .NotIn v u) (EP X pins σ Q) X.xe s) := by
  unfold isIn at e
  split at e
  · cases vq
    split at e
    · cases vp
      cases e
      exact ⟨fun k => op_in_str pins s σ H _ _ v u Q I rx ry ⟨_, _, rfl, rfl, k⟩, fun k => op_notin_str pins s σ H _ _ v u Q I rx ry ⟨_, _, rfl, rfl, k⟩⟩
    · cases e
  · split at e
    · rename_i zs d ez ed
      split at e
      · rename_i hd
        cases e
        obtain ⟨rd, pd⟩ := datum_at hr ed vp
        obtain ⟨a, vs, rfl, hq, rz⟩ := seqOf_at hr ez vq
        cases ry
        rcases hq with hq | hq
        · obtain ⟨its, r, pl, hz⟩ := I.list hq
          obtain ⟨f, h1, h2⟩ := mem_at (A := X.A.in1) I (by show X.A.units + 1 + 64 < cLine; omega) rd pd hd.2 rx hd.1 (RRs.of zs vs hd.1 rz) r
          constructor
          · intro k
            refine SeqAt.in_listAt f pl.isList (fun w hw => h1 w (by simpa using hw)) ⟨.bl _, H, I, rfl, ?_⟩
            have z : its.toArray.any f = memv d zs := by rw [← h2]; simp
            rw [z]; exact k
          · intro k
            refine SeqAt.notIn_listAt f pl.isList (fun w hw => h1 w (by simpa using hw)) ⟨.bl _, H, I, rfl, ?_⟩
            have z : its.toArray.any f = memv d zs := by rw [← h2]; simp
            rw [z]; exact k
        · obtain ⟨its, r, pl, hz⟩ := I.tuple hq
          obtain ⟨f, h1, h2⟩ := mem_at (A := X.A.in1) I (by show X.A.units + 1 + 64 < cLine; omega) rd pd hd.2 rx hd.1 (RRs.of zs vs hd.1 rz) r
          constructor
          · intro k
            refine SeqAt.in_tupleAt f pl (fun w hw => h1 w (by simpa using hw)) ⟨.bl _, H, I, rfl, ?_⟩
            have z : its.toArray.any f = memv d zs := by rw [← h2]; simp
            rw [z]; exact k
          · intro k
            refine SeqAt.notIn_tupleAt f pl (fun w hw => h1 w (by simpa using hw)) ⟨.bl _, H, I, rfl, ?_⟩
            have z : its.toArray.any f = memv d zs := by rw [← h2]; simp
            rw [z]; exact k
      · cases e
    · cases e
theorem o_in (hu : X.A.units + 65 < cLine) : OpR X (compareOp .In) (rOp2 X.K ad fIn) := by
  intro pins s σ H x y v u Q I rx ry ⟨ρ, m, p, q, r, hr, vp, vq, e, k⟩
  unfold fIn at e
  cases eb : isIn m p q with
  | none => rw [eb] at e; cases e
  | some b =>
    rw [eb] at e; cases e
    exact (isIn_at I hu hr eb vp vq rx ry Q X.xe).1 (k ρ H _ (Step.refl _ _) hr rfl)
theorem o_notin (hu : X.A.units + 65 < cLine) : OpR X (compareOp .NotIn) (rOp2 X.K ad fNotIn) := by
  intro pins s σ H x y v u Q I rx ry ⟨ρ, m, p, q, r, hr, vp, vq, e, k⟩
  unfold fNotIn at e
  cases eb : isIn m p q with
  | none => rw [eb] at e; cases e
  | some b =>
    rw [eb] at e; cases e
    exact (isIn_at I hu hr eb vp vq rx ry Q X.xe).2 (k ρ H _ (Step.refl _ _) hr rfl)
end
end Z

end
section -- Z6
/-! Z6: arithmetic, +, items, slices. -/
namespace Z
open PySem PySem.Spec PyProof.Rows L2

def mulOk (i j : Int) : Bool := (decide (-(2 ^ 64) < i) && decide (i < 2 ^ 64)) || ((decide (-(2 ^ 64) < j) && decide (j < 2 ^ 64)) || decide (i.natAbs.log2 + j.natAbs.log2 < 1000000))
def divOk (j : Int) : Bool := decide (0 < j) && (decide (j < 1073741824) || decide (j.natAbs.log2 < 9000))
def powOk (i j : Int) : Bool := decide (0 ≤ j) && (decide (j ≤ 1000000) && decide (i.natAbs < 2 ^ 64))
def b2z (b : Bool) : Int := if b then 1 else 0
def fAdd (m : Mem) (p q : PV) : Option PV := match p, q with
  | .int i, .int j => some (.int (i + j))
  | .int i, .bl b => some (.int (i + b2z b))
  | .str x, .str y => if x.length + y.length ≤ sizeLine then some (.str (x ++ y)) else none
  | .tup xs, .tup ys => if xs.length + ys.length ≤ sizeLine then some (.tup (xs ++ ys)) else none
  | _, _ => match lstW m p, lstW m q with
    | some xs, some ys => if xs.length + ys.length ≤ sizeLine then some (.lst (xs ++ ys)) else none
    | _, _ => none
def fSub (_ : Mem) (p q : PV) : Option PV := match p, q with
  | .int i, .int j => some (.int (i - j))
  | _, _ => none
def fMul (m : Mem) (p q : PV) : Option PV := match p, q with
  | .int i, .int j => if mulOk i j = true then some (.int (i * j)) else none
  | p, .int k => match lstW m p with
    | some xs => if -(2 ^ 63) ≤ k ∧ k < 2 ^ 63 ∧ xs.length * k.toNat ≤ sizeLine then some (.lst (List.replicate k.toNat xs).flatten) else none
    | none => none
  | _, _ => none
def fDiv (_ : Mem) (p q : PV) : Option PV := match p, q with
  | .int i, .int j => if divOk j = true then some (.int (i / j)) else none
  | _, _ => none
def fMod (_ : Mem) (p q : PV) : Option PV := match p, q with
  | .int i, .int j => if 0 < j then some (.int (i % j)) else none
  | _, _ => none
def fPow (_ : Mem) (p q : PV) : Option PV := match p, q with
  | .int i, .int j => if powOk i j = true then some (.int (i ^ j.toNat)) else none
  | _, _ => none
def fNeg (_ : Mem) (p : PV) : Option PV := match p with
  | .int i => some (.int (-i))
  | _ => none
/-- an item of a sequence, a sign of a text -/
def fIx (m : Mem) (p q : PV) : Option PV := match q with
  | .int i => match p with
    | .str z => if z.length ≤ sizeLine then (atI z.cps.toList i).map fun c => .str ⟨#[c]⟩ else none
    | p => match seqOf m p with
      | some xs => atI xs i
      | none => none
  | _ => none
def cutP {α : Type} (xs : List α) (lo hi : Option Int) : List α := (xs.drop (HT.sIx xs.length 0 lo)).take (HT.sIx xs.length xs.length hi - HT.sIx xs.length 0 lo)
def fSl (m : Mem) (p : PV) (lo hi : Option Int) : Option PV := match p with
  | .str z => if z.length ≤ sizeLine then some (.str (cutS z lo hi)) else none
  | .tup xs => some (.tup (cutP xs lo hi))
  | p => match lstOf m p with
    | some xs => some (.lst (cutP xs lo hi))
    | none => none

section
variable {X : Cx} {ad : Ads}
theorem mulOk_ok {i j : Int} (h : mulOk i j = true) : CMul i j ∨ CMulW i j := by
  unfold mulOk at h
  simp only [Bool.or_eq_true, Bool.and_eq_true, decide_eq_true_eq] at h
  rcases h with h | h | h
  · exact .inl (.inl h)
  · exact .inl (.inr h)
  · exact .inr h
theorem divOk_ok {i j : Int} (h : divOk j = true) : CDiv i j ∨ CDivW i j := by
  unfold divOk at h
  simp only [Bool.or_eq_true, Bool.and_eq_true, decide_eq_true_eq] at h
  rcases h.2 with h2 | h2
  · exact .inl ⟨h.1, h2⟩
  · exact .inr ⟨h.1, h2⟩
theorem o_add : OpR X (binaryOp .Add) (rOp2 X.K ad fAdd) := by
  intro pins s σ H x y v u Q I rx ry ⟨ρ, m, p, q, r, hr, vp, vq, e, k⟩
  unfold fAdd at e
  split at e
  · cases e; cases vp; cases vq
    exact op_add pins s σ H _ _ v u Q I rx ry ⟨_, _, rfl, rfl, k ρ H _ (Step.refl _ _) hr rfl⟩
  · cases e; cases vp; cases vq
    refine op_add_ib pins s σ H _ _ v u Q I rx ry ⟨_, _, rfl, rfl, k ρ H _ (Step.refl _ _) hr ?_⟩
    rfl
  · split at e
    · cases e; cases vp; cases vq
      exact op_add_str pins s σ H _ _ v u Q I rx ry ⟨_, _, rfl, rfl, by assumption, k ρ H _ (Step.refl _ _) hr rfl⟩
    · cases e
  · split at e
    · rename_i hl
      cases e
      obtain ⟨a, vs, rfl, t1, r1⟩ := vp
      obtain ⟨b, us, rfl, t2, r2⟩ := vq
      have l1 := r1.length; have l2 := r2.length
      refine op_catA pins s σ H _ _ v u Q I rx ry ⟨a, b, vs, us, rfl, rfl, t1.sq, t2.sq, by omega, fun e => ?_, fun _ e => ?_, fun _ _ p hp => ?_⟩
      · subst e
        refine k ρ H _ (Step.refl _ _) hr ⟨b, us, rfl, t2, ?_⟩
        have := VRs.append r1 r2
        simpa using this
      · subst e
        refine k ρ H _ (Step.refl _ _) hr ⟨a, vs, rfl, t1, ?_⟩
        have := VRs.append r1 r2
        simpa using this
      · obtain ⟨st, hr', vr⟩ := new_tup hr (VRs.append r1 r2) hp
        exact k _ _ _ st hr' vr
    · cases e
  · split at e
    · rename_i xs ys e1 e2
      split at e
      · rename_i hl
        cases e
        obtain ⟨a, vs, rfl, t1, r1⟩ := lstW_at hr e1 vp
        obtain ⟨b, us, rfl, t2, r2⟩ := lstW_at hr e2 vq
        have l1 := r1.length; have l2 := r2.length
        refine op_cat pins s σ H _ _ v u Q I rx ry ⟨a, b, vs, us, rfl, rfl, t1, t2, by omega, fun p hp => ?_⟩
        obtain ⟨st, hr', vr⟩ := new_lst hr (VRs.append r1 r2) hp
        exact k _ _ _ st hr' vr
      · cases e
    · cases e
theorem o_sub : OpR X (binaryOp .Sub) (rOp2 X.K ad fSub) := by
  intro pins s σ H x y v u Q I rx ry ⟨ρ, m, p, q, r, hr, vp, vq, e, k⟩
  unfold fSub at e
  split at e
  · cases e; cases vp; cases vq
    exact op_sub pins s σ H _ _ v u Q I rx ry ⟨_, _, rfl, rfl, k ρ H _ (Step.refl _ _) hr rfl⟩
  · cases e
theorem VRs.rep {K : PySem.W.Frag} {ρ : Rho} {H : Hp} {xs : List PV} {vs : List V} (r : VRs K ad ρ H xs vs) : ∀ n : Nat, VRs K ad ρ H (List.replicate n xs).flatten (List.replicate n vs).flatten
  | 0 => rfl
  | n + 1 => by
    rw [List.replicate_succ, List.replicate_succ, List.flatten_cons, List.flatten_cons]
    exact VRs.append r (VRs.rep r n)
theorem o_mul : OpR X (binaryOp .Mult) (rOp2 X.K ad fMul) := by
  intro pins s σ H x y v u Q I rx ry ⟨ρ, m, p, q, r, hr, vp, vq, e, k⟩
  unfold fMul at e
  split at e
  · split at e
    · rename_i h
      cases e; cases vp; cases vq
      rcases mulOk_ok h with h | h
      · exact op_mul pins s σ H _ _ v u Q I rx ry ⟨_, _, rfl, rfl, h, k ρ H _ (Step.refl _ _) hr rfl⟩
      · exact op_mulW pins s σ H _ _ v u Q I rx ry ⟨_, _, rfl, rfl, h, k ρ H _ (Step.refl _ _) hr rfl⟩
    · cases e
  · split at e
    · rename_i xs e1
      split at e
      · rename_i h
        cases e; cases vq
        obtain ⟨a, vs, rfl, t1, r1⟩ := lstW_at hr e1 vp
        have l1 := r1.length
        refine op_rep pins s σ H _ _ v u Q I rx ry ⟨a, _, vs, rfl, rfl, t1, h.1, h.2.1, by rw [← l1]; exact h.2.2, fun p hp => ?_⟩
        obtain ⟨st, hr', vr⟩ := new_lst hr (VRs.rep r1 _) hp
        exact k _ _ _ st hr' vr
      · cases e
    · cases e
  · cases e
theorem o_div : OpR X (binaryOp .FloorDiv) (rOp2 X.K ad fDiv) := by
  intro pins s σ H x y v u Q I rx ry ⟨ρ, m, p, q, r, hr, vp, vq, e, k⟩
  unfold fDiv at e
  split at e
  · split at e
    · rename_i i j h
      cases e; cases vp; cases vq
      rcases divOk_ok (i := i) h with h | h
      · exact op_fdiv pins s σ H _ _ v u Q I rx ry ⟨_, _, rfl, rfl, h, k ρ H _ (Step.refl _ _) hr rfl⟩
      · exact op_fdivW pins s σ H _ _ v u Q I rx ry ⟨_, _, rfl, rfl, h, k ρ H _ (Step.refl _ _) hr rfl⟩
    · cases e
  · cases e
theorem o_mod : OpR X (binaryOp .Mod) (rOp2 X.K ad fMod) := by
  intro pins s σ H x y v u Q I rx ry ⟨ρ, m, p, q, r, hr, vp, vq, e, k⟩
  unfold fMod at e
  split at e
  · split at e
    · rename_i i j h
      cases e; cases vp; cases vq
      exact op_mod pins s σ H _ _ v u Q I rx ry ⟨_, _, rfl, rfl, h, k ρ H _ (Step.refl _ _) hr rfl⟩
    · cases e
  · cases e
theorem o_pow : OpR X (binaryOp .Pow) (rOp2 X.K ad fPow) := by
  intro pins s σ H x y v u Q I rx ry ⟨ρ, m, p, q, r, hr, vp, vq, e, k⟩
  unfold fPow at e
  split at e
  · split at e
    · rename_i i j h
      cases e; cases vp; cases vq
      unfold powOk at h
      simp only [Bool.and_eq_true, decide_eq_true_eq] at h
      exact op_pow pins s σ H _ _ v u Q I rx ry ⟨_, _, rfl, rfl, h, k ρ H _ (Step.refl _ _) hr rfl⟩
    · cases e
  · cases e
theorem o_neg : UnR X (unaryOp .USub) (rOp1 X.K ad fNeg) := by
  intro pins s σ H x v Q I rx ⟨ρ, m, p, r, hr, vp, e, k⟩
  unfold fNeg at e
  split at e
  · cases e; cases vp
    exact un_neg pins s σ H _ v Q I rx ⟨_, rfl, k ρ H _ (Step.refl _ _) hr rfl⟩
  · cases e
theorem atI_VR {K : PySem.W.Frag} {ρ : Rho} {H : Hp} {xs : List PV} {vs : List V} (r : VRs K ad ρ H xs vs) {i : Int} {p : PV} (e : atI xs i = some p) : ∃ v, atI vs i = some v ∧ VR K ad ρ H p v := by
  unfold atI at e ⊢
  rw [← r.length]
  cases q : ixN xs.length i with
  | none => rw [q] at e; cases e
  | some j =>
    rw [q] at e
    obtain ⟨v, e1, e2⟩ := r.get (i := j) (p := p) (by simpa using e)
    exact ⟨v, by simpa using e1, e2⟩
theorem o_ix : IxR X (rOp2 X.K ad fIx) := by
  intro value slice pins s σ H x y v u Q I rx ry ⟨ρ, m, p, q, r, hr, vp, vq, e, k⟩ hs
  unfold fIx at e
  split at e
  · cases vq
    split at e
    · cases vp
      split at e
      · rename_i hl
        cases ec : atI _ _ with
        | none => rw [ec] at e; cases e
        | some c =>
          rw [ec] at e; cases e
          exact ix_str value slice pins s σ H _ _ v u Q I rx ry ⟨_, _, c, rfl, rfl, hl, ec, k ρ H _ (Step.refl _ _) hr rfl⟩ hs
      · cases e
    · split at e
      · rename_i xs e1
        obtain ⟨a, vs, rfl, hq, rv⟩ := seqOf_at hr e1 vp
        obtain ⟨w, ew, rw'⟩ := atI_VR rv e
        rcases hq with hq | hq
        · exact ix_list value slice pins s σ H _ _ v u Q I rx ry ⟨a, vs, _, w, rfl, rfl, hq, ew, k ρ H _ (Step.refl _ _) hr rw'⟩ hs
        · exact ix_tup value slice pins s σ H _ _ v u Q I rx ry ⟨a, vs, _, w, rfl, rfl, hq, ew, k ρ H _ (Step.refl _ _) hr rw'⟩ hs
      · cases e
  · cases e
theorem cut_VR {K : PySem.W.Frag} {ρ : Rho} {H : Hp} {xs : List PV} {vs : List V} (r : VRs K ad ρ H xs vs) (lo hi : Option Int) : VRs K ad ρ H (cutP xs lo hi) (cutV vs lo hi) := by
  unfold cutP cutV
  rw [r.length]
  exact VRs.take _ (VRs.drop _ r)
def rSl (K : PySem.W.Frag) (ad : Ads) : V → Option Int → Option Int → Hp → VK → Prop := fun x lo hi H Q => ∃ ρ m p v, HR K ad ρ H m ∧ VR K ad ρ H p x ∧ fSl m p lo hi = some v ∧ ∀ ρ' H' v', Step ρ H ρ' H' → HR K ad ρ' H' m → VR K ad ρ' H' v v' → Q v' H'
theorem cutP_whole {α : Type} (xs : List α) (lo hi : Option Int) (h : HT.sIx xs.length 0 lo = 0 ∧ HT.sIx xs.length xs.length hi = xs.length) : cutP xs lo hi = xs := by
  unfold cutP
  rw [h.1, h.2]; simp
theorem o_sl : SlR X (rSl X.K ad) := by
  intro pins s σ H x v vl vu lo hi sl Q I rx hs pl pu ⟨ρ, m, p, r, hr, vp, e, k⟩
  unfold fSl at e
  split at e
  · split at e
    · rename_i hl
      cases e; cases vp
      exact sl_str pins s σ H _ v vl vu lo hi sl Q I rx hs pl pu ⟨_, rfl, hl, k ρ H _ (Step.refl _ _) hr rfl⟩
    · cases e
  · cases e
    obtain ⟨a, vs, rfl, t1, r1⟩ := vp
    refine sl_tupA pins s σ H _ v vl vu lo hi sl Q I rx hs pl pu ⟨a, vs, rfl, t1.sq, fun hw => ?_, fun _ p hp => ?_⟩
    · refine k ρ H _ (Step.refl _ _) hr ⟨a, vs, rfl, t1, ?_⟩
      rw [← r1.length] at hw
      rw [cutP_whole _ _ _ hw]
      exact r1
    · obtain ⟨st, hr', vr⟩ := new_tup hr (cut_VR r1 lo hi) hp
      exact k _ _ _ st hr' vr
  · split at e
    · rename_i xs e1
      cases e
      obtain ⟨a, vs, rfl, t1, r1⟩ := lstOf_at hr e1 vp
      refine sl_list pins s σ H _ v vl vu lo hi sl Q I rx hs pl pu ⟨a, vs, rfl, .inl t1, fun p hp => ?_⟩
      obtain ⟨st, hr', vr⟩ := new_lst hr (cut_VR r1 lo hi) hp
      exact k _ _ _ st hr' vr
    · cases e
/-! slices as expressions -/
def EvO := Mem → Envr → Mem → Res (Option Int)
def oNone : EvO := fun _ _ h => .ok none h
def oSome (a : Ev) : EvO := fun R env h => (a R env h).bind fun x h1 => match x with
  | .int i => .ok (some i) h1
  | _ => .bad
def cSl (a : Ev) (lo hi : EvO) : Ev := fun R env h => (a R env h).bind fun x h1 => (lo R env h1).bind fun l h2 => (hi R env h2).bind fun u h3 => liftO h3 (fSl (R ++ h3) x l u)
def simO (K : PySem.W.Frag) (ad : Ads) (W : WX) (e : EvO) : TO := fun σ H Q => ∃ ρ R env h, ER K ad ρ H env σ ∧ HR K ad ρ H (R ++ h) ∧
  SimR K ad (fun c d H' => W c d σ H') R ρ H (e R env h) (fun _ H' v _ => Q v H')
theorem PO.imp {X : Cx} {e : Option Expr} {t t' : TO} (h : PO X e t) (i : ∀ σ H Q, t' σ H Q → t σ H Q) : PO X e t' := ⟨fun pins s σ H Q I q => h.run pins s σ H Q I (i σ H Q q)⟩
variable {W : WX}
theorem z_onone : PO X none (simO X.K ad W oNone) := by
  refine PO.imp po_none fun σ H Q h => ?_
  obtain ⟨ρ, R, env, h0, er, hr, s⟩ := h
  exact SimR.here s hr
theorem z_osome {e : Expr} {a : Ev} (ha : PE X e (simE X.K ad W a)) : PO X (some e) (simO X.K ad W (oSome a)) := by
  refine PO.imp (po_some ha) fun σ H Q h => ?_
  obtain ⟨ρ, R, env, h0, er, hr, s⟩ := h
  refine ⟨ρ, R, env, h0, er, hr, (SimR.bind s).imp fun ρ1 H1 x h1 st1 hr1 s1 x' vx => ?_⟩
  cases x with
  | int i => cases vx; exact ⟨i, rfl, SimR.here s1 hr1⟩
  | _ => exact s1.elim
theorem z_sl {e : Expr} {lo hi : Option Expr} {p2 pos : Pos} {a : Ev} {l u : EvO} (ha : PE X e (simE X.K ad W a)) (hl : PO X lo (simO X.K ad W l)) (hu : PO X hi (simO X.K ad W u)) :
    PE X (.Subscript e (.Slice lo hi none p2) pos) (simE X.K ad W (cSl a l u)) := by
  refine PE.imp (pe_slice (o_sl (ad := ad)) ha hl hu) fun σ H Q h => ?_
  obtain ⟨ρ, R, env, h0, er, hr, s⟩ := h
  refine ⟨ρ, R, env, h0, er, hr, (SimR.bind s).imp fun ρ1 H1 x h1 st1 hr1 s1 x' vx => ?_⟩
  refine ⟨ρ1, R, env, h1, er.mono st1, hr1, (SimR.bind s1).imp fun ρ2 H2 y h2 st2 hr2 s2 => ?_⟩
  refine ⟨ρ2, R, env, h2, (er.mono st1).mono st2, hr2, (SimR.bind s2).imp fun ρ3 H3 z h3 st3 hr3 s3 => ?_⟩
  obtain ⟨v, e, k⟩ := SimR.lift s3
  exact ⟨ρ3, R ++ h3, x, v, hr3, VR.mono st3 _ (VR.mono st2 _ vx), e, fun ρ4 H4 v' st4 hr4 => k ρ4 H4 st4 hr4 v'⟩
end
end Z

end
section -- Z7
/-! Z7: built-in functions on our values. -/
namespace Z
open PySem PySem.Spec PyProof.Rows L2

def asBls : List PV → Option (List Bool)
  | [] => some []
  | .bl b :: xs => (asBls xs).map (b :: ·)
  | _ => none
def asInts : List PV → Option (List Int)
  | [] => some []
  | .int i :: xs => (asInts xs).map (i :: ·)
  | _ => none
def asStrs : List PV → Option (List Str)
  | [] => some []
  | .str x :: xs => (asStrs xs).map (x :: ·)
  | _ => none
def one (f : Mem → PV → Option PV) (m : Mem) : List PV → Option PV
  | [p] => f m p
  | _ => none
def lenOf (m : Mem) (p : PV) : Option Nat := match p with
  | .str z => if z.length ≤ sizeLine then some z.length else none
  | p => (seqOf m p).map List.length
def fLen (m : Mem) (p : PV) : Option PV := (lenOf m p).map fun n => .int n
def fAbs (_ : Mem) (p : PV) : Option PV := match p with
  | .int i => some (.int (if i < 0 then -i else i))
  | _ => none
def fInt (_ : Mem) (p : PV) : Option PV := match p with
  | .int i => some (.int i)
  | .bl b => some (.int (if b then 1 else 0))
  | .str x => match PySem.intText? x with
    | some n => if x.length ≤ 640 then some (.int n) else none
    | none => none
  | _ => none
def fStr (_ : Mem) (p : PV) : Option PV := match p with
  | .int i => if i.natAbs.log2 < 1920 then some (.str (toString i)) else none
  | .str x => some (.str x)
  | _ => none
def fAll (m : Mem) (p : PV) : Option PV := match lstOf m p with
  | some xs => (asBls xs).map fun bs => .bl (bs.all id)
  | none => none
def fAny (m : Mem) (p : PV) : Option PV := match lstOf m p with
  | some xs => (asBls xs).map fun bs => .bl (bs.any id)
  | none => none
def fSum (m : Mem) (p : PV) : Option PV := match lstOf m p with
  | some xs => (asInts xs).map fun ns => .int ns.sum
  | none => none
def maxI : List Int → Option Int
  | [] => none
  | x :: r => some (r.foldl (fun a y => if y > a then y else a) x)
def minI : List Int → Option Int
  | [] => none
  | x :: r => some (r.foldl (fun a y => if y < a then y else a) x)
def fMax (m : Mem) : List PV → Option PV
  | [p] => match lstOf m p with
    | some xs => match asInts xs with
      | some ns => (maxI ns).map PV.int
      | none => none
    | none => none
  | [.int i, .int j] => some (.int (if j > i then j else i))
  | _ => none
def fMin (m : Mem) : List PV → Option PV
  | [p] => match lstOf m p with
    | some xs => match asInts xs with
      | some ns => (minI ns).map PV.int
      | none => none
    | none => none
  | [.int i, .int j] => some (.int (if j < i then j else i))
  | _ => none
def signs (z : Str) : List PV := z.cps.toList.map fun c => .str ⟨#[c]⟩
def fTuple (m : Mem) (p : PV) : Option PV := match p with
  | .tup xs => some (.tup xs)
  | .str z => if z.cps.size ≤ sizeLine then some (.tup (signs z)) else none
  | p => (lstOf m p).map PV.tup
def fList (m : Mem) (p : PV) : Option PV := (seqOf m p).map PV.lst

theorem asBls_at {K : PySem.W.Frag} {ad : Ads} {ρ : Rho} {H : Hp} : ∀ {xs : List PV} {bs : List Bool} {vs : List V}, asBls xs = some bs → VRs K ad ρ H xs vs → vs = bs.map V.bl
  | [], _, _, e, r => by cases e; cases r; rfl
  | x :: xs, bs, vs, e, r => by
    obtain ⟨y, ys, rfl, r1, r2⟩ := r
    cases x with
    | bl b =>
      rw [asBls] at e
      cases q : asBls xs with
      | none => rw [q] at e; cases e
      | some cs => rw [q] at e; cases e; cases r1; rw [asBls_at q r2]; rfl
    | _ => simp [asBls] at e
theorem asInts_at {K : PySem.W.Frag} {ad : Ads} {ρ : Rho} {H : Hp} : ∀ {xs : List PV} {bs : List Int} {vs : List V}, asInts xs = some bs → VRs K ad ρ H xs vs → vs = bs.map V.int
  | [], _, _, e, r => by cases e; cases r; rfl
  | x :: xs, bs, vs, e, r => by
    obtain ⟨y, ys, rfl, r1, r2⟩ := r
    cases x with
    | int b =>
      rw [asInts] at e
      cases q : asInts xs with
      | none => rw [q] at e; cases e
      | some cs => rw [q] at e; cases e; cases r1; rw [asInts_at q r2]; rfl
    | _ => simp [asInts] at e
theorem asStrs_at {K : PySem.W.Frag} {ad : Ads} {ρ : Rho} {H : Hp} : ∀ {xs : List PV} {bs : List Str} {vs : List V}, asStrs xs = some bs → VRs K ad ρ H xs vs → vs = bs.map V.str
  | [], _, _, e, r => by cases e; cases r; rfl
  | x :: xs, bs, vs, e, r => by
    obtain ⟨y, ys, rfl, r1, r2⟩ := r
    cases x with
    | str b =>
      rw [asStrs] at e
      cases q : asStrs xs with
      | none => rw [q] at e; cases e
      | some cs => rw [q] at e; cases e; cases r1; rw [asStrs_at q r2]; rfl
    | _ => simp [asStrs] at e
theorem foldmax : ∀ (r : List Int) (x : Int), (r.foldl (fun a y => if y > a then y else a) x) ∈ x :: r ∧ ∀ y ∈ x :: r, y ≤ r.foldl (fun a y => if y > a then y else a) x
  | [], x => by simp
  | z :: r, x => by
    obtain ⟨h1, h2⟩ := foldmax r (if z > x then z else x)
    rw [List.foldl_cons]
    have hx := h2 (if z > x then z else x) (by simp)
    generalize r.foldl (fun a y => if y > a then y else a) (if z > x then z else x) = k at h1 h2 hx ⊢
    refine ⟨?_, fun y hy => ?_⟩
    · rcases List.mem_cons.mp h1 with h | h
      · rw [h]; split <;> simp
      · simp [h]
    · rcases List.mem_cons.mp hy with h | hy
      · subst h; split at hx <;> omega
      · rcases List.mem_cons.mp hy with h | hy
        · subst h; split at hx <;> omega
        · exact h2 y (by simp [hy])
theorem foldmin : ∀ (r : List Int) (x : Int), (r.foldl (fun a y => if y < a then y else a) x) ∈ x :: r ∧ ∀ y ∈ x :: r, r.foldl (fun a y => if y < a then y else a) x ≤ y
  | [], x => by simp
  | z :: r, x => by
    obtain ⟨h1, h2⟩ := foldmin r (if z < x then z else x)
    rw [List.foldl_cons]
    have hx := h2 (if z < x then z else x) (by simp)
    generalize r.foldl (fun a y => if y < a then y else a) (if z < x then z else x) = k at h1 h2 hx ⊢
    refine ⟨?_, fun y hy => ?_⟩
    · rcases List.mem_cons.mp h1 with h | h
      · rw [h]; split <;> simp
      · simp [h]
    · rcases List.mem_cons.mp hy with h | hy
      · subst h; split at hx <;> omega
      · rcases List.mem_cons.mp hy with h | hy
        · subst h; split at hx <;> omega
        · exact h2 y (by simp [hy])
theorem maxI_ok {ns : List Int} {k : Int} (e : maxI ns = some k) (m : Int) (hm : m ∈ ns) (hx : ∀ y, y ∈ ns → y ≤ m) : m = k := by
  cases ns with
  | nil => cases e
  | cons x r =>
    cases e
    have h := foldmax r x
    have h1 := hx _ h.1
    have h2 := h.2 m hm
    omega
theorem minI_ok {ns : List Int} {k : Int} (e : minI ns = some k) (m : Int) (hm : m ∈ ns) (hx : ∀ y, y ∈ ns → m ≤ y) : m = k := by
  cases ns with
  | nil => cases e
  | cons x r =>
    cases e
    have h := foldmin r x
    have h1 := hx _ h.1
    have h2 := h.2 m hm
    omega

section
variable {X : Cx} {ad : Ads}
theorem VRs.one {K : PySem.W.Frag} {ρ : Rho} {H : Hp} {p : PV} {vs : List V} (r : VRs K ad ρ H [p] vs) : ∃ v, vs = [v] ∧ VR K ad ρ H p v := by
  obtain ⟨y, ys, rfl, a, b⟩ := r
  cases b
  exact ⟨y, rfl, a⟩
theorem VRs.two {K : PySem.W.Frag} {ρ : Rho} {H : Hp} {p q : PV} {vs : List V} (r : VRs K ad ρ H [p, q] vs) : ∃ v w, vs = [v, w] ∧ VR K ad ρ H p v ∧ VR K ad ρ H q w := by
  obtain ⟨y, ys, rfl, a, b⟩ := r
  obtain ⟨w, rfl, c⟩ := VRs.one b
  exact ⟨y, w, rfl, a, c⟩
theorem b_len : CallR X (.builtin "len") (rFn X.K ad (one fLen)) := by
  intro pins s σ H xs us Q I rv ⟨ρ, m, ps, r, hr, vp, e, k⟩
  unfold one at e
  split at e
  · rename_i p
    obtain ⟨v, rfl, vq⟩ := VRs.one vp
    unfold fLen at e
    cases en : lenOf m p with
    | none => rw [en] at e; cases e
    | some n =>
      rw [en] at e; cases e
      refine call_len pins s σ H _ us Q I rv ⟨v, n, rfl, ?_, k ρ H _ (Step.refl _ _) hr rfl⟩
      unfold lenOf at en
      split at en
      · split at en
        · cases en; cases vq; exact ⟨by assumption, rfl⟩
        · cases en
      · cases es : seqOf m p with
        | none => rw [es] at en; cases en
        | some xs =>
          rw [es] at en; cases en
          obtain ⟨a, vs, rfl, hq, rv'⟩ := seqOf_at hr es vq
          rcases hq with hq | hq
          · exact .inl ⟨vs, hq, rv'.length⟩
          · exact .inr ⟨vs, hq, rv'.length⟩
  · cases e
theorem b_abs : CallR X (.builtin "abs") (rFn X.K ad (one fAbs)) := by
  intro pins s σ H xs us Q I rv ⟨ρ, m, ps, r, hr, vp, e, k⟩
  unfold one at e
  split at e
  · obtain ⟨v, rfl, vq⟩ := VRs.one vp
    unfold fAbs at e
    split at e
    · cases e; cases vq
      exact call_abs pins s σ H _ us Q I rv ⟨_, rfl, k ρ H _ (Step.refl _ _) hr rfl⟩
    · cases e
  · cases e
theorem b_int : CallR X (.type "int") (rFn X.K ad (one fInt)) := by
  intro pins s σ H xs us Q I rv ⟨ρ, m, ps, r, hr, vp, e, k⟩
  unfold one at e
  split at e
  · obtain ⟨v, rfl, vq⟩ := VRs.one vp
    unfold fInt at e
    split at e
    · cases e; cases vq
      exact call_int1 pins s σ H _ us Q I rv (.inl ⟨_, rfl, k ρ H _ (Step.refl _ _) hr rfl⟩)
    · cases e; cases vq
      exact call_int1 pins s σ H _ us Q I rv (.inr ⟨_, rfl, k ρ H _ (Step.refl _ _) hr rfl⟩)
    · cases vq
      split at e
      · rename_i n en
        split at e
        · rename_i hl
          cases e
          exact call_int_str pins s σ H _ us Q I rv ⟨_, n, rfl, en, hl, k ρ H _ (Step.refl _ _) hr rfl⟩
        · cases e
      · cases e
    · cases e
  · cases e
theorem b_str : CallR X (.type "str") (rFn X.K ad (one fStr)) := by
  intro pins s σ H xs us Q I rv ⟨ρ, m, ps, r, hr, vp, e, k⟩
  unfold one at e
  split at e
  · obtain ⟨v, rfl, vq⟩ := VRs.one vp
    unfold fStr at e
    split at e
    · split at e
      · rename_i hl
        cases e; cases vq
        exact call_str_int pins s σ H _ us Q I rv ⟨_, rfl, hl, k ρ H _ (Step.refl _ _) hr rfl⟩
      · cases e
    · cases e; cases vq
      exact SkE.call_str_str pins s σ H _ us Q I rv ⟨_, rfl, k ρ H _ (Step.refl _ _) hr rfl⟩
    · cases e
  · cases e
theorem b_all (hc : X.calm = true) : CallR X (.builtin "all") (rFn X.K ad (one fAll)) := by
  intro pins s σ H xs us Q I rv ⟨ρ, m, ps, r, hr, vp, e, k⟩
  unfold one at e
  split at e
  · obtain ⟨v, rfl, vq⟩ := VRs.one vp
    unfold fAll at e
    split at e
    · rename_i xs el
      cases eb : asBls xs with
      | none => rw [eb] at e; cases e
      | some bs =>
        rw [eb] at e; cases e
        obtain ⟨a, vs, rfl, hq, rv'⟩ := lstOf_at hr el vq
        rw [asBls_at eb rv'] at hq
        exact cr_all hc pins s σ H _ us Q I rv ⟨a, bs, rfl, .inl hq, k ρ H _ (Step.refl _ _) hr rfl⟩
    · cases e
  · cases e
theorem b_any (hc : X.calm = true) : CallR X (.builtin "any") (rFn X.K ad (one fAny)) := by
  intro pins s σ H xs us Q I rv ⟨ρ, m, ps, r, hr, vp, e, k⟩
  unfold one at e
  split at e
  · obtain ⟨v, rfl, vq⟩ := VRs.one vp
    unfold fAny at e
    split at e
    · rename_i xs el
      cases eb : asBls xs with
      | none => rw [eb] at e; cases e
      | some bs =>
        rw [eb] at e; cases e
        obtain ⟨a, vs, rfl, hq, rv'⟩ := lstOf_at hr el vq
        rw [asBls_at eb rv'] at hq
        exact cr_any hc pins s σ H _ us Q I rv ⟨a, bs, rfl, .inl hq, k ρ H _ (Step.refl _ _) hr rfl⟩
    · cases e
  · cases e
theorem b_sum (hc : X.calm = true) : CallR X (.builtin "sum") (rFn X.K ad (one fSum)) := by
  intro pins s σ H xs us Q I rv ⟨ρ, m, ps, r, hr, vp, e, k⟩
  unfold one at e
  split at e
  · obtain ⟨v, rfl, vq⟩ := VRs.one vp
    unfold fSum at e
    split at e
    · rename_i xs el
      cases eb : asInts xs with
      | none => rw [eb] at e; cases e
      | some bs =>
        rw [eb] at e; cases e
        obtain ⟨a, vs, rfl, hq, rv'⟩ := lstOf_at hr el vq
        rw [asInts_at eb rv'] at hq
        exact cr_sum hc pins s σ H _ us Q I rv ⟨a, bs, rfl, .inl hq, k ρ H _ (Step.refl _ _) hr rfl⟩
    · cases e
  · cases e
theorem maxI_some {ns : List Int} {k : Int} (e : maxI ns = some k) : 0 < ns.length := by cases ns with
  | nil => cases e
  | cons => simp
theorem minI_some {ns : List Int} {k : Int} (e : minI ns = some k) : 0 < ns.length := by cases ns with
  | nil => cases e
  | cons => simp
theorem b_max (hc : X.calm = true) : CallR X (.builtin "max") (rFn X.K ad fMax) := by
  intro pins s σ H xs us Q I rv ⟨ρ, m, ps, r, hr, vp, e, k⟩
  unfold fMax at e
  split at e
  · obtain ⟨v, rfl, vq⟩ := VRs.one vp
    split at e
    · rename_i xs el
      split at e
      · rename_i ns en
        cases eb : maxI ns with
        | none => rw [eb] at e; cases e
        | some j =>
          rw [eb] at e; cases e
          obtain ⟨a, vs, rfl, hq, rv'⟩ := lstOf_at hr el vq
          rw [asInts_at en rv'] at hq
          refine cr_max hc pins s σ H _ us Q I rv ⟨a, ns, rfl, .inl hq, maxI_some eb, fun t ht hx => ?_⟩
          rw [maxI_ok eb t ht hx]
          exact k ρ H _ (Step.refl _ _) hr rfl
      · cases e
    · cases e
  · cases e
    obtain ⟨v, w, rfl, v1, v2⟩ := VRs.two vp
    cases v1; cases v2
    exact call_max2 hc pins s σ H _ us Q I rv ⟨_, _, rfl, k ρ H _ (Step.refl _ _) hr rfl⟩
  · cases e
theorem b_min (hc : X.calm = true) : CallR X (.builtin "min") (rFn X.K ad fMin) := by
  intro pins s σ H xs us Q I rv ⟨ρ, m, ps, r, hr, vp, e, k⟩
  unfold fMin at e
  split at e
  · obtain ⟨v, rfl, vq⟩ := VRs.one vp
    split at e
    · rename_i xs el
      split at e
      · rename_i ns en
        cases eb : minI ns with
        | none => rw [eb] at e; cases e
        | some j =>
          rw [eb] at e; cases e
          obtain ⟨a, vs, rfl, hq, rv'⟩ := lstOf_at hr el vq
          rw [asInts_at en rv'] at hq
          refine cr_min hc pins s σ H _ us Q I rv ⟨a, ns, rfl, .inl hq, minI_some eb, fun t ht hx => ?_⟩
          rw [minI_ok eb t ht hx]
          exact k ρ H _ (Step.refl _ _) hr rfl
      · cases e
    · cases e
  · cases e
    obtain ⟨v, w, rfl, v1, v2⟩ := VRs.two vp
    cases v1; cases v2
    exact call_min2 hc pins s σ H _ us Q I rv ⟨_, _, rfl, k ρ H _ (Step.refl _ _) hr rfl⟩
  · cases e
theorem call_tuple_signs (hc : X.calm = true) : CallR X (.type "tuple") (fun xs H Q => ∃ z : Str, xs = [.str z] ∧ z.cps.size ≤ sizeLine ∧ ∀ l, H l = none → Q (.ref l) (upd H l (.tup (z.cps.toList.map fun c => V.str ⟨#[c]⟩)))) := by
  intro pins s σ H xs us Q I r h
  obtain ⟨z, rfl, hz, q⟩ := h
  obtain ⟨u, rfl, rx⟩ := vals1 r
  obtain ⟨t, rfl⟩ := rx
  refine PySem.call_tuple_str (I.ok.hd hc) z t (fun h' tk acc kp it => ?_) hz
  have I1 : Inv X pins σ H { s with heap := h', toks := tk } := I.kept (t' := tk) kp
  have rv : Vals (z.cps.toList.map fun c => V.str ⟨#[c]⟩) acc.toList := by
    have key : ∀ (cs : List Nat) (us : List Value), us.length = cs.length → (∀ (j : Nat) (v : Value), us[j]? = some v → ∃ c t, cs[j]? = some c ∧ v = Value.str ⟨#[c]⟩ t) → Vals (cs.map fun c => V.str ⟨#[c]⟩) us := by
      intro cs
      induction cs with
      | nil => intro us hl _; cases us with
        | nil => exact .nil
        | cons _ _ => cases hl
      | cons c cs ih =>
        intro us hl h
        cases us with
        | nil => cases hl
        | cons u us =>
          obtain ⟨c', t', e1, e2⟩ := h 0 u rfl
          cases e1
          exact .cons ⟨t', e2⟩ (ih us (Nat.succ.inj hl) fun j v hj => h (j + 1) v hj)
    refine key _ _ (by rw [Array.length_toList, it.1]; simp) fun j v hj => ?_
    obtain ⟨c, t', e1, e2⟩ := it.2 j v (by simpa using hj)
    exact ⟨c, t', by simpa using e1, e2⟩
  have I2 : Inv X pins σ (upd H h'.objs.size (.tup (z.cps.toList.map fun c => V.str ⟨#[c]⟩))) { s with heap := h'.push { cls := .type "tuple", data := .seq acc }, toks := tk } := by
    refine I1.laid (t' := tk) (fun b o e => Heap.get?_push_of_some _ e) (Nat.le_refl _) ?_
    have nt : IsTup (h'.push { cls := .type "tuple", data := .seq acc }) h'.objs.size acc.toList.toArray := by
      have e : acc.toList.toArray = acc := by simp
      rw [e]
      exact IsTup.new h' acc
    exact ⟨by simpa using hz, acc.toList, rv, nt⟩
  exact ⟨.ref h'.objs.size, _, I2, rfl, q _ (I1.hok.fresh (Nat.le_refl _))⟩
theorem signs_VR {K : PySem.W.Frag} {ρ : Rho} {H : Hp} : ∀ cs : List Nat, VRs K ad ρ H (cs.map fun c => .str ⟨#[c]⟩) (cs.map fun c => V.str ⟨#[c]⟩)
  | [] => rfl
  | c :: cs => ⟨_, _, rfl, rfl, signs_VR cs⟩
theorem b_tuple (hc : X.calm = true) : CallR X (.type "tuple") (rFn X.K ad (one fTuple)) := by
  intro pins s σ H xs us Q I rv ⟨ρ, m, ps, r, hr, vp, e, k⟩
  unfold one at e
  split at e
  · rename_i p
    obtain ⟨v, rfl, vq⟩ := VRs.one vp
    unfold fTuple at e
    split at e
    · cases e
      obtain ⟨a, vs, rfl, t, r⟩ := vq
      exact call_tuple_of pins s σ H _ us Q I rv ⟨a, vs, rfl, .inr ⟨t.sq, k ρ H _ (Step.refl _ _) hr ⟨a, vs, rfl, t, r⟩⟩⟩
    · split at e
      · rename_i z hz
        cases e
        obtain rfl : v = V.str z := vq
        refine call_tuple_signs hc pins s σ H _ us Q I rv ⟨z, rfl, hz, fun l hl => ?_⟩
        obtain ⟨st, hr', vr⟩ := new_tup hr (signs_VR (ad := ad) (K := X.K) (ρ := ρ) (H := H) z.cps.toList) hl
        exact k _ _ _ st hr' vr
      · cases e
    · cases es : lstOf m p with
      | none => rw [es] at e; cases e
      | some xs =>
        rw [es] at e; cases e
        obtain ⟨a, vs, rfl, hq, rv'⟩ := lstOf_at hr es vq
        refine call_tuple_of pins s σ H _ us Q I rv ⟨a, vs, rfl, .inl ⟨.inl hq, fun l hl => ?_⟩⟩
        obtain ⟨st, hr', vr⟩ := new_tup hr rv' hl
        exact k _ _ _ st hr' vr
  · cases e
theorem b_list : CallR X (.type "list") (rFn X.K ad (one fList)) := by
  intro pins s σ H xs us Q I rv ⟨ρ, m, ps, r, hr, vp, e, k⟩
  unfold one at e
  split at e
  · rename_i p
    obtain ⟨v, rfl, vq⟩ := VRs.one vp
    unfold fList at e
    cases es : seqOf m p with
    | none => rw [es] at e; cases e
    | some xs =>
      rw [es] at e; cases e
      obtain ⟨a, vs, rfl, hq, rv'⟩ := seqOf_at hr es vq
      refine call_list_of pins s σ H _ us Q I rv ⟨a, vs, rfl, hq, fun l hl => ?_⟩
      obtain ⟨st, hr', vr⟩ := new_lst hr rv' hl
      exact k _ _ _ st hr' vr
  · cases e
end
end Z

end
section -- Z8
/-! Z8: statements: targets, walks, for, while. -/
namespace Z
open PySem PySem.Spec PyProof.Rows L2

inductive SR where
  | nx (env : Envr) (h : Mem)
  | ret (v : PV) (h : Mem)
  | brk (env : Envr) (h : Mem)
  | ct (env : Envr) (h : Mem)
  | exc (c : Xc) (ns : List Str) (vs : List PV) (env : Envr) (h : Mem)
  | bad
abbrev EvS := Mem → Envr → Mem → SR
/-- what a value is stored into -/
abbrev EvG := Mem → Envr → Mem → PV → Option (Envr × Mem)
/-- what is walked: these items; the list at n, as it stands at each turn -/
inductive Src where
  | items (xs : List PV)
  | live (n : Nat)
abbrev EvI := Mem → Envr → Mem → Res Src

/-- behind an expression -/
def Res.go {α : Type} (env : Envr) : Res α → (α → Mem → SR) → SR
  | .ok a h, k => k a h
  | .exc c ns vs h, _ => .exc c ns vs env h
  | .bad, _ => .bad
def SR.seq : SR → (Envr → Mem → SR) → SR
  | .nx env h, k => k env h
  | r, _ => r

def sPass : EvS := fun _ env h => .nx env h
def sBrk : EvS := fun _ env h => .brk env h
def sCt : EvS := fun _ env h => .ct env h
def sRet (a : Ev) : EvS := fun R env h => (a R env h).go env fun v h1 => .ret v h1
def sRetN : EvS := fun _ _ h => .ret .non h
def sExpr (a : Ev) : EvS := fun R env h => (a R env h).go env fun _ h1 => .nx env h1
def sAsg (g : EvG) (a : Ev) : EvS := fun R env h => (a R env h).go env fun v h1 => match g R env h1 v with
  | some (env', h2) => .nx env' h2
  | none => .bad
def sIf (t : EvT) (a b : EvS) : EvS := fun R env h => (t R env h).go env fun c h1 => if c = true then a R env h1 else b R env h1
def sSeq (a b : EvS) : EvS := fun R env h => (a R env h).seq fun env' h' => b R env' h'
def gName (i : Nat) : EvG := fun _ env h v => some (env.set i (some v), h)
def gAll : List EvG → Mem → Envr → Mem → List PV → Option (Envr × Mem)
  | [], _, env, h, [] => some (env, h)
  | g :: gs, R, env, h, v :: vs => match g R env h v with
    | some (env', h') => gAll gs R env' h' vs
    | none => none
  | _, _, _, _, _ => none
def gTup (gs : List EvG) : EvG := fun R env h v => match seqOf (R ++ h) v with
  | some vs => gAll gs R env h vs
  | none => none
/-- one turn behind another -/
def forL (g : EvG) (b : EvS) (R : Mem) : List PV → Envr → Mem → SR
  | [], env, h => .nx env h
  | x :: xs, env, h => match g R env h x with
    | none => .bad
    | some (env1, h1) => match b R env1 h1 with
      | .nx env2 h2 => forL g b R xs env2 h2
      | .ct env2 h2 => forL g b R xs env2 h2
      | .brk env2 h2 => .nx env2 h2
      | r => r
/-- the list at n may grow meanwhile: k turns at the most -/
def forN (g : EvG) (b : EvS) (R : Mem) (n : Nat) : Nat → Nat → Envr → Mem → SR
  | 0, _, _, _ => .bad
  | k + 1, i, env, h => match (R ++ h)[n]? with
    | some (.lst xs) => match xs[i]? with
      | none => .nx env h
      | some x => match g R env h x with
        | none => .bad
        | some (env1, h1) => match b R env1 h1 with
          | .nx env2 h2 => forN g b R n k (i + 1) env2 h2
          | .ct env2 h2 => forN g b R n k (i + 1) env2 h2
          | .brk env2 h2 => .nx env2 h2
          | r => r
    | _ => .bad
def maxLive : Nat := 16777218
def sFor (i : EvI) (g : EvG) (b : EvS) : EvS := fun R env h => (i R env h).go env fun src h1 => match src with
  | .items xs => forL g b R xs env h1
  | .live n => forN g b R n maxLive 0 env h1
def whileN (t : EvT) (b : EvS) (R : Mem) : Nat → Envr → Mem → SR
  | 0, _, _ => .bad
  | n + 1, env, h => (t R env h).go env fun c h1 => if c = true then (match b R env h1 with
    | .nx env2 h2 => whileN t b R n env2 h2
    | .ct env2 h2 => whileN t b R n env2 h2
    | .brk env2 h2 => .nx env2 h2
    | r => r) else .nx env h1
/-- so many turns at the most -/
def maxTurns : Nat := 18446744073709551616
def sWhile (t : EvT) (b : EvS) : EvS := fun R env h => whileN t b R maxTurns env h

section
variable (K : PySem.W.Frag) (ad : Ads)
def SimS (W : WX) (D : Ends) (R : Mem) (ρ : Rho) (H : Hp) : SR → Prop
  | .nx env h => ∀ ρ' H' σ', Step ρ H ρ' H' → HR K ad ρ' H' (R ++ h) → ER K ad ρ' H' env σ' → D.nx σ' H'
  | .ret v h => ∀ ρ' H' v', Step ρ H ρ' H' → HR K ad ρ' H' (R ++ h) → VR K ad ρ' H' v v' → D.rt v' H'
  | .brk env h => ∀ ρ' H' σ', Step ρ H ρ' H' → HR K ad ρ' H' (R ++ h) → ER K ad ρ' H' env σ' → D.bk σ' H'
  | .ct env h => ∀ ρ' H' σ', Step ρ H ρ' H' → HR K ad ρ' H' (R ++ h) → ER K ad ρ' H' env σ' → D.ct σ' H'
  | .exc c ns vs env h => ∀ ρ' H' σ' cl d, Step ρ H ρ' H' → HR K ad ρ' H' (R ++ h) → ER K ad ρ' H' env σ' → XR K ad ρ' H' c ns vs cl d → W cl d σ' H'
  | .bad => False
def simS (W : WX) (e : EvS) : TS := fun D σ H => ∃ ρ R env h, ER K ad ρ H env σ ∧ HR K ad ρ H (R ++ h) ∧ SimS K ad W D R ρ H (e R env h)
/-- .. of the slots is alone something else may be told -/
def Apart (is : List Nat) (σ σ' : L2.St) : Prop := σ'.length = σ.length ∧ ∀ j : Nat, j ∉ is → σ'[j]? = σ[j]?
def simG (is : List Nat) (g : EvG) : TG := fun v σ H Q => ∃ ρ R env h p env' h', ER K ad ρ H env σ ∧ HR K ad ρ H (R ++ h) ∧ VR K ad ρ H p v ∧ g R env h p = some (env', h') ∧
  ∀ ρ' H' σ', Step ρ H ρ' H' → HR K ad ρ' H' (R ++ h') → ER K ad ρ' H' env' σ' → Apart is σ σ' → Q σ' H'
/-- J walks these items, as long as Vd holds -/
structure Walks (J : It) (xs : List PV) (Vd : Rho → Hp → Prop) : Prop where
  mono : ∀ ρ H ρ' H', Vd ρ H → Keep ρ H ρ' H' → Vd ρ' H'
  go : ∀ ρ H i, Vd ρ H → i < xs.length → J.go i H
  stop : ∀ ρ H i, Vd ρ H → xs.length ≤ i → J.stop i H
  yld : ∀ ρ H m i x H' p, Vd ρ H → HR K ad ρ H m → xs[i]? = some p → J.yld i H x H' → Step ρ H ρ H' ∧ HR K ad ρ H' m ∧ VR K ad ρ H' p x
def simI (W : WX) (e : EvI) : TI := fun σ H Q => ∃ ρ R env h, ER K ad ρ H env σ ∧ HR K ad ρ H (R ++ h) ∧
  SimR K ad (fun c d H' => W c d σ H') R ρ H (e R env h) (fun ρ' H' src _ => match src with
    | .items xs => ∀ J Vd, Walks K ad J xs Vd → Vd ρ' H' → Q J H'
    | .live n => ∀ a, ρ'.ix[n]? = some a → Q (Itl K a) H')
end

section
variable {K : PySem.W.Frag} {ad : Ads} {W : WX}
theorem SimS.after {D : Ends} {R : Mem} {ρ ρ' : Rho} {H H' : Hp} {r : SR} (st : Step ρ H ρ' H') (s : SimS K ad W D R ρ H r) : SimS K ad W D R ρ' H' r := by
  cases r with
  | nx env h => exact fun ρ2 H2 σ2 st2 => s ρ2 H2 σ2 (st.trans st2)
  | ret v h => exact fun ρ2 H2 σ2 st2 => s ρ2 H2 σ2 (st.trans st2)
  | brk env h => exact fun ρ2 H2 σ2 st2 => s ρ2 H2 σ2 (st.trans st2)
  | ct env h => exact fun ρ2 H2 σ2 st2 => s ρ2 H2 σ2 (st.trans st2)
  | exc c ns vs env h => exact fun ρ2 H2 σ2 cl d st2 => s ρ2 H2 σ2 cl d (st.trans st2)
  | bad => exact s
/-- from a statement's view to an expression's -/
theorem SimS.go {α : Type} {D : Ends} {R : Mem} {ρ : Rho} {H : Hp} {env : Envr} {σ : L2.St} {r : Res α} {k : α → Mem → SR} (er : ER K ad ρ H env σ) (s : SimS K ad W D R ρ H (r.go env k)) :
    SimR K ad (fun c d H' => W c d σ H') R ρ H r (fun ρ' H' v h' => SimS K ad W D R ρ' H' (k v h')) := by
  cases r with
  | ok v h => exact fun ρ' H' st _ => SimS.after st s
  | exc c ns vs h => exact fun ρ' H' cl d st hr x => s ρ' H' σ cl d st hr (er.mono st) x
  | bad => exact s
theorem SimS.seq {D : Ends} {R : Mem} {ρ : Rho} {H : Hp} {r : SR} {k : Envr → Mem → SR} {N : L2.St → Hp → Prop} (s : SimS K ad W D R ρ H (r.seq k))
    (hN : ∀ ρ' H' σ' env' h', Step ρ H ρ' H' → HR K ad ρ' H' (R ++ h') → ER K ad ρ' H' env' σ' → SimS K ad W D R ρ' H' (k env' h') → N σ' H') : SimS K ad W { D with nx := N } R ρ H r := by
  cases r with
  | nx env h => exact fun ρ' H' σ' st hr er => hN ρ' H' σ' env h st hr er (SimS.after st s)
  | ret v h => exact s
  | brk env h => exact s
  | ct env h => exact s
  | exc c ns vs env h => exact s
  | bad => exact s
theorem SimS.here_nx {D : Ends} {R : Mem} {ρ : Rho} {H : Hp} {env : Envr} {h : Mem} {σ : L2.St} (s : SimS K ad W D R ρ H (.nx env h)) (hr : HR K ad ρ H (R ++ h)) (er : ER K ad ρ H env σ) : D.nx σ H := s ρ H σ (Step.refl _ _) hr er
end

def isStar : Expr → Bool
  | .Starred _ _ => true
  | _ => false
theorem assignEach_cons {e : Expr} (h : isStar e = false) (es : List Expr) (env : Env) : assignEach (e :: es) env = (false, assign e env) :: assignEach es env := by
  cases e <;> first | rfl | cases h
theorem starEach_cons {e : Expr} (h : isStar e = false) (es : List Expr) (env : Env) : starEach (e :: es) env = (false, eval e env) :: starEach es env := by
  cases e <;> first | rfl | cases h
section
variable {X : Cx} {ad : Ads} {W : WX}
theorem zs_pass {pos : Pos} : PS X (.Pass pos) (simS X.K ad W sPass) := by
  refine PS.imp ps_pass fun D σ H h => ?_
  obtain ⟨ρ, R, env, h0, er, hr, s⟩ := h
  exact SimS.here_nx s hr er
theorem zs_break {pos : Pos} : PS X (.Break pos) (simS X.K ad W sBrk) := by
  refine PS.imp ps_break fun D σ H h => ?_
  obtain ⟨ρ, R, env, h0, er, hr, s⟩ := h
  exact s ρ H σ (Step.refl _ _) hr er
theorem zs_continue {pos : Pos} : PS X (.Continue pos) (simS X.K ad W sCt) := by
  refine PS.imp ps_continue fun D σ H h => ?_
  obtain ⟨ρ, R, env, h0, er, hr, s⟩ := h
  exact s ρ H σ (Step.refl _ _) hr er
theorem zs_ret {e : Expr} {a : Ev} {pos : Pos} (he : PE X e (simE X.K ad W a)) : PS X (.Return (some e) pos) (simS X.K ad W (sRet a)) := by
  refine PS.imp (ps_ret he) fun D σ H h => ?_
  obtain ⟨ρ, R, env, h0, er, hr, s⟩ := h
  exact ⟨ρ, R, env, h0, er, hr, (SimS.go er s).imp fun ρ1 H1 x h1 st1 hr1 s1 x' vx => s1 ρ1 H1 x' (Step.refl _ _) hr1 vx⟩
theorem zs_retN {pos : Pos} : PS X (.Return none pos) (simS X.K ad W sRetN) := by
  refine PS.imp ps_retN fun D σ H h => ?_
  obtain ⟨ρ, R, env, h0, er, hr, s⟩ := h
  exact s ρ H .non (Step.refl _ _) hr rfl
theorem zs_expr {e : Expr} {a : Ev} {pos : Pos} (he : PE X e (simE X.K ad W a)) (hs : swapsWith e none pos.line X.env = pure false) : PS X (.Expr e pos) (simS X.K ad W (sExpr a)) := by
  refine PS.imp (ps_expr he hs) fun D σ H h => ?_
  obtain ⟨ρ, R, env, h0, er, hr, s⟩ := h
  exact ⟨ρ, R, env, h0, er, hr, (SimS.go er s).imp fun ρ1 H1 x h1 st1 hr1 s1 x' vx => SimS.here_nx s1 hr1 (er.mono st1)⟩
theorem zs_if {c : Expr} {a b : List Stmt} {t : EvT} {ea eb : EvS} {pos : Pos} (hc : PT X c (simT X.K ad W t)) (ha : PSs X a (simS X.K ad W ea)) (hb : PSs X b (simS X.K ad W eb)) : PS X (.If c a b pos) (simS X.K ad W (sIf t ea eb)) := by
  refine PS.imp (ps_if hc ha hb) fun D σ H h => ?_
  obtain ⟨ρ, R, env, h0, er, hr, s⟩ := h
  refine ⟨ρ, R, env, h0, er, hr, (SimS.go er s).imp fun ρ1 H1 x h1 st1 hr1 s1 => ?_⟩
  cases x with
  | true => exact ⟨ρ1, R, env, h1, er.mono st1, hr1, s1⟩
  | false => exact ⟨ρ1, R, env, h1, er.mono st1, hr1, s1⟩
theorem zs_asg {tg e : Expr} {g : EvG} {a : Ev} {pos : Pos} (he : PE X e (simE X.K ad W a)) {is : List Nat} (hg : PG X tg (simG X.K ad is g)) (hs : swapsWithSole [tg] e pos.line X.env = pure false) (hw : swappedStores [tg] e X.env = pure none) (hn : isStar tg = false) :
    PS X (.Assign [tg] e pos) (simS X.K ad W (sAsg g a)) := by
  refine PS.imp (ps_asg he hg hs hw (by rw [assignEach_cons hn]; rfl)) fun D σ H h => ?_
  obtain ⟨ρ, R, env, h0, er, hr, s⟩ := h
  refine ⟨ρ, R, env, h0, er, hr, (SimS.go er s).imp fun ρ1 H1 x h1 st1 hr1 s1 x' vx => ?_⟩
  cases e : g R env h1 x with
  | none => rw [e] at s1; exact s1.elim
  | some z =>
    obtain ⟨env', h'⟩ := z
    rw [e] at s1
    exact ⟨ρ1, R, env, h1, x, env', h', er.mono st1, hr1, vx, e, fun ρ2 H2 σ2 st2 hr2 er2 _ => s1 ρ2 H2 σ2 st2 hr2 er2⟩
theorem zss_nil : PSs X [] (simS X.K ad W sPass) := by
  refine PSs.imp pss_nil fun D σ H h => ?_
  obtain ⟨ρ, R, env, h0, er, hr, s⟩ := h
  exact SimS.here_nx s hr er
theorem zss_cons {st : Stmt} {rest : List Stmt} {a b : EvS} (h1 : PS X st (simS X.K ad W a)) (h2 : PSs X rest (simS X.K ad W b)) : PSs X (st :: rest) (simS X.K ad W (sSeq a b)) := by
  refine PSs.imp (pss_cons h1 h2) fun D σ H h => ?_
  obtain ⟨ρ, R, env, h0, er, hr, s⟩ := h
  exact ⟨ρ, R, env, h0, er, hr, SimS.seq s fun ρ' H' σ' env' h' st hr' er' s' => ⟨ρ', R, env', h', er', hr', s'⟩⟩
/-! targets -/
theorem ER.set {K : PySem.W.Frag} {ρ : Rho} {H : Hp} {env : Envr} {σ : L2.St} {p : PV} {v : V} (er : ER K ad ρ H env σ) (r : VR K ad ρ H p v) (i : Nat) : ER K ad ρ H (env.set i (some p)) (σ.set i (some v)) := by
  refine ⟨by rw [List.length_set, List.length_set]; exact er.1, fun j q e => ?_⟩
  by_cases hj : i = j
  · subst hj
    by_cases hl : i < env.length
    · rw [List.getElem?_set_self hl] at e
      cases e
      exact ⟨v, by rw [List.getElem?_set_self (by rw [← er.1]; exact hl)], r⟩
    · rw [List.getElem?_eq_none (by rw [List.length_set]; omega)] at e; cases e
  · rw [List.getElem?_set_ne hj] at e
    obtain ⟨v', e1, r1⟩ := er.2 j q e
    exact ⟨v', by rw [List.getElem?_set_ne hj]; exact e1, r1⟩
theorem PG.imp {X : Cx} {e : Expr} {t t' : TG} (h : PG X e t) (i : ∀ v σ H Q, t' v σ H Q → t v σ H Q) : PG X e t' := ⟨fun pins s σ H v u Q I r q => h.run pins s σ H v u Q I r (i v σ H Q q)⟩
theorem zg_name {i : Nat} {x : Str} {pos : Pos} (hN : X.N.Nodup) (hi : X.N[i]? = some x) (hx : Loc X.env.scope x) (hf : X.fn x = true ∨ X.env.scope.names.lookup x = some .local) : PG X (.Name x pos) (simG X.K ad [i] (Z.gName i)) := by
  refine PG.imp (pg_name hN hi hx hf) fun v σ H Q h => ?_
  obtain ⟨ρ, R, env, h0, p, env', h', er, hr, vp, e, k⟩ := h
  cases e
  refine k ρ H _ (Step.refl _ _) hr (er.set vp i) ⟨List.length_set, fun j hj => ?_⟩
  rw [List.getElem?_set_ne (fun e => hj (by simp [e]))]
def simGs (K : PySem.W.Frag) (ad : Ads) (is : List Nat) (gs : List EvG) : TGs := fun vs σ H Q => ∃ ρ R env h ps env' h', ER K ad ρ H env σ ∧ HR K ad ρ H (R ++ h) ∧ VRs K ad ρ H ps vs ∧ gAll gs R env h ps = some (env', h') ∧
  ∀ ρ' H' σ', Step ρ H ρ' H' → HR K ad ρ' H' (R ++ h') → ER K ad ρ' H' env' σ' → Apart is σ σ' → Q σ' H'
theorem PGs.imp {X : Cx} {e : List Expr} {t t' : TGs} (h : PGs X e t) (i : ∀ v σ H Q, t' v σ H Q → t v σ H Q) : PGs X e t' := ⟨fun pins s σ H v u Q I r q => h.run pins s σ H v u Q I r (i v σ H Q q)⟩
theorem zgs_nil : PGs X [] (simGs X.K ad [] []) := by
  refine PGs.imp pgs_nil fun vs σ H Q h => ?_
  obtain ⟨ρ, R, env, h0, ps, env', h', er, hr, vp, e, k⟩ := h
  cases ps with
  | nil => cases vp; cases e; exact ⟨rfl, k ρ H σ (Step.refl _ _) hr er ⟨rfl, fun _ _ => rfl⟩⟩
  | cons p ps => cases e
theorem zgs_cons {e : Expr} {es : List Expr} {g : EvG} {gs : List EvG} {is js : List Nat} (h1 : PG X e (simG X.K ad is g)) (h2 : PGs X es (simGs X.K ad js gs)) (hn : isStar e = false) : PGs X (e :: es) (simGs X.K ad (is ++ js) (g :: gs)) := by
  refine PGs.imp (pgs_cons h1 h2 (by rw [assignEach_cons hn]; rfl)) fun vs σ H Q h => ?_
  obtain ⟨ρ, R, env, h0, ps, env', h', er, hr, vp, e, k⟩ := h
  cases ps with
  | nil => cases e
  | cons p ps =>
    obtain ⟨y, ys, rfl, a, b⟩ := vp
    rw [gAll] at e
    cases q : g R env h0 p with
    | none => rw [q] at e; cases e
    | some z =>
      obtain ⟨env1, h1⟩ := z
      rw [q] at e
      refine ⟨y, ys, rfl, ρ, R, env, h0, p, env1, h1, er, hr, a, q, fun ρ1 H1 σ1 st1 hr1 er1 ap1 => ?_⟩
      exact ⟨ρ1, R, env1, h1, ps, env', h', er1, hr1, VRs.mono st1 _ b, e, fun ρ2 H2 σ2 st2 hr2 er2 ap2 => k ρ2 H2 σ2 (st1.trans st2) hr2 er2 ⟨ap2.1.trans ap1.1, fun j hj => (ap2.2 j fun z => hj (List.mem_append_right _ z)).trans (ap1.2 j fun z => hj (List.mem_append_left _ z))⟩⟩
theorem PG.or {e : Expr} {t u : TG} (h1 : PG X e t) (h2 : PG X e u) : PG X e (fun v σ H Q => t v σ H Q ∨ u v σ H Q) :=
  ⟨fun pins s σ H v w Q I r q => q.elim (h1.run pins s σ H v w Q I r) (h2.run pins s σ H v w Q I r)⟩
theorem assignEach_len : ∀ (es : List Expr) (env : Env), (assignEach es env).length = es.length
  | [], _ => rfl
  | e :: es, env => by cases e <;> simp [assignEach, assignEach_len es env]
theorem assignEach_nostar : ∀ (es : List Expr) (env : Env), es.all (fun e => !isStar e) = true → (assignEach es env).findIdx? (·.1) = none
  | [], _, _ => rfl
  | e :: es, env, h => by
    rw [List.all_cons, Bool.and_eq_true] at h
    rw [assignEach_cons (by simpa using h.1), List.findIdx?_cons, assignEach_nostar es env h.2]
    rfl
theorem gAll_len : ∀ {gs : List EvG} {R : Mem} {env : Envr} {h : Mem} {ps : List PV} {z : Envr × Mem}, gAll gs R env h ps = some z → ps.length = gs.length
  | [], _, _, _, [], _, _ => rfl
  | [], _, _, _, _ :: _, _, e => by cases e
  | _ :: _, _, _, _, [], _, e => by cases e
  | g :: gs, R, env, h, p :: ps, z, e => by
    rw [gAll] at e
    split at e
    · simp [gAll_len e]
    · cases e
theorem zg_tup {es : List Expr} {k : Nat} {pos : Pos} {gs : List EvG} {is : List Nat} (hc : X.calm = true) (h : PGs X es (simGs X.K ad is gs)) (hst : es.all (fun e => !isStar e) = true) (hlen : gs.length = es.length) : PG X (.Tuple es k pos) (simG X.K ad is (Z.gTup gs)) := by
  refine PG.imp (PG.or (pg_tup (n := es.length) hc h (assignEach_len _ _) (assignEach_nostar _ _ hst)) (pg_unl (n := es.length) hc h (assignEach_len _ _) (assignEach_nostar _ _ hst))) fun v σ H Q h => ?_
  obtain ⟨ρ, R, env, h0, p, env', h', er, hr, vp, e, k⟩ := h
  unfold Z.gTup at e
  split at e
  · rename_i ps eq
    have hl := gAll_len e
    obtain ⟨a, vs, rfl, hq, rv⟩ := seqOf_at hr eq vp
    have hl2 : vs.length = es.length := by rw [← rv.length, hl, hlen]
    rcases hq with hq | hq
    · exact .inr ⟨a, vs, rfl, hq, hl2, ρ, R, env, h0, ps, env', h', er, hr, rv, e, k⟩
    · exact .inl ⟨a, vs, rfl, hq, hl2, ρ, R, env, h0, ps, env', h', er, hr, rv, e, k⟩
  · cases e
/-! ### walks -/
theorem zi_for {tg iter : Expr} {body : List Stmt} {i : EvI} {g : EvG} {b : EvS} {pos : Pos} (hp : PassesOwn (model X.prog X.w) X.A X.env X.xe) (hc : X.calm = true) (hi : PI X tg iter (simI X.K ad W i)) {is : List Nat} (hg : PG X tg (simG X.K ad is g)) (hb : PSs X body (simS X.K ad W b))
    (hs : ∀ x, foldedSetIterable iter X.env x = pure x) : PS X (.For tg iter body [] pos) (simS X.K ad W (sFor i g b)) := by
  refine PS.imp (ps_for hp hc hi hg hb hs) fun D σ H h => ?_
  obtain ⟨ρ, R, env, h0, er, hr, s⟩ := h
  refine ⟨ρ, R, env, h0, er, hr, (SimS.go er s).imp fun ρ1 H1 src h1 st1 hr1 s1 => ?_⟩
  cases src with
  | live n =>
    intro a ha
    refine ⟨fun i m σ H => ∃ ρ env h, ρ.ix[n]? = some a ∧ ER X.K ad ρ H env σ ∧ HR X.K ad ρ H (R ++ h) ∧ SimS X.K ad W D R ρ H (forN g b R n m i env h), ⟨maxLive, ρ1, env, h1, ha, er.mono st1, hr1, s1⟩, ?_⟩
    rintro i m σ H ⟨ρ, env, h, ha, er, hr, s⟩
    cases m with
    | zero => exact s.elim
    | succ k =>
      rw [forN] at s
      cases eo : (R ++ h)[n]? with
      | none => rw [eo] at s; exact s.elim
      | some o =>
        cases o with
        | lst xs =>
          rw [eo] at s
          simp only at s
          obtain ⟨vs, e1, rv⟩ := hr.at_ n _ a eo ha
          cases ex : xs[i]? with
          | none =>
            rw [ex] at s
            refine .inl ⟨⟨vs, SqL.of e1, ?_⟩, SimS.here_nx s hr er⟩
            rw [← rv.length]; exact List.getElem?_eq_none_iff.mp ex
          | some p =>
            rw [ex] at s
            simp only at s
            obtain ⟨v, ev, rp⟩ := rv.get ex
            refine .inr ⟨⟨vs, v, SqL.of e1, ev⟩, fun σ' H' => ∃ ρ env h, ρ.ix[n]? = some a ∧ ER X.K ad ρ H' env σ' ∧ HR X.K ad ρ H' (R ++ h) ∧ SimS X.K ad W D R ρ H' (forN g b R n k (i + 1) env h), fun σ' H' ⟨ρ', env', h', z1, z2, z3, z4⟩ => ⟨k, by omega, ρ', env', h', z1, z2, z3, z4⟩, fun x H' y => ?_⟩
            obtain ⟨rfl, hy⟩ := y
            have exv := hy vs (SqL.of e1)
            rw [ev] at exv; cases exv
            cases eg : g R env h p with
            | none => rw [eg] at s; exact s.elim
            | some z =>
              obtain ⟨env1, h1⟩ := z
              rw [eg] at s
              simp only at s
              refine ⟨ρ, R, env, h, p, env1, h1, er, hr, rp, eg, fun ρ2 H2 σ2 st2 hr2 er2 _ => ?_⟩
              have s := SimS.after st2 s
              have ha2 := st2.get ha
              refine ⟨ρ2, R, env1, h1, er2, hr2, ?_⟩
              cases eb : b R env1 h1 with
              | nx env3 h3 => rw [eb] at s; exact fun ρ3 H3 σ3 st3 hr3 er3 => ⟨ρ3, env3, h3, st3.get ha2, er3, hr3, SimS.after st3 s⟩
              | ct env3 h3 => rw [eb] at s; exact fun ρ3 H3 σ3 st3 hr3 er3 => ⟨ρ3, env3, h3, st3.get ha2, er3, hr3, SimS.after st3 s⟩
              | brk env3 h3 => rw [eb] at s; exact s
              | ret v h3 => rw [eb] at s; exact s
              | exc c ns vs env3 h3 => rw [eb] at s; exact s
              | bad => rw [eb] at s; exact s
        | _ => rw [eo] at s; exact s.elim
  | items xs =>
  intro J Vd w vd
  refine ⟨fun i m σ H => m = xs.length - i ∧ i ≤ xs.length ∧ ∃ ρ env h, ER X.K ad ρ H env σ ∧ HR X.K ad ρ H (R ++ h) ∧ Vd ρ H ∧ SimS X.K ad W D R ρ H (forL g b R (xs.drop i) env h), ⟨xs.length, by simp, Nat.zero_le _, ρ1, env, h1, er.mono st1, hr1, vd, s1⟩, ?_⟩
  rintro i m σ H ⟨rfl, hle, ρ, env, h, er, hr, vd, s⟩
  by_cases hi : i < xs.length
  · refine .inr ⟨w.go ρ H i vd hi, fun σ' H' => ∃ ρ env h, ER X.K ad ρ H' env σ' ∧ HR X.K ad ρ H' (R ++ h) ∧ Vd ρ H' ∧ SimS X.K ad W D R ρ H' (forL g b R (xs.drop (i + 1)) env h), fun σ' H' ⟨ρ', env', h', a, b, c, d⟩ => ⟨xs.length - (i + 1), by omega, rfl, by omega, ρ', env', h', a, b, c, d⟩, fun x H' y => ?_⟩
    have ex : xs[i]? = some xs[i] := List.getElem?_eq_getElem hi
    obtain ⟨st, hr', vx⟩ := w.yld ρ H (R ++ h) i x H' xs[i] vd hr ex y
    rw [List.drop_eq_getElem_cons hi, forL] at s
    cases eg : g R env h xs[i] with
    | none => rw [eg] at s; exact s.elim
    | some z =>
      obtain ⟨env1, h1⟩ := z
      rw [eg] at s
      simp only at s
      refine ⟨ρ, R, env, h, xs[i], env1, h1, er.mono st, hr', vx, eg, fun ρ2 H2 σ2 st2 hr2 er2 _ => ?_⟩
      have vd2 := w.mono ρ H' ρ2 H2 (w.mono ρ H ρ H' vd st.toKeep) st2.toKeep
      have s := SimS.after (st.trans st2) s
      refine ⟨ρ2, R, env1, h1, er2, hr2, ?_⟩
      cases eb : b R env1 h1 with
      | nx env3 h3 => rw [eb] at s; exact fun ρ3 H3 σ3 st3 hr3 er3 => ⟨ρ3, env3, h3, er3, hr3, w.mono _ _ _ _ vd2 st3.toKeep, SimS.after st3 s⟩
      | ct env3 h3 => rw [eb] at s; exact fun ρ3 H3 σ3 st3 hr3 er3 => ⟨ρ3, env3, h3, er3, hr3, w.mono _ _ _ _ vd2 st3.toKeep, SimS.after st3 s⟩
      | brk env3 h3 => rw [eb] at s; exact s
      | ret v h3 => rw [eb] at s; exact s
      | exc c ns vs env3 h3 => rw [eb] at s; exact s
      | bad => rw [eb] at s; exact s
  · refine .inl ⟨w.stop ρ H i vd (by omega), ?_⟩
    rw [List.drop_eq_nil_of_le (by omega)] at s
    exact SimS.here_nx s hr er
theorem zs_while {c : Expr} {body : List Stmt} {t : EvT} {b : EvS} {pos : Pos} (hp : PassesOwn (model X.prog X.w) X.A X.env X.xe) (hc : PT X c (simT X.K ad W t)) (hb : PSs X body (simS X.K ad W b)) : PS X (.While c body [] pos) (simS X.K ad W (sWhile t b)) := by
  refine PS.imp (ps_while hp hc hb) fun D σ H h => ?_
  obtain ⟨ρ, R, env, h0, er, hr, s⟩ := h
  refine ⟨fun m σ H => ∃ ρ env h, ER X.K ad ρ H env σ ∧ HR X.K ad ρ H (R ++ h) ∧ SimS X.K ad W D R ρ H (whileN t b R m env h), ⟨maxTurns, ρ, env, h0, er, hr, s⟩, ?_⟩
  rintro m σ H ⟨ρ, env, h, er, hr, s⟩
  cases m with
  | zero => exact s.elim
  | succ n =>
    rw [whileN] at s
    refine ⟨ρ, R, env, h, er, hr, (SimS.go er s).imp fun ρ1 H1 x h1 st1 hr1 s1 => ?_⟩
    cases x with
    | false => exact SimS.here_nx s1 hr1 (er.mono st1)
    | true =>
      refine ⟨fun σ' H' => ∃ ρ env h, ER X.K ad ρ H' env σ' ∧ HR X.K ad ρ H' (R ++ h) ∧ SimS X.K ad W D R ρ H' (whileN t b R n env h), fun σ' H' ⟨ρ', env', h', a, b, c⟩ => ⟨n, by omega, ρ', env', h', a, b, c⟩, ?_⟩
      refine ⟨ρ1, R, env, h1, er.mono st1, hr1, ?_⟩
      have s1 := s1
      simp only [if_true] at s1
      cases eb : b R env h1 with
      | nx env3 h3 => rw [eb] at s1; exact fun ρ3 H3 σ3 st3 hr3 er3 => ⟨ρ3, env3, h3, er3, hr3, SimS.after st3 s1⟩
      | ct env3 h3 => rw [eb] at s1; exact fun ρ3 H3 σ3 st3 hr3 er3 => ⟨ρ3, env3, h3, er3, hr3, SimS.after st3 s1⟩
      | brk env3 h3 => rw [eb] at s1; exact s1
      | ret v h3 => rw [eb] at s1; exact s1
      | exc c ns vs env3 h3 => rw [eb] at s1; exact s1
      | bad => rw [eb] at s1; exact s1
end
end Z

end
section -- Z9
/-! Z9: what is walked. -/
namespace Z
open PySem PySem.Spec PyProof.Rows L2

def srcOf (m : Mem) : PV → Option Src
  | .tup xs => some (.items xs)
  | .lst xs => some (.items xs)
  | .str z => some (.items (signs z))
  | .ref n => match m[n]? with
    | some (.lst _) => some (.live n)
    | _ => none
  | _ => none
def iVal (a : Ev) : EvI := fun R env h => (a R env h).bind fun p h1 => liftO h1 (srcOf (R ++ h1) p)
def intsP (lo : Int) (n : Nat) : List PV := (List.range n).map fun (i : Nat) => .int (lo + i)
def rgOk (i : Int) : Bool := decide (-(2 ^ 62) ≤ i) && decide (i < 2 ^ 62)
def fRange1 : List PV → Option Src
  | [.int j] => if rgOk j = true then some (.items (intsP 0 j.toNat)) else none
  | _ => none
def fRange2 : List PV → Option Src
  | [.int i, .int j] => if (rgOk i && rgOk j) = true then some (.items (intsP i (j - i).toNat)) else none
  | _ => none
def iRange1 (a : EvA) : EvI := fun R env h => (a R env h).bind fun xs h1 => liftO h1 (fRange1 xs)
def iRange2 (a : EvA) : EvI := fun R env h => (a R env h).bind fun xs h1 => liftO h1 (fRange2 xs)
/-- items that nobody changes -/
def stillOf : PV → Option (List PV)
  | .tup xs => some xs
  | .lst xs => some xs
  | _ => none
def pairsI : Nat → List PV → List PV
  | _, [] => []
  | i, x :: xs => .tup [.int i, x] :: pairsI (i + 1) xs
def pairsZ : List PV → List PV → List PV
  | x :: xs, y :: ys => .tup [x, y] :: pairsZ xs ys
  | _, _ => []
def fEnum : List PV → Option Src
  | [p] => (stillOf p).map fun xs => .items (pairsI 0 xs)
  | _ => none
def fZip : List PV → Option Src
  | [p, q] => match p, q with
    | .tup xs, .tup ys => some (.items (pairsZ xs ys))
    | .lst xs, .lst ys => some (.items (pairsZ xs ys))
    | _, _ => none
  | _ => none
def iEnumE (a : EvA) : EvI := fun R env h => (a R env h).bind fun xs h1 => liftO h1 (fEnum xs)
def iZipE (a : EvA) : EvI := fun R env h => (a R env h).bind fun xs h1 => liftO h1 (fZip xs)

section
variable {X : Cx} {ad : Ads} {W : WX} {tg : Expr}
theorem PI.imp {X : Cx} {tg e : Expr} {t t' : TI} (h : PI X tg e t) (i : ∀ σ H Q, t' σ H Q → t σ H Q) : PI X tg e t' := ⟨fun pins s σ H R I q => h.run pins s σ H R I (i σ H R q)⟩
theorem PI.or {X : Cx} {tg e : Expr} {t u : TI} (h1 : PI X tg e t) (h2 : PI X tg e u) : PI X tg e (fun σ H Q => t σ H Q ∨ u σ H Q) := ⟨fun pins s σ H R I q => q.elim (h1.run pins s σ H R I) (h2.run pins s σ H R I)⟩
/-- a tuple's walk -/
theorem walks_tup {K : PySem.W.Frag} {a : Addr} {xs : List PV} {vs : List V} : Walks K ad (Itt K a) xs (fun ρ H => TupAt K ρ H a vs ∧ VRs K ad ρ H xs vs) where
  mono := fun ρ H ρ' H' ⟨t, r⟩ st => ⟨st.tup t, VRs.monoK st _ r⟩
  go := fun ρ H i ⟨t, r⟩ hi => by
    obtain ⟨v, e, _⟩ := r.get (List.getElem?_eq_getElem hi)
    exact ⟨vs, v, t.sq, e⟩
  stop := fun ρ H i ⟨t, r⟩ hi => ⟨vs, t.sq, by rw [← r.length]; exact hi⟩
  yld := fun ρ H m i x H' p ⟨t, r⟩ hr e y => by
    obtain ⟨rfl, hy⟩ := y
    obtain ⟨v, ev, rp⟩ := r.get e
    have := hy vs t.sq
    rw [ev] at this; cases this
    exact ⟨Step.refl _ _, hr, rp⟩
theorem walks_lst {K : PySem.W.Frag} {a : Addr} {xs : List PV} {vs : List V} : Walks K ad (Itl K a) xs (fun ρ H => (¬ ρ.has a ∧ H a = some (.lst vs)) ∧ VRs K ad ρ H xs vs) where
  mono := fun ρ H ρ' H' ⟨t, r⟩ st => ⟨⟨st.out t.1 t.2, st.keep _ _ t.1 t.2⟩, VRs.monoK st _ r⟩
  go := fun ρ H i ⟨t, r⟩ hi => by
    obtain ⟨v, e, _⟩ := r.get (List.getElem?_eq_getElem hi)
    exact ⟨vs, v, SqL.of t.2, e⟩
  stop := fun ρ H i ⟨t, r⟩ hi => ⟨vs, SqL.of t.2, by rw [← r.length]; exact hi⟩
  yld := fun ρ H m i x H' p ⟨t, r⟩ hr e y => by
    obtain ⟨rfl, hy⟩ := y
    obtain ⟨v, ev, rp⟩ := r.get e
    have := hy vs (SqL.of t.2)
    rw [ev] at this; cases this
    exact ⟨Step.refl _ _, hr, rp⟩
theorem walks_str {K : PySem.W.Frag} {z : Str} : Walks K ad (Its z) (signs z) (fun _ _ => True) where
  mono := fun _ _ _ _ _ _ => trivial
  go := fun ρ H i _ hi => by
    show i < z.cps.size
    simpa [signs] using hi
  stop := fun ρ H i _ hi => by
    show z.cps.size ≤ i
    simpa [signs] using hi
  yld := fun ρ H m i x H' p _ hr e y => by
    obtain ⟨rfl, c, ec, rfl⟩ := y
    refine ⟨Step.refl _ _, hr, ?_⟩
    unfold signs at e
    rw [List.getElem?_map] at e
    have ec' : z.cps.toList[i]? = some c := by simpa using ec
    rw [ec'] at e
    cases e
    rfl
theorem walks_rng {K : PySem.W.Frag} {lo : Int} {n : Nat} : Walks K ad (Itr lo n) (intsP lo n) (fun _ _ => True) where
  mono := fun _ _ _ _ _ _ => trivial
  go := fun ρ H i _ hi => by
    show i < n
    simpa [intsP] using hi
  stop := fun ρ H i _ hi => by
    show n ≤ i
    simpa [intsP] using hi
  yld := fun ρ H m i x H' p _ hr e y => by
    obtain ⟨rfl, rfl⟩ := y
    refine ⟨Step.refl _ _, hr, ?_⟩
    unfold intsP at e
    rw [List.getElem?_map] at e
    by_cases hi : i < n
    · rw [List.getElem?_range hi] at e
      cases e; rfl
    · rw [List.getElem?_eq_none (by simpa using hi)] at e; cases e
theorem zi_val {e : Expr} {a : Ev} (he : PE X e (simE X.K ad W a)) : PI X tg e (simI X.K ad W (iVal a)) := by
  refine PI.imp (PI.or (pi_list he) (PI.or (pi_tup he) (pi_str he))) fun σ H Q h => ?_
  obtain ⟨ρ, R, env, h0, er, hr, s⟩ := h
  unfold iVal at s
  cases ea : a R env h0 with
  | bad => rw [ea] at s; exact s.elim
  | exc c ns vs h1 =>
    rw [ea] at s
    exact .inl ⟨ρ, R, env, h0, er, hr, by rw [ea]; exact s⟩
  | ok p h1 =>
    rw [ea] at s
    have s : SimR X.K ad (fun c d H' => W c d σ H') R ρ H (liftO h1 (srcOf (R ++ h1) p)) _ := s
    obtain ⟨src, e, k⟩ := SimR.lift s
    cases p with
    | tup xs =>
      cases e
      refine .inr (.inl ⟨ρ, R, env, h0, er, hr, ?_⟩)
      rw [ea]
      intro ρ1 H1 st1 hr1 v ⟨b, vs, ev, t, r⟩
      exact ⟨b, ev, ⟨vs, t.sq⟩, k ρ1 H1 st1 hr1 _ _ walks_tup ⟨t, r⟩⟩
    | lst xs =>
      cases e
      refine .inl ⟨ρ, R, env, h0, er, hr, ?_⟩
      rw [ea]
      intro ρ1 H1 st1 hr1 v ⟨b, vs, ev, hn, t, r⟩
      exact ⟨b, ev, ⟨vs, SqL.of t⟩, k ρ1 H1 st1 hr1 _ _ walks_lst ⟨⟨hn, t⟩, r⟩⟩
    | str z =>
      cases e
      refine .inr (.inr ⟨ρ, R, env, h0, er, hr, ?_⟩)
      rw [ea]
      intro ρ1 H1 st1 hr1 v ev
      exact ⟨z, ev, k ρ1 H1 st1 hr1 _ _ walks_str trivial⟩
    | ref n =>
      rw [srcOf] at e
      split at e
      · rename_i xs eo
        cases e
        refine .inl ⟨ρ, R, env, h0, er, hr, ?_⟩
        rw [ea]
        intro ρ1 H1 st1 hr1 v ⟨b, ev, hb⟩
        obtain ⟨vs, e1, rv⟩ := hr1.at_ n _ b eo hb
        exact ⟨b, ev, ⟨vs, SqL.of e1⟩, k ρ1 H1 st1 hr1 b hb⟩
      · cases e
    | _ => cases e
theorem zi_range1 {e : Expr} {a : EvA} {p pos : Pos} (hg : Gl X "range") (hm : X.mg "range" = none) (ha : PA X [e] (simA X.K ad W a)) (hs : isStar e = false) : PI X tg (.Call (.Name "range" p) [e] [] pos) (simI X.K ad W (iRange1 a)) := by
  refine PI.imp (pi_range1 hg hm ha (by rw [starEach_cons hs]; rfl)) fun σ H Q h => ?_
  obtain ⟨ρ, R, env, h0, er, hr, s⟩ := h
  refine ⟨ρ, R, env, h0, er, hr, (SimR.bind s).imp fun ρ1 H1 xs h1 st1 hr1 s1 vs rv => ?_⟩
  obtain ⟨src, e, k⟩ := SimR.lift s1
  unfold fRange1 at e
  split at e
  · split at e
    · rename_i j h
      cases e
      obtain ⟨v, rfl, r1⟩ := VRs.one rv
      cases r1
      unfold rgOk at h
      simp only [Bool.and_eq_true, decide_eq_true_eq] at h
      exact ⟨j, rfl, h.1, h.2, k ρ1 H1 (Step.refl _ _) hr1 _ _ walks_rng trivial⟩
    · cases e
  · cases e
theorem zi_range2 {e e2 : Expr} {a : EvA} {p pos : Pos} (hg : Gl X "range") (hm : X.mg "range" = none) (ha : PA X [e, e2] (simA X.K ad W a)) (hs : isStar e = false) (hs2 : isStar e2 = false) : PI X tg (.Call (.Name "range" p) [e, e2] [] pos) (simI X.K ad W (iRange2 a)) := by
  refine PI.imp (pi_range2 hg hm ha (by rw [starEach_cons hs, starEach_cons hs2]; rfl) (by rw [starEach_cons hs2]; rfl)) fun σ H Q h => ?_
  obtain ⟨ρ, R, env, h0, er, hr, s⟩ := h
  refine ⟨ρ, R, env, h0, er, hr, (SimR.bind s).imp fun ρ1 H1 xs h1 st1 hr1 s1 vs rv => ?_⟩
  obtain ⟨src, e, k⟩ := SimR.lift s1
  unfold fRange2 at e
  split at e
  · split at e
    · rename_i i j h
      cases e
      obtain ⟨v, w, rfl, r1, r2⟩ := VRs.two rv
      cases r1; cases r2
      unfold rgOk at h
      simp only [Bool.and_eq_true, decide_eq_true_eq] at h
      exact ⟨i, j, rfl, ⟨h.1.1, h.1.2, h.2.1, h.2.2⟩, k ρ1 H1 (Step.refl _ _) hr1 _ _ walks_rng trivial⟩
    · cases e
  · cases e
/-! enumerate, zip: a new tuple a turn -/
theorem pairsI_get : ∀ (xs : List PV) (j i : Nat), (pairsI j xs)[i]? = xs[i]?.map fun x => .tup [.int ((j + i : Nat) : Int), x]
  | [], _, _ => by simp [pairsI]
  | x :: xs, j, 0 => by simp [pairsI]
  | x :: xs, j, i + 1 => by
    rw [pairsI, List.getElem?_cons_succ, pairsI_get xs (j + 1) i, List.getElem?_cons_succ]
    have : j + 1 + i = j + (i + 1) := by omega
    rw [this]
theorem pairsI_len : ∀ (xs : List PV) (j : Nat), (pairsI j xs).length = xs.length
  | [], _ => rfl
  | _ :: xs, j => by simp [pairsI, pairsI_len xs]
theorem pairsZ_get : ∀ (xs ys : List PV) (i : Nat) (p : PV), (pairsZ xs ys)[i]? = some p → ∃ x y, xs[i]? = some x ∧ ys[i]? = some y ∧ p = .tup [x, y]
  | [], _, _, _, e => by simp [pairsZ] at e
  | _ :: _, [], _, _, e => by simp [pairsZ] at e
  | x :: xs, y :: ys, 0, p, e => by simp [pairsZ] at e; exact ⟨x, y, rfl, rfl, e.symm⟩
  | x :: xs, y :: ys, i + 1, p, e => by
    rw [pairsZ, List.getElem?_cons_succ] at e
    exact pairsZ_get xs ys i p e
theorem pairsZ_len : ∀ (xs ys : List PV), (pairsZ xs ys).length = min xs.length ys.length
  | [], _ => by simp [pairsZ]
  | _ :: _, [] => by simp [pairsZ]
  | _ :: xs, _ :: ys => by simp [pairsZ, pairsZ_len xs ys]
theorem walks_enum {K : PySem.W.Frag} {a : Addr} {xs : List PV} {vs : List V} : Walks K ad (Ite K a) (pairsI 0 xs) (fun ρ H => (¬ ρ.has a ∧ H a = some (.lst vs)) ∧ VRs K ad ρ H xs vs) where
  mono := fun ρ H ρ' H' ⟨t, r⟩ st => ⟨⟨st.out t.1 t.2, st.keep _ _ t.1 t.2⟩, VRs.monoK st _ r⟩
  go := fun ρ H i ⟨t, r⟩ hi => by
    rw [pairsI_len] at hi
    obtain ⟨v, e, _⟩ := r.get (List.getElem?_eq_getElem hi)
    exact ⟨vs, v, SqL.of t.2, e⟩
  stop := fun ρ H i ⟨t, r⟩ hi => ⟨vs, SqL.of t.2, by rw [← r.length, ← pairsI_len xs 0]; exact hi⟩
  yld := fun ρ H m i x H' p ⟨t, r⟩ hr e y => by
    obtain ⟨T, x0, rfl, hT, rfl, hy⟩ := y
    rw [pairsI_get] at e
    cases ex : xs[i]? with
    | none => rw [ex] at e; cases e
    | some q =>
      rw [ex] at e
      cases e
      obtain ⟨v, ev, rp⟩ := r.get ex
      have := hy vs (SqL.of t.2)
      rw [ev] at this; cases this
      have r2 : VRs K ad ρ H [.int ((0 + i : Nat) : Int), q] [.int ((i : Nat) : Int), x0] := ⟨_, _, rfl, by rw [Nat.zero_add]; rfl, _, _, rfl, rp, rfl⟩
      exact new_tup hr r2 hT
theorem walks_zipL {K : PySem.W.Frag} {a b : Addr} {xs ys : List PV} {vs us : List V} : Walks K ad (Itz K a b) (pairsZ xs ys) (fun ρ H => ((¬ ρ.has a ∧ H a = some (.lst vs)) ∧ (¬ ρ.has b ∧ H b = some (.lst us))) ∧ VRs K ad ρ H xs vs ∧ VRs K ad ρ H ys us) where
  mono := fun ρ H ρ' H' ⟨⟨t, u⟩, r, q⟩ st => ⟨⟨⟨st.out t.1 t.2, st.keep _ _ t.1 t.2⟩, ⟨st.out u.1 u.2, st.keep _ _ u.1 u.2⟩⟩, VRs.monoK st _ r, VRs.monoK st _ q⟩
  go := fun ρ H i ⟨⟨t, u⟩, r, q⟩ hi => by
    rw [pairsZ_len] at hi
    obtain ⟨v, e, _⟩ := r.get (i := i) (List.getElem?_eq_getElem (by omega))
    obtain ⟨w, e2, _⟩ := q.get (i := i) (List.getElem?_eq_getElem (by omega))
    exact ⟨vs, us, v, w, SqL.of t.2, SqL.of u.2, e, e2⟩
  stop := fun ρ H i ⟨⟨t, u⟩, r, q⟩ hi => ⟨vs, us, SqL.of t.2, SqL.of u.2, by rw [← r.length, ← q.length]; rw [pairsZ_len] at hi; omega⟩
  yld := fun ρ H m i x H' p ⟨⟨t, u⟩, r, q⟩ hr e y => by
    obtain ⟨T, x0, y0, rfl, hT, rfl, hx, hy⟩ := y
    obtain ⟨x1, y1, e1, e2, rfl⟩ := pairsZ_get _ _ _ _ e
    obtain ⟨v, ev, rp⟩ := r.get e1
    obtain ⟨w, ew, rq⟩ := q.get e2
    have z1 := hx vs (SqL.of t.2)
    have z2 := hy us (SqL.of u.2)
    rw [ev] at z1; cases z1
    rw [ew] at z2; cases z2
    have r2 : VRs K ad ρ H [x1, y1] [x0, y0] := ⟨_, _, rfl, rp, _, _, rfl, rq, rfl⟩
    exact new_tup hr r2 hT
theorem walks_zipT {K : PySem.W.Frag} {a b : Addr} {xs ys : List PV} {vs us : List V} : Walks K ad (RZ.ItzT K a b) (pairsZ xs ys) (fun ρ H => (TupAt K ρ H a vs ∧ TupAt K ρ H b us) ∧ VRs K ad ρ H xs vs ∧ VRs K ad ρ H ys us) where
  mono := fun ρ H ρ' H' ⟨⟨t, u⟩, r, q⟩ st => ⟨⟨st.tup t, st.tup u⟩, VRs.monoK st _ r, VRs.monoK st _ q⟩
  go := fun ρ H i ⟨⟨t, u⟩, r, q⟩ hi => by
    rw [pairsZ_len] at hi
    obtain ⟨v, e, _⟩ := r.get (i := i) (List.getElem?_eq_getElem (by omega))
    obtain ⟨w, e2, _⟩ := q.get (i := i) (List.getElem?_eq_getElem (by omega))
    exact ⟨vs, us, v, w, t.sq, u.sq, e, e2⟩
  stop := fun ρ H i ⟨⟨t, u⟩, r, q⟩ hi => ⟨vs, us, t.sq, u.sq, by rw [← r.length, ← q.length]; rw [pairsZ_len] at hi; omega⟩
  yld := fun ρ H m i x H' p ⟨⟨t, u⟩, r, q⟩ hr e y => by
    obtain ⟨T, x0, y0, rfl, hT, rfl, hx, hy⟩ := y
    obtain ⟨x1, y1, e1, e2, rfl⟩ := pairsZ_get _ _ _ _ e
    obtain ⟨v, ev, rp⟩ := r.get e1
    obtain ⟨w, ew, rq⟩ := q.get e2
    have z1 := hx vs t.sq
    have z2 := hy us u.sq
    rw [ev] at z1; cases z1
    rw [ew] at z2; cases z2
    have r2 : VRs K ad ρ H [x1, y1] [x0, y0] := ⟨_, _, rfl, rp, _, _, rfl, rq, rfl⟩
    exact new_tup hr r2 hT
end
end Z

end
section -- Z9b
/-! Z9b: enumerate over a tuple. -/
namespace PySem
open Sem (wp)
open AutoSeq1 (wpAny_loadPart')
theorem zen_newT (tp : Addr) (itm : Array Value) (cnt : Nat) (dc : Option Addr) (sls : Array (Option Value)) :
    Meets (Builtin.«enumerate.__new__» ⟨[.type "enumerate", .ref tp], []⟩) (fun _ R s => s.heap.get? tp = some { cls := .type "tuple", dict := dc, data := .seq itm cnt, slots := sls } ∧
      R (.ok (.ret (.ref (s.heap.push { cls := .type "tuple_iterator", data := .fields #[.ref tp, .int 0 0] }).objs.size)))
        { s with heap := (s.heap.push { cls := .type "tuple_iterator", data := .fields #[.ref tp, .int 0 0] }).push { cls := .type "enumerate", data := .fields #[.none, .bool false, .ref s.heap.objs.size, rawInt 0, .none, .none] } }) :=
  .of_wp fun prog w A R s hq => by
    obtain ⟨hp, g, d, tk, os⟩ := s; obtain ⟨ht, hq⟩ := hq
    have hsub := sub_enumerate
    have hT : Heap.IsTuple (Shared.heap ⟨hp, g, d, tk, os⟩) tp itm := ⟨_, ht, rfl, cnt, rfl⟩
    wp_walk using wpAny_loadPart' ht
    refine wpAny_stack_any fun st => wpAny_pure ?_
    split
    · rename_i c _ _ _ _ _
      cases (c == Value.type "enumerate")
      · wp_walk using wpAny_loadPart' ht, wpAny_pyIter_tuple hT
        exact ⟨_, rfl, hq⟩
      · wp_walk using wpAny_loadPart' ht, wpAny_pyIter_tuple hT
        exact ⟨_, rfl, hq⟩
    · wp_walk using wpAny_loadPart' ht, wpAny_pyIter_tuple hT
      exact ⟨_, rfl, hq⟩
end PySem

namespace Z
open PySem PySem.Spec PyProof.Rows L2
theorem zen_call {prog : Program} {w : World} {A : Around} {E : Value → Shared → Prop} {s : Shared} {tp : Addr} {itm : Array Value} {Q : Value → Shared → Prop} (hT : s.heap.IsTuple tp itm)
    (hq : ∀ h2, IsEnum h2 (s.heap.objs.size + 1) s.heap.objs.size 0 .none → h2.IsTupleIter s.heap.objs.size tp 0 → h2.objs.size = s.heap.objs.size + 2 → (∀ b ob, s.heap.get? b = some ob → h2.get? b = some ob) → Q (.ref (s.heap.objs.size + 1)) { s with heap := h2 }) :
    wpAny (model prog w) A (call (.type "enumerate") [.ref tp]) Q E s := by
  obtain ⟨⟨c, dc, dt, sls⟩, ht, hc, cnt, hd⟩ := hT
  replace hc : c = .type "tuple" := hc
  replace hd : dt = .seq itm cnt := hd
  subst hc hd
  refine callType_new F.called_enumerate (by decide) (F.typeCall_enumerate_1 _) (F.newCall_enumerate_1 _) (fun ob => F.args_object_init_2 ob _) F.entry_enumerate_new (PySem.zen_newT tp itm cnt dc sls) ⟨ht, ?_⟩
  have sz : (s.heap.push { cls := .type "tuple_iterator", data := .fields #[.ref tp, .int 0 0] }).objs.size = s.heap.objs.size + 1 := Heap.size_push ..
  show _ ∧ _
  rw [sz]
  have en : IsEnum ((s.heap.push { cls := .type "tuple_iterator", data := .fields #[.ref tp, .int 0 0] }).push { cls := .type "enumerate", data := .fields #[.none, .bool false, .ref s.heap.objs.size, rawInt 0, .none, .none] }) (s.heap.objs.size + 1) s.heap.objs.size 0 .none := by
    have z := Heap.get?_push_size (s.heap.push { cls := .type "tuple_iterator", data := .fields #[.ref tp, .int 0 0] }) (o := { cls := .type "enumerate", data := .fields #[.none, .bool false, .ref s.heap.objs.size, rawInt 0, .none, .none] }) rfl
    rw [sz] at z; exact z
  exact ⟨⟨_, en, rfl⟩, hq _ en ⟨_, Heap.get?_push_of_some _ (Heap.get?_push_size _ rfl), rfl, rfl⟩ (by rw [Heap.size_push, sz]) fun b ob x => Heap.get?_push_of_some _ (Heap.get?_push_of_some _ x)⟩
/-- what enumerate tells of a tuple -/
def IteT (K : PySem.W.Frag) (a : Addr) : It :=
  ⟨fun i H => ∃ (xs : List V) (x : V), SqT K H a xs ∧ xs[i]? = some x, fun i H v H' => ∃ T x, v = .ref T ∧ H T = none ∧ H' = upd H T (.tup [.int (i : Nat), x]) ∧ ∀ xs, SqT K H a xs → xs[i]? = some x, fun i H => ∃ xs : List V, SqT K H a xs ∧ xs.length ≤ i⟩
theorem turn_enumT {P : Program} {w : World} {K : PySem.W.Frag} {elts : List Expr} {kk : Nat} {tpos : Pos} (a e it : Addr) :
    Turn P w K (.Tuple elts kk tpos) (IteT K a) [e, it] e (fun i h => (∃ old, IsEnum h e it ((i : Nat) : Int) old) ∧ h.IsTupleIter it a i ∧ e ≠ it ∧ e ≠ a ∧ it ≠ a) where
  mem := by simp
  obj := fun i h st b hb => by
    obtain ⟨⟨old, he⟩, ⟨o, ho, hc, hd⟩, _⟩ := st
    have z : b = e ∨ b = it := by simpa using hb
    rcases z with z | z
    · subst z; exact ⟨_, he, fun v q => nomatch q⟩
    · subst z; exact ⟨o, ho, fun v q => by rw [hd] at q; cases q⟩
  keep := fun i h h' st k => let ⟨⟨old, he⟩, hi, hne, n2, n3⟩ := st; ⟨⟨old, k e (by simp) _ he⟩, hi.at fun o q => k it (by simp) o q, hne, n2, n3⟩
  item := by
    intro X hP hw hK hc i pins s σ H E I hf st hg
    subst hP hw hK
    obtain ⟨⟨old, he⟩, hit, hne, nea, nia⟩ := st
    obtain ⟨xs, x, hq, hx⟩ := hg
    obtain ⟨its, rv, tup, hz⟩ := I.tuple hq
    obtain ⟨u, hu, ru⟩ := rv.get hx
    have hel : e < s.heap.objs.size := Heap.lt_size he
    have hil : it < s.heap.objs.size := by obtain ⟨_, q, _⟩ := hit; exact Heap.lt_size q
    have hlt : i < its.toArray.size := by
      have := (List.getElem?_eq_some_iff.mp hu).1
      simpa using this
    refine wpAny_pyNext_enum_itemD (Draws.tuple (A := X.A.in1) (I.ok.hd hc) it a (Ne.symm nia) its.toArray) he ⟨hit, tup⟩ hlt hne (by simp [hne, nea]) fun x0 h2 tk px hout hst hT hsz hk => ?_
    have ex : x0 = u := by
      have px : its.toArray[i]? = some x0 := px
      have hu' : its.toArray[i]? = some u := by simpa using hu
      rw [hu'] at px; exact (Option.some.inj px).symm
    subst ex
    refine ⟨_, rfl, wpAny_letOwnedTupleGo_enum (s := { s with heap := h2, toks := tk + 1 }) hout fun h3 he3 sb => ?_⟩
    have hT2 : h3.get? s.heap.objs.size = some { cls := .type "tuple", data := .seq #[.int i tk, x0] } := (sb.2 _ (Nat.ne_of_gt hel)).trans hT
    have new : ObjOk X.prog X.w (upd H s.heap.objs.size (.tup [.int (i : Nat), x])) h3 s.heap.objs.size (.tup [.int (i : Nat), x]) :=
      ⟨by show 2 ≤ sizeLine; decide, [.int i tk, x0], .cons ⟨_, rfl⟩ (.cons ru .nil), ⟨_, hT2, rfl, _, rfl⟩⟩
    have I1 : Inv X pins σ (upd H s.heap.objs.size (.tup [.int (i : Nat), x])) { s with heap := h3, toks := tk + 1 } :=
      I.turnedNew (ch := [e, it]) (fun b ob hb q => (sb.2 b (fun z => hb (by simp [z]))).trans (hk b ob (fun z => hb (by simp [z])) (fun z => hb (by simp [z])) q)) hf (Nat.le_refl _) new
    refine ⟨.ref s.heap.objs.size, _, I1, rfl, ⟨_, x, rfl, I.hok.fresh (Nat.le_refl _), rfl, fun ys hy => by rw [I.tuple_inj hy hq]; exact hx⟩, ⟨⟨x0, ?_⟩, hst.1.at fun o q => (sb.2 it (Ne.symm hne)).trans q, hne, nea, nia⟩, fun b hb => ?_⟩
    · have e1 : ((i + 1 : Nat) : Int) = (i : Int) + 1 := by omega
      rw [e1]; exact he3
    · have hb' : b < s.heap.objs.size := by
        have z : b = e ∨ b = it := by simpa using hb
        rcases z with z | z
        · rw [z]; exact hel
        · rw [z]; exact hil
      rw [upd_ne (Nat.ne_of_lt hb')]
      exact (hf b hb).1
  done := by
    intro X hP hw hK hc i pins s σ H E I hf st hg
    subst hP hw hK
    obtain ⟨⟨old, he⟩, hit, hne, nea, nia⟩ := st
    obtain ⟨xs, hq, hx⟩ := hg
    obtain ⟨its, rv, tup, hz⟩ := I.tuple hq
    obtain ⟨f0, f1, f2, f3, f4, f5⟩ := hf it (by simp)
    have hl := rv.length
    have D : Draws X.prog X.w X.A.in1 it [it, a] i (fun _ _ => True) (fun j h => j = i ∧ h.IsTupleIter it a i ∧ h.IsTuple a its.toArray) :=
      { live := fun _ _ st => let ⟨_, ⟨o, ho, _⟩, _⟩ := st; ⟨o, ho⟩
        frame := fun _ _ _ st hk => ⟨st.1, st.2.1.at fun o q => hk it (by simp) o q, st.2.2.at fun o q => hk a (by simp) o q⟩
        item := fun j s Q E hj st _ => absurd st.1 (Nat.ne_of_lt hj)
        done := fun s Q E st hE => wpAny_nextOf_tuple_end (I.ok.hd hc) st.2.1 st.2.2 (by simp; omega) hE }
    exact wpAny_pyNext_enum_endD D he ⟨rfl, hit, tup⟩ fun h2 eb => ⟨rfl, I.turned (t' := s.toks) (fun b o hb q => eb b o hb q) f0 f1 f3 f4 f5⟩
  self := fun A i s Q E st h => let ⟨⟨_, he⟩, _⟩ := st; wpAny_pyIter_enum he h

def iEnumT (K : PySem.W.Frag) (ta : TA) : TI := fun σ H R => ta σ H fun vs H1 => ∃ a xs, vs = [.ref a] ∧ SqT K H1 a xs ∧ R (IteT K a) H1
theorem pi_enumT {X : Cx} {e : Expr} {ta : TA} {p pos tpos : Pos} {elts : List Expr} {kk : Nat} (hg : Gl X "enumerate") (hm : X.mg "enumerate" = none) (ha : PA X [e] ta) (hs : starEach [e] X.env = [(false, eval e X.env)]) :
    PI X (.Tuple elts kk tpos) (.Call (.Name "enumerate" p) [e] [] pos) (iEnumT X.K ta) := by
  refine ⟨fun pins s σ H R I hw => ?_⟩
  refine Call_ (ld_blt I hg hm boot_enumerate (PyProof.Rows.callWith_type1 (thn (ha.run pos pins s σ H _ I hw) fun us s1 ⟨vs, H1, I1, r1, q1⟩ => ?_) hs rfl))
  obtain ⟨a, xs, ex, hq, q⟩ := q1
  subst ex
  rw [Vals.ref1 r1]
  obtain ⟨its, rv, tup, hz⟩ := I1.tuple hq
  refine zen_call tup fun h2 he hit hsz hk => wpAny_pyIter_enum he ?_
  have I2 : Inv X pins σ H1 { s1 with heap := h2 } := I1.kept (t' := s1.toks) hk
  have hla : a < s1.heap.objs.size := tup.lt
  refine ⟨s1.heap.objs.size + 1, [s1.heap.objs.size + 1, s1.heap.objs.size], _, _, H1, rfl, I2, turn_enumT a (s1.heap.objs.size + 1) s1.heap.objs.size, ⟨⟨.none, he⟩, hit, Nat.succ_ne_self _, Nat.ne_of_gt (Nat.lt_succ_of_lt hla), Nat.ne_of_gt hla⟩, fun b hb => ?_, q⟩
  have z : b = s1.heap.objs.size + 1 ∨ b = s1.heap.objs.size := by simpa using hb
  have hle : s1.heap.objs.size ≤ b := by
    rcases z with z | z
    · rw [z]; exact Nat.le_succ _
    · rw [z]; exact Nat.le_refl _
  exact I1.fpOk hle (I1.hok.fresh hle)
theorem walks_enumT {ad : Ads} {K : PySem.W.Frag} {a : Addr} {xs : List PV} {vs : List V} : Walks K ad (IteT K a) (pairsI 0 xs) (fun ρ H => TupAt K ρ H a vs ∧ VRs K ad ρ H xs vs) where
  mono := fun ρ H ρ' H' ⟨t, r⟩ st => ⟨st.tup t, VRs.monoK st _ r⟩
  go := fun ρ H i ⟨t, r⟩ hi => by
    rw [pairsI_len] at hi
    obtain ⟨v, e, _⟩ := r.get (List.getElem?_eq_getElem hi)
    exact ⟨vs, v, t.sq, e⟩
  stop := fun ρ H i ⟨t, r⟩ hi => ⟨vs, t.sq, by rw [← r.length, ← pairsI_len xs 0]; exact hi⟩
  yld := fun ρ H m i x H' p ⟨t, r⟩ hr e y => by
    obtain ⟨T, x0, rfl, hT, rfl, hy⟩ := y
    rw [pairsI_get] at e
    cases ex : xs[i]? with
    | none => rw [ex] at e; cases e
    | some q =>
      rw [ex] at e
      cases e
      obtain ⟨v, ev, rp⟩ := r.get ex
      have := hy vs t.sq
      rw [ev] at this; cases this
      have r2 : VRs K ad ρ H [.int ((0 + i : Nat) : Int), q] [.int ((i : Nat) : Int), x0] := ⟨_, _, rfl, by rw [Nat.zero_add]; rfl, _, _, rfl, rp, rfl⟩
      exact new_tup hr r2 hT
section
variable {X : Cx} {ad : Ads} {W : WX}
theorem zi_enum {e : Expr} {a : EvA} {p pos tpos : Pos} {elts : List Expr} {kk : Nat} (hg : Gl X "enumerate") (hm : X.mg "enumerate" = none) (ha : PA X [e] (simA X.K ad W a)) (hs : isStar e = false) :
    PI X (.Tuple elts kk tpos) (.Call (.Name "enumerate" p) [e] [] pos) (simI X.K ad W (iEnumE a)) := by
  refine PI.imp (PI.or (pi_enum hg hm ha (by rw [starEach_cons hs]; rfl)) (pi_enumT hg hm ha (by rw [starEach_cons hs]; rfl))) fun σ H Q h => ?_
  obtain ⟨ρ, R, env, h0, er, hr, s⟩ := h
  unfold iEnumE at s
  cases ea : a R env h0 with
  | bad => rw [ea] at s; exact s.elim
  | exc c ns vs h1 => rw [ea] at s; exact .inl ⟨ρ, R, env, h0, er, hr, by rw [ea]; exact s⟩
  | ok xs h1 =>
    rw [ea] at s
    have s : SimR X.K ad (fun c d H' => W c d σ H') R ρ H (liftO h1 (fEnum xs)) _ := s
    obtain ⟨src, e, k⟩ := SimR.lift s
    match xs, ea, e with
    | [q], ea, e =>
      cases q with
      | tup ys =>
        cases e
        refine .inr ⟨ρ, R, env, h0, er, hr, ?_⟩
        rw [ea]
        intro ρ1 H1 st1 hr1 vs rv
        obtain ⟨v, rfl, b, us, rfl, t, r⟩ := VRs.one rv
        exact ⟨b, us, rfl, t.sq, k ρ1 H1 st1 hr1 _ _ walks_enumT ⟨t, r⟩⟩
      | lst ys =>
        cases e
        refine .inl ⟨ρ, R, env, h0, er, hr, ?_⟩
        rw [ea]
        intro ρ1 H1 st1 hr1 vs rv
        obtain ⟨v, rfl, b, us, rfl, hn, t, r⟩ := VRs.one rv
        exact ⟨b, us, rfl, SqL.of t, k ρ1 H1 st1 hr1 _ _ walks_enum ⟨⟨hn, t⟩, r⟩⟩
      | _ => cases e
theorem zi_zip {e e2 : Expr} {a : EvA} {p pos tpos : Pos} {elts : List Expr} {kk : Nat} (hg : Gl X "zip") (hm : X.mg "zip" = none) (ha : PA X [e, e2] (simA X.K ad W a)) (hs : isStar e = false) (hs2 : isStar e2 = false) :
    PI X (.Tuple elts kk tpos) (.Call (.Name "zip" p) [e, e2] [] pos) (simI X.K ad W (iZipE a)) := by
  refine PI.imp (RZ.pi_zipA hg hm ha (by rw [starEach_cons hs]) (by rw [starEach_cons hs2]; rfl)) fun σ H Q h => ?_
  obtain ⟨ρ, R, env, h0, er, hr, s⟩ := h
  refine ⟨ρ, R, env, h0, er, hr, (SimR.bind s).imp fun ρ1 H1 xs h1 st1 hr1 s1 vs rv => ?_⟩
  obtain ⟨src, e, k⟩ := SimR.lift s1
  unfold fZip at e
  split at e
  · rename_i p q
    obtain ⟨v, w, rfl, r1, r2⟩ := VRs.two rv
    cases p with
    | tup ps =>
      cases q with
      | tup qs =>
        cases e
        obtain ⟨b, us, rfl, t, r⟩ := r1
        obtain ⟨c, ws, rfl, t2, rr⟩ := r2
        exact ⟨b, c, us, ws, rfl, .inr ⟨t.sq, t2.sq, k ρ1 H1 (Step.refl _ _) hr1 _ _ walks_zipT ⟨⟨t, t2⟩, r, rr⟩⟩⟩
      | _ => cases e
    | lst ps =>
      cases q with
      | lst qs =>
        cases e
        obtain ⟨b, us, rfl, n1, t, r⟩ := r1
        obtain ⟨c, ws, rfl, n2, t2, rr⟩ := r2
        exact ⟨b, c, us, ws, rfl, .inl ⟨SqL.of t, SqL.of t2, k ρ1 H1 (Step.refl _ _) hr1 _ _ walks_zipL ⟨⟨⟨n1, t⟩, ⟨n2, t2⟩⟩, r, rr⟩⟩⟩
      | _ => cases e
    | _ => cases e
  · cases e
end
end Z

end
section -- Z10
/-! Z10: list comprehensions. -/
namespace Z
open PySem PySem.Spec PyProof.Rows L2

def wipeE (env : Envr) : List Nat → Envr
  | [] => env
  | v :: vs => (wipeE env vs).set v none
/-- one turn: the item stored, the test, the element -/
def turnC (vs : List Nat) (g : EvG) (t : EvT) (e : Ev) (R : Mem) (env : Envr) (x : PV) (h : Mem) : Res (Option PV) := match g R (wipeE env vs) h x with
  | none => .bad
  | some (env1, h1) => match t R env1 h1 with
    | .ok true h2 => match e R env1 h2 with
      | .ok y h3 => .ok (some y) h3
      | _ => .bad
    | .ok false h2 => .ok none h2
    | _ => .bad
def consO : Option PV → List PV → List PV
  | some y, ys => y :: ys
  | none, ys => ys
def compL (vs : List Nat) (g : EvG) (t : EvT) (e : Ev) (R : Mem) (env : Envr) : List PV → Mem → Res (List PV)
  | [], h => .ok [] h
  | x :: xs, h => match turnC vs g t e R env x h with
    | .ok y h1 => match compL vs g t e R env xs h1 with
      | .ok ys h2 => .ok (consO y ys) h2
      | _ => .bad
    | _ => .bad
def compN (vs : List Nat) (g : EvG) (t : EvT) (e : Ev) (R : Mem) (env : Envr) (n : Nat) : Nat → Nat → Mem → Res (List PV)
  | 0, _, _ => .bad
  | k + 1, i, h => match (R ++ h)[n]? with
    | some (.lst xs) => match xs[i]? with
      | none => .ok [] h
      | some x => match turnC vs g t e R env x h with
        | .ok y h1 => match compN vs g t e R env n k (i + 1) h1 with
          | .ok ys h2 => .ok (consO y ys) h2
          | _ => .bad
        | _ => .bad
    | _ => .bad
def compS (vs : List Nat) (g : EvG) (t : EvT) (e : Ev) (R : Mem) (env : Envr) (src : Src) (h : Mem) : Res (List PV) := match src with
  | .items xs => compL vs g t e R env xs h
  | .live n => compN vs g t e R env n maxLive 0 h
def cLc (vs : List Nat) (i : EvI) (g : EvG) (t : EvT) (e : Ev) : Ev := fun R env h => (i R env h).bind fun src h1 => match compS vs g t e R env src h1 with
  | .ok ys h2 => if ys.length ≤ sizeLine then .ok (.lst ys) h2 else .bad
  | _ => .bad
def tYesE : EvT := fun _ _ h => .ok true h

theorem wipeE_len (env : Envr) : ∀ vs : List Nat, (wipeE env vs).length = env.length
  | [] => rfl
  | v :: vs => by rw [wipeE, List.length_set, wipeE_len env vs]
theorem wipeE_some {env : Envr} {i : Nat} {p : PV} : ∀ {vs : List Nat}, (wipeE env vs)[i]? = some (some p) → env[i]? = some (some p) ∧ i ∉ vs
  | [], h => ⟨h, by simp⟩
  | v :: vs, h => by
    rw [wipeE] at h
    by_cases hi : v = i
    · subst hi
      by_cases hv : v < (wipeE env vs).length
      · rw [List.getElem?_set_self hv] at h; cases h
      · rw [List.getElem?_eq_none (by simpa using hv)] at h; cases h
    · rw [List.getElem?_set_ne hi] at h
      obtain ⟨h1, h2⟩ := wipeE_some h
      exact ⟨h1, by simp only [List.mem_cons, not_or]; exact ⟨fun e => hi e.symm, h2⟩⟩
theorem wipe_at {σ : L2.St} {i : Nat} : ∀ {vs : List Nat}, i ∉ vs → (wipe σ vs)[i]? = σ[i]?
  | [], _ => rfl
  | v :: vs, h => by
    simp only [List.mem_cons, not_or] at h
    unfold wipe
    rw [List.getElem?_set_ne (fun e => h.1 e.symm)]
    exact wipe_at h.2
theorem wipe_in {σ : L2.St} {i : Nat} : ∀ {vs : List Nat}, i ∈ vs → i < σ.length → (wipe σ vs)[i]? = some none
  | [], h, _ => by cases h
  | v :: vs, h, hl => by
    unfold wipe
    by_cases e : v = i
    · subst e
      rw [List.getElem?_set_self (by rw [wipe_length]; exact hl)]
    · rw [List.getElem?_set_ne e]
      rcases List.mem_cons.mp h with z | z
      · exact absurd z.symm e
      · exact wipe_in z hl
theorem wipe_ext {σ τ : L2.St} {vs : List Nat} (hl : σ.length = τ.length) (h : ∀ j : Nat, j ∉ vs → σ[j]? = τ[j]?) : wipe σ vs = wipe τ vs := by
  apply List.ext_getElem?
  intro i
  by_cases hi : i ∈ vs
  · by_cases hl2 : i < σ.length
    · rw [wipe_in hi hl2, wipe_in hi (by rw [← hl]; exact hl2)]
    · rw [List.getElem?_eq_none (by rw [wipe_length]; omega), List.getElem?_eq_none (by rw [wipe_length]; omega)]
  · rw [wipe_at hi, wipe_at hi, h i hi]
section
variable {K : PySem.W.Frag} {ad : Ads}
theorem ER.wipe {ρ : Rho} {H : Hp} {env : Envr} {σ : L2.St} (er : ER K ad ρ H env σ) (vs : List Nat) : ER K ad ρ H (wipeE env vs) (wipe σ vs) := by
  refine ⟨by rw [wipeE_len, wipe_length]; exact er.1, fun i v e => ?_⟩
  obtain ⟨h1, h2⟩ := wipeE_some e
  obtain ⟨v', e1, r⟩ := er.2 i v h1
  exact ⟨v', by rw [wipe_at h2]; exact e1, r⟩
abbrev W0 : WX := fun _ _ _ _ => False
/-- one turn by the layer: from a state with the new list at D to one with perhaps one item more -/
theorem turn_ok {vs is : List Nat} {g : EvG} {t : EvT} {e : Ev} {R : Mem} {env : Envr} {σ : L2.St} {ρ : Rho} {H : Hp} {h h1 : Mem} {x : PV} {v : V} {y : Option PV} {D : Addr} {acc : List PV} {vacc : List V} {Nx : Hp → Prop}
    (hsub : ∀ j ∈ is, j ∈ vs) (er : ER K ad ρ H env σ) (hr : HR K ad ρ H (R ++ h)) (vx : VR K ad ρ H x v) (hD : D ∈ ρ.own) (eD : H D = some (.lst vacc)) (ra : VRs K ad ρ H acc vacc) (hz : acc.length < sizeLine ∨ y = none)
    (et : turnC vs g t e R env x h = .ok y h1)
    (k : ∀ ρ' H' vacc', Keep ρ H ρ' H' → (∀ a ∈ ρ.own, a ∈ ρ'.own ∧ (a ≠ D → H' a = H a)) → HR K ad ρ' H' (R ++ h1) → D ∈ ρ'.own → H' D = some (.lst vacc') → VRs K ad ρ' H' (acc ++ consO y []) vacc' → Nx H') :
    simG K ad is g v (wipe σ vs) H fun σ2 H2 => wipe σ2 vs = wipe σ vs ∧ simT K ad W0 t σ2 H2 fun b H3 => if b = true then simE K ad W0 e σ2 H3 fun y H4 => ∃ acc, H4 D = some (.lst acc) ∧ acc.length < sizeLine ∧ Nx (upd H4 D (.lst (acc ++ [y]))) else Nx H3 := by
  unfold turnC at et
  cases eg : g R (wipeE env vs) h x with
  | none => rw [eg] at et; cases et
  | some z =>
    obtain ⟨env1, h2⟩ := z
    rw [eg] at et
    simp only at et
    refine ⟨ρ, R, wipeE env vs, h, x, env1, h2, er.wipe vs, hr, vx, eg, fun ρ1 H1 σ1 st1 hr1 er1 ap => ⟨?_, ?_⟩⟩
    · have z : wipe σ1 vs = wipe (wipe σ vs) vs := wipe_ext ap.1 fun j hj => ap.2 j fun q => hj (hsub j q)
      rw [z]
      refine wipe_ext (wipe_length σ vs) fun j hj => wipe_at hj
    · obtain ⟨d1, e1⟩ := st1.own D hD
      refine ⟨ρ1, R, env1, h2, er1, hr1, ?_⟩
      cases ett : t R env1 h2 with
      | bad => rw [ett] at et; cases et
      | exc c ns vs h3 => rw [ett] at et; cases et
      | ok b h3 =>
        rw [ett] at et
        intro ρ2 H2 st2 hr2
        obtain ⟨d2, e2⟩ := st2.own D d1
        cases b with
        | false =>
          cases et
          refine k ρ2 H2 vacc (st1.trans st2).toKeep (fun a ha => ?_) hr2 d2 (by rw [e2, e1]; exact eD) ?_
          · obtain ⟨x1, y1⟩ := (st1.trans st2).own a ha
            exact ⟨x1, fun _ => y1⟩
          · have := VRs.mono st2 _ (VRs.mono st1 _ ra)
            simpa [consO] using this
        | true =>
          simp only at et
          refine ⟨ρ2, R, env1, h3, er1.mono st2, hr2, ?_⟩
          cases ee : e R env1 h3 with
          | bad => rw [ee] at et; cases et
          | exc c ns vs h4 => rw [ee] at et; cases et
          | ok p h4 =>
            rw [ee] at et
            cases et
            intro ρ3 H3 st3 hr3 v' rv
            obtain ⟨d3, e3⟩ := st3.own D d2
            have eD3 : H3 D = some (.lst vacc) := by rw [e3, e2, e1]; exact eD
            have ra3 := VRs.mono st3 _ (VRs.mono st2 _ (VRs.mono st1 _ ra))
            refine ⟨vacc, eD3, by rw [← ra3.length]; exact hz.elim id (fun q => nomatch q), ?_⟩
            obtain ⟨kp, hr4⟩ := hr3.turned d3 (.lst (vacc ++ [v']))
            have stt := (st1.trans st2).trans st3
            refine k ρ3 _ (vacc ++ [v']) (stt.toKeep.trans kp) (fun a ha => ?_) hr4 d3 upd_same ?_
            · obtain ⟨x1, y1⟩ := stt.own a ha
              exact ⟨x1, fun hne => by rw [upd_ne hne]; exact y1⟩
            · have r2 : VRs K ad ρ3 H3 (acc ++ [p]) (vacc ++ [v']) := VRs.append ra3 ⟨v', [], rfl, rv, rfl⟩
              exact VRs.monoK kp _ r2

theorem consO_app (y : Option PV) (ys : List PV) : consO y ys = consO y [] ++ ys := by cases y <;> rfl
/-- the whole walk: what tLc asks, behind the source -/
theorem comp_ok {vs is : List Nat} {g : EvG} {t : EvT} {e : Ev} {R : Mem} {env : Envr} {σ : L2.St} {ρ1 : Rho} {H1 : Hp} {h1 h2 : Mem} {xs ys : List PV} {J : It} {Vd : Rho → Hp → Prop} {Q : VK} {D : Addr}
    (hsub : ∀ j ∈ is, j ∈ vs) (er : ER K ad ρ1 H1 env σ) (hr : HR K ad ρ1 H1 (R ++ h1)) (w : Walks K ad J xs Vd) (vd : Vd ρ1 H1) (ec : compL vs g t e R env xs h1 = .ok ys h2) (hz : ys.length ≤ sizeLine) (hD : H1 D = none)
    (k : ∀ ρ' H', Step ρ1 H1 ρ' H' → HR K ad ρ' H' (R ++ h2) → ∀ v', VR K ad ρ' H' (.lst ys) v' → Q v' H') :
    ∃ W : Nat → Nat → Hp → Prop, (∃ m, W 0 m (upd H1 D (.lst []))) ∧ ∀ i m H, W i m H →
      (J.stop i H ∧ Q (.ref D) H) ∨ (J.go i H ∧ ∃ Nx : Hp → Prop, (∀ H', Nx H' → ∃ m', m' < m ∧ W (i + 1) m' H') ∧ ∀ x H', J.yld i H x H' → simG K ad is g x (wipe σ vs) H' fun σ2 H2 => wipe σ2 vs = wipe σ vs ∧ simT K ad W0 t σ2 H2 fun b H3 =>
        if b = true then simE K ad W0 e σ2 H3 fun y H4 => ∃ acc, H4 D = some (.lst acc) ∧ acc.length < sizeLine ∧ Nx (upd H4 D (.lst (acc ++ [y]))) else Nx H3) := by
  obtain ⟨st0, hr0⟩ := hr.lent hD (.lst [])
  let St (i : Nat) (H : Hp) : Prop := ∃ ρ h acc vacc rest, Keep ρ1 H1 ρ H ∧ (∀ a ∈ ρ1.own, a ∈ ρ.own ∧ H a = H1 a) ∧ HR K ad ρ H (R ++ h) ∧ Vd ρ H ∧ D ∈ ρ.own ∧ H D = some (.lst vacc) ∧ VRs K ad ρ H acc vacc ∧
    compL vs g t e R env (xs.drop i) h = .ok rest h2 ∧ acc ++ rest = ys
  refine ⟨fun i m H => m = xs.length - i ∧ i ≤ xs.length ∧ St i H, ⟨xs.length, by simp, Nat.zero_le _, ⟨ρ1.ix, D :: ρ1.own⟩, h1, [], [], ys, st0.toKeep, st0.own, hr0, w.mono _ _ _ _ vd st0.toKeep, List.mem_cons_self, upd_same, rfl, ec, rfl⟩, ?_⟩
  rintro i m H ⟨rfl, hle, ρ, h, acc, vacc, rest, kp, ow, hr, vd, dD, eD, ra, ec, et⟩
  by_cases hi : i < xs.length
  · rw [List.drop_eq_getElem_cons hi, compL] at ec
    cases e1 : turnC vs g t e R env xs[i] h with
    | bad => rw [e1] at ec; cases ec
    | exc c ns vs h3 => rw [e1] at ec; cases ec
    | ok y h3 =>
      rw [e1] at ec
      simp only at ec
      cases e2 : compL vs g t e R env (xs.drop (i + 1)) h3 with
      | bad => rw [e2] at ec; cases ec
      | exc c ns vs h4 => rw [e2] at ec; cases ec
      | ok ys2 h4 =>
        rw [e2] at ec
        cases ec
        refine .inr ⟨w.go ρ H i vd hi, St (i + 1), fun H' s => ⟨xs.length - (i + 1), by omega, rfl, by omega, s⟩, fun x H' yl => ?_⟩
        obtain ⟨st, hr', vx⟩ := w.yld ρ H (R ++ h) i x H' xs[i] vd hr (List.getElem?_eq_getElem hi) yl
        obtain ⟨d1, e3⟩ := st.own D dD
        have lenz : acc.length < sizeLine ∨ y = none := by
          cases y with
          | none => exact .inr rfl
          | some y =>
            left
            have := congrArg List.length et
            rw [List.length_append] at this
            simp only [consO, List.length_cons] at this
            omega
        refine turn_ok hsub ((er.monoK kp).mono st) hr' vx d1 (by rw [e3]; exact eD) (VRs.mono st _ ra) lenz e1 fun ρ' H2 vacc' kp2 ow2 hr2 d2 eD2 ra2 => ?_
        refine ⟨ρ', h3, acc ++ consO y [], vacc', ys2, (kp.trans st.toKeep).trans kp2, fun a ha => ?_, hr2, w.mono _ _ _ _ (w.mono _ _ _ _ vd st.toKeep) kp2, d2, eD2, ra2, e2, by rw [← et, consO_app y ys2, List.append_assoc]⟩
        obtain ⟨p1, q1⟩ := ow a ha
        obtain ⟨p2, q2⟩ := st.own a p1
        obtain ⟨p3, q3⟩ := ow2 a p2
        refine ⟨p3, ?_⟩
        rw [q3 (fun z => by subst z; rw [eD, hD] at q1; cases q1), q2, q1]
  · rw [List.drop_eq_nil_of_le (by omega)] at ec
    cases ec
    rw [List.append_nil] at et
    subst et
    refine .inl ⟨w.stop ρ H i vd (by omega), ?_⟩
    obtain ⟨kp2, hr2, nD⟩ := hr.given dD
    refine k ⟨ρ.ix, ρ.own.filter (· ≠ D)⟩ H ⟨kp.trans kp2, fun a ha => ?_⟩ hr2 (.ref D) ⟨D, vacc, rfl, nD, eD, VRs.monoK kp2 _ ra⟩
    obtain ⟨p1, q1⟩ := ow a ha
    exact ⟨List.mem_filter.mpr ⟨p1, by simp; rintro rfl; rw [eD, hD] at q1; cases q1⟩, q1⟩
/-- .. and where the list that is walked may be ours -/
theorem compN_ok {vs is : List Nat} {g : EvG} {t : EvT} {e : Ev} {R : Mem} {env : Envr} {σ : L2.St} {ρ1 : Rho} {H1 : Hp} {h1 h2 : Mem} {ys : List PV} {n N : Nat} {a : Addr} {Q : VK} {D : Addr}
    (hsub : ∀ j ∈ is, j ∈ vs) (er : ER K ad ρ1 H1 env σ) (hr : HR K ad ρ1 H1 (R ++ h1)) (ha : ρ1.ix[n]? = some a) (ec : compN vs g t e R env n N 0 h1 = .ok ys h2) (hz : ys.length ≤ sizeLine) (hD : H1 D = none)
    (k : ∀ ρ' H', Step ρ1 H1 ρ' H' → HR K ad ρ' H' (R ++ h2) → ∀ v', VR K ad ρ' H' (.lst ys) v' → Q v' H') :
    ∃ W : Nat → Nat → Hp → Prop, (∃ m, W 0 m (upd H1 D (.lst []))) ∧ ∀ i m H, W i m H →
      ((Itl K a).stop i H ∧ Q (.ref D) H) ∨ ((Itl K a).go i H ∧ ∃ Nx : Hp → Prop, (∀ H', Nx H' → ∃ m', m' < m ∧ W (i + 1) m' H') ∧ ∀ x H', (Itl K a).yld i H x H' → simG K ad is g x (wipe σ vs) H' fun σ2 H2 => wipe σ2 vs = wipe σ vs ∧ simT K ad W0 t σ2 H2 fun b H3 =>
        if b = true then simE K ad W0 e σ2 H3 fun y H4 => ∃ acc, H4 D = some (.lst acc) ∧ acc.length < sizeLine ∧ Nx (upd H4 D (.lst (acc ++ [y]))) else Nx H3) := by
  obtain ⟨st0, hr0⟩ := hr.lent hD (.lst [])
  let St (i m : Nat) (H : Hp) : Prop := ∃ ρ h acc vacc rest, Keep ρ1 H1 ρ H ∧ (∀ a ∈ ρ1.own, a ∈ ρ.own ∧ H a = H1 a) ∧ HR K ad ρ H (R ++ h) ∧ ρ.ix[n]? = some a ∧ D ∈ ρ.own ∧ H D = some (.lst vacc) ∧ VRs K ad ρ H acc vacc ∧
    compN vs g t e R env n m i h = .ok rest h2 ∧ acc ++ rest = ys
  refine ⟨fun i m H => St i m H, ⟨N, ⟨ρ1.ix, D :: ρ1.own⟩, h1, [], [], ys, st0.toKeep, st0.own, hr0, ha, List.mem_cons_self, upd_same, rfl, ec, rfl⟩, ?_⟩
  rintro i m H ⟨ρ, h, acc, vacc, rest, kp, ow, hr, ha, dD, eD, ra, ec, et⟩
  cases m with
  | zero => cases ec
  | succ m =>
    rw [compN] at ec
    cases eo : (R ++ h)[n]? with
    | none => rw [eo] at ec; cases ec
    | some o =>
      rw [eo] at ec
      cases o with
      | lst xs =>
        simp only at ec
        obtain ⟨vxs, e0, rv⟩ := hr.at_ n _ a eo ha
        cases ex : xs[i]? with
        | none =>
          rw [ex] at ec
          cases ec
          rw [List.append_nil] at et
          subst et
          refine .inl ⟨⟨vxs, SqL.of e0, by rw [← rv.length]; exact List.getElem?_eq_none_iff.mp ex⟩, ?_⟩
          obtain ⟨kp2, hr2, nD⟩ := hr.given dD
          refine k ⟨ρ.ix, ρ.own.filter (· ≠ D)⟩ H ⟨kp.trans kp2, fun a ha => ?_⟩ hr2 (.ref D) ⟨D, vacc, rfl, nD, eD, VRs.monoK kp2 _ ra⟩
          obtain ⟨p1, q1⟩ := ow a ha
          exact ⟨List.mem_filter.mpr ⟨p1, by simp; rintro rfl; rw [eD, hD] at q1; cases q1⟩, q1⟩
        | some p =>
          rw [ex] at ec
          simp only at ec
          obtain ⟨v, ev, rp⟩ := rv.get ex
          cases e1 : turnC vs g t e R env p h with
          | bad => rw [e1] at ec; cases ec
          | exc c ns vs h3 => rw [e1] at ec; cases ec
          | ok y h3 =>
            rw [e1] at ec
            simp only at ec
            cases e2 : compN vs g t e R env n m (i + 1) h3 with
            | bad => rw [e2] at ec; cases ec
            | exc c ns vs h4 => rw [e2] at ec; cases ec
            | ok ys2 h4 =>
              rw [e2] at ec
              cases ec
              refine .inr ⟨⟨vxs, v, SqL.of e0, ev⟩, St (i + 1) m, fun H' s => ⟨m, by omega, s⟩, fun x H' yl => ?_⟩
              obtain ⟨rfl, hy⟩ := yl
              have exv := hy vxs (SqL.of e0)
              rw [ev] at exv; cases exv
              have lenz : acc.length < sizeLine ∨ y = none := by
                cases y with
                | none => exact .inr rfl
                | some y =>
                  left
                  have := congrArg List.length et
                  rw [List.length_append] at this
                  simp only [consO, List.length_cons] at this
                  omega
              refine turn_ok hsub (er.monoK kp) hr rp dD eD ra lenz e1 fun ρ' H2 vacc' kp2 ow2 hr2 d2 eD2 ra2 => ?_
              refine ⟨ρ', h3, acc ++ consO y [], vacc', ys2, kp.trans kp2, fun a ha => ?_, hr2, kp2.get ha, d2, eD2, ra2, e2, by rw [← et, consO_app y ys2, List.append_assoc]⟩
              obtain ⟨p1, q1⟩ := ow a ha
              obtain ⟨p3, q3⟩ := ow2 a p1
              refine ⟨p3, ?_⟩
              rw [q3 (fun z => by subst z; rw [eD, hD] at q1; cases q1), q1]
      | _ => cases ec
end
section
variable {X : Cx} {ad : Ads} {W : WX}
theorem sim_lc {vs is : List Nat} {i : EvI} {g : EvG} {t : EvT} {e : Ev} {σ : L2.St} {H : Hp} {Q : VK} (hsub : ∀ j ∈ is, j ∈ vs) (h : simE X.K ad W (cLc vs i g t e) σ H Q) :
    tLc (simI X.K ad W i) (simG X.K ad is g) (simT X.K ad W0 t) (simE X.K ad W0 e) vs σ H Q := by
  obtain ⟨ρ, R, env, h0, er, hr, s⟩ := h
  refine ⟨ρ, R, env, h0, er, hr, (SimR.bind s).imp fun ρ1 H1 src h1 st1 hr1 s1 => ?_⟩
  cases ec : compS vs g t e R env src h1 with
  | bad => rw [ec] at s1; exact s1.elim
  | exc c ns vs h3 => rw [ec] at s1; exact s1.elim
  | ok ys h2 =>
    rw [ec] at s1
    simp only at s1
    by_cases hz : ys.length ≤ sizeLine
    · rw [if_pos hz] at s1
      cases src with
      | items xs => exact fun J Vd w vd D hD => comp_ok hsub (er.mono st1) hr1 w vd ec hz hD s1
      | live n => exact fun a ha D hD => compN_ok hsub (er.mono st1) hr1 ha ec hz hD s1
    · rw [if_neg hz] at s1; exact s1.elim
theorem PTs.imp {X : Cx} {e : List Expr} {t t' : TT} (h : PTs X e t) (i : ∀ σ H Q, t' σ H Q → t σ H Q) : PTs X e t' := ⟨fun pins s σ H Q I q => h.run pins s σ H Q I (i σ H Q q)⟩
theorem z_tyes {X : Cx} {W : WX} : PTs X [] (simT X.K ad W tYesE) := by
  refine PTs.imp pts_nil fun σ H Q h => ?_
  obtain ⟨ρ, R, env, h0, er, hr, s⟩ := h
  exact SimR.here s hr
theorem z_lc {elt tg iter : Expr} {ifs : List Expr} {scope : Scope} {own : List (Str × Nat)} {pos : Pos} {is : List Nat} {i : EvI} {g : EvG} {t : EvT} {e : Ev} (hc : X.calm = true) (hN : X.N.Nodup) (hi : PI X tg iter (simI X.K ad W i)) (ok : BlkOk X.N X.env.scope scope own)
    (hg : ∀ (s : Shared) (H : Hp) (C : Addr) (cl : List (Str × Addr)) (fp : List Addr), PG (X.blk s H scope (compEnvC scope cl C X.env) fp) tg (simG X.K ad is g))
    (ht : ∀ (s : Shared) (H : Hp) (C : Addr) (cl : List (Str × Addr)) (fp : List Addr), PTs (X.blk s H scope (compEnvC scope cl C X.env) fp) ifs (simT X.K ad W0 t))
    (he : ∀ (s : Shared) (H : Hp) (C : Addr) (cl : List (Str × Addr)) (fp : List Addr), PE (X.blk s H scope (compEnvC scope cl C X.env) fp) elt (simE X.K ad W0 e)) (hs : ∀ x, foldedSetIterable iter X.env x = pure x) (hsub : ∀ j ∈ is, j ∈ own.map (·.2)) :
    PE X (.ListComp elt [⟨tg, iter, ifs, 0⟩] scope pos) (simE X.K ad W (cLc (own.map (·.2)) i g t e)) :=
  PE.imp (pe_lc hc hN hi ok hg ht he hs) fun _ _ _ h => sim_lc hsub h
/-- name = [..] on one line -/
theorem zs_lc {y : Nat} {yn : Str} {py : Pos} {elt tg iter : Expr} {ifs : List Expr} {scope : Scope} {own : List (Str × Nat)} {pos spos : Pos} {is : List Nat} {i : EvI} {g : EvG} {t : EvT} {e : Ev} (hc : X.calm = true) (hN : X.N.Nodup) (hy : X.N[y]? = some yn) (hyl : X.env.scope.names.lookup yn = some .local)
    (hsw : swapsWith (.ListComp elt [⟨tg, iter, ifs, 0⟩] scope pos) (some (.Name yn py)) spos.line X.env = pure true) (hi : PI X tg iter (simI X.K ad W i)) (ok : BlkOk X.N X.env.scope scope own)
    (hg : ∀ (s : Shared) (H : Hp) (C : Addr) (cl : List (Str × Addr)) (fp : List Addr), PG (X.blk s H scope (compEnvC scope cl C X.env) fp) tg (simG X.K ad is g))
    (ht : ∀ (s : Shared) (H : Hp) (C : Addr) (cl : List (Str × Addr)) (fp : List Addr), PTs (X.blk s H scope (compEnvC scope cl C X.env) fp) ifs (simT X.K ad W0 t))
    (he : ∀ (s : Shared) (H : Hp) (C : Addr) (cl : List (Str × Addr)) (fp : List Addr), PE (X.blk s H scope (compEnvC scope cl C X.env) fp) elt (simE X.K ad W0 e)) (hs : ∀ x, foldedSetIterable iter X.env x = pure x) (hsub : ∀ j ∈ is, j ∈ own.map (·.2)) :
    PS X (.Assign [.Name yn py] (.ListComp elt [⟨tg, iter, ifs, 0⟩] scope pos) spos) (simS X.K ad W (sAsg (Z.gName y) (cLc (own.map (·.2)) i g t e))) := by
  refine PS.imp (ps_setLc hc hN hy hyl hsw hi ok hg ht he hs) fun D σ H h => ?_
  obtain ⟨ρ, R, env, h0, er, hr, s⟩ := h
  refine sim_lc hsub ⟨ρ, R, env, h0, er, hr, (SimS.go er s).imp fun ρ1 H1 x h1 st1 hr1 s1 x' vx => ?_⟩
  exact SimS.here_nx s1 hr1 ((er.mono st1).set vx y)
end
end Z

end
section -- Z11
/-! Z11: lists that change. -/
namespace Z
open PySem PySem.Spec PyProof.Rows L2

section
variable {K : PySem.W.Frag} {ad : Ads}
/-- one of our lists is changed -/
theorem HR.write {ρ : Rho} {H : Hp} {R h : Mem} (r : HR K ad ρ H (R ++ h)) {n : Nat} {a : Addr} {xs : List PV} {vs : List V} (hn : R.length ≤ n) (hl : n < (R ++ h).length) (ha : ρ.ix[n]? = some a) (rv : VRs K ad ρ H xs vs) :
    Step ρ H ρ (upd H a (.lst vs)) ∧ HR K ad ρ (upd H a (.lst vs)) (R ++ h.set (n - R.length) (.lst xs)) := by
  have hm : a ∈ ρ.ix := List.mem_of_getElem? ha
  have st : Step ρ H ρ (upd H a (.lst vs)) := by
    refine ⟨⟨fun b o nb e => ⟨nb, by rw [upd_ne (fun z => nb (by rw [z]; exact .inl hm))]; exact e⟩, fun _ _ e => e⟩, fun b hb => ⟨hb, upd_ne fun z => (r.own b hb).2 (by rw [z]; exact hm)⟩⟩
  have eset : R ++ h.set (n - R.length) (.lst xs) = (R ++ h).set n (.lst xs) := by
    rw [List.set_append_right _ _ hn]
  refine ⟨st, ?_, r.nd, fun j o b e1 e2 => ?_, fun b hb => ?_⟩
  · rw [eset, List.length_set]; exact r.len
  · rw [eset] at e1
    by_cases hj : n = j
    · subst hj
      rw [List.getElem?_set_self hl] at e1
      cases e1
      rw [ha] at e2; cases e2
      exact ⟨vs, upd_same, VRs.mono st _ rv⟩
    · rw [List.getElem?_set_ne hj] at e1
      refine OR.monoK st.toKeep (upd_ne fun z => ?_) (r.at_ j o b e1 e2)
      subst z
      have l1 := (List.getElem?_eq_some_iff.mp ha).1
      have l2 := (List.getElem?_eq_some_iff.mp e2).1
      have g1 := (List.getElem?_eq_some_iff.mp ha).2
      have g2 := (List.getElem?_eq_some_iff.mp e2).2
      exact hj ((List.getElem?_inj l1 r.nd).mp (ha.trans e2.symm))
  · refine ⟨?_, (r.own b hb).2⟩
    rw [upd_ne fun z => (r.own b hb).2 (by rw [z]; exact hm)]
    exact (r.own b hb).1
/-- a new list is ours from now on -/
theorem HR.mine {ρ : Rho} {H : Hp} {m : Mem} (r : HR K ad ρ H m) {p : Addr} (hp : H p = none) {xs : List PV} {vs : List V} (rv : VRs K ad ρ H xs vs) :
    Step ρ H ⟨ρ.ix ++ [p], ρ.own⟩ (upd H p (.lst vs)) ∧ HR K ad ⟨ρ.ix ++ [p], ρ.own⟩ (upd H p (.lst vs)) (m ++ [.lst xs]) ∧ VR K ad ⟨ρ.ix ++ [p], ρ.own⟩ (upd H p (.lst vs)) (.ref m.length) (.ref p) := by
  have hn : ¬ ρ.has p := fun hm => by obtain ⟨o, e⟩ := r.mem hm; rw [hp] at e; cases e
  have hne : ∀ a, ρ.has a → a ≠ p := fun a ha z => hn (z ▸ ha)
  have st : Step ρ H ⟨ρ.ix ++ [p], ρ.own⟩ (upd H p (.lst vs)) := by
    refine ⟨⟨fun a u n e => ⟨fun z => ?_, by rw [upd_ne (ne_of_none e hp)]; exact e⟩, fun n a e => ?_⟩, fun a ha => ⟨ha, upd_ne (hne a (.inr ha))⟩⟩
    · rcases z with z | z
      · rcases List.mem_append.mp z with z | z
        · exact n (.inl z)
        · rw [List.mem_singleton.mp z, hp] at e; cases e
      · exact n (.inr z)
    · show (ρ.ix ++ [p])[n]? = some a
      rw [List.getElem?_append_left (List.getElem?_eq_some_iff.mp e).1]
      exact e
  have hlen : (ρ.ix ++ [p])[m.length]? = some p := by rw [← r.len]; simp
  refine ⟨st, ⟨?_, ?_, fun j o b e1 e2 => ?_, fun b hb => ?_⟩, p, rfl, hlen⟩
  · show (ρ.ix ++ [p]).length = _
    rw [List.length_append, List.length_append, r.len]; rfl
  · show (ρ.ix ++ [p]).Nodup
    rw [List.nodup_append]
    exact ⟨r.nd, by simp, fun a ha b hb z => hn (by rw [List.mem_singleton.mp hb] at z; rw [← z]; exact .inl ha)⟩
  · by_cases hj : j < m.length
    · rw [List.getElem?_append_left hj] at e1
      have e3 : ρ.ix[j]? = some b := by
        have e2 : (ρ.ix ++ [p])[j]? = some b := e2
        rw [List.getElem?_append_left (by rw [r.len]; exact hj)] at e2
        exact e2
      exact OR.monoK st.toKeep (upd_ne (hne b (.inl (List.mem_of_getElem? e3)))) (r.at_ j o b e1 e3)
    · have hj' : j = m.length := by
        have := (List.getElem?_eq_some_iff.mp e1).1
        rw [List.length_append] at this
        simp at this
        omega
      subst hj'
      have e2 : (ρ.ix ++ [p])[m.length]? = some b := e2
      rw [hlen] at e2; cases e2
      simp at e1
      subst e1
      exact ⟨vs, upd_same, VRs.mono st _ rv⟩
  · rw [upd_ne (hne b (.inr hb))]
    refine ⟨(r.own b hb).1, fun z => ?_⟩
    have z : b ∈ ρ.ix ++ [p] := z
    rcases List.mem_append.mp z with z | z
    · exact (r.own b hb).2 z
    · exact hne b (.inr hb) (List.mem_singleton.mp z)
end

/-! ### new lists: frozen, or ours -/
def simF (K : PySem.W.Frag) (ad : Ads) (W : WX) (e : EvA) : TE := fun σ H Q => ∃ ρ R env h, ER K ad ρ H env σ ∧ HR K ad ρ H (R ++ h) ∧
  SimR K ad (fun c d H' => W c d σ H') R ρ H (e R env h) (fun ρ' H' xs _ => ∀ vs, VRs K ad ρ' H' xs vs → vs.length ≤ sizeLine ∧ ∀ p, H' p = none → Q (.ref p) (upd H' p (.lst vs)))
def cNew (a : EvA) : Ev := fun R env h => (a R env h).bind fun xs h1 => if xs.length ≤ sizeLine then .ok (.ref (R ++ h1).length) (h1 ++ [.lst xs]) else .bad
/-- a method that changes a list: what it makes of the items and the arguments -/
def cMut (f : Mem → List PV → List PV → Option (PV × List PV)) (a : Ev) (b : EvA) : Ev := fun R env h => (a R env h).bind fun p h1 => match p with
  | .ref n => match (R ++ h1)[n]? with
    | some (.lst _) => (b R env h1).bind fun xs h2 => match (R ++ h2)[n]? with
      | some (.lst zs) => if R.length ≤ n then (match f (R ++ h2) zs xs with
        | some (v, ys) => .ok v (h2.set (n - R.length) (.lst ys))
        | none => .bad) else .bad
      | _ => .bad
    | _ => .bad
  | _ => .bad
def mAppend (_ : Mem) (zs xs : List PV) : Option (PV × List PV) := match xs with
  | [y] => if zs.length < sizeLine then some (.non, zs ++ [y]) else none
  | _ => none
def mPop (_ : Mem) (zs xs : List PV) : Option (PV × List PV) := match xs with
  | [] => (zs[zs.length - 1]?).map fun y => (y, zs.dropLast)
  | [.int i] => if -(2 ^ 63) ≤ i ∧ i < 2 ^ 63 then (match seqIndex? i zs.length with
    | some k => (zs[k]?).map fun y => (y, zs.eraseIdx k)
    | none => none) else none
  | _ => none
def mExtend (m : Mem) (zs xs : List PV) : Option (PV × List PV) := match xs with
  | [q] => match lstW m q with
    | some ys => if zs.length + ys.length ≤ sizeLine then some (.non, zs ++ ys) else none
    | none => none
  | _ => none
def gSubL (o i : Ev) : EvG := fun R env h v => match o R env h with
  | .ok (.ref n) h1 => match i R env h1 with
    | .ok (.int k) h2 => match (R ++ h2)[n]? with
      | some (.lst zs) => if R.length ≤ n then (match ixN zs.length k with
        | some j => some (env, h2.set (n - R.length) (.lst (zs.set j v)))
        | none => none) else none
      | _ => none
    | _ => none
  | _ => none

section
variable {X : Cx} {ad : Ads} {W : WX}
theorem z_new {e : Expr} {a : EvA} (he : PE X e (simF X.K ad W a)) : PE X e (simE X.K ad W (cNew a)) := by
  refine PE.imp he fun σ H Q h => ?_
  obtain ⟨ρ, R, env, h0, er, hr, s⟩ := h
  refine ⟨ρ, R, env, h0, er, hr, (SimR.bind s).imp fun ρ1 H1 xs h1 st1 hr1 s1 vs rv => ?_⟩
  by_cases hz : xs.length ≤ sizeLine
  · rw [if_pos hz] at s1
    refine ⟨by rw [← rv.length]; exact hz, fun p hp => ?_⟩
    obtain ⟨st2, hr2, vr⟩ := hr1.mine hp rv
    exact s1 _ _ st2 (by rw [← List.append_assoc]; exact hr2) _ vr
  · rw [if_neg hz] at s1; exact s1.elim
theorem zf_lst {es : List Expr} {pos} {a : EvA} (ha : PA X es (simA X.K ad W a)) : PE X (.List es pos) (simF X.K ad W a) := by
  refine PE.imp (pe_lst ha) fun σ H Q h => ?_
  obtain ⟨ρ, R, env, h0, er, hr, s⟩ := h
  exact ⟨ρ, R, env, h0, er, hr, s⟩
/-- list(x) -/
def aList (a : EvA) : EvA := fun R env h => (a R env h).bind fun xs h1 => match xs with
  | [p] => liftO h1 (seqOf (R ++ h1) p)
  | _ => .bad
theorem zf_list {e : Expr} {a : EvA} {x : Str} {p pos : Pos} (hg : Gl X x) (hm : X.mg x = none) (hv : bootBuiltins x = some (.type "list")) (ha : PA X [e] (simA X.K ad W a)) (hn : x ≠ "__name__") (hdb : (x == ("__debug__" : Str)) = false) (hs : isStar e = false) :
    PE X (.Call (.Name x p) [e] [] pos) (simF X.K ad W (aList a)) := by
  refine PE.imp (pe_callTy call_list_of hg hm hv ha hn hdb (starEach_cons hs _ _) rfl) fun σ H Q h => ?_
  obtain ⟨ρ, R, env, h0, er, hr, s⟩ := h
  refine ⟨ρ, R, env, h0, er, hr, (SimR.bind s).imp fun ρ1 H1 xs h1 st1 hr1 s1 vs rv => ?_⟩
  match xs, rv, s1 with
  | [q], rv, s1 =>
    obtain ⟨ys, e, k⟩ := SimR.lift s1
    obtain ⟨v, rfl, r1⟩ := VRs.one rv
    obtain ⟨b, us, rfl, hq, r2⟩ := seqOf_at hr1 e r1
    exact ⟨b, us, rfl, hq, (k ρ1 H1 (Step.refl _ _) hr1 us r2).2⟩
theorem mut_ok {id : String} {f : Mem → List PV → List PV → Option (PV × List PV)} {r : V → List V → Hp → VK → Prop} {o e : Expr} {es : List Expr} {a : Ev} {b : EvA} {name : Str} {apos cpos : Pos} (slot : Slot "list" name id) (hty : typeOf (.builtin id) = pure (.type "method_descriptor")) (hm : MtR X id r)
    (hf : ∀ (ρ : Rho) (H : Hp) (m : Mem) (zs xs ys : List PV) (v : PV) (l : Addr) (vz vx : List V) (Q : VK), HR X.K ad ρ H m → H l = some (.lst vz) → VRs X.K ad ρ H zs vz → VRs X.K ad ρ H xs vx → f m zs xs = some (v, ys) →
      (∀ vy v', VRs X.K ad ρ H ys vy → VR X.K ad ρ H v v' → Q v' (upd H l (.lst vy))) → r (.ref l) vx H Q)
    (ho : PE X o (simE X.K ad W a)) (ha : PA X (e :: es) (simA X.K ad W b)) (hbase : attributeBase o name X.env (eval o X.env) = eval o X.env)
    (hfew : ((backTo cpos (starEach (e :: es) X.env)).all (fun x => !x.1) && (backToKw cpos (keywordEach [] X.env)).all (fun x => x.1.isSome) && decide ((e :: es).length + ([] : List Keyword).length + (if ([] : List Keyword).isEmpty then 0 else 1) < 30)) = true)
    (hline : (apos.endLine == cpos.line) = true) (hs : starEach (e :: es) X.env = (false, eval e X.env) :: starEach es X.env) (hplain : (backTo cpos (starEach es X.env)).any (·.1) = false) :
    PE X (.Call (.Attribute o name apos) (e :: es) [] cpos) (simE X.K ad W (cMut f a b)) := by
  refine PE.imp (pe_bm PySem.F.plainAttrs_list slot hty hm ho ha hbase hfew hline hs hplain) fun σ H Q h => ?_
  obtain ⟨ρ, R, env, h0, er, hr, s⟩ := h
  refine ⟨ρ, R, env, h0, er, hr, (SimR.bind s).imp fun ρ1 H1 p h1 st1 hr1 s1 x' vx => ?_⟩
  cases p with
  | ref n =>
    simp only at s1
    cases eo : (R ++ h1)[n]? with
    | none => rw [eo] at s1; exact s1.elim
    | some o =>
      rw [eo] at s1
      cases o with
      | lst zs0 =>
        obtain ⟨l, rfl, hl⟩ := vx
        obtain ⟨vs0, e0, _⟩ := hr1.at_ n _ l eo hl
        refine ⟨.inl ⟨rfl, vs0, SqL.of e0⟩, ρ1, R, env, h1, er.mono st1, hr1, (SimR.bind s1).imp fun ρ2 H2 xs h2 st2 hr2 s2 vs rv => ?_⟩
        try simp only at s2
        cases e2 : (R ++ h2)[n]? with
        | none => rw [e2] at s2; exact s2.elim
        | some o2 =>
          rw [e2] at s2
          cases o2 with
          | lst zs =>
            try simp only at s2
            have hl2 := st2.get hl
            obtain ⟨vz, e3, rz⟩ := hr2.at_ n _ l e2 hl2
            by_cases hn : R.length ≤ n
            · rw [if_pos hn] at s2
              cases e4 : f (R ++ h2) zs xs with
              | none => rw [e4] at s2; exact s2.elim
              | some z =>
                obtain ⟨v, ys⟩ := z
                rw [e4] at s2
                try simp only at s2
                refine hf ρ2 H2 (R ++ h2) zs xs ys v l vz vs Q hr2 e3 rz rv e4 fun vy v' ry rv' => ?_
                obtain ⟨st3, hr3⟩ := hr2.write hn (List.getElem?_eq_some_iff.mp e2).1 hl2 ry
                exact s2 _ _ st3 hr3 v' (VR.mono st3 _ rv')
            · rw [if_neg hn] at s2; exact s2.elim
          | _ => exact s2.elim
      | _ => exact s1.elim
  | _ => exact s1.elim
theorem m_append {ρ : Rho} {H : Hp} {m : Mem} {zs xs ys : List PV} {v : PV} {l : Addr} {vz vx : List V} {Q : VK} (hr : HR X.K ad ρ H m) (el : H l = some (.lst vz)) (rz : VRs X.K ad ρ H zs vz) (rx : VRs X.K ad ρ H xs vx) (e : mAppend m zs xs = some (v, ys))
    (k : ∀ vy v', VRs X.K ad ρ H ys vy → VR X.K ad ρ H v v' → Q v' (upd H l (.lst vy))) : rAppend (.ref l) vx H Q := by
  unfold mAppend at e
  split at e
  · split at e
    · rename_i hz
      cases e
      obtain ⟨w, rfl, r1⟩ := VRs.one rx
      exact ⟨l, vz, w, rfl, rfl, el, by rw [← rz.length]; exact hz, k _ _ (VRs.append rz ⟨w, [], rfl, r1, rfl⟩) rfl⟩
    · cases e
  · cases e
theorem m_extend {ρ : Rho} {H : Hp} {m : Mem} {zs xs ys : List PV} {v : PV} {l : Addr} {vz vx : List V} {Q : VK} (hr : HR X.K ad ρ H m) (el : H l = some (.lst vz)) (rz : VRs X.K ad ρ H zs vz) (rx : VRs X.K ad ρ H xs vx) (e : mExtend m zs xs = some (v, ys))
    (k : ∀ vy v', VRs X.K ad ρ H ys vy → VR X.K ad ρ H v v' → Q v' (upd H l (.lst vy))) : rExtend (.ref l) vx H Q := by
  unfold mExtend at e
  split at e
  · split at e
    · rename_i q ys2 ey
      split at e
      · rename_i hz
        cases e
        obtain ⟨w, rfl, r1⟩ := VRs.one rx
        obtain ⟨b, us, rfl, hb, r2⟩ := lstW_at hr ey r1
        exact ⟨l, b, vz, us, rfl, rfl, el, hb, by rw [← rz.length, ← r2.length]; exact hz, k _ _ (VRs.append rz r2) rfl⟩
      · cases e
    · cases e
  · cases e
theorem VRs.dropLast {K : PySem.W.Frag} {ρ : Rho} {H : Hp} {xs : List PV} {vs : List V} (r : VRs K ad ρ H xs vs) : VRs K ad ρ H xs.dropLast vs.dropLast := by
  rw [List.dropLast_eq_take, List.dropLast_eq_take, r.length]
  exact VRs.take _ r
theorem VRs.eraseIdx {K : PySem.W.Frag} {ρ : Rho} {H : Hp} : ∀ {xs : List PV} {vs : List V} (k : Nat), VRs K ad ρ H xs vs → VRs K ad ρ H (xs.eraseIdx k) (vs.eraseIdx k)
  | [], _, _, h => by cases h; exact rfl
  | _ :: _, _, 0, ⟨y, ys, e, a, r⟩ => by cases e; exact r
  | _ :: _, _, k + 1, ⟨y, ys, e, a, r⟩ => by cases e; exact ⟨y, _, rfl, a, VRs.eraseIdx k r⟩
theorem m_popAt {ρ : Rho} {H : Hp} {m : Mem} {zs xs ys : List PV} {v : PV} {l : Addr} {vz vx : List V} {Q : VK} (hr : HR X.K ad ρ H m) (el : H l = some (.lst vz)) (rz : VRs X.K ad ρ H zs vz) (rx : VRs X.K ad ρ H xs vx) (hx : xs ≠ []) (e : mPop m zs xs = some (v, ys))
    (k : ∀ vy v', VRs X.K ad ρ H ys vy → VR X.K ad ρ H v v' → Q v' (upd H l (.lst vy))) : rPopAt (.ref l) vx H Q := by
  unfold mPop at e
  split at e
  · exact absurd rfl hx
  · split at e
    · rename_i i hi
      cases ek : seqIndex? i zs.length with
      | none => rw [ek] at e; cases e
      | some j =>
        rw [ek] at e
        simp only at e
        cases ey : zs[j]? with
        | none => rw [ey] at e; cases e
        | some y =>
          rw [ey] at e
          cases e
          obtain ⟨w, rfl, r1⟩ := VRs.one rx
          cases r1
          obtain ⟨u, eu, ru⟩ := rz.get ey
          exact ⟨l, vz, i, j, u, rfl, rfl, el, hi.1, hi.2, by rw [← rz.length]; exact ek, eu, k _ _ (VRs.eraseIdx j rz) ru⟩
    · cases e
  · cases e

theorem z_pop0 {o : Expr} {a : Ev} {name : Str} {apos cpos : Pos} (slot : Slot "list" name "list.pop") (hty : typeOf (.builtin "list.pop") = pure (.type "method_descriptor"))
    (ho : PE X o (simE X.K ad W a)) (hbase : attributeBase o name X.env (eval o X.env) = eval o X.env) (hline : (apos.endLine == cpos.line) = true) :
    PE X (.Call (.Attribute o name apos) [] [] cpos) (simE X.K ad W (cMut mPop a cNil)) := by
  refine PE.imp (pe_bm0 PySem.F.plainAttrs_list slot hty mt_pop ho hbase hline) fun σ H Q h => ?_
  obtain ⟨ρ, R, env, h0, er, hr, s⟩ := h
  refine ⟨ρ, R, env, h0, er, hr, (SimR.bind s).imp fun ρ1 H1 p h1 st1 hr1 s1 x' vx => ?_⟩
  cases p with
  | ref n =>
    simp only at s1
    cases eo : (R ++ h1)[n]? with
    | none => rw [eo] at s1; exact s1.elim
    | some o =>
      rw [eo] at s1
      cases o with
      | lst zs =>
        obtain ⟨l, rfl, hl⟩ := vx
        obtain ⟨vz, e0, rz⟩ := hr1.at_ n _ l eo hl
        refine ⟨.inl ⟨rfl, vz, SqL.of e0⟩, ?_⟩
        simp only [cNil, Res.bind, eo] at s1
        by_cases hn : R.length ≤ n
        · rw [if_pos hn] at s1
          unfold mPop at s1
          simp only at s1
          cases ey : zs[zs.length - 1]? with
          | none => rw [ey] at s1; exact s1.elim
          | some y =>
            rw [ey] at s1
            obtain ⟨u, eu, ru⟩ := rz.get ey
            refine ⟨l, vz, u, rfl, rfl, e0, by rw [← rz.length]; exact eu, ?_⟩
            obtain ⟨st3, hr3⟩ := hr1.write hn (List.getElem?_eq_some_iff.mp eo).1 hl (VRs.dropLast rz)
            exact s1 _ _ st3 hr3 u (VR.mono st3 _ ru)
        · rw [if_neg hn] at s1; exact s1.elim
      | _ => exact s1.elim
  | _ => exact s1.elim
theorem ixN_len {n : Nat} {i : Int} {j : Nat} (h : ixN n i = some j) : j < n := (ixN_seq h).2.1
theorem zg_sub {o i : Expr} {pos : Pos} {eo ei : Ev} (ho : PE X o (simE X.K ad W0 eo)) (hi : PE X i (simE X.K ad W0 ei))
    (ha : ∀ v, assign (.Subscript o i pos) X.env v = (do
      let ov ← holding [v] (eval o X.env)
      let iv ← holding [v, ov] (eval i X.env)
      standAt pos
      holding [v, ov, iv] (setItem ov iv v)
      release [v, ov, iv] [])) : PG X (.Subscript o i pos) (simG X.K ad [] (gSubL eo ei)) := by
  refine PG.imp (pg_sub ho hi set_list ha) fun v σ H Q h => ?_
  obtain ⟨ρ, R, env, h0, p, env', h', er, hr, vp, e, k⟩ := h
  unfold gSubL at e
  split at e
  · rename_i n h1 e1
    split at e
    · rename_i j h2 e2
      split at e
      · rename_i zs e3
        split at e
        · rename_i hn
          split at e
          · rename_i q eq
            cases e
            refine ⟨ρ, R, env, h0, er, hr, ?_⟩
            rw [e1]
            intro ρ1 H1 st1 hr1 v1 ⟨l, hv, hl⟩
            refine ⟨ρ1, R, env, h1, er.mono st1, hr1, ?_⟩
            rw [e2]
            intro ρ2 H2 st2 hr2 v2 hv2
            have hl2 := st2.get hl
            obtain ⟨vz, e4, rz⟩ := hr2.at_ n _ l e3 hl2
            refine ⟨l, vz, j, q, hv, hv2, e4, by rw [← rz.length]; exact eq, ?_⟩
            have vp2 := VR.mono st2 _ (VR.mono st1 _ vp)
            obtain ⟨st3, hr3⟩ := hr2.write hn (List.getElem?_eq_some_iff.mp e3).1 hl2 (VRs.set vp2 q rz)
            exact k ρ2 _ σ ((st1.trans st2).trans st3) hr3 (((er.mono st1).mono st2).mono st3) ⟨rfl, fun _ _ => rfl⟩
          · cases e
        · cases e
      · cases e
    · cases e
  · cases e
end
end Z

end
section -- Z12
/-! Z12: what a def hands back; a def's promise; calls. -/
namespace Z
open PySem PySem.Spec PyProof.Rows L2

mutual
def closed (n : Nat) : PV → Bool
  | .tup xs => closeds n xs
  | .lst xs => closeds n xs
  | .dic ks vs => closeds n ks && closeds n vs
  | .ins _ _ vs => closeds n vs
  | .exc _ _ vs => closeds n vs
  | .ref k => decide (k < n)
  | _ => true
def closeds (n : Nat) : List PV → Bool
  | [] => true
  | x :: xs => closed n x && closeds n xs
end
def closedOs (n : Nat) (vs : List (Option PV)) : Bool := vs.all fun o => match o with
  | some p => closed n p
  | none => true
theorem closedOs_at {n : Nat} {vs : List (Option PV)} {i : Nat} {p : PV} (h : closedOs n vs = true) (e : vs[i]? = some (some p)) : closed n p = true := List.all_eq_true.mp h _ (List.mem_of_getElem? e)
def allSome : List (Option PV) → Option (List PV)
  | [] => some []
  | some x :: xs => (allSome xs).map (x :: ·)
  | none :: _ => none
theorem allSome_eq : ∀ {xs : List (Option PV)} {ys : List PV}, allSome xs = some ys → xs = ys.map some
  | [], _, h => by cases h; rfl
  | some x :: xs, _, h => by
    rw [allSome] at h
    cases e : allSome xs with
    | none => rw [e] at h; cases h
    | some zs => rw [e] at h; cases h; rw [allSome_eq e]; rfl
  | none :: _, _, h => by cases h
def closedO (n : Nat) : MO → Bool
  | .lst xs => closeds n xs
  | .dic ks vs => closeds n ks && closeds n vs
  | .ins _ _ vs => closedOs n vs
  | .frz xs => closeds n xs
def optMap (f : PV → Option PV) : List PV → Option (List PV)
  | [] => some []
  | x :: xs => match f x, optMap f xs with
    | some y, some ys => some (y :: ys)
    | _, _ => none
def frz1 (n : Nat) (m : Mem) (f : PV → Option PV) (p : PV) : Option PV := if isData p = true then some p else match p with
  | .tup xs => (optMap f xs).map .tup
  | .lst xs => (optMap f xs).map .lst
  | .ins c ns xs => (optMap f xs).map (.ins c ns)
  | .ref j => if j < n then some (.ref j) else match m[j]? with
    | some (.lst xs) => (optMap f xs).map .lst
    | some (.ins c ns xs) => match allSome xs with
      | some ys => (optMap f ys).map (.ins c ns)
      | none => none
    | _ => none
  | .exc c ns xs => (optMap f xs).map (.exc c ns)
  | _ => none
/-- as it is told to a caller who has n things: what is newer never changes again -/
def frz (n : Nat) (m : Mem) : Nat → PV → Option PV
  | 0, p => if isData p = true then some p else none
  | k + 1, p => frz1 n m (frz n m k) p
section
variable {K : PySem.W.Frag} {ad : Ads}
mutual
theorem VR.closed {ρ : Rho} {H : Hp} : ∀ (p : PV) {v : V}, VR K ad ρ H p v → closed ρ.ix.length p = true
  | .non, _, _ => rfl
  | .bl _, _, _ => rfl
  | .int _, _, _ => rfl
  | .str _, _, _ => rfl
  | .tup xs, _, ⟨a, vs, e, t, r⟩ => by rw [Z.closed]; exact VRs.closed xs r
  | .lst xs, _, ⟨a, vs, e, hn, t, r⟩ => by rw [Z.closed]; exact VRs.closed xs r
  | .dic _ _, _, h => h.elim
  | .ins c ns xs, _, ⟨a, dx, vs, us, e, hn, t, l, g, r⟩ => by rw [Z.closed]; exact VRs.closed xs r
  | .exc c ns xs, _, ⟨a, dx, vs, e, hn, t, hn2, t2, l, r⟩ => by rw [Z.closed]; exact VRs.closed xs r
  | .ref n, _, ⟨a, e, r⟩ => by rw [Z.closed]; exact decide_eq_true (List.getElem?_eq_some_iff.mp r).1
  | .fn _, _, _ => rfl
  | .cls _, _, _ => rfl
  | .ty _, _, _ => rfl
theorem VRs.closed {ρ : Rho} {H : Hp} : ∀ (ps : List PV) {vs : List V}, VRs K ad ρ H ps vs → closeds ρ.ix.length ps = true
  | [], _, _ => rfl
  | x :: xs, _, ⟨y, ys, e, a, b⟩ => by rw [closeds, VR.closed x a, VRs.closed xs b]; rfl
end
theorem OR.closed {ρ : Rho} {H : Hp} {a : Addr} {o : MO} (r : OR K ad ρ H a o) : closedO ρ.ix.length o = true := by
  cases o with
  | lst xs => obtain ⟨vs, _, r⟩ := r; exact VRs.closed xs r
  | dic _ _ => exact r.elim
  | ins c ns xs =>
    obtain ⟨dx, vs, _, _, r⟩ := r
    refine List.all_eq_true.mpr fun o ho => ?_
    obtain ⟨i, hi⟩ := List.mem_iff_getElem?.mp ho
    cases o with
    | none => rfl
    | some p =>
      obtain ⟨v, _, q⟩ := r i p hi
      exact VR.closed p q
  | frz xs => obtain ⟨vs, _, r⟩ := r; exact VRs.closed xs r
/-- the first n things alone -/
abbrev Rho.cut (ρ : Rho) (n : Nat) : Rho := ⟨ρ.ix.take n, ρ.own⟩
theorem Rho.cut_has {ρ : Rho} {n : Nat} {a : Addr} (h : ¬ ρ.has a) : ¬ (ρ.cut n).has a := fun z => by
  rcases z with z | z
  · exact h (.inl (List.mem_of_mem_take z))
  · exact h (.inr z)
theorem TupAt.cut {ρ : Rho} {H : Hp} {n : Nat} {a : Addr} {vs : List V} (t : TupAt K ρ H a vs) : TupAt K (ρ.cut n) H a vs := by
  rcases t with ⟨h, t⟩ | t
  · exact .inl ⟨Rho.cut_has h, t⟩
  · exact .inr t
theorem SlA.cut {ρ : Rho} {H : Hp} {n : Nat} {a C dx : Addr} {vs : List (Option V)} (t : SlA ρ H a C dx vs) : SlA (ρ.cut n) H a C dx vs := ⟨t.1, Rho.cut_has t.2.1, t.2.2⟩
mutual
theorem VR.cut {ρ : Rho} {H : Hp} {n : Nat} : ∀ (p : PV) {v : V}, closed n p = true → VR K ad ρ H p v → VR K ad (ρ.cut n) H p v
  | .non, _, _, h => h
  | .bl _, _, _, h => h
  | .int _, _, _, h => h
  | .str _, _, _, h => h
  | .tup xs, _, c, ⟨a, vs, e, t, r⟩ => ⟨a, vs, e, t.cut, VRs.cut xs (by simpa [Z.closed] using c) r⟩
  | .lst xs, _, c, ⟨a, vs, e, hn, t, r⟩ => ⟨a, vs, e, Rho.cut_has hn, t, VRs.cut xs (by simpa [Z.closed] using c) r⟩
  | .dic _ _, _, _, h => h.elim
  | .ins _ ns xs, _, c, ⟨a, dx, vs, us, e, hn, t, l, g, r⟩ => ⟨a, dx, vs, us, e, Rho.cut_has hn, t.cut, l, g, VRs.cut xs (by simpa [Z.closed] using c) r⟩
  | .exc _ ns xs, _, c, ⟨a, dx, vs, e, hn, t, hn2, t2, l, r⟩ => ⟨a, dx, vs, e, Rho.cut_has hn, t, Rho.cut_has hn2, t2, l, VRs.cut xs (by simpa [Z.closed] using c) r⟩
  | .ref k, _, c, ⟨a, e, r⟩ => ⟨a, e, by
      have : k < n := by simpa [Z.closed] using c
      show (ρ.ix.take n)[k]? = some a
      rw [List.getElem?_take_of_lt this]; exact r⟩
  | .fn _, _, _, h => h
  | .cls _, _, _, h => h
  | .ty _, _, _, h => h
theorem VRs.cut {ρ : Rho} {H : Hp} {n : Nat} : ∀ (ps : List PV) {vs : List V}, closeds n ps = true → VRs K ad ρ H ps vs → VRs K ad (ρ.cut n) H ps vs
  | [], _, _, h => h
  | x :: xs, _, c, ⟨y, ys, e, a, b⟩ => by
    rw [closeds, Bool.and_eq_true] at c
    exact ⟨y, ys, e, VR.cut x c.1 a, VRs.cut xs c.2 b⟩
end
theorem OR.cut {ρ : Rho} {H : Hp} {n : Nat} {a : Addr} {o : MO} (c : closedO n o = true) (r : OR K ad ρ H a o) : OR K ad (ρ.cut n) H a o := by
  cases o with
  | lst xs => obtain ⟨vs, e, r⟩ := r; exact ⟨vs, e, VRs.cut xs c r⟩
  | dic _ _ => exact r.elim
  | ins _ ns xs => obtain ⟨dx, vs, e, l, r⟩ := r; exact ⟨dx, vs, e.cut, l, fun i p hp => let ⟨v, q1, q2⟩ := r i p hp; ⟨v, q1, VR.cut p (closedOs_at c hp) q2⟩⟩
  | frz xs => obtain ⟨vs, e, r⟩ := r; exact ⟨vs, e, VRs.cut xs c r⟩
theorem HR.cut {ρ : Rho} {H : Hp} {m1 m2 : Mem} (r : HR K ad ρ H (m1 ++ m2)) (c : ∀ o ∈ m1, closedO m1.length o = true) : HR K ad (ρ.cut m1.length) H m1 := by
  have hl := r.len
  rw [List.length_append] at hl
  refine ⟨by show (ρ.ix.take _).length = _; rw [List.length_take]; omega, (List.take_sublist _ _).nodup r.nd, fun k o a e1 e2 => ?_, fun a ha => ⟨(r.own a ha).1, fun z => (r.own a ha).2 (List.mem_of_mem_take z)⟩⟩
  have hk := (List.getElem?_eq_some_iff.mp e1).1
  have e2' : (ρ.ix.take m1.length)[k]? = some a := e2
  rw [List.getElem?_take_of_lt hk] at e2'
  exact OR.cut (c o (List.mem_of_getElem? e1)) (r.at_ k o a (by rw [List.getElem?_append_left hk]; exact e1) e2')
/-- at the entry all is closed -/
theorem HR.closed {ρ : Rho} {H : Hp} {m : Mem} (r : HR K ad ρ H m) : ∀ o ∈ m, closedO m.length o = true := fun o ho => by
  obtain ⟨k, hk, e⟩ := List.mem_iff_getElem.mp ho
  have l : k < ρ.ix.length := by rw [r.len]; exact hk
  have := (r.at_ k o ρ.ix[k] (by rw [List.getElem?_eq_getElem hk, e]) (List.getElem?_eq_getElem l)).closed
  rw [r.len] at this
  exact this
theorem Step.cut {ρ ρ' : Rho} {H H' : Hp} {m : Mem} (hr : HR K ad ρ H m) (st : Step ρ H ρ' H') : Step ρ H (ρ'.cut m.length) H' := by
  refine ⟨⟨fun a o hn e => ⟨Rho.cut_has (st.kept a o hn e).1, (st.kept a o hn e).2⟩, fun k a e => ?_⟩, st.own⟩
  show (ρ'.ix.take _)[k]? = some a
  rw [List.getElem?_take_of_lt (by rw [← hr.len]; exact (List.getElem?_eq_some_iff.mp e).1)]
  exact st.get e
mutual
theorem isData_closed (n : Nat) : ∀ (p : PV), isData p = true → closed n p = true
  | .non, _ => rfl
  | .bl _, _ => rfl
  | .int _, _ => rfl
  | .str _, _ => rfl
  | .tup xs, h => by rw [closed]; exact areData_closed n xs (by simpa [isData] using h)
  | .lst xs, h => by rw [closed]; exact areData_closed n xs (by simpa [isData] using h)
  | .dic ks vs, h => by
    rw [isData, Bool.and_eq_true] at h
    rw [closed, areData_closed n ks h.1, areData_closed n vs h.2]; rfl
  | .ins _ _ xs, h => by rw [closed]; exact areData_closed n xs (by simpa [isData] using h)
  | .exc _ _ xs, h => by rw [closed]; exact areData_closed n xs (by simpa [isData] using h)
  | .ref k, h => by cases h
  | .fn _, _ => rfl
  | .cls _, _ => rfl
  | .ty _, _ => rfl
theorem areData_closed (n : Nat) : ∀ (ps : List PV), areData ps = true → closeds n ps = true
  | [], _ => rfl
  | x :: xs, h => by
    rw [areData, Bool.and_eq_true] at h
    rw [closeds, isData_closed n x h.1, areData_closed n xs h.2]; rfl
end
theorem optMap_ok {f : PV → Option PV} {P Q : PV → V → Prop} (hf : ∀ p q v, f p = some q → P p v → Q q v) {F G : List PV → List V → Prop} (F0 : ∀ vs, F [] vs → G [] vs)
    (Fc : ∀ p ps vs, F (p :: ps) vs → ∃ y ys, vs = y :: ys ∧ P p y ∧ F ps ys) (Gc : ∀ p ps y ys, Q p y → G ps ys → G (p :: ps) (y :: ys)) : ∀ (ps qs : List PV) (vs : List V), optMap f ps = some qs → F ps vs → G qs vs
  | [], qs, vs, e, h => by cases e; exact F0 vs h
  | p :: ps, qs, vs, e, h => by
    rw [optMap] at e
    cases e1 : f p with
    | none => rw [e1] at e; cases e
    | some q =>
      cases e2 : optMap f ps with
      | none => rw [e1, e2] at e; cases e
      | some rs =>
        rw [e1, e2] at e; cases e
        obtain ⟨y, ys, rfl, a, b⟩ := Fc p ps vs h
        exact Gc q rs y ys (hf p q y e1 a) (optMap_ok hf F0 Fc Gc ps rs ys e2 b)
theorem VRs.optMap {ρ ρ' : Rho} {H : Hp} {f : PV → Option PV} (hf : ∀ p q v, f p = some q → VR K ad ρ H p v → VR K ad ρ' H q v) : ∀ {ps qs : List PV} {vs : List V}, Z.optMap f ps = some qs → VRs K ad ρ H ps vs → VRs K ad ρ' H qs vs :=
  fun {ps qs vs} e r => optMap_ok (F := VRs K ad ρ H) (G := VRs K ad ρ' H) hf (fun _ h => h) (fun _ _ _ h => h) (fun _ _ y ys a b => ⟨y, ys, rfl, a, b⟩) ps qs vs e r
theorem optMap_len {f : PV → Option PV} : ∀ {ps qs : List PV}, Z.optMap f ps = some qs → qs.length = ps.length
  | [], _, e => by cases e; rfl
  | p :: ps, qs, e => by
    rw [Z.optMap] at e
    split at e
    · rename_i e1 e2; cases e; simp [optMap_len e2]
    · cases e
theorem VRs.out_of {ρ : Rho} {H : Hp} : ∀ {zs : List PV} {vs : List (Option V)}, (∀ (i : Nat) (p : PV), (zs.map some)[i]? = some (some p) → ∃ v, vs[i]? = some (some v) ∧ VR K ad ρ H p v) → ∃ us : List V, (∀ (i : Nat) (u : V), us[i]? = some u → vs[i]? = some (some u)) ∧ VRs K ad ρ H zs us
  | [], _, _ => ⟨[], fun i u h => by simp at h, rfl⟩
  | z :: zs, vs, h => by
    obtain ⟨v, e1, e2⟩ := h 0 z rfl
    cases vs with
    | nil => simp at e1
    | cons o vs =>
      obtain ⟨us, g, r⟩ := VRs.out_of (zs := zs) (vs := vs) fun i p hp => h (i + 1) p (by simpa using hp)
      refine ⟨v :: us, fun i u hu => ?_, v, us, rfl, e2, r⟩
      cases i with
      | zero =>
        simp at hu
        subst hu
        exact e1
      | succ i => simpa using g i u (by simpa using hu)
theorem frz_ok {ρ : Rho} {H : Hp} {m : Mem} {n : Nat} (hr : HR K ad ρ H m) : ∀ (k : Nat) (p q : PV) (v : V), frz n m k p = some q → VR K ad ρ H p v → VR K ad (ρ.cut n) H q v
  | 0, p, q, v, e, r => by
    rw [frz] at e
    split at e
    · rename_i h; cases e; exact VR.cut p (isData_closed n p h) r
    · cases e
  | k + 1, p, q, v, e, r => by
    rw [frz] at e
    unfold frz1 at e
    split at e
    · rename_i h; cases e; exact VR.cut p (isData_closed n p h) r
    · have ih : ∀ p q v, frz n m k p = some q → VR K ad ρ H p v → VR K ad (ρ.cut n) H q v := fun p q v e r => frz_ok hr k p q v e r
      have out : ∀ j a, ¬ j < n → ρ.ix[j]? = some a → ¬ (ρ.cut n).has a := by
        intro j a hj ha z
        rcases z with z | z
        · obtain ⟨i, hi, e⟩ := List.mem_iff_getElem.mp z
          rw [List.length_take] at hi
          rw [List.getElem_take] at e
          have e' : ρ.ix[i]? = some a := by rw [List.getElem?_eq_getElem (by omega), e]
          have := (List.getElem?_inj (by omega) hr.nd).mp (e'.trans ha.symm)
          omega
        · exact (hr.own a z).2 (List.mem_of_getElem? ha)
      split at e
      · rename_i xs _
        cases e1 : optMap (frz n m k) xs with
        | none => rw [e1] at e; cases e
        | some ys => rw [e1] at e; cases e; obtain ⟨a, vs, e2, t, r⟩ := r; exact ⟨a, vs, e2, t.cut, VRs.optMap ih e1 r⟩
      · rename_i xs _
        cases e1 : optMap (frz n m k) xs with
        | none => rw [e1] at e; cases e
        | some ys => rw [e1] at e; cases e; obtain ⟨a, vs, e2, hn, t, r⟩ := r; exact ⟨a, vs, e2, Rho.cut_has hn, t, VRs.optMap ih e1 r⟩
      · rename_i c ns xs _
        cases e1 : optMap (frz n m k) xs with
        | none => rw [e1] at e; cases e
        | some ys => rw [e1] at e; cases e; obtain ⟨a, dx, vs, us, e2, hn, t, l, g, r⟩ := r; exact ⟨a, dx, vs, us, e2, Rho.cut_has hn, t.cut, by rw [optMap_len e1]; exact l, g, VRs.optMap ih e1 r⟩
      · rename_i j _
        split at e
        · rename_i hj
          cases e
          exact VR.cut (.ref j) (by simp [Z.closed]; exact hj) r
        · rename_i hj
          obtain ⟨a, rfl, ha⟩ := r
          split at e
          · rename_i xs eo
            cases e1 : optMap (frz n m k) xs with
            | none => rw [e1] at e; cases e
            | some ys =>
              rw [e1] at e; cases e
              obtain ⟨vs, e2, r⟩ := hr.at_ j _ a eo ha
              exact ⟨a, vs, rfl, out j a hj ha, e2, VRs.optMap ih e1 r⟩
          · rename_i c ns xs eo
            cases e0 : allSome xs with
            | none => rw [e0] at e; cases e
            | some zs =>
              rw [e0] at e
              dsimp only at e
              cases e1 : optMap (frz n m k) zs with
              | none => rw [e1] at e; cases e
              | some ys =>
                rw [e1] at e; cases e
                obtain ⟨dx, vs, e2, l, r⟩ := hr.at_ j _ a eo ha
                have ex := allSome_eq e0
                subst ex
                obtain ⟨us, g, ru⟩ := VRs.out_of r
                exact ⟨a, dx, vs, us, rfl, out j a hj ha, e2.cut, by rw [optMap_len e1]; simpa using l, g, VRs.optMap ih e1 ru⟩
          · cases e
      · rename_i c ns xs _
        cases e1 : optMap (frz n m k) xs with
        | none => rw [e1] at e; cases e
        | some ys => rw [e1] at e; cases e; obtain ⟨a, dx, vs, e2, hn, t, hn2, t2, l, r⟩ := r; exact ⟨a, dx, vs, e2, Rho.cut_has hn, t, Rho.cut_has hn2, t2, by rw [optMap_len e1]; exact l, VRs.optMap ih e1 r⟩
      · cases e
end
end Z

end
section -- Z13
/-! Z13: a def's promise by its body; calls. -/
namespace Z
open PySem PySem.Spec PyProof.Rows L2

/-- pure: what was there stays as it is; chg: it may change; new: .. and a new list that may change is told -/
inductive Md where
  | pure | chg | new
def startE (ns : Nat) (args : List PV) : Envr := args.map some ++ List.replicate (ns - args.length) none
def finPure (R h : Mem) : SR → Res PV
  | .ret v h1 => match frz (R ++ h).length (R ++ h ++ h1) 40 v with
    | some w => .ok w h
    | none => .bad
  | .nx _ _ => .ok .non h
  | .exc c ns vs _ h1 => match optMap (frz (R ++ h).length (R ++ h ++ h1) 40) vs with
    | some ws => .exc c ns ws h
    | none => .bad
  | _ => .bad
def trimOk (R h h1 : Mem) : Bool := decide (h1.length = h.length) || (decide (h.length ≤ h1.length) && (h1.take h.length).all (closedO (R ++ h).length))
def finMut (R h : Mem) : SR → Res PV
  | .ret v h1 => if trimOk R h h1 = true then (match frz (R ++ h).length (R ++ h1) 40 v with
    | some w => .ok w (h1.take h.length)
    | none => .bad) else .bad
  | .nx _ h1 => if trimOk R h h1 = true then .ok .non (h1.take h.length) else .bad
  | .exc c ns vs _ h1 => if trimOk R h h1 = true then (match optMap (frz (R ++ h).length (R ++ h1) 40) vs with
    | some ws => .exc c ns ws (h1.take h.length)
    | none => .bad) else .bad
  | _ => .bad
def finNew (R h : Mem) : SR → Res PV
  | .ret (.ref j) h1 => if trimOk R h h1 = true ∧ ¬ j < (R ++ h).length then (match (R ++ h1)[j]? with
    | some (.lst xs) => if areData xs = true then .ok (.ref (R ++ h).length) (h1.take h.length ++ [.lst xs]) else .bad
    | _ => .bad) else .bad
  | _ => .bad
def callB (md : Md) (ns : Nat) (body : EvS) (args : List PV) (R h : Mem) : Res PV := match md with
  | .pure => finPure R h (body (R ++ h) (startE ns args) [])
  | .chg => finMut R h (body R (startE ns args) h)
  | .new => finNew R h (body R (startE ns args) h)
def simSp (K : PySem.W.Frag) (ad : Ads) (np : Nat) (Φ : List PV → Mem → Mem → Res PV) : Sp := fun vs H Q E => ∃ ρ R h args, VRs K ad ρ H args vs ∧ args.length = np ∧ HR K ad ρ H (R ++ h) ∧
  SimR K ad E R ρ H (Φ args R h) (fun ρ' H' v _ => ∀ v', VR K ad ρ' H' v v' → Q v' H')

section
variable {K : PySem.W.Frag} {ad : Ads}
theorem start_ER {ρ : Rho} {H : Hp} {N : List Str} {args : List PV} {vs : List V} (r : VRs K ad ρ H args vs) : ER K ad ρ H (startE N.length args) (start N vs) := by
  have hl := r.length
  refine ⟨by unfold startE L2.start; simp [hl], fun i p e => ?_⟩
  unfold startE at e
  by_cases hi : i < args.length
  · rw [List.getElem?_append_left (by simpa using hi), List.getElem?_map] at e
    cases ep : args[i]? with
    | none => rw [ep] at e; cases e
    | some q =>
      rw [ep] at e
      cases e
      obtain ⟨v, ev, rv⟩ := r.get ep
      refine ⟨v, ?_, rv⟩
      unfold L2.start
      rw [List.getElem?_append_left (by simpa [← hl] using hi), List.getElem?_map, ev]; rfl
  · rw [List.getElem?_append_right (by simpa using hi), List.getElem?_replicate] at e
    split at e <;> cases e
theorem XR.cut {ρ : Rho} {H : Hp} {n : Nat} {m : Mem} {c : Xc} {ns : List Str} {vs ws : List PV} {cl : Value} {d : Option Addr} (hr : HR K ad ρ H m) (e : optMap (frz n m 40) vs = some ws) (x : XR K ad ρ H c ns vs cl d) : XR K ad (ρ.cut n) H c ns ws cl d := by
  cases c with
  | own c =>
    obtain ⟨e1, dx, us, e2, hn, e3, l, r⟩ := x
    exact ⟨e1, dx, us, e2, Rho.cut_has hn, e3, by rw [optMap_len e]; exact l, VRs.optMap (fun p q v => frz_ok hr 40 p q v) e r⟩
  | bi n =>
    obtain ⟨e1, e2, e3, e4⟩ := x
    subst e4
    cases e
    exact ⟨e1, e2, e3, rfl⟩
theorem simSp_pure {N : List Str} {np : Nat} {body : EvS} {vs : List V} {H : Hp} {Q : VK} {E : XK} (h : simSp K ad np (callB .pure N.length body) vs H Q E) :
    simS K ad (fun cl d _ H => E cl d H) body { nx := fun _ H' => Q .non H', rt := Q } (start N vs) H := by
  obtain ⟨ρ, R, h, args, rv, _, hr, s⟩ := h
  refine ⟨ρ, R ++ h, startE N.length args, [], start_ER rv, by rw [List.append_nil]; exact hr, ?_⟩
  unfold callB at s
  simp only at s
  cases e : body (R ++ h) (startE N.length args) [] with
  | nx env h1 =>
    rw [e] at s
    intro ρ' H' σ' st hr' _
    exact s (ρ'.cut (R ++ h).length) H' (st.cut hr) (hr'.cut hr.closed) .non rfl
  | ret v h1 =>
    rw [e] at s
    unfold finPure at s
    simp only at s
    intro ρ' H' v' st hr' rv'
    cases ef : frz (R ++ h).length (R ++ h ++ h1) 40 v with
    | none => rw [ef] at s; exact s.elim
    | some w =>
      rw [ef] at s
      exact s (ρ'.cut (R ++ h).length) H' (st.cut hr) (hr'.cut hr.closed) v' (frz_ok hr' 40 v w v' ef rv')
  | exc c ns vs env h1 =>
    rw [e] at s
    unfold finPure at s
    simp only at s
    intro ρ' H' σ' cl d st hr' _ x
    cases ef : optMap (frz (R ++ h).length (R ++ h ++ h1) 40) vs with
    | none => rw [ef] at s; exact s.elim
    | some ws =>
      rw [ef] at s
      exact s (ρ'.cut (R ++ h).length) H' cl d (st.cut hr) (hr'.cut hr.closed) (x.cut hr' ef)
  | brk env h1 => rw [e] at s; exact s.elim
  | ct env h1 => rw [e] at s; exact s.elim
  | bad => rw [e] at s; exact s.elim
theorem HR.trim {ρ ρ' : Rho} {H H' : Hp} {R h h1 : Mem} (hr : HR K ad ρ H (R ++ h)) (hr' : HR K ad ρ' H' (R ++ h1)) (t : trimOk R h h1 = true) : HR K ad (ρ'.cut (R ++ h).length) H' (R ++ h1.take h.length) := by
  have lenEq : (R ++ h1.take h.length).length = (R ++ h).length := by
    unfold trimOk at t
    simp only [Bool.or_eq_true, Bool.and_eq_true, decide_eq_true_eq] at t
    rw [List.length_append, List.length_append, List.length_take]
    omega
  have split : R ++ h1 = (R ++ h1.take h.length) ++ h1.drop h.length := by rw [List.append_assoc, List.take_append_drop]
  rw [split] at hr'
  have := hr'.cut (m1 := R ++ h1.take h.length) (fun o ho => ?_)
  · rw [lenEq] at this; exact this
  · rw [lenEq]
    unfold trimOk at t
    simp only [Bool.or_eq_true, Bool.and_eq_true, decide_eq_true_eq, List.all_eq_true] at t
    rcases t with t | ⟨_, t⟩
    · have h2 : h1.drop h.length = [] := List.drop_eq_nil_of_le (by omega)
      rw [h2, List.append_nil] at hr'
      have := hr'.closed o ho
      rw [lenEq] at this
      exact this
    · rcases List.mem_append.mp ho with ho | ho
      · exact hr.closed o (List.mem_append_left _ ho)
      · exact t o ho
theorem simSp_mut {N : List Str} {np : Nat} {body : EvS} {vs : List V} {H : Hp} {Q : VK} {E : XK} (h : simSp K ad np (callB .chg N.length body) vs H Q E) :
    simS K ad (fun cl d _ H => E cl d H) body { nx := fun _ H' => Q .non H', rt := Q } (start N vs) H := by
  obtain ⟨ρ, R, h, args, rv, _, hr, s⟩ := h
  refine ⟨ρ, R, startE N.length args, h, start_ER rv, hr, ?_⟩
  unfold callB at s
  simp only at s
  cases e : body R (startE N.length args) h with
  | nx env h1 =>
    rw [e] at s
    unfold finMut at s
    simp only at s
    intro ρ' H' σ' st hr' _
    by_cases t : trimOk R h h1 = true
    · rw [if_pos t] at s
      exact s (ρ'.cut (R ++ h).length) H' (st.cut hr) (hr.trim hr' t) .non rfl
    · rw [if_neg t] at s; exact s.elim
  | ret v h1 =>
    rw [e] at s
    unfold finMut at s
    simp only at s
    intro ρ' H' v' st hr' rv'
    by_cases t : trimOk R h h1 = true
    · rw [if_pos t] at s
      cases ef : frz (R ++ h).length (R ++ h1) 40 v with
      | none => rw [ef] at s; exact s.elim
      | some w =>
        rw [ef] at s
        exact s (ρ'.cut (R ++ h).length) H' (st.cut hr) (hr.trim hr' t) v' (frz_ok hr' 40 v w v' ef rv')
    · rw [if_neg t] at s; exact s.elim
  | exc c ns vs env h1 =>
    rw [e] at s
    unfold finMut at s
    simp only at s
    intro ρ' H' σ' cl d st hr' _ x
    by_cases t : trimOk R h h1 = true
    · rw [if_pos t] at s
      cases ef : optMap (frz (R ++ h).length (R ++ h1) 40) vs with
      | none => rw [ef] at s; exact s.elim
      | some ws =>
        rw [ef] at s
        exact s (ρ'.cut (R ++ h).length) H' cl d (st.cut hr) (hr.trim hr' t) (x.cut hr' ef)
    · rw [if_neg t] at s; exact s.elim
  | brk env h1 => rw [e] at s; exact s.elim
  | ct env h1 => rw [e] at s; exact s.elim
  | bad => rw [e] at s; exact s.elim
/-- from one view to another that has no more -/
structure Less (n : Nat) (ρ ρ' : Rho) : Prop where
  has : ∀ b, ¬ ρ.has b → ¬ ρ'.has b
  ix : ∀ (k : Nat) (a : Addr), k < n → ρ.ix[k]? = some a → ρ'.ix[k]? = some a
theorem TupAt.less {ρ ρ' : Rho} {H : Hp} {n : Nat} (l : Less n ρ ρ') {a : Addr} {vs : List V} (t : TupAt K ρ H a vs) : TupAt K ρ' H a vs := by
  rcases t with ⟨h, t⟩ | t
  · exact .inl ⟨l.has _ h, t⟩
  · exact .inr t
mutual
theorem VR.less {ρ ρ' : Rho} {H : Hp} {n : Nat} (l : Less n ρ ρ') : ∀ (p : PV) {v : V}, closed n p = true → VR K ad ρ H p v → VR K ad ρ' H p v
  | .non, _, _, h => h
  | .bl _, _, _, h => h
  | .int _, _, _, h => h
  | .str _, _, _, h => h
  | .tup xs, _, c, ⟨a, vs, e, t, r⟩ => ⟨a, vs, e, t.less l, VRs.less l xs (by simpa [Z.closed] using c) r⟩
  | .lst xs, _, c, ⟨a, vs, e, hn, t, r⟩ => ⟨a, vs, e, l.has _ hn, t, VRs.less l xs (by simpa [Z.closed] using c) r⟩
  | .dic _ _, _, _, h => h.elim
  | .ins _ ns xs, _, c, ⟨a, dx, vs, us, e, hn, t, q, g, r⟩ => ⟨a, dx, vs, us, e, l.has _ hn, ⟨t.1, l.has _ t.2.1, t.2.2⟩, q, g, VRs.less l xs (by simpa [Z.closed] using c) r⟩
  | .exc _ ns xs, _, c, ⟨a, dx, vs, e, hn, t, hn2, t2, q, r⟩ => ⟨a, dx, vs, e, l.has _ hn, t, l.has _ hn2, t2, q, VRs.less l xs (by simpa [Z.closed] using c) r⟩
  | .ref k, _, c, ⟨a, e, r⟩ => ⟨a, e, l.ix k a (by simpa [Z.closed] using c) r⟩
  | .fn _, _, _, h => h
  | .cls _, _, _, h => h
  | .ty _, _, _, h => h
theorem VRs.less {ρ ρ' : Rho} {H : Hp} {n : Nat} (l : Less n ρ ρ') : ∀ (ps : List PV) {vs : List V}, closeds n ps = true → VRs K ad ρ H ps vs → VRs K ad ρ' H ps vs
  | [], _, _, h => h
  | x :: xs, _, c, ⟨y, ys, e, a, b⟩ => by
    rw [closeds, Bool.and_eq_true] at c
    exact ⟨y, ys, e, VR.less l x c.1 a, VRs.less l xs c.2 b⟩
end
theorem OR.less {ρ ρ' : Rho} {H : Hp} {n : Nat} (l : Less n ρ ρ') {a : Addr} {o : MO} (c : closedO n o = true) (r : OR K ad ρ H a o) : OR K ad ρ' H a o := by
  cases o with
  | lst xs => obtain ⟨vs, e, r⟩ := r; exact ⟨vs, e, VRs.less l xs c r⟩
  | dic _ _ => exact r.elim
  | ins _ ns xs => obtain ⟨dx, vs, e, q, r⟩ := r; exact ⟨dx, vs, ⟨e.1, l.has _ e.2.1, e.2.2⟩, q, fun i p hp => let ⟨v, q1, q2⟩ := r i p hp; ⟨v, q1, VR.less l p (closedOs_at c hp) q2⟩⟩
  | frz xs => obtain ⟨vs, e, r⟩ := r; exact ⟨vs, e, VRs.less l xs c r⟩
theorem simSp_new {N : List Str} {np : Nat} {body : EvS} {vs : List V} {H : Hp} {Q : VK} {E : XK} (h : simSp K ad np (callB .new N.length body) vs H Q E) :
    simS K ad (fun cl d _ H => E cl d H) body { nx := fun _ H' => Q .non H', rt := Q } (start N vs) H := by
  obtain ⟨ρ, R, h, args, rv, _, hr, s⟩ := h
  refine ⟨ρ, R, startE N.length args, h, start_ER rv, hr, ?_⟩
  unfold callB at s
  simp only at s
  cases e : body R (startE N.length args) h with
  | ret v h1 =>
    rw [e] at s
    intro ρ' H' v' st hr' rv'
    cases v with
    | ref j =>
      unfold finNew at s
      simp only at s
      by_cases t : trimOk R h h1 = true ∧ ¬ j < (R ++ h).length
      · rw [if_pos t] at s
        cases eo : (R ++ h1)[j]? with
        | none => rw [eo] at s; exact s.elim
        | some o =>
          rw [eo] at s
          cases o with
          | lst xs =>
            simp only at s
            by_cases hd : areData xs = true
            · rw [if_pos hd] at s
              obtain ⟨a, rfl, ha⟩ := rv'
              obtain ⟨us, eu, ru⟩ := hr'.at_ j _ a eo ha
              have hm := hr.trim hr' t.1
              have ain : a ∈ ρ'.ix := List.mem_of_getElem? ha
              have nfirst : a ∉ ρ'.ix.take (R ++ h).length := fun z => by
                obtain ⟨i, hi, ei⟩ := List.mem_iff_getElem.mp z
                rw [List.length_take] at hi
                rw [List.getElem_take] at ei
                have e' : ρ'.ix[i]? = some a := by rw [List.getElem?_eq_getElem (by omega), ei]
                have := (List.getElem?_inj (by omega) hr'.nd).mp (e'.trans ha.symm)
                omega
              have hl2 : (ρ'.ix.take (R ++ h).length).length = (R ++ h).length := by
                have h1 := hm.len
                have h2 := hr'.len
                show _ = _
                rw [List.length_take]
                have : (R ++ h).length ≤ ρ'.ix.length := by
                  have hj := (List.getElem?_eq_some_iff.mp ha).1
                  omega
                omega
              have less : Less (R ++ h).length ρ' ⟨ρ'.ix.take (R ++ h).length ++ [a], ρ'.own⟩ := by
                refine ⟨fun b hb z => ?_, fun k b hk eb => ?_⟩
                · rcases z with z | z
                  · rcases List.mem_append.mp z with z | z
                    · exact hb (.inl (List.mem_of_mem_take z))
                    · rw [List.mem_singleton.mp z] at hb; exact hb (.inl ain)
                  · exact hb (.inr z)
                · show (ρ'.ix.take _ ++ [a])[k]? = some b
                  rw [List.getElem?_append_left (by rw [hl2]; exact hk), List.getElem?_take_of_lt hk]
                  exact eb
              have lenm : (R ++ h1.take h.length).length = (R ++ h).length := by
                have := hm.len
                rw [← this]; exact hl2
              have st2 : Step ρ H ⟨ρ'.ix.take (R ++ h).length ++ [a], ρ'.own⟩ H' := by
                refine ⟨⟨fun b o hb eb => ⟨less.has b (st.kept b o hb eb).1, (st.kept b o hb eb).2⟩, fun k b eb => ?_⟩, st.own⟩
                exact less.ix k b (by rw [← hr.len]; exact (List.getElem?_eq_some_iff.mp eb).1) (st.get eb)
              have hfin : (ρ'.ix.take (R ++ h).length ++ [a])[(R ++ h).length]? = some a := by
                rw [List.getElem?_append_right (by omega), hl2]; simp
              have hr2 : HR K ad ⟨ρ'.ix.take (R ++ h).length ++ [a], ρ'.own⟩ H' (R ++ (h1.take h.length ++ [.lst xs])) := by
                rw [← List.append_assoc]
                refine ⟨?_, ?_, fun k o b e1 e2 => ?_, fun b hb => ⟨(hr'.own b hb).1, fun z => ?_⟩⟩
                · show (ρ'.ix.take (R ++ h).length ++ [a]).length = _
                  rw [List.length_append, hl2, List.length_append (bs := [MO.lst xs]), lenm]; rfl
                · show (ρ'.ix.take (R ++ h).length ++ [a]).Nodup
                  rw [List.nodup_append]
                  exact ⟨(List.take_sublist _ _).nodup hr'.nd, by simp, fun x hx y hy z => nfirst (by rw [List.mem_singleton.mp hy] at z; rw [← z]; exact hx)⟩
                · have e2 : (ρ'.ix.take (R ++ h).length ++ [a])[k]? = some b := e2
                  by_cases hk : k < (R ++ h).length
                  · rw [List.getElem?_append_left (by rw [lenm]; exact hk)] at e1
                    rw [List.getElem?_append_left (by rw [hl2]; exact hk)] at e2
                    have o1 := hm.at_ k o b e1 e2
                    have c1 := hm.closed o (List.mem_of_getElem? e1)
                    rw [lenm] at c1
                    -- from the full view
                    have eo2 : (R ++ h1)[k]? = some o := by
                      have split : R ++ h1 = (R ++ h1.take h.length) ++ h1.drop h.length := by rw [List.append_assoc, List.take_append_drop]
                      rw [split, List.getElem?_append_left (by rw [lenm]; exact hk)]; exact e1
                    rw [List.getElem?_take_of_lt hk] at e2
                    exact OR.less less c1 (hr'.at_ k o b eo2 e2)
                  · have hk2 : k = (R ++ h).length := by
                      have := (List.getElem?_eq_some_iff.mp e2).1
                      rw [List.length_append, hl2] at this
                      simp only [List.length_singleton] at this
                      omega
                    subst hk2
                    rw [hfin] at e2; cases e2
                    rw [List.getElem?_append_right (by omega), lenm] at e1
                    simp at e1
                    subst e1
                    exact ⟨us, eu, VRs.less less xs (areData_closed _ xs hd) ru⟩
                · have z : b ∈ ρ'.ix.take (R ++ h).length ++ [a] := z
                  rcases List.mem_append.mp z with z | z
                  · exact (hr'.own b hb).2 (List.mem_of_mem_take z)
                  · rw [List.mem_singleton.mp z] at hb; exact (hr'.own a hb).2 ain
              exact s _ H' st2 hr2 (.ref a) ⟨a, rfl, hfin⟩
            · rw [if_neg hd] at s; exact s.elim
          | _ => exact s.elim
      · rw [if_neg t] at s; exact s.elim
    | _ => exact s.elim
  | nx env h1 => rw [e] at s; exact s.elim
  | exc c ns vs env h1 => rw [e] at s; exact s.elim
  | brk env h1 => rw [e] at s; exact s.elim
  | ct env h1 => rw [e] at s; exact s.elim
  | bad => rw [e] at s; exact s.elim
theorem simSp_any {md : Md} {N : List Str} {np : Nat} {body : EvS} {vs : List V} {H : Hp} {Q : VK} {E : XK} (h : simSp K ad np (callB md N.length body) vs H Q E) :
    simS K ad (fun cl d _ H => E cl d H) body { nx := fun _ H' => Q .non H', rt := Q } (start N vs) H := by
  cases md with
  | pure => exact simSp_pure h
  | chg => exact simSp_mut h
  | new => exact simSp_new h
end
/-! ### calls -/
def cCall (Φ : List PV → Mem → Mem → Res PV) (np : Nat) (dfl : List PV) (a : EvA) : Ev := fun R env h => (a R env h).bind fun xs h1 => if (xs ++ dfl).length = np then Φ (xs ++ dfl) R h1 else .bad
section
variable {X : Cx} {ad : Ads} {W : WX}
theorem z_call {k np : Nat} {f : Addr} {fd : FuncData} {ps : List Str} {Φ : List PV → Mem → Mem → Res PV} {x : Str} {p pos : Pos} {e : Expr} {es : List Expr} {a : EvA} {dfl : List PV} {ds : List Value} {dvs : List V} (F : FnOk X.prog X.w X.K X.mg X.base (L2.CX X.prog X.w) k f fd ps (simSp X.K ad np Φ)) (hr : Room k X.A) (hg : Gl X x) (hm : X.mg x = some (.ref f)) (hk : PySem.W.keepIn X.K (.ref f) = true)
    (hb : Binds X.K fd ps ds) (hd : Vals dvs ds) (hdv : ∀ ρ H, VRs X.K ad ρ H dfl dvs) (tk : Takes X W) (ha : PA X (e :: es) (simA X.K ad W a)) (hdb : (x == ("__debug__" : Str)) = false) (hs : isStar e = false) (hpl : (backTo pos (starEach es X.env)).any (·.1) = false) :
    PE X (.Call (.Name x p) (e :: es) [] pos) (simE X.K ad W (cCall Φ np dfl a)) := by
  refine PE.imp (pe_callSD (E := fun σ cl d H => W cl d σ H) F hr hg hm hk hb hd (fun σ => passAt tk σ) ha hdb (starEach_cons hs _ _) hpl) fun σ H Q h => ?_
  obtain ⟨ρ, R, env, h0, er, hr, s⟩ := h
  refine ⟨ρ, R, env, h0, er, hr, (SimR.bind s).imp fun ρ1 H1 xs h1 st1 hr1 s1 vs rv => ?_⟩
  by_cases hl : (xs ++ dfl).length = np
  · rw [if_pos hl] at s1
    exact ⟨ρ1, R, h1, xs ++ dfl, VRs.append rv (hdv _ _), hl, hr1, s1⟩
  · rw [if_neg hl] at s1; exact s1.elim
end
end Z

end
section -- ZX2
/-! ZX2: own exceptions of the text: made, raised, caught, by our values. -/
namespace Z
open PySem PySem.Spec PyProof.Rows L2
/-- an own exception class: its field; whether it takes a value (else the field is an empty tuple); its __init__ -/
structure Ex where
  name : Str
  fld : Str
  one : Bool
  qual : Str
  params : Arguments
  scope : Scope
  body : List Stmt
/-- self.f = x, of an exception that is being made -/
def spEx (K : PySem.W.Frag) (f : Str) (one : Bool) : Sp := fun vs H Q _ => ∃ (a C : Addr) (ws : List V), vs = .ref a :: ws ∧ OexC K C ∧ PySem.W.findIn K (.ref C) f = some none ∧ H a = some (exo a C none) ∧
  match one with
  | true => ∃ x, ws = [x] ∧ ∀ dx, H dx = none → dx ≠ a → Q .non (upd (upd H dx (exd dx [(f, x)])) a (exo a C (some dx)))
  | false => ws = [] ∧ ∀ p, H p = none → ∀ dx, upd H p (.tup []) dx = none → dx ≠ a → Q .non (upd (upd (upd H p (.tup [])) dx (exd dx [(f, .ref p)])) a (exo a C (some dx)))
/-- the body of such an __init__ -/
inductive ExBody (f : Str) : Bool → List Str → List Stmt → Prop
  | one (p1 p2 p3 p4 : Pos) (h1 : (f == ("__debug__" : Str)) = false) (h2 : (f == ("__classdict__" : Str)) = false) : ExBody f true ["self", f] [.Assign [.Attribute (.Name "self" p1) f p2] (.Name f p3) p4]
  | non (p1 p2 p3 p4 : Pos) (k : Nat) : ExBody f false ["self"] [.Assign [.Attribute (.Name "self" p1) f p2] (.Tuple [] k p3) p4]
section
variable {P : Program} {w : World} {K : PySem.W.Frag} {mg : Str → Option Value} {base : Heap} {CX : CXT}
theorem ex_init {f qual : Str} {one : Bool} {ps : List Str} {params : Arguments} {body : List Stmt} {scope : Scope} {fI : Addr} {fd : FuncData} (D : FunD K "__init__" qual params body scope [] [] fI fd) (S : FnScope ps ps scope) (B : ExBody f one ps body) (k : Nat) :
    FnOk P w K mg base CX (k + 1) fI fd ps (spEx K f one) := by
  refine D.ok S (fun vs H Q E h => ?_) fun cdv A outer s H vs Q E hr h => ?_
  · obtain ⟨a, C, ws, rfl, _, _, _, h⟩ := h
    cases B with
    | one => obtain ⟨x, rfl, _⟩ := h; rfl
    | non => obtain ⟨rfl, _⟩ := h; rfl
  · obtain ⟨a, C, ws, rfl, T, hno, ha, h⟩ := h
    cases B with
    | one p1 p2 p3 p4 h1 h2 =>
      obtain ⟨x, rfl, q⟩ := h
      have v0 : Vis scope "self" := (S.par "self" (List.mem_cons_self ..)).elim .inl fun z => .inr (.inl z)
      have v1 : Vis scope f := (S.par f (List.mem_cons_of_mem _ (List.mem_cons_self ..))).elim .inl fun z => .inr (.inl z)
      refine ⟨_, pss_one (ps_ost (pe_var (i := 0) rfl v0) (pe_var (i := 1) rfl v1 h1 h2) (by rfl)), ?_⟩
      exact ⟨x, rfl, .ref a, rfl, a, C, rfl, T, hno, .inl ⟨ha, fun dx n ne => q dx n ne⟩⟩
    | non p1 p2 p3 p4 k =>
      obtain ⟨rfl, q⟩ := h
      have v0 : Vis scope "self" := (S.par "self" (List.mem_cons_self ..)).elim .inl fun z => .inr (.inl z)
      refine ⟨_, pss_one (ps_ost (pe_var (i := 0) rfl v0) (pe_tup pa_nil) (by rfl)), ?_⟩
      refine ⟨Nat.zero_le _, fun p hp => ⟨.ref a, rfl, a, C, rfl, T, hno, .inl ⟨?_, fun dx n ne => q p hp dx n ne⟩⟩⟩
      rw [upd_ne (ne_of_none ha hp)]; exact ha
end
/-- what is known of an own exception class -/
structure ExF (prog : Program) (w : World) (K : PySem.W.Frag) (mg : Str → Option Value) (base : Heap) (C : Addr) (E : Ex) : Prop where
  gl : mg E.name = some (.ref C)
  ox : OexC K C
  xf : XfC K C
  ec : ExcC K C
  no : PySem.W.findIn K (.ref C) E.fld = some none
  ini : ∃ (fI : Addr) (fd : FuncData) (ps : List Str), PySem.W.findIn K (.ref C) "__init__" = some (some (.ref fI)) ∧ PySem.W.typeIn K (.ref fI) = some (.type "function") ∧ (∀ k, FnOk prog w K mg base (L2.CX prog w) (k + 1) fI fd ps (spEx K E.fld E.one)) ∧
    (∀ (s : Shared) (a : Addr) (us : List Value), K.In s.heap → us.length = (if E.one = true then 1 else 0) → BindsTo s fd ⟨.ref a :: us, []⟩ (ps.zip (.ref a :: us))) ∧
    (E.one = true → ∀ (s : Shared) (a : Addr) (u : Value), K.In s.heap → BindsTo s fd ⟨[.ref a], [(E.fld, u)]⟩ (ps.zip [.ref a, u]))
/-- the values of an exception's fields -/
def exVals (one : Bool) (vs : List PV) : Option (List PV) := match one, vs with
  | true, [v] => some [v]
  | false, [] => some [.tup []]
  | _, _ => none
def sRaiseN (nm fld : Str) (one : Bool) (a : EvA) : EvS := fun R env h => (a R env h).go env fun vs h1 => match exVals one vs with
  | some ws => .exc (.own nm) [fld] ws env h1
  | none => .bad
def cMkN (nm fld : Str) (one : Bool) (a : EvA) : Ev := fun R env h => (a R env h).bind fun vs h1 => match exVals one vs with
  | some ws => .ok (.exc nm [fld] ws) h1
  | none => .bad
def sRaise (E : Ex) (a : EvA) : EvS := fun R env h => (a R env h).go env fun vs h1 => match exVals E.one vs with
  | some ws => .exc (.own E.name) [E.fld] ws env h1
  | none => .bad
def cMkX (E : Ex) (a : EvA) : Ev := fun R env h => (a R env h).bind fun vs h1 => match exVals E.one vs with
  | some ws => .ok (.exc E.name [E.fld] ws) h1
  | none => .bad
/-- what a new exception is to give: its class, its dict -/
def tEx (C : Addr) (E : Ex) (vs : List V) (H1 : Hp) (Q : XK) : Prop := match E.one with
  | true => ∃ v, vs = [v] ∧ ∀ dx, H1 dx = none → Q (.ref C) (some dx) (upd H1 dx (.xd [(E.fld, v)]))
  | false => vs = [] ∧ ∀ p, H1 p = none → ∀ dx, upd H1 p (.tup []) dx = none → Q (.ref C) (some dx) (upd (upd H1 p (.tup [])) dx (.xd [(E.fld, .ref p)]))
section
variable {X : Cx} {ad : Ads} {W : WX}
/-- the end of a making -/
theorem mk_heap {H1 : Hp} {a dx C : Addr} {fs : List (Str × V)} (n : H1 a = none) (ne : dx ≠ a) :
    upd (del (upd (upd (upd H1 a (exo a C none)) dx (exd dx fs)) a (exo a C (some dx))) a) dx (.xd fs) = upd H1 dx (.xd fs) := by
  funext b
  by_cases hb : b = dx
  · subst hb; rw [upd_same, upd_same]
  · rw [upd_ne hb, upd_ne hb]
    by_cases ha : b = a
    · subst ha; rw [del_same, n]
    · rw [del_ne ha, upd_ne ha, upd_ne hb, upd_ne ha]
theorem upd_swap {H : Hp} {a b : Addr} {o u : HO} (h : a ≠ b) : upd (upd H a o) b u = upd (upd H b u) a o := by
  funext c
  by_cases h1 : c = a
  · subst h1; rw [upd_ne h, upd_same, upd_same]
  · by_cases h2 : c = b
    · subst h2; rw [upd_same, upd_ne (Ne.symm h), upd_same]
    · rw [upd_ne h2, upd_ne h1, upd_ne h1, upd_ne h2]
theorem sp_ex {E : Ex} {C : Addr} {vs : List V} {H1 : Hp} {Q : XK} (F : ExF X.prog X.w X.K X.mg X.base C E) (h : tEx C E vs H1 Q) (a : Addr) (na : H1 a = none) :
    spEx X.K E.fld E.one (.ref a :: vs) (upd H1 a (exo a C none)) (fun v H2 => v = .non ∧ ∃ (d : Addr) (fs : List (Str × V)), H2 a = some (exo a C (some d)) ∧ H2 d = some (exd d fs) ∧ H1 d = none ∧ Q (.ref C) (some d) (upd (del H2 a) d (.xd fs))) (fun _ _ _ => False) := by
  refine ⟨a, C, vs, rfl, F.ox, F.no, upd_same, ?_⟩
  unfold tEx at h
  cases ho : E.one with
  | true =>
    rw [ho] at h
    obtain ⟨v, rfl, q⟩ := h
    refine ⟨v, rfl, fun dx n ne => ⟨rfl, dx, [(E.fld, v)], upd_same, by rw [upd_ne ne, upd_same], by rw [upd_ne ne] at n; exact n, ?_⟩⟩
    rw [upd_ne ne] at n
    rw [mk_heap na ne]
    exact q dx n
  | false =>
    rw [ho] at h
    obtain ⟨rfl, q⟩ := h
    refine ⟨rfl, fun p np dx n ne => ?_⟩
    have pa : p ≠ a := fun z => by rw [z, upd_same] at np; cases np
    have np' : H1 p = none := by rw [upd_ne pa] at np; exact np
    rw [upd_swap (Ne.symm pa)] at n ⊢
    have n1 : upd H1 p (.tup []) dx = none := by rw [upd_ne ne] at n; exact n
    have dp : dx ≠ p := fun z => by rw [z, upd_same] at n1; cases n1
    refine ⟨rfl, dx, [(E.fld, .ref p)], upd_same, by rw [upd_ne ne, upd_same], by rw [upd_ne dp] at n1; exact n1, ?_⟩
    rw [mk_heap (by rw [upd_ne (Ne.symm pa)]; exact na) ne]
    exact q p np' dx n1
theorem noPass : Passes (L2.CX X.prog X.w) X (fun _ _ _ => False) := fun pins σ H s e s' I c => by
  obtain ⟨_, _, _, _, _, _, _, _, _, _, _, _, z⟩ := c
  exact z.elim
theorem tEx_len {E : Ex} {C : Addr} {vs : List V} {H1 : Hp} {Q : XK} (h : tEx C E vs H1 Q) : vs.length = if E.one = true then 1 else 0 := by
  unfold tEx at h
  cases ho : E.one with
  | true => rw [ho] at h; obtain ⟨v, rfl, _⟩ := h; rfl
  | false => rw [ho] at h; obtain ⟨rfl, _⟩ := h; rfl
variable {E : Ex} {C : Addr} {x : Str} {p pos : Pos} {e : Expr} {es : List Expr}
theorem pmk_ex {ta : TA} (F : ExF X.prog X.w X.K X.mg X.base C E) (hx : x = E.name) (hr : Room 2 X.A) (hg : Gl X x) (ha : PA X (e :: es) ta)
    (hdb : (x == ("__debug__" : Str)) = false) (he : starEach (e :: es) X.env = (false, eval e X.env) :: starEach es X.env) (hpl : (backTo pos (starEach es X.env)).any (·.1) = false) :
    PMk X (.Call (.Name x p) (e :: es) [] pos) (fun σ H Q => ta σ H fun vs H1 => tEx C E vs H1 Q) := by
  subst hx
  obtain ⟨fI, fd, ps, i1, i2, i3, i4, _⟩ := F.ini
  intro pins s σ H Q I h
  refine wpAny_Call_Name_kw (ld_glob I hg F.gl (PySem.W.callWith_K (h₀ := X.base) I.ok.mod.kin F.ox.kC (thn (ha.run pos pins s σ H _ I h) fun us s1 ⟨vs, H1, I1, r1, q1⟩ => ⟨I1.kIn, ?_⟩) he hpl) hdb)
  have hl : us.length = if E.one = true then 1 else 0 := r1.length.symm.trans (tEx_len q1)
  refine run_ex (us := us) (kw := []) F.ox i1 i2 (i3 0) hr noPass I1 (Nat.le_trans (by rw [hl]; split <;> decide) (show 1 ≤ sizeLine from by decide)) (fun s a k => i4 s a us k hl) r1 fun a na => sp_ex F q1 a na
theorem pmk_ex0 (F : ExF X.prog X.w X.K X.mg X.base C E) (hx : x = E.name) (hr : Room 2 X.A) (hg : Gl X x) (hdb : (x == ("__debug__" : Str)) = false) :
    PMk X (.Call (.Name x p) [] [] pos) (fun _ H Q => tEx C E [] H Q) := by
  subst hx
  obtain ⟨fI, fd, ps, i1, i2, i3, i4, _⟩ := F.ini
  intro pins s σ H Q I h
  refine wpAny_Call_Name_kw (ld_glob I hg F.gl (PySem.W.callWith_K0 I.kIn F.ox.kC ?_) hdb)
  exact run_ex (us := []) (kw := []) F.ox i1 i2 (i3 0) hr noPass I (Nat.zero_le _) (fun s a k => i4 s a [] k (tEx_len h)) .nil fun a na => sp_ex F h a na
theorem pmk_exK {ta : TA} {kws : List Keyword} (F : ExF X.prog X.w X.K X.mg X.base C E) (hx : x = E.name) (ho : E.one = true) (hr : Room 2 X.A) (hg : Gl X x) (ha : PK X kws ta)
    (hdb : (x == ("__debug__" : Str)) = false) (hall : (backToKw pos (keywordEach kws X.env)).all (·.1.isSome) = true) (hks : (backToKw pos (keywordEach kws X.env)).filterMap (·.1) = [E.fld]) (hno : (backToKw pos (keywordEach kws X.env)).any (·.1.isNone) = false) :
    PMk X (.Call (.Name x p) [] kws pos) (fun σ H Q => ta σ H fun vs H1 => tEx C E vs H1 Q) := by
  subst hx
  obtain ⟨fI, fd, ps, i1, i2, i3, _, i5⟩ := F.ini
  intro pins s σ H Q I h
  refine wpAny_Call_Name_kw (ld_glob I hg F.gl (PySem.W.callWith_KW0 (h₀ := X.base) I.ok.mod.kin F.ox.kC hall (thn (ha.run pos pins s σ H _ I h) fun us s1 ⟨vs, H1, I1, r1, q1⟩ => ⟨I1.kIn, ?_⟩) (by rw [hno]; rfl)) hdb)
  rw [hks]
  have hl : us.length = 1 := by rw [← r1.length, tEx_len q1, if_pos ho]
  match us, hl with
  | [u], _ => exact run_ex (us := []) (kw := [(E.fld, u)]) F.ox i1 i2 (i3 0) hr noPass I1 (Nat.zero_le _) (fun s a k => i5 ho s a u k) r1 fun a na => sp_ex F q1 a na
end
/-! ### by our values -/
section
variable {X : Cx} {ad : Ads} {W : WX} {E : Ex}
/-- the dict of a new exception of our values -/
theorem ex_laid {K : PySem.W.Frag} {ρ : Rho} {H1 : Hp} {m : Mem} {vs ws : List PV} {vs' : List V} {Q : XK} (hr : HR K ad ρ H1 m) (e : exVals E.one vs = some ws) (rv : VRs K ad ρ H1 vs vs')
    (k : ∀ dx us H2, Step ρ H1 ρ H2 → HR K ad ρ H2 m → ¬ ρ.has dx → H2 dx = some (.xd ([E.fld].zip us)) → [E.fld].length = ws.length → VRs K ad ρ H2 ws us → Q (.ref (ad.cls E.name)) (some dx) H2) : tEx (ad.cls E.name) E vs' H1 Q := by
  unfold tEx
  unfold exVals at e
  cases ho : E.one with
  | true =>
    rw [ho] at e
    match vs, e, rv with
    | [v], e, ⟨y, ys, e1, r1, r2⟩ =>
      cases e
      cases r2
      subst e1
      refine ⟨y, rfl, fun dx n => ?_⟩
      obtain ⟨a1, a2, a3⟩ := hr.laid n (.xd [(E.fld, y)])
      exact k dx [y] _ a2 a3 a1 upd_same rfl ⟨y, [], rfl, VR.mono a2 _ r1, rfl⟩
  | false =>
    rw [ho] at e
    match vs, e, rv with
    | [], e, r =>
      cases e
      cases r
      refine ⟨rfl, fun p np dx n => ?_⟩
      obtain ⟨a1, a2, a3⟩ := hr.laid np (.tup [])
      obtain ⟨b1, b2, b3⟩ := a3.laid n (.xd [(E.fld, .ref p)])
      have t : VR K ad ρ (upd H1 p (.tup [])) (.tup []) (.ref p) := ⟨p, [], rfl, .inl ⟨a1, upd_same⟩, rfl⟩
      exact k dx [.ref p] _ (a2.trans b2) b3 b1 upd_same rfl ⟨.ref p, [], rfl, VR.mono b2 _ t, rfl⟩
theorem zs_raise {e : Expr} {a : EvA} {pos : Pos} (hc : X.calm = true) (tk : Takes X W) (hm : PMk X e (fun σ H Q => simA X.K ad W a σ H fun vs H1 => tEx (ad.cls E.name) E vs H1 Q)) : PS X (.Raise (some e) none pos) (simS X.K ad W (sRaise E a)) := by
  refine PS.imp (ps_raise hc tk hm) fun D σ H h => ?_
  obtain ⟨ρ, R, env, h0, er, hr, s⟩ := h
  refine ⟨ρ, R, env, h0, er, hr, (SimS.go er s).imp fun ρ1 H1 vs h1 st1 hr1 s1 vs' rv => ?_⟩
  cases e1 : exVals E.one vs with
  | none => rw [e1] at s1; exact s1.elim
  | some ws =>
    rw [e1] at s1
    exact ex_laid hr1 e1 rv fun dx us H2 st2 hr2 n hx hl ru => s1 ρ1 H2 σ _ _ st2 hr2 ((er.mono st1).mono st2) ⟨rfl, dx, us, rfl, n, hx, hl, ru⟩
theorem z_mkx {e : Expr} {a : EvA} (hm : PMk X e (fun σ H Q => simA X.K ad W a σ H fun vs H1 => tEx (ad.cls E.name) E vs H1 Q)) : PE X e (simE X.K ad W (cMkX E a)) := by
  refine PE.imp (pe_of_pmk hm) fun σ H Q h => ?_
  obtain ⟨ρ, R, env, h0, er, hr, s⟩ := h
  refine ⟨ρ, R, env, h0, er, hr, (SimR.bind s).imp fun ρ1 H1 vs h1 st1 hr1 s1 vs' rv => ?_⟩
  cases e1 : exVals E.one vs with
  | none => rw [e1] at s1; exact s1.elim
  | some ws =>
    rw [e1] at s1
    refine ex_laid hr1 e1 rv fun dx us H2 st2 hr2 n hx hl ru b nb => ?_
    obtain ⟨c1, c2, c3⟩ := hr2.laid nb (EXV (.ref (ad.cls E.name)) (some dx) b)
    exact s1 ρ1 _ (st2.trans c2) c3 (.ref b) ⟨b, dx, us, rfl, c1, upd_same, n, c2.toKeep.keep _ _ n hx, hl, VRs.mono c2 _ ru⟩
end
end Z

end
section -- Z14
/-! Z14: methods of texts, isinstance. -/
namespace Z
open PySem PySem.Spec PyProof.Rows L2

/-- a method of a text: its receiver, its arguments -/
def isStrV : PV → Bool
  | .str _ => true
  | _ => false
def cStrM (f : Mem → PV → List PV → Option PV) (a : Ev) (b : EvA) : Ev := fun R env h => (a R env h).bind fun p h1 => if isStrV p = true then (b R env h1).bind fun xs h2 => liftO h2 (f (R ++ h2) p xs) else .bad
def sJoin (m : Mem) (p : PV) (xs : List PV) : Option PV := match p, xs with
  | .str z, [q] => match seqOf m q with
    | some ys => match asStrs ys with
      | some ts => if (ts.map (·.length)).sum + ts.length * z.length ≤ 16777216 then some (.str (Txt.join z ts)) else none
      | none => none
    | none => none
  | _, _ => none
def sSplit (_ : Mem) (p : PV) (xs : List PV) : Option PV := match p, xs with
  | .str a, [.str b] => if (b.length == 0) = false ∧ a.length + 2 ≤ sizeLine then some (.lst ((Txt.split a b).map .str)) else none
  | _, _ => none
/-- the built-in type of a value -/
def tyOf (m : Mem) : PV → Option String
  | .non => some "NoneType"
  | .bl _ => some "bool"
  | .int _ => some "int"
  | .str _ => some "str"
  | .tup _ => some "tuple"
  | .lst _ => some "list"
  | .ref n => match m[n]? with
    | some (.lst _) => some "list"
    | some (.frz _) => some "list"
    | _ => none
  | _ => none
def kitT : String → String → Option Bool
  | "NoneType", "int" => some false
  | "NoneType", "bool" => some false
  | "NoneType", "str" => some false
  | "NoneType", "list" => some false
  | "NoneType", "tuple" => some false
  | "bool", "int" => some true
  | "bool", "bool" => some true
  | "bool", "str" => some false
  | "bool", "list" => some false
  | "bool", "tuple" => some false
  | "int", "int" => some true
  | "int", "bool" => some false
  | "int", "str" => some false
  | "int", "list" => some false
  | "int", "tuple" => some false
  | "str", "int" => some false
  | "str", "bool" => some false
  | "str", "str" => some true
  | "str", "list" => some false
  | "str", "tuple" => some false
  | "list", "int" => some false
  | "list", "bool" => some false
  | "list", "str" => some false
  | "list", "list" => some true
  | "list", "tuple" => some false
  | "tuple", "int" => some false
  | "tuple", "bool" => some false
  | "tuple", "str" => some false
  | "tuple", "list" => some false
  | "tuple", "tuple" => some true
  | _, _ => none
theorem kitT_ok (a b : String) (r : Bool) (h : kitT a b = some r) : kitB a b = some r := by
  unfold kitT at h
  split at h <;> first | (cases h; done) | (cases h; decide +kernel)
def kitAnyT (t : String) : List PV → Option Bool
  | [] => some false
  | .ty n :: cs => match kitAnyT t cs, kitT t n with
    | some r, some b => some (b || r)
    | _, _ => none
  | _ => none
def fIsi (m : Mem) : List PV → Option PV
  | [p, .ty n] => match tyOf m p with
    | some t => (kitT t n).map PV.bl
    | none => none
  | [p, .tup cs] => match tyOf m p with
    | some t => (kitAnyT t cs).map PV.bl
    | none => none
  | _ => none
section
variable {X : Cx} {ad : Ads} {W : WX}
theorem strm_ok {id : String} {f : Mem → PV → List PV → Option PV} {r : V → List V → Hp → VK → Prop} {o e : Expr} {es : List Expr} {a : Ev} {b : EvA} {name : Str} {apos cpos : Pos} (slot : Slot "str" name id) (hty : typeOf (.builtin id) = pure (.type "method_descriptor")) (hm : MtR X id r)
    (hf : ∀ (ρ : Rho) (H : Hp) (m : Mem) (p v : PV) (xs : List PV) (x : V) (vx : List V) (Q : VK), HR X.K ad ρ H m → VR X.K ad ρ H p x → VRs X.K ad ρ H xs vx → f m p xs = some v → (∀ ρ' H' v', Step ρ H ρ' H' → HR X.K ad ρ' H' m → VR X.K ad ρ' H' v v' → Q v' H') → r x vx H Q)
    (ho : PE X o (simE X.K ad W a)) (ha : PA X (e :: es) (simA X.K ad W b)) (hbase : attributeBase o name X.env (eval o X.env) = eval o X.env)
    (hfew : ((backTo cpos (starEach (e :: es) X.env)).all (fun x => !x.1) && (backToKw cpos (keywordEach [] X.env)).all (fun x => x.1.isSome) && decide ((e :: es).length + ([] : List Keyword).length + (if ([] : List Keyword).isEmpty then 0 else 1) < 30)) = true)
    (hline : (apos.endLine == cpos.line) = true) (hs : starEach (e :: es) X.env = (false, eval e X.env) :: starEach es X.env) (hplain : (backTo cpos (starEach es X.env)).any (·.1) = false) :
    PE X (.Call (.Attribute o name apos) (e :: es) [] cpos) (simE X.K ad W (cStrM f a b)) := by
  refine PE.imp (pe_bm PySem.F.plainAttrs_str slot hty hm ho ha hbase hfew hline hs hplain) fun σ H Q h => ?_
  obtain ⟨ρ, R, env, h0, er, hr, s⟩ := h
  refine ⟨ρ, R, env, h0, er, hr, (SimR.bind s).imp fun ρ1 H1 p h1 st1 hr1 s1 x' vx => ?_⟩
  cases p with
  | str z =>
    cases vx
    refine ⟨rfl, ρ1, R, env, h1, er.mono st1, hr1, (SimR.bind (show SimR X.K ad _ R ρ1 H1 ((b R env h1).bind _) _ from s1)).imp fun ρ2 H2 xs h2 st2 hr2 s2 vs rv => ?_⟩
    obtain ⟨v, e, k⟩ := SimR.lift s2
    exact hf ρ2 H2 (R ++ h2) (.str z) v xs _ vs Q hr2 rfl rv e fun ρ3 H3 v' st3 hr3 rv3 => k ρ3 H3 st3 hr3 v' rv3
  | _ => exact s1.elim
theorem m_join {ρ : Rho} {H : Hp} {m : Mem} {p v : PV} {xs : List PV} {x : V} {vx : List V} {Q : VK} (hr : HR X.K ad ρ H m) (rp : VR X.K ad ρ H p x) (rx : VRs X.K ad ρ H xs vx) (e : sJoin m p xs = some v) (k : ∀ ρ' H' v', Step ρ H ρ' H' → HR X.K ad ρ' H' m → VR X.K ad ρ' H' v v' → Q v' H') :
    ∃ a q, ∃ ys : List Str, x = .str a ∧ vx = [.ref q] ∧ (SqL X.K H q (ys.map V.str) ∨ SqT X.K H q (ys.map V.str)) ∧ (ys.map (·.length)).sum + ys.length * a.length ≤ 16777216 ∧ Q (.str (Txt.join a ys)) H := by
  unfold sJoin at e
  split at e
  · split at e
    · rename_i ys ey
      split at e
      · rename_i ts et
        split at e
        · rename_i hz
          cases e
          cases rp
          obtain ⟨w, rfl, r1⟩ := VRs.one rx
          obtain ⟨b, us, rfl, hq, r2⟩ := seqOf_at hr ey r1
          rw [asStrs_at et r2] at hq
          exact ⟨_, b, ts, rfl, rfl, hq, hz, k ρ H _ (Step.refl _ _) hr rfl⟩
        · cases e
      · cases e
    · cases e
  · cases e
theorem strs_VR {K : PySem.W.Frag} {ρ : Rho} {H : Hp} : ∀ ys : List Str, VRs K ad ρ H (ys.map PV.str) (ys.map V.str)
  | [] => rfl
  | y :: ys => ⟨_, _, rfl, rfl, strs_VR ys⟩
theorem m_split {ρ : Rho} {H : Hp} {m : Mem} {p v : PV} {xs : List PV} {x : V} {vx : List V} {Q : VK} (hr : HR X.K ad ρ H m) (rp : VR X.K ad ρ H p x) (rx : VRs X.K ad ρ H xs vx) (e : sSplit m p xs = some v) (k : ∀ ρ' H' v', Step ρ H ρ' H' → HR X.K ad ρ' H' m → VR X.K ad ρ' H' v v' → Q v' H') :
    ∃ a b, x = .str a ∧ vx = [.str b] ∧ (b.length == 0) = false ∧ a.length + 2 ≤ sizeLine ∧ rNewStrs (Txt.split a b) H Q := by
  unfold sSplit at e
  split at e
  · split at e
    · rename_i hz
      cases e
      cases rp
      obtain ⟨w, rfl, r1⟩ := VRs.one rx
      cases r1
      refine ⟨_, _, rfl, rfl, hz.1, hz.2, fun p hp => ?_⟩
      obtain ⟨st, hr', vr⟩ := new_lst hr (strs_VR (Txt.split _ _)) hp
      exact k _ _ _ st hr' vr
    · cases e
  · cases e
/-- x.split(y), as a list of ours -/
def aSplit (a : Ev) (b : EvA) : EvA := fun R env h => (a R env h).bind fun p h1 => if isStrV p = true then (b R env h1).bind fun xs h2 => match sSplit (R ++ h2) p xs with
  | some (.lst ys) => .ok ys h2
  | _ => .bad else .bad
theorem zf_split {o e : Expr} {es : List Expr} {a : Ev} {b : EvA} {name : Str} {apos cpos : Pos} (slot : Slot "str" name "str.split") (hty : typeOf (.builtin "str.split") = pure (.type "method_descriptor"))
    (ho : PE X o (simE X.K ad W a)) (ha : PA X (e :: es) (simA X.K ad W b)) (hbase : attributeBase o name X.env (eval o X.env) = eval o X.env)
    (hfew : ((backTo cpos (starEach (e :: es) X.env)).all (fun x => !x.1) && (backToKw cpos (keywordEach [] X.env)).all (fun x => x.1.isSome) && decide ((e :: es).length + ([] : List Keyword).length + (if ([] : List Keyword).isEmpty then 0 else 1) < 30)) = true)
    (hline : (apos.endLine == cpos.line) = true) (hs : starEach (e :: es) X.env = (false, eval e X.env) :: starEach es X.env) (hplain : (backTo cpos (starEach es X.env)).any (·.1) = false) :
    PE X (.Call (.Attribute o name apos) (e :: es) [] cpos) (simF X.K ad W (aSplit a b)) := by
  refine PE.imp (pe_bm PySem.F.plainAttrs_str slot hty mt_split ho ha hbase hfew hline hs hplain) fun σ H Q h => ?_
  obtain ⟨ρ, R, env, h0, er, hr, s⟩ := h
  refine ⟨ρ, R, env, h0, er, hr, (SimR.bind s).imp fun ρ1 H1 p h1 st1 hr1 s1 x' vx => ?_⟩
  cases p with
  | str z =>
    cases vx
    refine ⟨rfl, ρ1, R, env, h1, er.mono st1, hr1, (SimR.bind (show SimR X.K ad _ R ρ1 H1 ((b R env h1).bind _) _ from s1)).imp fun ρ2 H2 xs h2 st2 hr2 s2 vs rv => ?_⟩
    unfold sSplit at s2
    split at s2
    · rename_i ys es
      split at es
      · rename_i u1 u2 bb ez
        cases ez
        split at es
        · rename_i hz
          cases es
          obtain ⟨w, rfl, r1⟩ := VRs.one rv
          cases r1
          exact ⟨_, _, rfl, rfl, hz.1, hz.2, (SimR.here s2 hr2 _ (strs_VR (Txt.split _ _))).2⟩
        · cases es
      · cases es
    · exact s2.elim
  | _ => exact s1.elim
theorem tyOf_at {ρ : Rho} {H : Hp} {m : Mem} (hr : HR X.K ad ρ H m) {p : PV} {v : V} {t : String} (e : tyOf m p = some t) (r : VR X.K ad ρ H p v) : TyX X.K H v (.type t) := by
  cases p with
  | non => cases e; cases r; exact .base .non
  | bl _ => cases e; cases r; exact .base (.bl _)
  | int _ => cases e; cases r; exact .base (.int _)
  | str _ => cases e; cases r; exact .base (.str _)
  | tup _ =>
    cases e
    obtain ⟨a, vs, rfl, t, _⟩ := r
    rcases t with ⟨_, t⟩ | ⟨o, its, n, h1, h2, _⟩
    · exact .base (.tup t)
    · exact .kTuple h1 h2
  | lst _ => cases e; obtain ⟨a, vs, rfl, _, t, _⟩ := r; exact .base (.lst t)
  | ref n =>
    obtain ⟨a, rfl, ha⟩ := r
    rw [tyOf] at e
    split at e
    · rename_i xs eo
      cases e
      obtain ⟨vs, e1, _⟩ := hr.at_ n _ a eo ha
      exact .base (.lst e1)
    · rename_i xs eo
      cases e
      obtain ⟨vs, e1 | ⟨o, e1⟩, _⟩ := hr.at_ n _ a eo ha
      · exact .base (.lst e1)
      · exact .base (.frz e1)
    · cases e
  | _ => cases e
theorem kitAny_at {ρ : Rho} {H : Hp} {t : String} : ∀ {cs : List PV} {vs : List V} {b : Bool}, kitAnyT t cs = some b → VRs X.K ad ρ H cs vs → ∃ us, Paired ClsV vs us ∧ PySem.W.kitAny X.K (.type t) us = some b
  | [], _, _, e, r => by cases e; cases r; exact ⟨[], .nil, rfl⟩
  | c :: cs, vs, b, e, r => by
    obtain ⟨y, ys, rfl, r1, r2⟩ := r
    cases c with
    | ty n =>
      cases r1
      rw [kitAnyT] at e
      cases ek : kitAnyT t cs with
      | none => rw [ek] at e; cases e
      | some r =>
        cases ek2 : kitT t n with
        | none => rw [ek, ek2] at e; cases e
        | some k =>
          rw [ek, ek2] at e
          cases e
          obtain ⟨us, h1, h2⟩ := kitAny_at (cs := cs) ek r2
          refine ⟨.type n :: us, .cons (.ty n) h1, kitAny_cons (kit_ty (kitT_ok _ _ _ ek2)) (fun q => ?_) (fun q => ?_)⟩
          · subst q; exact h2
          · subst q; rfl
    | _ => cases e
theorem b_isi : CallR X (.builtin "isinstance") (rFn X.K ad fIsi) := by
  intro pins s σ H xs us Q I rv ⟨ρ, m, ps, r, hr, vp, e, k⟩
  unfold fIsi at e
  split at e
  · rename_i p n
    obtain ⟨v, w, rfl, v1, v2⟩ := VRs.two vp
    cases v2
    split at e
    · rename_i t et
      cases ek : kitT t n with
      | none => rw [ek] at e; cases e
      | some b =>
        rw [ek] at e; cases e
        exact call_isi pins s σ H _ us Q I rv ⟨v, _, _, _, b, rfl, .ty n, tyOf_at hr et v1, kit_ty (kitT_ok _ _ _ ek), k ρ H _ (Step.refl _ _) hr rfl⟩
    · cases e
  · rename_i p cs
    obtain ⟨v, w, rfl, v1, v2⟩ := VRs.two vp
    split at e
    · rename_i t et
      obtain ⟨a, vs, rfl, tt, r2⟩ := v2
      cases ek : kitAnyT t cs with
      | none => rw [ek] at e; cases e
      | some b =>
        rw [ek] at e; cases e
        obtain ⟨ws, h1, h2⟩ := kitAny_at (X := X) ek r2
        rcases tt with ⟨_, tt⟩ | ⟨o, its, n, hk, hc, hd, hz, rv2⟩
        · exact call_isiT pins s σ H _ us Q I rv ⟨v, a, vs, _, ws, b, rfl, tt, h1, tyOf_at hr et v1, h2, k ρ H _ (Step.refl _ _) hr rfl⟩
        · have ew := ClsV.all h1 rv2
          obtain ⟨oc, od, dt, sl⟩ := o
          simp only at hc hd
          subst hc hd
          refine call_isiK pins s σ H _ us Q I rv ⟨v, a, od, ws, n, sl, _, b, rfl, ?_, tyOf_at hr et v1, h2, k ρ H _ (Step.refl _ _) hr rfl⟩
          rw [hk, ← ew]
    · cases e
  · cases e
end
end Z

end
section -- ZX4
/-! ZX4: try, a held exception's field, isinstance of it. -/
namespace Z
open PySem PySem.Spec PyProof.Rows L2
/-- behind a suite that lets its name go -/
def SR.gone (i : Nat) : SR → SR
  | .nx env h => .nx (env.set i none) h
  | .brk env h => .brk (env.set i none) h
  | .ct env h => .ct (env.set i none) h
  | .ret v h => .ret v h
  | _ => .bad
def SR.calm : SR → SR
  | .exc _ _ _ _ _ => .bad
  | r => r
/-- try: body / except .. as (slot i): suite -/
def sTryX (mt : Str → Option Bool) (i : Nat) (body suite : EvS) : EvS := fun R env h => match body R env h with
  | .exc (.own c) ns vs env1 h1 => match mt c with
    | some true => (suite R (env1.set i (some (.exc c ns vs))) h1).gone i
    | some false => .exc (.own c) ns vs env1 h1
    | none => .bad
  | .exc (.bi _) _ _ _ _ => .bad
  | r => r
/-- try: body / except ..: suite -/
def sTryO (mt : Str → Option Bool) (body suite : EvS) : EvS := fun R env h => match body R env h with
  | .exc (.own c) _ _ env1 h1 => match mt c with
    | some true => (suite R env1 h1).calm
    | some false => body R env h
    | none => .bad
  | .exc (.bi _) _ _ _ _ => .bad
  | r => r
section
variable {K : PySem.W.Frag} {ad : Ads} {W : WX}
theorem ER.unset {ρ : Rho} {H : Hp} {env : Envr} {σ : L2.St} (er : ER K ad ρ H env σ) (i : Nat) : ER K ad ρ H (env.set i none) (σ.set i none) := by
  refine ⟨by simp [er.1], fun j v e => ?_⟩
  by_cases h : i = j
  · subst h
    by_cases hl : i < env.length
    · rw [List.getElem?_set_self hl] at e; cases e
    · rw [List.getElem?_eq_none (by simp; omega)] at e; cases e
  · rw [List.getElem?_set_ne h] at e ⊢
    exact er.2 j v e
theorem SimS.gone {D : Ends} {R : Mem} {ρ : Rho} {H : Hp} {r : SR} {i : Nat} (s : SimS K ad W D R ρ H (r.gone i)) : SimS K ad W0 (Ends.gone D i) R ρ H r := by
  cases r with
  | nx env h => exact fun ρ' H' σ' st hr er => s ρ' H' _ st hr (er.unset i)
  | brk env h => exact fun ρ' H' σ' st hr er => s ρ' H' _ st hr (er.unset i)
  | ct env h => exact fun ρ' H' σ' st hr er => s ρ' H' _ st hr (er.unset i)
  | ret v h => exact s
  | exc c ns vs env h => exact s.elim
  | bad => exact s
theorem SimS.calm {D : Ends} {R : Mem} {ρ : Rho} {H : Hp} {r : SR} (s : SimS K ad W D R ρ H r.calm) : SimS K ad W0 D R ρ H r := by
  cases r <;> first | exact s | exact s.elim
end
section
variable {X : Cx} {ad : Ads} {W : WX} {x n : Str} {c : Value} {i : Nat} {body suite : List Stmt} {b₀ : Stmt} {np pos pos' : Pos} {eb es : EvS} {mt : Str → Option Bool}
theorem zs_try (hs : X.stack = X.env :: X.outer) (hf : X.env.frame = some X.env.locals) (hN : X.N.Nodup) (hi : X.N[i]? = some n) (hln : X.env.kindOf n = some .local) (hc : Names X x c) (tk : Takes X W)
    (hm : ∀ d b, mt d = some b → PySem.W.exmOne X.K (.ref (ad.cls d)) c = some b)
    (hb : ∀ (W : WX) (pn : List (Addr × Obj)) (xe : Value → Shared → Prop), Takes (X.tr pn xe) W → PassesOwn (model X.prog X.w) X.A X.env xe → PSs (X.tr pn xe) body (simS X.K ad W eb))
    (hsu : ∀ (a : Addr) (pn : List (Addr × Obj)), PSs (X.suite a pn) (b₀ :: suite) (simS X.K ad W0 es)) :
    PS X (.Try body [.ExceptHandler (some (.Name x np)) (some n) (b₀ :: suite) pos'] [] [] pos) (simS X.K ad W (sTryX mt i eb es)) := by
  refine PS.imp (ps_try_held (tb := fun W => simS X.K ad W eb) hs hf hN hi hln hc tk hb hsu) fun D σ H h => ?_
  obtain ⟨ρ, R, env, h0, er, hr, s⟩ := h
  refine ⟨ρ, R, env, h0, er, hr, ?_⟩
  unfold sTryX at s
  cases e : eb R env h0 with
  | nx env1 h1 => rw [e] at s; exact s
  | ret v h1 => rw [e] at s; exact s
  | brk env1 h1 => rw [e] at s; exact s
  | ct env1 h1 => rw [e] at s; exact s
  | bad => rw [e] at s; exact s
  | exc cx ns vs env1 h1 =>
    rw [e] at s
    cases cx with
    | bi _ => exact s.elim
    | own cn =>
      dsimp only at s
      intro ρ1 H1 σ1 cl d st1 hr1 er1 xr
      obtain ⟨rfl, dx, us, rfl, ndx, hdx, hl, rv⟩ := xr
      cases em : mt cn with
      | none => rw [em] at s; exact s.elim
      | some b =>
        rw [em] at s
        refine ⟨b, hm cn b em, fun q a na => ?_, fun q => ?_⟩
        · subst q
          obtain ⟨c1, c2, c3⟩ := hr1.laid na (EXV (.ref (ad.cls cn)) (some dx) a)
          have vx : VR X.K ad ρ1 (upd H1 a (EXV (.ref (ad.cls cn)) (some dx) a)) (.exc cn ns vs) (.ref a) := ⟨a, dx, us, rfl, c1, upd_same, ndx, c2.toKeep.keep _ _ ndx hdx, hl, VRs.mono c2 _ rv⟩
          refine ⟨ρ1, R, env1.set i (some (.exc cn ns vs)), h1, (er1.mono c2).set vx i, c3, ?_⟩
          exact SimS.gone (SimS.after (st1.trans c2) s)
        · subst q
          exact s ρ1 H1 σ1 _ _ st1 hr1 er1 ⟨rfl, dx, us, rfl, ndx, hdx, hl, rv⟩
theorem zs_tryO (hs : X.stack = X.env :: X.outer) (hf : X.env.frame = some X.env.locals) (hc : Names X x c) (tk : Takes X W)
    (hm : ∀ d b, mt d = some b → PySem.W.exmOne X.K (.ref (ad.cls d)) c = some b)
    (hb : ∀ (W : WX) (pn : List (Addr × Obj)) (xe : Value → Shared → Prop), Takes (X.tr pn xe) W → PassesOwn (model X.prog X.w) X.A X.env xe → PSs (X.tr pn xe) body (simS X.K ad W eb))
    (hsu : ∀ (a : Addr) (pn : List (Addr × Obj)), PSs (X.suite a pn) (b₀ :: suite) (simS X.K ad W0 es)) :
    PS X (.Try body [.ExceptHandler (some (.Name x np)) none (b₀ :: suite) pos'] [] [] pos) (simS X.K ad W (sTryO mt eb es)) := by
  refine PS.imp (ps_try_only (tb := fun W => simS X.K ad W eb) (ts := fun _ _ _ => simS X.K ad W0 es) hs hf hc tk hb fun a oe cls d pn _ _ => hsu a _) fun D σ H h => ?_
  obtain ⟨ρ, R, env, h0, er, hr, s⟩ := h
  refine ⟨ρ, R, env, h0, er, hr, ?_⟩
  unfold sTryO at s
  cases e : eb R env h0 with
  | nx env1 h1 => rw [e] at s; exact s
  | ret v h1 => rw [e] at s; exact s
  | brk env1 h1 => rw [e] at s; exact s
  | ct env1 h1 => rw [e] at s; exact s
  | bad => rw [e] at s; exact s
  | exc cx ns vs env1 h1 =>
    rw [e] at s
    cases cx with
    | bi _ => exact s.elim
    | own cn =>
      dsimp only at s
      intro ρ1 H1 σ1 cl d st1 hr1 er1 xr
      obtain ⟨rfl, dx, us, rfl, ndx, hdx, hl, rv⟩ := xr
      cases em : mt cn with
      | none => rw [em] at s; exact s.elim
      | some b =>
        rw [em] at s
        refine ⟨b, hm cn b em, fun q a na => ?_, fun q => ?_⟩
        · subst q
          exact ⟨ρ1, R, env1, h1, er1, hr1, SimS.calm (SimS.after st1 s)⟩
        · subst q
          exact s ρ1 H1 σ1 _ _ st1 hr1 er1 ⟨rfl, dx, us, rfl, ndx, hdx, hl, rv⟩
end
/-! ### fields -/
/-- the field of a held exception, by what is known of its class -/
def attrX (ex : Str → Option Str) (f : Str) : PV → Option PV
  | .exc c ns vs => match ex c with
    | some g => if f == g then (ns.zip vs).lookup f else none
    | none => none
  | _ => none
def cAttr (ex : Str → Option Str) (f : Str) (a : Ev) : Ev := fun R env h => (a R env h).bind fun x h1 => liftO h1 (attrX ex f x)
section
variable {X : Cx} {ad : Ads} {W : WX}
theorem zip_look {K : PySem.W.Frag} {ρ : Rho} {H : Hp} {f : Str} : ∀ {ns : List Str} {vs : List PV} {us : List V} {v : PV}, VRs K ad ρ H vs us → (ns.zip vs).lookup f = some v → ∃ u, (ns.zip us).lookup f = some u ∧ VR K ad ρ H v u
  | [], _, _, _, _, e => by cases e
  | n :: ns, [], _, _, _, e => by cases e
  | n :: ns, p :: vs, _, v, ⟨y, ys, rfl, r1, r2⟩, e => by
    rw [List.zip_cons_cons, List.lookup_cons] at e ⊢
    cases hb : f == n with
    | true => rw [hb] at e; cases e; exact ⟨y, rfl, r1⟩
    | false => rw [hb] at e; exact zip_look r2 e
theorem z_attrX {e : Expr} {a : Ev} {pos : Pos} {f : Str} {ex : Str → Option Str} (hx : ∀ c g, ex c = some g → XfC X.K (ad.cls c) ∧ PySem.W.findIn X.K (.ref (ad.cls c)) g = some none) (he : PE X e (simE X.K ad W a)) (hb : attributeBase e f X.env (eval e X.env) = eval e X.env) :
    PE X (.Attribute e f pos) (simE X.K ad W (cAttr ex f a)) := by
  refine PE.imp (pe_xv he hb) fun σ H Q h => ?_
  obtain ⟨ρ, R, env, h0, er, hr, s⟩ := h
  refine ⟨ρ, R, env, h0, er, hr, (SimR.bind s).imp fun ρ1 H1 p h1 st1 hr1 s1 x' vx => ?_⟩
  obtain ⟨v, ev, k⟩ := SimR.lift s1
  unfold attrX at ev
  split at ev
  · rename_i c ns vs
    split at ev
    · rename_i g eg
      split at ev
      · rename_i hg
        have hg := eq_of_beq hg
        subst hg
        obtain ⟨t1, t2⟩ := hx c f eg
        obtain ⟨b, dx, us, rfl, n1, hb1, n2, hd1, hl, rv⟩ := vx
        obtain ⟨u, e1, e2⟩ := zip_look rv ev
        exact ⟨b, ad.cls c, dx, ns.zip us, u, rfl, t1, t2, hb1, hd1, e1, k ρ1 H1 (Step.refl _ _) hr1 u e2⟩
      · cases ev
    · cases ev
  · cases ev
/-! ### isinstance -/
/-- own classes, built-in ones -/
def isiX (sub : Str → Str → Option Bool) (subT : Str → String → Option Bool) (m : Mem) : List PV → Option PV
  | [.exc c _ _, .cls d] => (sub c d).map PV.bl
  | [.exc c _ _, .ty n] => (subT c n).map PV.bl
  | xs => fIsi m xs
theorem b_isiX {sub : Str → Str → Option Bool} {subT : Str → String → Option Bool} (h1 : ∀ c d b, sub c d = some b → ExcC X.K (ad.cls c) ∧ PySem.W.kitOne X.K (.ref (ad.cls c)) (.ref (ad.cls d)) = some b) (h2 : ∀ c n b, subT c n = some b → ExcC X.K (ad.cls c) ∧ PySem.W.kitOne X.K (.ref (ad.cls c)) (.type n) = some b) :
    CallR X (.builtin "isinstance") (rFn X.K ad (isiX sub subT)) := by
  intro pins s σ H xs us Q I rv ⟨ρ, m, ps, r, hr, vp, e, k⟩
  unfold isiX at e
  split at e
  · rename_i c ns vs d
    obtain ⟨v, w, rfl, v1, v2⟩ := VRs.two vp
    cases v2
    obtain ⟨a, dx, ws, rfl, n1, ha, n2, hd, hl, rw_⟩ := v1
    cases es : sub c d with
    | none => rw [es] at e; cases e
    | some b =>
      rw [es] at e; cases e
      obtain ⟨t1, t2⟩ := h1 c d b es
      exact call_isX pins s σ H _ us Q I rv ⟨a, ad.cls c, dx, _, .ref (ad.cls d), .ref (ad.cls d), b, rfl, t1, ha, hd, fun u q => q, t2, k ρ H _ (Step.refl _ _) hr rfl⟩
  · rename_i c ns vs n
    obtain ⟨v, w, rfl, v1, v2⟩ := VRs.two vp
    cases v2
    obtain ⟨a, dx, ws, rfl, n1, ha, n2, hd, hl, rw_⟩ := v1
    cases es : subT c n with
    | none => rw [es] at e; cases e
    | some b =>
      rw [es] at e; cases e
      obtain ⟨t1, t2⟩ := h2 c n b es
      exact call_isX pins s σ H _ us Q I rv ⟨a, ad.cls c, dx, _, .ty n, .type n, b, rfl, t1, ha, hd, fun u q => q, t2, k ρ H _ (Step.refl _ _) hr rfl⟩
  · exact b_isi pins s σ H xs us Q I rv ⟨ρ, m, ps, r, hr, vp, e, k⟩
end
end Z

end
section -- Z15
/-! Z15: sorted. -/
namespace Z
open PySem PySem.Spec PyProof.Rows L2
open PySem.W (TotalLe sameRank sort_unique sortLe_total dataLe EachIs AllAlike Sortable SortsAt sortVals_data sortVals_length each_map bound_map dataKind sortingHeap sortingHeap_old list_sort_vals)

mutual
def toData : PV → PyData
  | .bl b => .bool b
  | .int i => .int i
  | .str x => .str x
  | .tup xs => .tuple (toDatas xs)
  | .lst xs => .list (toDatas xs)
  | _ => .none
def toDatas : List PV → List PyData
  | [] => []
  | x :: xs => toData x :: toDatas xs
end
/-- a sort that computes -/
def insB (le : PV → PV → Bool) (x : PV) : List PV → List PV
  | [] => [x]
  | y :: ys => if le x y = true then x :: y :: ys else y :: insB le x ys
def isortB (le : PV → PV → Bool) : List PV → List PV
  | [] => []
  | x :: xs => insB le x (isortB le xs)
theorem insB_filter {le : PV → PV → Bool} (h : TotalLe le) (c x : PV) : ∀ ys : List PV, (∀ y ∈ ys, True) → (insB le x ys).filter (sameRank le c) = (x :: ys).filter (sameRank le c)
  | [], _ => rfl
  | y :: ys, _ => by
    rw [insB]
    split
    · rfl
    · rename_i hn
      have ih := insB_filter h c x ys (fun _ _ => trivial)
      have hyx : le y x = true := (h.total y x).resolve_right hn
      rw [List.filter_cons, ih]
      by_cases cy : sameRank le c y = true
      · have cx : sameRank le c x = false := by
          cases hh : sameRank le c x with
          | false => rfl
          | true =>
            unfold sameRank at cy hh
            rw [Bool.and_eq_true] at cy hh
            exact absurd (h.trans x c y hh.2 cy.1) hn
        rw [if_pos cy]
        simp [List.filter_cons, cx, cy]
      · rw [if_neg cy]
        simp [List.filter_cons, cy]
theorem insB_mem {le : PV → PV → Bool} {x z : PV} : ∀ {ys : List PV}, z ∈ insB le x ys → z = x ∨ z ∈ ys
  | [], h => by simpa [insB] using h
  | y :: ys, h => by
    rw [insB] at h
    split at h
    · simpa using h
    · rcases List.mem_cons.mp h with h | h
      · right; simp [h]
      · rcases insB_mem h with h | h
        · exact .inl h
        · right; simp [h]
theorem insB_sorted {le : PV → PV → Bool} (h : TotalLe le) {x : PV} : ∀ {ys : List PV}, ys.Pairwise (fun a b => le a b = true) → (insB le x ys).Pairwise (fun a b => le a b = true)
  | [], _ => by simp [insB]
  | y :: ys, hs => by
    rw [insB]
    split
    · rename_i hle
      refine List.pairwise_cons.mpr ⟨fun z hz => ?_, hs⟩
      rcases List.mem_cons.mp hz with e | e
      · rw [e]; exact hle
      · exact h.trans x y z hle ((List.pairwise_cons.mp hs).1 z e)
    · rename_i hn
      have hyx : le y x = true := (h.total y x).resolve_right hn
      refine List.pairwise_cons.mpr ⟨fun z hz => ?_, insB_sorted h (List.pairwise_cons.mp hs).2⟩
      rcases insB_mem hz with e | e
      · rw [e]; exact hyx
      · exact (List.pairwise_cons.mp hs).1 z e
theorem isortB_sorted {le : PV → PV → Bool} (h : TotalLe le) : ∀ xs : List PV, (isortB le xs).Pairwise (fun a b => le a b = true)
  | [] => List.Pairwise.nil
  | x :: xs => insB_sorted h (isortB_sorted h xs)
theorem isortB_filter {le : PV → PV → Bool} (h : TotalLe le) (c : PV) : ∀ xs : List PV, (isortB le xs).filter (sameRank le c) = xs.filter (sameRank le c)
  | [] => rfl
  | x :: xs => by
    rw [isortB, insB_filter h c x _ (fun _ _ => trivial), List.filter_cons, List.filter_cons, isortB_filter h c xs]
theorem isortB_merge {le : PV → PV → Bool} (h : TotalLe le) (xs : List PV) : xs.mergeSort le = isortB le xs := (sort_unique h (isortB_sorted h xs) (fun c => isortB_filter h c xs)).symm
def leD (rev : Bool) : PV → PV → Bool := dataLe rev toData
theorem leD_total (rev : Bool) : TotalLe (leD rev) := sortLe_total _ _ _
def alikes : List PyData → Bool := fun ds => ds.all fun d => ds.all fun d' => PySem.W.alike d d'
def isTup1 : PyData → Bool
  | .tuple (_ :: _) => true
  | _ => false
def notTup : PyData → Bool
  | .tuple _ => false
  | .none => false
  | _ => true
def sortOk (xs : List PV) : Bool := plains xs && (alikes (toDatas xs) && ((((toDatas xs).all isTup1) || ((toDatas xs).all notTup)) && (decide (deps xs ≤ 64) && decide (xs.length ≤ sizeLine))))
def fSorted (m : Mem) (p : PV) : Option PV := match seqOf m p with
  | some xs => if sortOk xs = true then some (.lst (isortB (leD false) xs)) else none
  | none => none

theorem toDatas_map : ∀ xs : List PV, toDatas xs = xs.map toData
  | [] => rfl
  | x :: xs => by rw [toDatas, toDatas_map xs]; rfl
section
variable {X : Cx} {ad : Ads}
mutual
theorem RR.dp {K : PySem.W.Frag} {H : Hp} : ∀ (p : PV) (v : V), plain p = true → RR K H p v → Dp K H v (toData p)
  | .non, _, _, r => by cases r; exact .non
  | .bl b, _, _, r => by cases r; exact .bl b
  | .int b, _, _, r => by cases r; exact .int b
  | .str b, _, _, r => by cases r; exact .str b
  | .tup xs, _, h, ⟨a, vs, e, t, r⟩ => by subst e; rw [toData]; exact .tup t (RRs.dp xs vs (by simpa [plain] using h) r)
  | .lst xs, _, h, ⟨a, vs, e, t, r⟩ => by subst e; rw [toData]; exact .lst t (RRs.dp xs vs (by simpa [plain] using h) r)
  | .dic _ _, _, h, _ => by cases h
  | .ins _ _ _, _, h, _ => by cases h
  | .exc _ _ _, _, h, _ => by cases h
  | .ref _, _, h, _ => by cases h
  | .fn _, _, h, _ => by cases h
  | .cls _, _, h, _ => by cases h
  | .ty _, _, h, _ => by cases h
theorem RRs.dp {K : PySem.W.Frag} {H : Hp} : ∀ (ps : List PV) (vs : List V), plains ps = true → RRs K H ps vs → DpAll K H vs (toDatas ps)
  | [], _, _, r => by cases r; exact .nil
  | x :: xs, _, h, ⟨y, ys, e, a, r⟩ => by
    subst e
    rw [plains, Bool.and_eq_true] at h
    rw [toDatas]
    exact .cons (RR.dp x y h.1 a) (RRs.dp xs ys h.2 r)
end
mutual
theorem toData_depth : ∀ p : PV, (toData p).depth ≤ dep p
  | .non => by simp [toData, dep, PyData.depth]
  | .bl b => by simp [toData, dep, PyData.depth]
  | .int b => by simp [toData, dep, PyData.depth]
  | .str b => by simp [toData, dep, PyData.depth]
  | .tup xs => by rw [toData, dep, PyData.depth]; have := toDatas_depth xs; omega
  | .lst xs => by rw [toData, dep, PyData.depth]; have := toDatas_depth xs; omega
  | .dic _ _ => by simp [toData, dep, PyData.depth]
  | .ins _ _ _ => by simp [toData, dep, PyData.depth]
  | .exc _ _ _ => by simp [toData, dep, PyData.depth]
  | .ref _ => by simp [toData, dep, PyData.depth]
  | .fn _ => by simp [toData, dep, PyData.depth]
  | .cls _ => by simp [toData, dep, PyData.depth]
  | .ty _ => by simp [toData, dep, PyData.depth]
theorem toDatas_depth : ∀ ps : List PV, PyData.depthAll (toDatas ps) ≤ deps ps
  | [] => by simp [toDatas, deps, PyData.depthAll]
  | x :: xs => by
    rw [toDatas, deps, PyData.depthAll]
    have := toData_depth x; have := toDatas_depth xs
    omega
end
/-- sorted(xs) of a list or a tuple, over the heap alone -/
theorem sorted_any {prog : Program} {w : World} {A : Around} {E : Value → Shared → Prop} {s : Shared} {β : Type} {l : Addr} {o : Obj} {T : String} {n : Nat} {vs : List Value} {bs : List β} {enc : β → PyData} {Rl : Value → β → Prop} {Q : Value → Shared → Prop}
    (hT : T = "list" ∨ T = "tuple") (ho : s.heap.get? l = some o) (hc : o.cls = .type T) (hd : o.data = .seq vs.toArray n) (e : EachIs Rl vs bs) (er : EachIs (fun v b => ∃ as, Reads s.heap v (enc b) as) vs bs) (hal : AllAlike (bs.map enc)) (hk : Sortable (bs.map enc)) (hL : bs.length ≤ sizeLine)
    (hu : ∀ b, b ∈ bs → A.units + 2 + (enc b).depth < cLine)
    (h : ∀ (h1 h2 : Heap) (out : List Value), out.length = bs.length → EachIs Rl out (bs.mergeSort (dataLe false enc)) → (∀ b ob, s.heap.get? b = some ob → h1.get? b = some ob) → (∀ b ob, h1.get? b = some ob → h2.get? b = some ob) → (∃ c, h2.get? h1.objs.size = some (seqObj "list" out.toArray c)) → Q (.ref h1.objs.size) { s with heap := h2 }) :
    wpAny (model prog w) A (call (.builtin "sorted") [.ref l]) Q E s := by
  have hvs : vs.length ≤ sizeLine := by rw [e.length]; exact hL
  refine Calls.call_function_entry kind_sorted plain_sorted entry_sorted (args_sorted1 _) ?_
  unfold Builtin.«sorted»
  refine wpAny_bind (m := checkCount "sorted" 1 1 _) (wpAny_pure ?_)
  refine wpAny_bind (wpAny_collect_seq l hT ho hc hd (fun h1 k1 => ?_) (by rw [List.size_toArray]; exact hvs))
  refine wpAny_bind (wpAny_newList ?_ hvs)
  have hoL : (h1.push (seqObj "list" vs.toArray 0)).get? h1.objs.size = some (seqObj "list" vs.toArray 0) := Heap.get?_push_size _ rfl
  have old : ∀ b ob, h1.get? b = some ob → b ≠ h1.objs.size ∧ (h1.push (seqObj "list" vs.toArray 0)).get? b = some ob := fun b ob q => ⟨Nat.ne_of_lt (Heap.lt_size q), Heap.get?_push_of_some _ q⟩
  have er' : EachIs (fun v b => ∃ as, Reads (sortingHeap (h1.push (seqObj "list" vs.toArray 0)) h1.objs.size vs) v (enc b) as) vs bs :=
    er.mono fun _ _ ⟨as, r⟩ => ⟨as, PyProof.Rows.Reads.keeps (fun b ob q => sortingHeap_old (old b ob (k1 b ob q)).1 (old b ob (k1 b ob q)).2) r⟩
  show wpAny (model prog w) A.in1 _ _ _ { s with heap := h1.push (seqObj "list" vs.toArray 0) }
  refine wpAny_bind (wpAny_holding (wpAny_call_entry slot_list_sort ⟨_, hoL, rfl⟩ entry_list_sort (list_sort_vals (s := { s with heap := h1.push (seqObj "list" vs.toArray 0) }) (κ := dataKind (sortingHeap (h1.push (seqObj "list" vs.toArray 0)) h1.objs.size vs) (bs.map enc)) hoL
    (SortsAt.data (s := { s with heap := sortingHeap (h1.push (seqObj "list" vs.toArray 0)) h1.objs.size vs }) (each_map (R := fun v d => ∃ as, Reads (sortingHeap (h1.push (seqObj "list" vs.toArray 0)) h1.objs.size vs) v d as) enc er') hal hk (bound_map (A := A.in1.in1) (fun b hb => hu b hb))) hvs ⟨_, rfl, ?_⟩) (args_list_sort _)))
  refine wpAny_pure ⟨_, rfl, h h1 _ _ (by rw [sortVals_length false rfl]; exact e.length) (sortVals_data false e er' hal) k1 (fun b ob q => ?_) (sortedHeap_at hoL)⟩
  rw [sortedHeap_old (old b ob q).1 (Heap.lt_size (old b ob q).2)]
  exact (old b ob q).2

theorem sortOk_ok {xs : List PV} (h : sortOk xs = true) : plains xs = true ∧ AllAlike (xs.map toData) ∧ Sortable (xs.map toData) ∧ deps xs ≤ 64 ∧ xs.length ≤ sizeLine := by
  unfold sortOk alikes at h
  rw [toDatas_map] at h
  simp only [Bool.and_eq_true, Bool.or_eq_true, List.all_eq_true, decide_eq_true_eq] at h
  obtain ⟨h1, h2, h3, h4, h5⟩ := h
  refine ⟨h1, fun d hd d' hd' => h2 d hd d' hd', ?_, h4, h5⟩
  rcases h3 with h3 | h3
  · left
    intro d hd
    have := h3 d hd
    unfold isTup1 at this
    split at this
    · exact ⟨_, _, rfl⟩
    · cases this
  · right
    intro d hd
    have := h3 d hd
    unfold notTup at this
    split at this
    · cases this
    · cases this
    · rename_i q1 q2
      exact ⟨fun z => q2 z, fun xs z => q1 xs z⟩
theorem eachIs_of {K : PySem.W.Frag} {ρ : Rho} {H : Hp} : ∀ {xs : List PV} {vs : List V} {us : List Value}, VRs K ad ρ H xs vs → Vals vs us → EachIs (fun u b => ∃ x, RelV x u ∧ VR K ad ρ H b x) us xs
  | [], _, _, h, r => by cases h; cases r; exact .nil
  | _ :: _, _, _, ⟨y, ys, e, a, b⟩, r => by
    subst e
    cases r with
    | cons r1 r2 => exact .cons ⟨y, r1, a⟩ (eachIs_of b r2)
theorem of_eachIs {K : PySem.W.Frag} {ρ : Rho} {H : Hp} : ∀ {xs : List PV} {us : List Value}, EachIs (fun u b => ∃ x, RelV x u ∧ VR K ad ρ H b x) us xs → ∃ vs, VRs K ad ρ H xs vs ∧ Vals vs us
  | _, _, .nil => ⟨[], rfl, .nil⟩
  | _, _, .cons ⟨x, r, a⟩ t => let ⟨vs, h1, h2⟩ := of_eachIs t; ⟨x :: vs, ⟨x, vs, rfl, a, h1⟩, .cons r h2⟩
theorem eachReads {pins : List (Addr × Obj)} {σ : L2.St} {H : Hp} {s : Shared} (I : Inv X pins σ H s) {ρ : Rho} : ∀ {xs : List PV} {vs : List V} {us : List Value}, plains xs = true → VRs X.K ad ρ H xs vs → Vals vs us → EachIs (fun v b => ∃ as, Reads s.heap v (toData b) as) us xs
  | [], _, _, _, h, r => by cases h; cases r; exact .nil
  | x :: xs, _, _, hp, ⟨y, ys, e, a, b⟩, r => by
    subst e
    rw [plains, Bool.and_eq_true] at hp
    cases r with
    | cons r1 r2 => exact .cons (Dp.reads I _ y _ (RR.dp x y hp.1 (RR.of x y hp.1 a)) r1) (eachReads I hp.2 b r2)
theorem isortB_len (le : PV → PV → Bool) : ∀ xs : List PV, (isortB le xs).length = xs.length
  | [] => rfl
  | x :: xs => by
    have ins : ∀ ys : List PV, (insB le x ys).length = ys.length + 1 := by
      intro ys
      induction ys with
      | nil => rfl
      | cons y ys ih => rw [insB]; split <;> simp [ih]
    rw [isortB, ins, isortB_len le xs]; rfl
theorem b_sorted (hu : X.A.units + 70 < cLine) : CallR X (.builtin "sorted") (rFn X.K ad (one fSorted)) := by
  intro pins s σ H xs us Q I rv ⟨ρ, m, ps, r, hr, vp, e, k⟩
  unfold one at e
  split at e
  · rename_i p
    obtain ⟨v, rfl, vq⟩ := VRs.one vp
    unfold fSorted at e
    split at e
    · rename_i ys es
      split at e
      · rename_i hok
        cases e
        obtain ⟨hpl, hal, hso, hdp, hlen⟩ := sortOk_ok hok
        obtain ⟨a, vs, rfl, hq, rs⟩ := seqOf_at hr es vq
        rw [Vals.ref1 rv]
        have hd : ∀ b ∈ ys, X.A.units + 2 + (toData b).depth < cLine := fun b hb => by
          obtain ⟨i, hi, eb⟩ := List.mem_iff_getElem.mp hb
          have h1 := deps_get (List.getElem?_eq_getElem hi)
          rw [eb] at h1
          have h2 := toData_depth b
          omega
        have main : ∀ (its : List Value) (o : Obj) (T : String) (n : Nat), (T = "list" ∨ T = "tuple") → s.heap.get? a = some o → o.cls = .type T → o.data = .seq its.toArray n → Vals vs its → wpAny (model X.prog X.w) X.A (call (.builtin "sorted") [.ref a]) (EP X pins σ Q) X.xe s := by
          intro its o T n hT ho hc hdt w
          refine sorted_any (enc := toData) hT ho hc hdt (eachIs_of rs w) (eachReads I hpl rs w) hal hso hlen hd fun h1 h2 out hl eo k1 k2 ⟨c, hc2⟩ => ?_
          have em : ys.mergeSort (dataLe false toData) = isortB (leD false) ys := isortB_merge (leD_total false) ys
          rw [em] at eo
          obtain ⟨vo, r1, r2⟩ := of_eachIs eo
          have I1 : Inv X pins σ H { s with heap := h1 } := I.kept (t' := s.toks) k1
          have hf : H h1.objs.size = none := I1.hok.fresh (Nat.le_refl _)
          obtain ⟨st, hr', vr⟩ := new_lst hr r1 hf
          have I2 : Inv X pins σ (upd H h1.objs.size (.lst vo)) { s with heap := h2 } := I1.laid (t' := s.toks) k2 (Nat.le_refl _) ⟨by rw [← r1.length, isortB_len]; exact hlen, out, c, r2, hc2⟩
          exact ⟨.ref h1.objs.size, _, I2, rfl, k _ _ _ st hr' vr⟩
        rcases hq with hq | hq
        · obtain ⟨its, w, ⟨o, n, ho, hc, _, hdt⟩, _⟩ := I.list hq
          exact main its o "list" n (.inl rfl) ho hc hdt w
        · obtain ⟨its, w, ⟨o, ho, hc, n, hdt⟩, _⟩ := I.tuple hq
          exact main its o "tuple" n (.inr rfl) ho hc hdt w
      · cases e
    · cases e
  · cases e
end
end Z

end
section -- Z16
/-! Z16: what a text means, by our values: a function of the syntax. -/
namespace Z
open PySem PySem.Spec PyProof.Rows L2

/-- a def of the text -/
structure Fn where
  name : Str
  params : Arguments
  ps : List Str
  N : List Str
  scope : Scope
  body : List Stmt
  muts : List Str
  md : Md
  dfl : List PV
  kws : List (List Str)
/-- the module: defs, constants, names that are the built-in ones -/
structure Glob where
  fns : List Fn
  consts : List (Str × PV)
  dicts : List (Str × List (Str × PV))
  free : List Str
  excs : List Ex
  clss : List Str
  subs : List (Str × Str × Bool)
  subT : List (Str × String × Bool)
def Glob.fn? (G : Glob) (x : Str) : Option Fn := G.fns.find? fun F => F.name == x
def Glob.exc? (G : Glob) (x : Str) : Option Ex := G.excs.find? fun E => E.name == x
def Glob.fldOf (G : Glob) (x : Str) : Option Str := (G.exc? x).map Ex.fld
/-- is the one own exception class under the other one -/
def Glob.sub? (G : Glob) (c d : Str) : Option Bool := (G.subs.find? fun q => q.1 == c && q.2.1 == d).map (·.2.2)
def Glob.subT? (G : Glob) (c : Str) (n : String) : Option Bool := (G.subT.find? fun q => q.1 == c && q.2.1 == n).map (·.2.2)
/-- where one stands -/
structure Sc where
  N : List Str
  sc : Scope
  raw : Scope
  muts : List Str
abbrev Calls := Str → List PV → Mem → Mem → Res PV

def cBad : Ev := fun _ _ _ => .bad
def tBad : EvT := fun _ _ _ => .bad
def aBad : EvA := fun _ _ _ => .bad
def iBad : EvI := fun _ _ _ => .bad
def sBad : EvS := fun _ _ _ => .bad
def gBad : EvG := fun _ _ _ _ => none
def isVis (sc : Scope) (x : Str) : Bool := match sc.names.lookup x with
  | some .local => true
  | some .cell => true
  | some .free => true
  | _ => false
def isLoc (sc : Scope) (x : Str) : Bool := match sc.names.lookup x with
  | some .local => true
  | some .cell => true
  | _ => false
def isGlo (sc : Scope) (x : Str) : Bool := match sc.names.lookup x with
  | some .globalImplicit => true
  | _ => false
def noDbg (x : Str) : Bool := !(x == ("__debug__" : Str)) && (!(x == ("__classdict__" : Str)) && !(x == ("__name__" : Str)))
def slotOf (N : List Str) (x : Str) : Option Nat := N.findIdx? fun y => y == x
def constV : Const → Option PV
  | .none => some .non
  | .bool b => some (.bl b)
  | .int i => some (.int i)
  | .str x => some (.str x)
  | _ => none
/-- types by their names, as values -/
def tyName (x : Str) : Option String :=
  if x == ("int" : Str) then some "int" else if x == ("bool" : Str) then some "bool" else if x == ("str" : Str) then some "str" else if x == ("list" : Str) then some "list" else if x == ("tuple" : Str) then some "tuple" else if x == ("ValueError" : Str) then some "ValueError" else none
def evName (G : Glob) (S : Sc) (x : Str) : Ev :=
  if isVis S.sc x = true then (match slotOf S.N x with
    | some i => if noDbg x = true then cVar i else cBad
    | none => cBad)
  else if isGlo S.sc x = true ∧ noDbg x = true then (match G.consts.lookup x with
    | some v => cC v
    | none => if G.clss.contains x = true then cC (.cls x) else if (G.fn? x).isSome = true then cC (.fn x) else if G.free.contains x = true then (match tyName x with
      | some t => cC (.ty t)
      | none => cBad) else cBad)
  else cBad
def binF : Operator → Option (Mem → PV → PV → Option PV)
  | .Add => some fAdd
  | .Sub => some fSub
  | .Mult => some fMul
  | .FloorDiv => some fDiv
  | .Mod => some fMod
  | .Pow => some fPow
  | _ => none
def cmpF : CmpOp → Mem → PV → PV → Option PV
  | .Eq => fEq
  | .NotEq => fNe
  | .Lt => fOrd .lt
  | .LtE => fOrd .le
  | .Gt => fOrd .gt
  | .GtE => fOrd .ge
  | .Is => fIs
  | .IsNot => fIsNot
  | .In => fIn
  | .NotIn => fNotIn
def builtF (x : Str) : Option (Mem → List PV → Option PV) :=
  if x == ("len" : Str) then some (one fLen) else if x == ("all" : Str) then some (one fAll) else if x == ("tuple" : Str) then some (one fTuple) else if x == ("int" : Str) then some (one fInt)
  else if x == ("isinstance" : Str) then some fIsi else if x == ("sorted" : Str) then some (one fSorted) else if x == ("list" : Str) then some (one fList) else if x == ("max" : Str) then some fMax
  else if x == ("min" : Str) then some fMin else if x == ("abs" : Str) then some (one fAbs) else if x == ("any" : Str) then some (one fAny) else if x == ("sum" : Str) then some (one fSum) else if x == ("str" : Str) then some (one fStr) else none
def builtG (G : Glob) (x : Str) : Option (Mem → List PV → Option PV) := if x == ("isinstance" : Str) then some (isiX G.sub? G.subT?) else builtF x
def isSlice : Expr → Bool
  | .Slice _ _ _ _ => true
  | _ => false
def isTupE : Expr → Bool
  | .Tuple _ _ _ => true
  | _ => false
def permOf {α : Type} (d : α) (ps ks : List Str) (ws : List α) : List α := ps.map fun p => match ks.findIdx? (fun k => k == p) with
  | some i => (ws[i]?).getD d
  | none => d
def kwNames : List Keyword → Option (List Str)
  | [] => some []
  | ⟨some n, _, _⟩ :: r => (kwNames r).map (n :: ·)
  | _ => none
def cCallK (Φ : List PV → Mem → Mem → Res PV) (ps ks : List Str) (a : EvA) : Ev := fun R env h => (a R env h).bind fun xs h1 => if xs.length = ks.length ∧ (permOf PV.non ps ks xs).length = ps.length then Φ (permOf PV.non ps ks xs) R h1 else .bad
def cCall0 (Φ : List PV → Mem → Mem → Res PV) (np : Nat) (dfl : List PV) : Ev := fun R _ h => if dfl.length = np then (match Φ dfl R h with
  | .ok v h1 => .ok v h1
  | _ => .bad) else .bad
/-- which of a def's defaults stand in, if so many values are given -/
def dflFor (F : Fn) (n : Nat) : List PV := F.dfl.drop (n + F.dfl.length - F.ps.length)
def okArgs (es : List Expr) : Bool := es.all fun e => !isStar e
def ownOf (N : List Str) (scope : Scope) : List (Str × Nat) := scope.names.filterMap fun y => match y.2 with
  | .local => (slotOf N y.1).map fun i => (y.1, i)
  | .cell => (slotOf N y.1).map fun i => (y.1, i)
  | _ => none
/-- a block of a comprehension -/
def Sc.blk (S : Sc) (scope : Scope) : Sc := ⟨S.N, relS scope S.sc, scope, []⟩
def isSetE : Expr → Bool
  | .Set _ _ _ => true
  | _ => false
def lineOk (apos cpos : Pos) : Bool := apos.endLine == cpos.line
def isCallN0 : Expr → Bool
  | .Call (.Name _ _) [] [] _ => true
  | _ => false

def cCmpT (f : Mem → PV → PV → Option PV) (a b : Ev) : EvT := fun R env h => (a R env h).bind fun x h1 => (b R env h1).bind fun y h2 => match f (R ++ h2) x y with
  | some (.bl k) => .ok k h2
  | _ => .bad
def cChainT (f g : Mem → PV → PV → Option PV) (a b c : Ev) : EvT := fun R env h => (a R env h).bind fun x h1 => (b R env h1).bind fun y h2 => match f (R ++ h2) x y with
  | some (.bl true) => (c R env h2).bind fun z h3 => match g (R ++ h3) y z with
    | some (.bl k) => .ok k h3
    | _ => .bad
  | some (.bl false) => .ok false h2
  | _ => .bad
/-- a table of the module -/
def dicN (G : Glob) (S : Sc) (e : Expr) : Option (List (Str × PV)) := match e with
  | .Name x _ => if isGlo S.sc x = true ∧ noDbg x = true then G.dicts.lookup x else none
  | _ => none
def cDic (kvs : List (Str × PV)) (b : Ev) : Ev := fun R env h => (b R env h).bind fun k h1 => match k with
  | .str z => liftO h1 (kvs.lookup z)
  | _ => .bad
def opIn : CmpOp → Option Bool
  | .In => some true
  | .NotIn => some false
  | _ => none
def tInD (p : Bool) (kvs : List (Str × PV)) (b : Ev) : EvT := fun R env h => (b R env h).bind fun k h1 => match k with
  | .str z => .ok (p == (kvs.lookup z).isSome) h1
  | _ => .bad
def cInD (p : Bool) (kvs : List (Str × PV)) (b : Ev) : Ev := fun R env h => (b R env h).bind fun k h1 => match k with
  | .str z => .ok (.bl (p == (kvs.lookup z).isSome)) h1
  | _ => .bad
def mPopA (m : Mem) (zs xs : List PV) : Option (PV × List PV) := match xs with
  | [] => none
  | x :: r => mPop m zs (x :: r)
mutual
/-- the slots that a target stores into -/
def gSl (N : List Str) : Nat → Expr → List Nat
  | 0, _ => []
  | n + 1, e => match e with
    | .Name x _ => match slotOf N x with
      | some i => [i]
      | none => []
    | .Tuple es _ _ => gSls N n es
    | _ => []
def gSls (N : List Str) : Nat → List Expr → List Nat
  | 0, _ => []
  | n + 1, es => match es with
    | [] => []
    | e :: r => gSl N n e ++ gSls N n r
end
/-- a def held as a value, called -/
def cCallV (np : Str → Option Nat) (Φ : Calls) (a : Ev) (b : EvA) : Ev := fun R env h => (a R env h).bind fun p h1 => match p with
  | .fn f => match np f with
    | some k => (b R env h1).bind fun xs h2 => if xs.length = k then Φ f xs R h2 else .bad
    | none => .bad
  | _ => .bad
def Glob.np (G : Glob) (f : Str) : Option Nat := match G.fn? f with
  | some F => if F.dfl = [] then some F.ps.length else none
  | none => none
mutual
def evE (G : Glob) (Φ : Calls) : Nat → Sc → Expr → Ev
  | 0, _, _ => cBad
  | n + 1, S, e => match e with
    | .Name x _ => evName G S x
    | .Constant c _ _ => match constV c with
      | some v => cC v
      | none => cBad
    | .BinOp a op b _ => match binF op with
      | some f => cOp2 f (evE G Φ n S a) (evE G Φ n S b)
      | none => cBad
    | .UnaryOp .USub a _ => cOp1 fNeg (evE G Φ n S a)
    | .UnaryOp .Not a _ => cNotV (evE G Φ n S a)
    | .BoolOp op es pos => match es with
      | [] => cBad
      | [a] => evE G Φ n S a
      | a :: b :: r => match op with
        | .And => cAndV (evE G Φ n S a) (evE G Φ n S (.BoolOp .And (b :: r) pos))
        | .Or => cOrV (evE G Φ n S a) (evE G Φ n S (.BoolOp .Or (b :: r) pos))
    | .IfExp t a b _ => cIf (evT G Φ n S t) (evE G Φ n S a) (evE G Φ n S b)
    | .Compare a ops bs _ => match ops, bs with
      | [op], [b] => if behindInMarks op b = false then (match dicN G S b, opIn op with
        | some kvs, some p => cInD p kvs (evE G Φ n S a)
        | _, _ => cOp2 (cmpF op) (evE G Φ n S a) (evE G Φ n S b)) else cBad
      | [o1, o2], [b, c] => if lastMarks [o1, o2] [b, c] = false then cChain (cmpF o1) (cmpF o2) (evE G Φ n S a) (evE G Φ n S b) (evE G Φ n S c) else cBad
      | _, _ => cBad
    | .Tuple es _ _ => cFn fTup (evA G Φ n S es)
    | .List es _ => cFn fLst (evA G Φ n S es)
    | .Subscript a b _ => match b with
      | .Slice lo hi none _ => cSl (evE G Φ n S a) (evO G Φ n S lo) (evO G Φ n S hi)
      | b => if isSlice b = false ∧ isTupE b = false then (match dicN G S a with
        | some kvs => cDic kvs (evE G Φ n S b)
        | none => cOp2 fIx (evE G Φ n S a) (evE G Φ n S b)) else cBad
    | .ListComp elt gens scope _ => match gens with
      | [⟨tg, it, ifs, 0⟩] =>
        if blkC S.N S.sc scope (ownOf S.N scope) = true ∧ isSetE it = false ∧ ((gSl S.N n tg).all fun i => ((ownOf S.N scope).map (·.2)).contains i) = true then
          cLc ((ownOf S.N scope).map (·.2)) (evI G Φ n S tg it) (evG G Φ n (S.blk scope) tg) (evIfs G Φ n (S.blk scope) ifs) (evE G Φ n (S.blk scope) elt)
        else cBad
      | _ => cBad
    | .Call f args kws cpos => match f with
      | .Name x _ => if isGlo S.sc x = true ∧ noDbg x = true then (match G.fn? x with
          | some F => match kws with
            | [] => match args with
              | [] => cCall0 (Φ x) F.ps.length (dflFor F 0)
              | a :: r => if okArgs (a :: r) = true then cCall (Φ x) F.ps.length (dflFor F (a :: r).length) (evA G Φ n S (a :: r)) else cBad
            | _ => match args with
              | [] => match kwNames kws with
                | some ks => if F.kws.contains ks = true then cCallK (Φ x) F.ps ks (evA G Φ n S (kws.map (·.value))) else cBad
                | none => cBad
              | _ => cBad
          | none => match G.exc? x with
            | some E => match kws with
              | [] => match args with
                | [] => cMkX E cNil
                | a :: r => if okArgs (a :: r) = true then cMkX E (evA G Φ n S (a :: r)) else cBad
              | _ => match args with
                | [] => if kwNames kws = some [E.fld] ∧ E.one = true then cMkX E (evA G Φ n S (kws.map (·.value))) else cBad
                | _ => cBad
            | none => if G.free.contains x = true ∧ kws.isEmpty = true then (match builtG G x with
            | some g => match args with
              | [] => cBad
              | a :: r => if okArgs (a :: r) = true then cFn g (evA G Φ n S (a :: r)) else cBad
            | none => cBad) else cBad) else cBad
      | .Attribute o m apos => if kws.isEmpty = true ∧ okArgs args = true ∧ lineOk apos cpos = true ∧ isCallN0 o = false ∧ args.length < 20 then (match args with
          | [] => if m == ("pop" : Str) then cMut mPop (evE G Φ n S o) cNil else cBad
          | a :: r => if m == ("append" : Str) then cMut mAppend (evE G Φ n S o) (evA G Φ n S (a :: r)) else if m == ("pop" : Str) then cMut mPopA (evE G Φ n S o) (evA G Φ n S (a :: r))
            else if m == ("extend" : Str) then cMut mExtend (evE G Φ n S o) (evA G Φ n S (a :: r)) else if m == ("join" : Str) then cStrM sJoin (evE G Φ n S o) (evA G Φ n S (a :: r))
            else if m == ("split" : Str) then cStrM sSplit (evE G Φ n S o) (evA G Φ n S (a :: r)) else cBad) else cBad
      | .Subscript o i p => match kws, args with
        | [], a :: r => if okArgs (a :: r) = true then cCallV G.np Φ (evE G Φ n S (.Subscript o i p)) (evA G Φ n S (a :: r)) else cBad
        | _, _ => cBad
      | _ => cBad
    | .Attribute o f _ => if isCallN0 o = false then cAttr G.fldOf f (evE G Φ n S o) else cBad
    | _ => cBad
def evT (G : Glob) (Φ : Calls) : Nat → Sc → Expr → EvT
  | 0, _, _ => tBad
  | n + 1, S, e => match e with
    | .BoolOp op es pos => match es with
      | [] => tBad
      | [a] => evT G Φ n S a
      | a :: b :: r => match op with
        | .And => tAnd2 (evT G Φ n S a) (evT G Φ n S (.BoolOp .And (b :: r) pos))
        | .Or => tOr2 (evT G Φ n S a) (evT G Φ n S (.BoolOp .Or (b :: r) pos))
    | .UnaryOp .Not a _ => tNot1 (evT G Φ n S a)
    | .Compare a ops bs _ => match ops, bs with
      | [op], [b] => if behindInMarks op b = false then (match dicN G S b, opIn op with
        | some kvs, some p => tInD p kvs (evE G Φ n S a)
        | _, _ => cCmpT (cmpF op) (evE G Φ n S a) (evE G Φ n S b)) else tBad
      | [o1, o2], [b, c] => if lastMarks [o1, o2] [b, c] = false then cChainT (cmpF o1) (cmpF o2) (evE G Φ n S a) (evE G Φ n S b) (evE G Φ n S c) else tBad
      | _, _ => tBad
    | .IfExp _ _ _ _ => tBad
    | .Name x p => cTruth (evE G Φ n S (.Name x p))
    | .Call f a k p => cTruth (evE G Φ n S (.Call f a k p))
    | .Subscript a b p => cTruth (evE G Φ n S (.Subscript a b p))
    | .Constant c j p => cTruth (evE G Φ n S (.Constant c j p))
    | _ => tBad
def evA (G : Glob) (Φ : Calls) : Nat → Sc → List Expr → EvA
  | 0, _, _ => aBad
  | n + 1, S, es => match es with
    | [] => cNil
    | e :: r => if isStar e = false then cCons (evE G Φ n S e) (evA G Φ n S r) else aBad
def evO (G : Glob) (Φ : Calls) : Nat → Sc → Option Expr → EvO
  | 0, _, _ => fun _ _ _ => .bad
  | n + 1, S, o => match o with
    | none => oNone
    | some e => oSome (evE G Φ n S e)
def evIfs (G : Glob) (Φ : Calls) : Nat → Sc → List Expr → EvT
  | 0, _, _ => tBad
  | n + 1, S, es => match es with
    | [] => tYesE
    | [e] => evT G Φ n S e
    | _ => tBad
/-- what is walked -/
def evI (G : Glob) (Φ : Calls) : Nat → Sc → Expr → Expr → EvI
  | 0, _, _, _ => iBad
  | n + 1, S, tg, e => match e with
    | .Call (.Name x p) [a] [] q => if x == ("range" : Str) then (if isGlo S.sc x = true ∧ G.fn? x = none ∧ G.free.contains x = true ∧ isStar a = false then iRange1 (evA G Φ n S [a]) else iBad)
      else if x == ("enumerate" : Str) then (if isGlo S.sc x = true ∧ G.fn? x = none ∧ G.free.contains x = true ∧ isStar a = false ∧ isTupE tg = true then iEnumE (evA G Φ n S [a]) else iBad)
      else iVal (evE G Φ n S (.Call (.Name x p) [a] [] q))
    | .Call (.Name x p) [a, b] [] q => if x == ("range" : Str) then (if isGlo S.sc x = true ∧ G.fn? x = none ∧ G.free.contains x = true ∧ isStar a = false ∧ isStar b = false then iRange2 (evA G Φ n S [a, b]) else iBad)
      else if x == ("zip" : Str) then (if isGlo S.sc x = true ∧ G.fn? x = none ∧ G.free.contains x = true ∧ isStar a = false ∧ isStar b = false ∧ isTupE tg = true then iZipE (evA G Φ n S [a, b]) else iBad)
      else iVal (evE G Φ n S (.Call (.Name x p) [a, b] [] q))
    | e => iVal (evE G Φ n S e)
/-- what is stored into -/
def evG (G : Glob) (Φ : Calls) : Nat → Sc → Expr → EvG
  | 0, _, _ => gBad
  | n + 1, S, e => match e with
    | .Name x _ => match slotOf S.N x with
      | some i => if isLoc S.sc x = true ∧ (S.raw.names.lookup x == some .cell || S.sc.names.lookup x == some .local) = true then gName i else gBad
      | none => gBad
    | .Tuple es _ _ => if okArgs es = true then gTup (evGs G Φ n S es) else gBad
    | .Subscript o i _ => if isSlice i = false ∧ isTupE i = false then gSubL (evE G Φ n S o) (evE G Φ n S i) else gBad
    | _ => gBad
def evGs (G : Glob) (Φ : Calls) : Nat → Sc → List Expr → List EvG
  | 0, _, es => es.map fun _ => gBad
  | n + 1, S, es => match es with
    | [] => []
    | e :: r => evG G Φ n S e :: evGs G Φ n S r
end
end Z

end
section -- Z17
/-! Z17: the text's expressions give what Z16 says. -/
namespace Z
open PySem PySem.Spec PyProof.Rows L2

/-- what is known of the module -/
structure GoodW (G : Glob) (Φ : Calls) (k : Nat) (ad : Ads) (prog : Program) (w : World) (K : PySem.W.Frag) (mg : Str → Option Value) (base : Heap) (A : Around) : Prop where
  un : A.units + 200 < cLine
  room : Room k A
  big : 4 ≤ k
  cst : ∀ x v, G.consts.lookup x = some v → ∃ u y, mg x = some u ∧ RelV y u ∧ ∀ ρ H, VR K ad ρ H v y
  fre : ∀ x, G.free.contains x = true → mg x = none
  dic : ∀ x kvs, G.dicts.lookup x = some kvs → ∃ d es n, mg x = some (.ref d) ∧ KDict K w d es n ∧ ∀ z, match kvs.lookup z with
    | some v => ∃ u y, PySem.W.nsIn K d z = some (some u) ∧ RelV y u ∧ ∀ ρ H, VR K ad ρ H v y
    | none => PySem.W.nsIn K d z = some none
  fns : ∀ x F, G.fn? x = some F → ∃ f fd, mg x = some (.ref f) ∧ PySem.W.keepIn K (.ref f) = true ∧ FnOk prog w K mg base (L2.CX prog w) k f fd F.ps (simSp K ad F.ps.length (Φ x)) ∧
    (∀ j, j ≤ F.dfl.length → ∃ dvs ds, Vals dvs ds ∧ (∀ ρ H, VRs K ad ρ H (F.dfl.drop j) dvs) ∧ Binds K fd F.ps ds) ∧
    (∀ ks ∈ F.kws, ∀ (s : Shared) (us : List Value), K.In s.heap → us.length = ks.length → BindsTo s fd ⟨[], ks.zip us⟩ (F.ps.zip (permOf Value.none F.ps ks us)))
  fnv : ∀ x F, G.fn? x = some F → mg x = some (.ref (ad.fn x))
  cls : ∀ x, G.clss.contains x = true → mg x = some (.ref (ad.cls x))
  exs : ∀ x E, G.exc? x = some E → E.name = x ∧ ExF prog w K mg base (ad.cls x) E
  sub : ∀ c d b, G.sub? c d = some b → ExcC K (ad.cls c) ∧ PySem.W.kitOne K (.ref (ad.cls c)) (.ref (ad.cls d)) = some b ∧ PySem.W.exmOne K (.ref (ad.cls c)) (.ref (ad.cls d)) = some b
  subT : ∀ c n b, G.subT? c n = some b → ExcC K (ad.cls c) ∧ PySem.W.kitOne K (.ref (ad.cls c)) (.type n) = some b
structure Good (G : Glob) (Φ : Calls) (k : Nat) (ad : Ads) (S : Sc) (W : WX) (X : Cx) : Prop where
  w : GoodW G Φ k ad X.prog X.w X.K X.mg X.base X.A
  N : X.N = S.N
  nd : S.N.Nodup
  sc : X.env.scope = S.sc
  raw : ∀ x, (S.raw.names.lookup x == some .cell) = true → X.fn x = true
  calm : X.calm = true
  tk : Takes X W

section
variable {X : Cx} {ad : Ads} {W : WX}
theorem PE.bad {e : Expr} : PE X e (simE X.K ad W cBad) := ⟨fun pins s σ H Q I h => by obtain ⟨ρ, R, env, h0, er, hr, s⟩ := h; exact s.elim⟩
theorem PT.bad {e : Expr} : PT X e (simT X.K ad W tBad) := ⟨fun pins s σ H Q I h => by obtain ⟨ρ, R, env, h0, er, hr, s⟩ := h; exact s.elim⟩
theorem PW.bad {e : Expr} : PW X e (simT X.K ad W tBad) := ⟨fun wh pins s σ H Q I h => by obtain ⟨ρ, R, env, h0, er, hr, s⟩ := h; exact s.elim⟩
theorem PTs.bad {e : List Expr} : PTs X e (simT X.K ad W tBad) := ⟨fun pins s σ H Q I h => by obtain ⟨ρ, R, env, h0, er, hr, s⟩ := h; exact s.elim⟩
theorem PA.bad {e : List Expr} : PA X e (simA X.K ad W aBad) := ⟨fun pos pins s σ H Q I h => by obtain ⟨ρ, R, env, h0, er, hr, s⟩ := h; exact s.elim⟩
theorem PO.bad {e : Option Expr} : PO X e (simO X.K ad W (fun _ _ _ => .bad)) := ⟨fun pins s σ H Q I h => by obtain ⟨ρ, R, env, h0, er, hr, s⟩ := h; exact s.elim⟩
theorem PI.bad {tg e : Expr} : PI X tg e (simI X.K ad W iBad) := ⟨fun pins s σ H Q I h => by obtain ⟨ρ, R, env, h0, er, hr, s⟩ := h; exact s.elim⟩
theorem PG.bad {e : Expr} {is : List Nat} : PG X e (simG X.K ad is gBad) := ⟨fun pins s σ H v u Q I r h => by obtain ⟨ρ, R, env, h0, p, env', h', er, hr, vp, e, k⟩ := h; cases e⟩
theorem PGs.bad : ∀ {es : List Expr} {is : List Nat}, es ≠ [] → PGs X es (simGs X.K ad is (es.map fun _ => gBad)) := fun {es is} hne => ⟨fun pins s σ H v u Q I r h => by
  obtain ⟨ρ, R, env, h0, ps, env', h', er, hr, vp, e, k⟩ := h
  cases es with
  | nil => exact absurd rfl hne
  | cons a r => cases ps <;> cases e⟩

theorem cmp_ok (hu : X.A.units + 65 < cLine) : ∀ op : CmpOp, OpR X (compareOp op) (rOp2 X.K ad (cmpF op))
  | .Eq => o_eq hu
  | .NotEq => o_ne hu
  | .Lt => o_ord .lt hu
  | .LtE => o_ord .le hu
  | .Gt => o_ord .gt hu
  | .GtE => o_ord .ge hu
  | .Is => o_is
  | .IsNot => o_isnot
  | .In => o_in hu
  | .NotIn => o_notin hu
theorem bin_ok {op : Operator} {f : Mem → PV → PV → Option PV} (e : binF op = some f) : OpR X (binaryOp op) (rOp2 X.K ad f) := by
  cases op <;> first | (cases e; done) | (cases e; first | exact o_add | exact o_sub | exact o_mul | exact o_div | exact o_mod | exact o_pow)
theorem ite_some {α : Type} {c : Bool} {a g : α} {r : Option α} (e : (if c = true then some a else r) = some g) : (c = true ∧ a = g) ∨ r = some g := by
  cases c with
  | true => exact .inl ⟨rfl, Option.some.inj e⟩
  | false => exact .inr e
theorem built_ok (hc : X.calm = true) (hu : X.A.units + 70 < cLine) {x : Str} {g : Mem → List PV → Option PV} (e : builtF x = some g) :
    (∃ id, bootBuiltins x = some (.builtin id) ∧ CallR X (.builtin id) (rFn X.K ad g)) ∨ (∃ T, bootBuiltins x = some (.type T) ∧ CallR X (.type T) (rFn X.K ad g)) := by
  unfold builtF at e
  rcases ite_some e with ⟨h, hg⟩ | e
  · rw [eq_of_beq h, ← hg]; exact .inl ⟨"len", PySem.boot_len, b_len⟩
  rcases ite_some e with ⟨h, hg⟩ | e
  · rw [eq_of_beq h, ← hg]; exact .inl ⟨"all", boot_all, b_all hc⟩
  rcases ite_some e with ⟨h, hg⟩ | e
  · rw [eq_of_beq h, ← hg]; exact .inr ⟨"tuple", PyProof.Rows.boot_tuple, b_tuple hc⟩
  rcases ite_some e with ⟨h, hg⟩ | e
  · rw [eq_of_beq h, ← hg]; exact .inr ⟨"int", PyProof.Rows.boot_int, b_int⟩
  rcases ite_some e with ⟨h, hg⟩ | e
  · rw [eq_of_beq h, ← hg]; exact .inl ⟨"isinstance", boot_isinstance, b_isi⟩
  rcases ite_some e with ⟨h, hg⟩ | e
  · rw [eq_of_beq h, ← hg]; exact .inl ⟨"sorted", boot_sorted, b_sorted hu⟩
  rcases ite_some e with ⟨h, hg⟩ | e
  · rw [eq_of_beq h, ← hg]; exact .inr ⟨"list", PyProof.Rows.boot_list, b_list⟩
  rcases ite_some e with ⟨h, hg⟩ | e
  · rw [eq_of_beq h, ← hg]; exact .inl ⟨"max", boot_max, b_max hc⟩
  rcases ite_some e with ⟨h, hg⟩ | e
  · rw [eq_of_beq h, ← hg]; exact .inl ⟨"min", boot_min, b_min hc⟩
  rcases ite_some e with ⟨h, hg⟩ | e
  · rw [eq_of_beq h, ← hg]; exact .inl ⟨"abs", by decide +kernel, b_abs⟩
  rcases ite_some e with ⟨h, hg⟩ | e
  · rw [eq_of_beq h, ← hg]; exact .inl ⟨"any", boot_any, b_any hc⟩
  rcases ite_some e with ⟨h, hg⟩ | e
  · rw [eq_of_beq h, ← hg]; exact .inl ⟨"sum", boot_sum, b_sum hc⟩
  rcases ite_some e with ⟨h, hg⟩ | e
  · rw [eq_of_beq h, ← hg]; exact .inr ⟨"str", PyProof.Rows.boot_str, b_str⟩
  cases e
theorem slotOf_ok {N : List Str} {x : Str} {i : Nat} (e : slotOf N x = some i) : N[i]? = some x := by
  unfold slotOf at e
  obtain ⟨hi, h1, _⟩ := List.findIdx?_eq_some_iff_getElem.mp e
  rw [List.getElem?_eq_getElem hi, eq_of_beq h1]
theorem isVis_ok {sc : Scope} {x : Str} (h : isVis sc x = true) : Vis sc x := by
  unfold isVis at h
  split at h <;> first | exact .inl (by assumption) | exact .inr (.inl (by assumption)) | exact .inr (.inr (by assumption)) | cases h
theorem isLoc_ok {sc : Scope} {x : Str} (h : isLoc sc x = true) : Loc sc x := by
  unfold isLoc at h
  split at h <;> first | exact .inl (by assumption) | exact .inr (by assumption) | cases h
theorem isGlo_ok {sc : Scope} {x : Str} (h : isGlo sc x = true) : sc.names.lookup x = some .globalImplicit := by
  unfold isGlo at h
  split at h <;> first | assumption | cases h
theorem noDbg_ok {x : Str} (h : noDbg x = true) : (x == ("__debug__" : Str)) = false ∧ (x == ("__classdict__" : Str)) = false ∧ x ≠ ("__name__" : Str) := by
  unfold noDbg at h
  simp only [Bool.and_eq_true, Bool.not_eq_true'] at h
  exact ⟨h.1, h.2.1, fun e => by rw [e] at h; exact absurd h.2.2 (by simp)⟩
theorem tyName_ok {x : Str} {t : String} (e : tyName x = some t) : bootBuiltins x = some (.type t) := by
  unfold tyName at e
  rcases ite_some e with ⟨h, hg⟩ | e
  · rw [eq_of_beq h, ← hg]; exact PyProof.Rows.boot_int
  rcases ite_some e with ⟨h, hg⟩ | e
  · rw [eq_of_beq h, ← hg]; exact PyProof.Rows.boot_bool
  rcases ite_some e with ⟨h, hg⟩ | e
  · rw [eq_of_beq h, ← hg]; exact PyProof.Rows.boot_str
  rcases ite_some e with ⟨h, hg⟩ | e
  · rw [eq_of_beq h, ← hg]; exact PyProof.Rows.boot_list
  rcases ite_some e with ⟨h, hg⟩ | e
  · rw [eq_of_beq h, ← hg]; exact PyProof.Rows.boot_tuple
  rcases ite_some e with ⟨h, hg⟩ | e
  · rw [eq_of_beq h, ← hg]; exact PyProof.Rows.Boot.«ValueError»
  cases e
variable {G : Glob} {Φ : Calls} {k : Nat} {S : Sc}
theorem Good.gl (g : Good G Φ k ad S W X) {x : Str} (h : isGlo S.sc x = true) : Gl X x := by
  show X.env.scope.names.lookup x = _
  rw [g.sc]; exact isGlo_ok h
theorem z_name (g : Good G Φ k ad S W X) (x : Str) (p : Pos) : PE X (.Name x p) (simE X.K ad W (evName G S x)) := by
  unfold evName
  split
  · rename_i hv
    split
    · rename_i i ei
      split
      · rename_i hd
        obtain ⟨d1, d2, _⟩ := noDbg_ok hd
        exact z_var (by rw [g.N]; exact slotOf_ok ei) (by rw [g.sc]; exact isVis_ok hv) d1 d2
      · exact PE.bad
    · exact PE.bad
  · split
    · rename_i hv hg
      obtain ⟨d1, d2, d3⟩ := noDbg_ok hg.2
      split
      · rename_i v ev
        obtain ⟨u, y, h1, h2, h3⟩ := g.w.cst x v ev
        exact z_const (pe_glob (g.gl hg.1) h1 h2 d1) h3
      · split
        · rename_i hc
          exact z_const (pe_glob (v := .ref (ad.cls x)) (g.gl hg.1) (g.w.cls x hc) rfl d1) fun _ _ => rfl
        split
        · rename_i hc
          obtain ⟨F, eF⟩ := Option.isSome_iff_exists.mp hc
          exact z_const (pe_glob (v := .ref (ad.fn x)) (g.gl hg.1) (g.w.fnv x F eF) rfl d1) fun _ _ => rfl
        split
        · rename_i hf
          split
          · rename_i t et
            exact z_const (v := .ty t) (pe_bltn (g.gl hg.1) (g.w.fre x hf) (tyName_ok et) rfl d3 d1) (fun _ _ => rfl)
          · exact PE.bad
        · exact PE.bad
    · exact PE.bad
theorem z_constE (c : Const) (j : Nat) (p : Pos) : PE X (.Constant c j p) (simE X.K ad W (match constV c with
      | some v => cC v
      | none => cBad)) := by
  cases c <;> first | exact z_const pe_non (fun _ _ => rfl) | exact z_const pe_bl (fun _ _ => rfl) | exact z_const pe_int (fun _ _ => rfl) | exact z_const pe_str (fun _ _ => rfl) | exact PE.bad
theorem truth_at {ρ : Rho} {H : Hp} {m : Mem} (hr : HR X.K ad ρ H m) {p : PV} {v : V} {b : Bool} (e : truth m p = some b) (r : VR X.K ad ρ H p v) : TruV X.K v H b := by
  cases p with
  | non => cases e; cases r; exact rfl
  | bl c => cases e; cases r; exact rfl
  | int i => cases e; cases r; exact rfl
  | str y =>
    rw [truth] at e
    split at e
    · cases e; cases r; exact ⟨by assumption, rfl⟩
    · cases e
  | tup xs =>
    cases e
    obtain ⟨a, vs, rfl, t, rv⟩ := r
    refine .inr (.inl ⟨vs, t.sq, ?_⟩)
    have := rv.length
    cases xs <;> cases vs <;> simp_all
  | lst xs =>
    cases e
    obtain ⟨a, vs, rfl, _, t, rv⟩ := r
    refine .inl ⟨vs, SqL.of t, ?_⟩
    have := rv.length
    cases xs <;> cases vs <;> simp_all
  | ref n =>
    rw [truth] at e
    obtain ⟨a, rfl, ha⟩ := r
    split at e
    · rename_i xs eo
      cases e
      obtain ⟨vs, e1, rv⟩ := hr.at_ n _ a eo ha
      refine .inl ⟨vs, SqL.of e1, ?_⟩
      have := rv.length
      cases xs <;> cases vs <;> simp_all
    · rename_i xs eo
      cases e
      obtain ⟨vs, e1, rv⟩ := hr.at_ n _ a eo ha
      refine .inl ⟨vs, .inl e1, ?_⟩
      have := rv.length
      cases xs <;> cases vs <;> simp_all
    · cases e
  | _ => cases e
theorem z_truth {e : Expr} {a : Ev} (he : PE X e (simE X.K ad W a)) (hp : ∀ whole, isTrue e X.env whole = (do let v ← whole; standAt e.pos; holding [v] (truthy v))) : PT X e (simT X.K ad W (cTruth a)) := by
  refine PT.imp (pt_truth he hp) fun σ H Q h => ?_
  obtain ⟨ρ, R, env, h0, er, hr, s⟩ := h
  refine ⟨ρ, R, env, h0, er, hr, (SimR.bind s).imp fun ρ1 H1 x h1 st1 hr1 s1 x' vx => ?_⟩
  obtain ⟨b, e, k⟩ := SimR.lift s1
  exact ⟨b, truth_at hr1 e vx, k ρ1 H1 (Step.refl _ _) hr1⟩
theorem z_notV {a : Expr} {ea : Ev} {pos : Pos} (ha : PE X a (simE X.K ad W ea)) : PE X (.UnaryOp .Not a pos) (simE X.K ad W (cNotV ea)) := by
  refine PE.imp (pe_notT ha) fun σ H Q h => ?_
  obtain ⟨ρ, R, env, h0, er, hr, s⟩ := h
  refine ⟨ρ, R, env, h0, er, hr, (SimR.bind s).imp fun ρ1 H1 x h1 st1 hr1 s1 x' vx => ?_⟩
  obtain ⟨v, e, k⟩ := SimR.lift s1
  cases et : truth (R ++ h1) x with
  | none => rw [et] at e; cases e
  | some b =>
    rw [et] at e; cases e
    exact ⟨b, truth_at hr1 et vx, k ρ1 H1 (Step.refl _ _) hr1 _ rfl⟩
theorem z_andV {a b : Expr} {rest : List Expr} {ea eb : Ev} {pos : Pos} (ha : PE X a (simE X.K ad W ea)) (hb : PE X (.BoolOp .And (b :: rest) pos) (simE X.K ad W eb)) : PE X (.BoolOp .And (a :: b :: rest) pos) (simE X.K ad W (cAndV ea eb)) := by
  refine PE.imp (pe_andT ha hb) fun σ H Q h => ?_
  obtain ⟨ρ, R, env, h0, er, hr, s⟩ := h
  refine ⟨ρ, R, env, h0, er, hr, (SimR.bind s).imp fun ρ1 H1 x h1 st1 hr1 s1 x' vx => ?_⟩
  cases et : truth (R ++ h1) x with
  | none => rw [et] at s1; exact s1.elim
  | some c =>
    rw [et] at s1
    refine ⟨c, truth_at hr1 et vx, ?_⟩
    cases c with
    | true => exact ⟨ρ1, R, env, h1, er.mono st1, hr1, s1⟩
    | false => exact SimR.here s1 hr1 x' vx
theorem z_orV {a b : Expr} {rest : List Expr} {ea eb : Ev} {pos : Pos} (ha : PE X a (simE X.K ad W ea)) (hb : PE X (.BoolOp .Or (b :: rest) pos) (simE X.K ad W eb)) : PE X (.BoolOp .Or (a :: b :: rest) pos) (simE X.K ad W (cOrV ea eb)) := by
  refine PE.imp (pe_orT ha hb) fun σ H Q h => ?_
  obtain ⟨ρ, R, env, h0, er, hr, s⟩ := h
  refine ⟨ρ, R, env, h0, er, hr, (SimR.bind s).imp fun ρ1 H1 x h1 st1 hr1 s1 x' vx => ?_⟩
  cases et : truth (R ++ h1) x with
  | none => rw [et] at s1; exact s1.elim
  | some c =>
    rw [et] at s1
    refine ⟨c, truth_at hr1 et vx, ?_⟩
    cases c with
    | false => exact ⟨ρ1, R, env, h1, er.mono st1, hr1, s1⟩
    | true => exact SimR.here s1 hr1 x' vx
end
end Z

end
section -- Z18
/-! Z18: single steps of the text, seen by shape. -/
namespace Z
open PySem PySem.Spec PyProof.Rows L2
section
variable {X : Cx} {ad : Ads} {W : WX}
theorem SimR.after {α : Type} {K : PySem.W.Frag} {W : XK} {R : Mem} {ρ ρ' : Rho} {H H' : Hp} {r : Res α} {P : Rho → Hp → α → Mem → Prop} (st : Step ρ H ρ' H') (s : SimR K ad W R ρ H r P) : SimR K ad W R ρ' H' r P := by
  cases r with
  | ok v h => exact fun ρ1 H1 st1 hr1 => s ρ1 H1 (st.trans st1) hr1
  | exc c ns vs h => exact fun ρ1 H1 cl d st1 => s ρ1 H1 cl d (st.trans st1)
  | bad => exact s
theorem z_cmpT {a b : Expr} {op : CmpOp} {pos : Pos} {ea eb : Ev} {f : Mem → PV → PV → Option PV} (ho : OpR X (compareOp op) (rOp2 X.K ad f)) (ha : PE X a (simE X.K ad W ea)) (hb : PE X b (simE X.K ad W eb)) (hm : behindInMarks op b = false) :
    PT X (.Compare a [op] [b] pos) (simT X.K ad W (cCmpT f ea eb)) := by
  refine PT.imp (pt_cmpR ho ha hb hm) fun σ H Q h => ?_
  obtain ⟨ρ, R, env, h0, er, hr, s⟩ := h
  refine ⟨ρ, R, env, h0, er, hr, (SimR.bind s).imp fun ρ1 H1 x h1 st1 hr1 s1 x' vx => ?_⟩
  refine ⟨ρ1, R, env, h1, er.mono st1, hr1, (SimR.bind s1).imp fun ρ2 H2 y h2 st2 hr2 s2 y' vy => ?_⟩
  cases ef : f (R ++ h2) x y with
  | none => rw [ef] at s2; exact s2.elim
  | some v =>
    rw [ef] at s2
    cases v <;> first | exact s2.elim | skip
    rename_i k
    refine ⟨ρ2, R ++ h2, x, y, .bl k, hr2, VR.mono st2 _ vx, vy, ef, fun ρ3 H3 v' st3 hr3 vv => ?_⟩
    cases vv
    exact ⟨k, rfl, s2 ρ3 H3 st3 hr3⟩
theorem z_chain {a b c : Expr} {o1 o2 : CmpOp} {pos : Pos} {ea eb ec : Ev} {f g : Mem → PV → PV → Option PV} (h1 : OpR X (compareOp o1) (rOp2 X.K ad f)) (h2 : OpR X (compareOp o2) (rOp2 X.K ad g)) (ha : PE X a (simE X.K ad W ea)) (hb : PE X b (simE X.K ad W eb)) (hc : PE X c (simE X.K ad W ec)) (hm : lastMarks [o1, o2] [b, c] = false) :
    PE X (.Compare a [o1, o2] [b, c] pos) (simE X.K ad W (cChain f g ea eb ec)) := by
  refine PE.imp (pe_chain h1 h2 ha hb hc hm) fun σ H Q h => ?_
  obtain ⟨ρ, R, env, h0, er, hr, s⟩ := h
  refine ⟨ρ, R, env, h0, er, hr, (SimR.bind s).imp fun ρ1 H1 x h1 st1 hr1 s1 x' vx => ?_⟩
  refine ⟨ρ1, R, env, h1, er.mono st1, hr1, (SimR.bind s1).imp fun ρ2 H2 y h2 st2 hr2 s2 y' vy => ?_⟩
  cases ef : f (R ++ h2) x y with
  | none => rw [ef] at s2; exact s2.elim
  | some v =>
    rw [ef] at s2
    cases v <;> first | exact s2.elim | skip
    rename_i k
    refine ⟨ρ2, R ++ h2, x, y, .bl k, hr2, VR.mono st2 _ vx, vy, ef, fun ρ3 H3 v' st3 hr3 vv => ?_⟩
    cases vv
    refine ⟨k, rfl, ?_⟩
    cases k with
    | false => exact s2 ρ3 H3 st3 hr3 _ rfl
    | true =>
      rw [if_pos rfl]
      refine ⟨ρ3, R, env, h2, ((er.mono st1).mono st2).mono st3, hr3, (SimR.bind (SimR.after st3 s2)).imp fun ρ4 H4 z h4 st4 hr4 s4 z' vz => ?_⟩
      obtain ⟨v, e, kk⟩ := SimR.lift s4
      exact ⟨ρ4, R ++ h4, y, z, v, hr4, VR.mono st4 _ (VR.mono st3 _ vy), vz, e, fun ρ5 H5 v' st5 hr5 vv => kk ρ5 H5 st5 hr5 v' vv⟩
theorem z_chainT {a b c : Expr} {o1 o2 : CmpOp} {pos : Pos} {ea eb ec : Ev} {f g : Mem → PV → PV → Option PV} (h1 : OpR X (compareOp o1) (rOp2 X.K ad f)) (h2 : OpR X (compareOp o2) (rOp2 X.K ad g)) (ha : PE X a (simE X.K ad W ea)) (hb : PE X b (simE X.K ad W eb)) (hc : PE X c (simE X.K ad W ec)) (hm : lastMarks [o1, o2] [b, c] = false) :
    PT X (.Compare a [o1, o2] [b, c] pos) (simT X.K ad W (cChainT f g ea eb ec)) := by
  refine PT.imp (pt_chain h1 h2 ha hb hc hm) fun σ H Q h => ?_
  obtain ⟨ρ, R, env, h0, er, hr, s⟩ := h
  refine ⟨ρ, R, env, h0, er, hr, (SimR.bind s).imp fun ρ1 H1 x h1 st1 hr1 s1 x' vx => ?_⟩
  refine ⟨ρ1, R, env, h1, er.mono st1, hr1, (SimR.bind s1).imp fun ρ2 H2 y h2 st2 hr2 s2 y' vy => ?_⟩
  cases ef : f (R ++ h2) x y with
  | none => rw [ef] at s2; exact s2.elim
  | some v =>
    rw [ef] at s2
    cases v <;> first | exact s2.elim | skip
    rename_i k
    refine ⟨ρ2, R ++ h2, x, y, .bl k, hr2, VR.mono st2 _ vx, vy, ef, fun ρ3 H3 v' st3 hr3 vv => ?_⟩
    cases vv
    refine ⟨k, rfl, ?_⟩
    cases k with
    | false => exact ⟨false, rfl, s2 ρ3 H3 st3 hr3⟩
    | true =>
      rw [if_pos rfl]
      refine ⟨ρ3, R, env, h2, ((er.mono st1).mono st2).mono st3, hr3, (SimR.bind (SimR.after st3 s2)).imp fun ρ4 H4 z h4 st4 hr4 s4 z' vz => ?_⟩
      cases eg : g (R ++ h4) y z with
      | none => rw [eg] at s4; exact s4.elim
      | some v =>
        rw [eg] at s4
        cases v <;> first | exact s4.elim | skip
        rename_i k
        refine ⟨ρ4, R ++ h4, y, z, .bl k, hr4, VR.mono st4 _ (VR.mono st3 _ vy), vz, eg, fun ρ5 H5 v' st5 hr5 vv => ?_⟩
        cases vv
        exact ⟨k, rfl, s4 ρ5 H5 st5 hr5⟩
theorem zw_one {op : BoolOp} {a : Expr} {t : EvT} {pos : Pos} (ha : PT X a (simT X.K ad W t)) : PW X (.BoolOp op [a] pos) (simT X.K ad W t) := by
  cases op with
  | And => exact pw_and1 ha
  | Or => exact pw_or1 ha
theorem zw_and {a b : Expr} {rest : List Expr} {t u : EvT} {pos : Pos} (ha : PT X a (simT X.K ad W t)) (hb : PW X (.BoolOp .And (b :: rest) pos) (simT X.K ad W u)) : PW X (.BoolOp .And (a :: b :: rest) pos) (simT X.K ad W (tAnd2 t u)) := by
  refine PW.imp (pw_and ha hb) fun σ H Q h => ?_
  obtain ⟨ρ, R, env, h0, er, hr, s⟩ := h
  refine ⟨ρ, R, env, h0, er, hr, (SimR.bind s).imp fun ρ1 H1 c h1 st1 hr1 s1 => ?_⟩
  cases c with
  | true => exact ⟨ρ1, R, env, h1, er.mono st1, hr1, s1⟩
  | false => exact SimR.here s1 hr1
theorem zw_or {a b : Expr} {rest : List Expr} {t u : EvT} {pos : Pos} (ha : PT X a (simT X.K ad W t)) (hb : PW X (.BoolOp .Or (b :: rest) pos) (simT X.K ad W u)) : PW X (.BoolOp .Or (a :: b :: rest) pos) (simT X.K ad W (tOr2 t u)) := by
  refine PW.imp (pw_or ha hb) fun σ H Q h => ?_
  obtain ⟨ρ, R, env, h0, er, hr, s⟩ := h
  refine ⟨ρ, R, env, h0, er, hr, (SimR.bind s).imp fun ρ1 H1 c h1 st1 hr1 s1 => ?_⟩
  cases c with
  | false => exact ⟨ρ1, R, env, h1, er.mono st1, hr1, s1⟩
  | true => exact SimR.here s1 hr1
theorem zt_not {a : Expr} {t : EvT} {pos : Pos} (ha : PT X a (simT X.K ad W t)) : PT X (.UnaryOp .Not a pos) (simT X.K ad W (tNot1 t)) := by
  refine PT.imp (pt_not ha) fun σ H Q h => ?_
  obtain ⟨ρ, R, env, h0, er, hr, s⟩ := h
  exact ⟨ρ, R, env, h0, er, hr, (SimR.bind s).imp fun ρ1 H1 c h1 st1 hr1 s1 => SimR.here s1 hr1⟩
theorem zts_one {e : Expr} {t : EvT} (h : PT X e (simT X.K ad W t)) : PTs X [e] (simT X.K ad W t) := by
  refine PTs.imp (pts_one h) fun σ H Q h => h
theorem star_plain : ∀ (es : List Expr) (env : Env) (pos : Pos), okArgs es = true → (backTo pos (starEach es env)).any (·.1) = false ∧ (backTo pos (starEach es env)).all (fun x => !x.1) = true
  | [], _, _, _ => ⟨rfl, rfl⟩
  | e :: r, env, pos, h => by
    have h : (!isStar e && okArgs r) = true := h
    rw [Bool.and_eq_true, Bool.not_eq_true'] at h
    rw [starEach_cons h.1]
    exact star_plain r env pos h.2
theorem okArgs_cons {e : Expr} {r : List Expr} (h : okArgs (e :: r) = true) : isStar e = false ∧ okArgs r = true := by
  have h : (!isStar e && okArgs r) = true := h
  rw [Bool.and_eq_true, Bool.not_eq_true'] at h
  exact h
theorem few_ok {e : Expr} {es : List Expr} {env : Env} {cpos : Pos} (h : okArgs (e :: es) = true) (hl : (e :: es).length < 20) : ((backTo cpos (starEach (e :: es) env)).all (fun x => !x.1) && (backToKw cpos (keywordEach [] env)).all (fun x => x.1.isSome) && decide ((e :: es).length + ([] : List Keyword).length + (if ([] : List Keyword).isEmpty then 0 else 1) < 30)) = true := by
  rw [(star_plain (e :: es) env cpos h).2, Bool.and_eq_true, Bool.and_eq_true]
  refine ⟨⟨rfl, rfl⟩, decide_eq_true ?_⟩
  show (e :: es).length + 0 + 0 < 30
  omega
theorem base_ok {o : Expr} {name : Str} {env : Env} (h : isCallN0 o = false) : attributeBase o name env (eval o env) = eval o env := by
  unfold attributeBase
  split
  · cases h
  · rfl
theorem fold_ok {e : Expr} {env : Env} (h : isSetE e = false) (x : Value) : foldedSetIterable e env x = pure x := by
  unfold foldedSetIterable
  split
  · cases h
  · rfl
theorem ix_ok {b : Expr} (h1 : isSlice b = false) (h2 : isTupE b = false) : PlainIx b := by
  intro o i
  cases b <;> first | cases h1; done | cases h2; done | rfl
theorem sub_ok {o i : Expr} {pos : Pos} {env : Env} (h1 : isSlice i = false) (v : Value) : assign (.Subscript o i pos) env v = (do
      let ov ← holding [v] (eval o env)
      let iv ← holding [v, ov] (eval i env)
      standAt pos
      holding [v, ov, iv] (setItem ov iv v)
      release [v, ov, iv] []) := by
  cases i <;> first | cases h1; done | rfl
theorem z_call0 {k np : Nat} {f : Addr} {fd : FuncData} {ps : List Str} {Φ : List PV → Mem → Mem → Res PV} {x : Str} {p pos : Pos} {dfl : List PV} {ds : List Value} {dvs : List V} (F : FnOk X.prog X.w X.K X.mg X.base (L2.CX X.prog X.w) k f fd ps (simSp X.K ad np Φ)) (hr : Room k X.A) (hg : Gl X x) (hm : X.mg x = some (.ref f)) (hk : PySem.W.keepIn X.K (.ref f) = true)
    (hb : Binds X.K fd ps ds) (hd : Vals dvs ds) (hdv : ∀ ρ H, VRs X.K ad ρ H dfl dvs) (hdb : (x == ("__debug__" : Str)) = false) :
    PE X (.Call (.Name x p) [] [] pos) (simE X.K ad W (cCall0 Φ np dfl)) := by
  refine PE.imp (pe_call0 F hr hg hm hk hb hd passL hdb) fun σ H Q h => ?_
  obtain ⟨ρ, R, env, h0, er, hr, s⟩ := h
  unfold cCall0 at s
  by_cases hl : dfl.length = np
  · rw [if_pos hl] at s
    refine ⟨ρ, R, h0, dfl, hdv _ _, hl, hr, ?_⟩
    cases ec : Φ dfl R h0 with
    | ok v h1 => rw [ec] at s; exact s
    | exc c ns vs h1 => rw [ec] at s; exact s.elim
    | bad => rw [ec] at s; exact s.elim
  · rw [if_neg hl] at s; exact s.elim
theorem permOf_rel {vs : List V} {ps : List PV} {K : PySem.W.Frag} {ρ : Rho} {H : Hp} (ks : List Str) (r : VRs K ad ρ H ps vs) : ∀ qs : List Str, VRs K ad ρ H (permOf PV.non qs ks ps) (permOf V.non qs ks vs)
  | [] => rfl
  | q :: qs => by
    have i1 := permOf_rel ks r qs
    unfold permOf at i1 ⊢
    simp only [List.map_cons]
    cases eq : ks.findIdx? (fun k => k == q) with
    | none => exact ⟨_, _, rfl, rfl, i1⟩
    | some i =>
      simp only []
      cases ep : ps[i]? with
      | none =>
        have e1 : vs[i]? = none := by rw [List.getElem?_eq_none_iff] at ep ⊢; rw [← r.length]; exact ep
        rw [e1]
        exact ⟨_, _, rfl, rfl, i1⟩
      | some p =>
        obtain ⟨v, e1, rv⟩ := r.get ep
        rw [e1]
        exact ⟨_, _, rfl, rv, i1⟩
theorem permOf_vals {vs : List V} {us : List Value} (ks : List Str) (w : Vals vs us) : ∀ qs : List Str, Vals (permOf V.non qs ks vs) (permOf Value.none qs ks us)
  | [] => .nil
  | q :: qs => by
    have i2 := permOf_vals ks w qs
    unfold permOf at i2 ⊢
    simp only [List.map_cons]
    cases eq : ks.findIdx? (fun k => k == q) with
    | none => exact .cons rfl i2
    | some i =>
      simp only []
      cases ep : vs[i]? with
      | none => rw [w.none_of ep]; exact .cons rfl i2
      | some v =>
        obtain ⟨u, e2, ru⟩ := w.get ep
        rw [e2]
        exact .cons ru i2
theorem PK.imp {X : Cx} {e : List Keyword} {t t' : TA} (h : PK X e t) (i : ∀ σ H Q, t' σ H Q → t σ H Q) : PK X e t' := ⟨fun pos pins s σ H Q I q => h.run pos pins s σ H Q I (i σ H Q q)⟩
theorem PK.bad {e : List Keyword} : PK X e (simA X.K ad W aBad) := ⟨fun pos pins s σ H Q I h => by obtain ⟨ρ, R, env, h0, er, hr, s⟩ := h; exact s.elim⟩
theorem zk_nil : PK X [] (simA X.K ad W cNil) := by
  refine PK.imp pk_nil fun σ H Q h => ?_
  obtain ⟨ρ, R, env, h0, er, hr, s⟩ := h
  exact SimR.here s hr _ rfl
theorem zk_cons {nm : Option Str} {e : Expr} {kpos : Pos} {kws : List Keyword} {a : Ev} {r : EvA} (ha : PE X e (simE X.K ad W a)) (hr : PK X kws (simA X.K ad W r)) : PK X (⟨nm, e, kpos⟩ :: kws) (simA X.K ad W (cCons a r)) := by
  refine PK.imp (pk_cons ha hr) fun σ H Q h => ?_
  obtain ⟨ρ, R, env, h0, er, hr, s⟩ := h
  refine ⟨ρ, R, env, h0, er, hr, (SimR.bind s).imp fun ρ1 H1 x h1 st1 hr1 s1 x' vx => ?_⟩
  refine ⟨ρ1, R, env, h1, er.mono st1, hr1, (SimR.bind s1).imp fun ρ2 H2 xs h2 st2 hr2 s2 vs rv => ?_⟩
  exact SimR.here s2 hr2 _ ⟨_, _, rfl, VR.mono st2 _ vx, rv⟩
theorem kwNames_ok : ∀ {kws : List Keyword} {ks : List Str} (env : Env) (pos : Pos), kwNames kws = some ks → (backToKw pos (keywordEach kws env)).all (·.1.isSome) = true ∧ (backToKw pos (keywordEach kws env)).filterMap (·.1) = ks ∧ (backToKw pos (keywordEach kws env)).any (·.1.isNone) = false
  | [], ks, env, pos, h => by cases h; exact ⟨rfl, rfl, rfl⟩
  | ⟨some n, v, p⟩ :: r, ks, env, pos, h => by
    cases e : kwNames r with
    | none => rw [kwNames, e] at h; cases h
    | some k =>
      rw [kwNames, e] at h; cases h
      obtain ⟨h1, h2, h3⟩ := kwNames_ok env pos e
      refine ⟨?_, ?_, ?_⟩
      · show (true && _) = true
        exact h1
      · show n :: _ = _
        rw [← h2]; rfl
      · show (false || _) = false
        exact h3
  | ⟨none, v, p⟩ :: r, ks, env, pos, h => by cases h
theorem z_callK {k : Nat} {f : Addr} {fd : FuncData} {ps ks : List Str} {Φ : List PV → Mem → Mem → Res PV} {x : Str} {p pos : Pos} {kws : List Keyword} {a : EvA} (F : FnOk X.prog X.w X.K X.mg X.base (L2.CX X.prog X.w) k f fd ps (simSp X.K ad ps.length Φ)) (hr : Room k X.A) (hg : Gl X x) (hm : X.mg x = some (.ref f)) (hk : PySem.W.keepIn X.K (.ref f) = true)
    (hb : ∀ (s : Shared) (us : List Value), X.K.In s.heap → us.length = ks.length → BindsTo s fd ⟨[], ks.zip us⟩ (ps.zip (permOf Value.none ps ks us))) (tk : Takes X W) (ha : PK X kws (simA X.K ad W a)) (hdb : (x == ("__debug__" : Str)) = false) (hn : kwNames kws = some ks) :
    PE X (.Call (.Name x p) [] kws pos) (simE X.K ad W (cCallK Φ ps ks a)) := by
  refine ⟨fun pins s σ H Q I h => ?_⟩
  obtain ⟨hall, hks, hno⟩ := kwNames_ok X.env pos hn
  refine wpAny_Call_Name_kw (ld_glob I hg hm ?_ hdb)
  have h2 : simA X.K ad W a σ H (fun vs H1 => vs.length = ks.length ∧ simSp X.K ad ps.length Φ (permOf V.non ps ks vs) H1 Q (fun c d H' => W c d σ H')) := by
    obtain ⟨ρ, R, env, h0, er, hr, s⟩ := h
    refine ⟨ρ, R, env, h0, er, hr, (SimR.bind s).imp fun ρ1 H1 xs h1 st1 hr1 s1 vs rv => ?_⟩
    by_cases hl : xs.length = ks.length ∧ (permOf PV.non ps ks xs).length = ps.length
    · rw [if_pos hl] at s1
      have l1 : vs.length = ks.length := by rw [← rv.length]; exact hl.1
      refine ⟨l1, ρ1, R, h1, permOf PV.non ps ks xs, ?_, hl.2, hr1, s1⟩
      exact permOf_rel ks rv ps
    · rw [if_neg hl] at s1; exact s1.elim
  refine PySem.W.callWith_KW0 (h₀ := X.base) I.ok.mod.kin hk hall (thn (ha.run pos pins s σ H _ I h2) fun ws s2 ⟨zs, H2, I2, rz, hl, q2⟩ => ⟨I2.kIn, ?_⟩) (by rw [hno]; rfl)
  rw [hks]
  have lw : ws.length = ks.length := by rw [← rz.length]; exact hl
  have r2 := permOf_vals ks rz ps
  refine wpAny_call (codeAny_mono (F.run X.A X.stack s2 H2 ⟨[], ks.zip ws⟩ (permOf Value.none ps ks ws) (permOf V.non ps ks zs) Q _ hr I2.env0 (hb s2 ws I2.kIn lw) r2 q2) fun r s' hq => ?_)
  cases r with
  | error e => exact passAt tk σ pins H2 s2 e s' I2 hq
  | ok fl =>
    cases fl with
    | ret u => exact I2.after hq
    | next => exact False.elim hq
    | brk => exact False.elim hq
    | cont => exact False.elim hq
theorem z_dic {x : Str} {p pos : Pos} {b : Expr} {eb : Ev} {kvs : List (Str × PV)} {d : Addr} {es : Array DictEntry} {n : Nat} (hg : Gl X x) (hm : X.mg x = some (.ref d)) (D : KDict X.K X.w d es n) (hv : ∀ z, match kvs.lookup z with
    | some v => ∃ u y, PySem.W.nsIn X.K d z = some (some u) ∧ RelV y u ∧ ∀ ρ H, VR X.K ad ρ H v y
    | none => PySem.W.nsIn X.K d z = some none) (hdb : (x == ("__debug__" : Str)) = false) (hb : PE X b (simE X.K ad W eb)) (hs : PlainIx b) :
    PE X (.Subscript (.Name x p) b pos) (simE X.K ad W (cDic kvs eb)) := by
  refine PE.imp (pe_ix ix_kdict (pe_glob (v := .ref d) hg hm rfl hdb) hb hs) fun σ H Q h => ?_
  obtain ⟨ρ, R, env, h0, er, hr, s⟩ := h
  refine ⟨ρ, R, env, h0, er, hr, (SimR.bind s).imp fun ρ1 H1 k h1 st1 hr1 s1 k' vk => ?_⟩
  cases k <;> first | exact s1.elim | skip
  rename_i z
  cases vk
  obtain ⟨v, e, q⟩ := SimR.lift s1
  have h2 := hv z
  rw [e] at h2
  obtain ⟨u, y, e1, e2, e3⟩ := h2
  exact ⟨d, z, y, rfl, rfl, ⟨es, n, u, D.at_, D.lit, e1, e2⟩, q ρ1 H1 (Step.refl _ _) hr1 _ (e3 _ _)⟩
def rInD (K : PySem.W.Frag) (d : Addr) (p : Bool) : R2 := fun x y H Q => ∃ (z : Str) (r : Option Value), x = .str z ∧ y = .ref d ∧ PySem.W.nsIn K d z = some r ∧ Q (.bl (p == r.isSome)) H
theorem o_inD {op : CmpOp} {b : Bool} {d : Addr} {es : Array DictEntry} {n : Nat} (e : opIn op = some b) (D : KDict X.K X.w d es n) : OpR X (compareOp op) (rInD X.K d b) := by
  cases op <;> first | (cases e; done) | skip
  · cases e
    intro pins s σ H x y v u Q I rx ry h
    obtain ⟨z, r, h1, h2, h3, q⟩ := h
    refine op_in_kd D pins s σ H x y v u Q I rx ry ⟨z, r, h1, h2, h3, ?_⟩
    have e1 : (true == r.isSome) = r.isSome := by cases r <;> rfl
    rw [← e1]; exact q
  · cases e
    intro pins s σ H x y v u Q I rx ry h
    obtain ⟨z, r, h1, h2, h3, q⟩ := h
    refine op_notIn_kd D pins s σ H x y v u Q I rx ry ⟨z, r, h1, h2, h3, ?_⟩
    have e1 : (false == r.isSome) = !r.isSome := by cases r <;> rfl
    rw [← e1]; exact q
theorem nsIn_of {K : PySem.W.Frag} {d : Addr} {kvs : List (Str × PV)} {z : Str} (hv : match kvs.lookup z with
    | some v => ∃ u y, PySem.W.nsIn K d z = some (some u) ∧ RelV y u ∧ ∀ ρ H, VR K ad ρ H v y
    | none => PySem.W.nsIn K d z = some none) : ∃ r, PySem.W.nsIn K d z = some r ∧ r.isSome = (kvs.lookup z).isSome := by
  cases e : kvs.lookup z with
  | none => rw [e] at hv; exact ⟨none, hv, rfl⟩
  | some v =>
    rw [e] at hv
    obtain ⟨u, y, e1, _⟩ := hv
    exact ⟨some u, e1, rfl⟩
theorem z_inD {op : CmpOp} {q : Bool} {x : Str} {p pos : Pos} {a : Expr} {ea : Ev} {kvs : List (Str × PV)} {d : Addr} {es : Array DictEntry} {n : Nat} (e : opIn op = some q) (hg : Gl X x) (hm : X.mg x = some (.ref d)) (D : KDict X.K X.w d es n) (hv : ∀ z, match kvs.lookup z with
    | some v => ∃ u y, PySem.W.nsIn X.K d z = some (some u) ∧ RelV y u ∧ ∀ ρ H, VR X.K ad ρ H v y
    | none => PySem.W.nsIn X.K d z = some none) (hdb : (x == ("__debug__" : Str)) = false) (ha : PE X a (simE X.K ad W ea)) (hk : behindInMarks op (.Name x p) = false) :
    PE X (.Compare a [op] [.Name x p] pos) (simE X.K ad W (cInD q kvs ea)) := by
  refine PE.imp (pe_cmpR (o_inD e D) ha (pe_glob (v := .ref d) hg hm rfl hdb) hk) fun σ H Q h => ?_
  obtain ⟨ρ, R, env, h0, er, hr, s⟩ := h
  refine ⟨ρ, R, env, h0, er, hr, (SimR.bind s).imp fun ρ1 H1 k h1 st1 hr1 s1 k' vk => ?_⟩
  cases k <;> first | exact s1.elim | skip
  rename_i z
  cases vk
  obtain ⟨r, e1, e2⟩ := nsIn_of (hv z)
  refine ⟨z, r, rfl, rfl, e1, ?_⟩
  rw [e2]
  exact SimR.here s1 hr1 _ rfl
theorem z_inDT {op : CmpOp} {q : Bool} {x : Str} {p pos : Pos} {a : Expr} {ea : Ev} {kvs : List (Str × PV)} {d : Addr} {es : Array DictEntry} {n : Nat} (e : opIn op = some q) (hg : Gl X x) (hm : X.mg x = some (.ref d)) (D : KDict X.K X.w d es n) (hv : ∀ z, match kvs.lookup z with
    | some v => ∃ u y, PySem.W.nsIn X.K d z = some (some u) ∧ RelV y u ∧ ∀ ρ H, VR X.K ad ρ H v y
    | none => PySem.W.nsIn X.K d z = some none) (hdb : (x == ("__debug__" : Str)) = false) (ha : PE X a (simE X.K ad W ea)) (hk : behindInMarks op (.Name x p) = false) :
    PT X (.Compare a [op] [.Name x p] pos) (simT X.K ad W (tInD q kvs ea)) := by
  refine PT.imp (pt_cmpR (o_inD e D) ha (pe_glob (v := .ref d) hg hm rfl hdb) hk) fun σ H Q h => ?_
  obtain ⟨ρ, R, env, h0, er, hr, s⟩ := h
  refine ⟨ρ, R, env, h0, er, hr, (SimR.bind s).imp fun ρ1 H1 k h1 st1 hr1 s1 k' vk => ?_⟩
  cases k <;> first | exact s1.elim | skip
  rename_i z
  cases vk
  obtain ⟨r, e1, e2⟩ := nsIn_of (hv z)
  refine ⟨z, r, rfl, rfl, e1, _, rfl, ?_⟩
  rw [e2]
  exact SimR.here s1 hr1
theorem dicN_ok {G : Glob} {Φ : Calls} {k : Nat} {S : Sc} (g : Good G Φ k ad S W X) {e : Expr} {kvs : List (Str × PV)} (h : dicN G S e = some kvs) : ∃ x p d es n, e = .Name x p ∧ Gl X x ∧ X.mg x = some (.ref d) ∧ KDict X.K X.w d es n ∧ (∀ z, match kvs.lookup z with
    | some v => ∃ u y, PySem.W.nsIn X.K d z = some (some u) ∧ RelV y u ∧ ∀ ρ H, VR X.K ad ρ H v y
    | none => PySem.W.nsIn X.K d z = some none) ∧ (x == ("__debug__" : Str)) = false := by
  unfold dicN at h
  split at h
  · rename_i x p
    split at h
    · rename_i hh
      obtain ⟨d, es, n, h1, h2, h3⟩ := g.w.dic x kvs h
      exact ⟨x, p, d, es, n, rfl, g.gl hh.1, h1, h2, h3, (noDbg_ok hh.2).1⟩
    · cases h
  · cases h
end
end Z

end
section -- Z19
/-! Z19: the text's expressions, all shapes. -/
namespace Z
open PySem PySem.Spec PyProof.Rows L2

structure Snd (G : Glob) (Φ : Calls) (k : Nat) (ad : Ads) (n : Nat) : Prop where
  e : ∀ (S : Sc) (X : Cx) (W : WX) (x : Expr), Good G Φ k ad S W X → PE X x (simE X.K ad W (evE G Φ n S x))
  t : ∀ (S : Sc) (X : Cx) (W : WX) (x : Expr), Good G Φ k ad S W X → PT X x (simT X.K ad W (evT G Φ n S x))
  w : ∀ (S : Sc) (X : Cx) (W : WX) (op : BoolOp) (es : List Expr) (p : Pos), Good G Φ k ad S W X → PW X (.BoolOp op es p) (simT X.K ad W (evT G Φ n S (.BoolOp op es p)))
  a : ∀ (S : Sc) (X : Cx) (W : WX) (es : List Expr), Good G Φ k ad S W X → PA X es (simA X.K ad W (evA G Φ n S es))
  kw : ∀ (S : Sc) (X : Cx) (W : WX) (es : List Keyword), Good G Φ k ad S W X → PK X es (simA X.K ad W (evA G Φ n S (es.map (·.value))))
  o : ∀ (S : Sc) (X : Cx) (W : WX) (x : Option Expr), Good G Φ k ad S W X → PO X x (simO X.K ad W (evO G Φ n S x))
  ifs : ∀ (S : Sc) (X : Cx) (W : WX) (es : List Expr), Good G Φ k ad S W X → PTs X es (simT X.K ad W (evIfs G Φ n S es))
  i : ∀ (S : Sc) (X : Cx) (W : WX) (tg x : Expr), Good G Φ k ad S W X → PI X tg x (simI X.K ad W (evI G Φ n S tg x))
  g : ∀ (S : Sc) (X : Cx) (W : WX) (x : Expr), Good G Φ k ad S W X → PG X x (simG X.K ad (gSl S.N n x) (evG G Φ n S x))
  gs : ∀ (S : Sc) (X : Cx) (W : WX) (es : List Expr), Good G Φ k ad S W X → okArgs es = true → PGs X es (simGs X.K ad (gSls S.N n es) (evGs G Φ n S es)) ∧ (evGs G Φ n S es).length = es.length

variable {G : Glob} {Φ : Calls} {k : Nat} {ad : Ads} {S : Sc} {X : Cx} {W : WX} {n : Nat}
theorem Good.zero (g : Good G Φ k ad S W X) : Good G Φ k ad S W0 X := ⟨g.w, g.N, g.nd, g.sc, g.raw, g.calm, takes0⟩
theorem Good.blk (g : Good G Φ k ad S W X) (scope : Scope) (s : Shared) (H : Hp) (C : Addr) (cl : List (Str × Addr)) (fp : List Addr) : Good G Φ k ad (S.blk scope) W0 (X.blk s H scope (compEnvC scope cl C X.env) fp) :=
  ⟨g.w, g.N, g.nd, by show relS scope X.env.scope = _; rw [g.sc]; rfl, fun x h => h, g.calm, takes0⟩
theorem Good.hu (g : Good G Φ k ad S W X) : X.A.units + 65 < cLine := Nat.lt_of_le_of_lt (Nat.add_le_add_left (by decide) _) g.w.un
theorem Good.hu2 (g : Good G Φ k ad S W X) : X.A.units + 70 < cLine := Nat.lt_of_le_of_lt (Nat.add_le_add_left (by decide) _) g.w.un

theorem snd_zero : Snd G Φ k ad 0 where
  e _ _ _ _ _ := PE.bad
  t _ _ _ _ _ := PT.bad
  w _ _ _ _ _ _ _ := PW.bad
  a _ _ _ _ _ := PA.bad
  kw _ _ _ _ _ := PK.bad
  o _ _ _ _ _ := PO.bad
  ifs _ _ _ _ _ := PTs.bad
  i _ _ _ _ _ _ := PI.bad
  g _ _ _ _ _ := PG.bad
  gs S X W es g ho := by
    cases es with
    | nil => exact ⟨zgs_nil, rfl⟩
    | cons a r => exact ⟨PGs.bad (by simp), by simp [evGs]⟩
theorem built_okG (g : Good G Φ k ad S W X) {x : Str} {b : Mem → List PV → Option PV} (e : builtG G x = some b) :
    (∃ id, bootBuiltins x = some (.builtin id) ∧ CallR X (.builtin id) (rFn X.K ad b)) ∨ (∃ T, bootBuiltins x = some (.type T) ∧ CallR X (.type T) (rFn X.K ad b)) := by
  unfold builtG at e
  rcases ite_some e with ⟨h, hg⟩ | e
  · rw [eq_of_beq h, ← hg]
    exact .inl ⟨"isinstance", boot_isinstance, b_isiX (fun c d b e => ⟨(g.w.sub c d b e).1, (g.w.sub c d b e).2.1⟩) (fun c n b e => g.w.subT c n b e)⟩
  · exact built_ok (ad := ad) g.calm g.hu2 e
theorem z_callS (I : Snd G Φ k ad n) (g : Good G Φ k ad S W X) (o i : Expr) (p : Pos) (a : Expr) (r : List Expr) (cpos : Pos) (ho : okArgs (a :: r) = true) :
    PE X (.Call (.Subscript o i p) (a :: r) [] cpos) (simE X.K ad W (cCallV G.np Φ (evE G Φ n S (.Subscript o i p)) (evA G Φ n S (a :: r)))) := by
  refine ⟨fun pins s σ H Q J h => ?_⟩
  have h1 : simE X.K ad W (evE G Φ n S (.Subscript o i p)) σ H (fun v H1 => ∃ f F, v = .ref (ad.fn f) ∧ G.fn? f = some F ∧ F.dfl = [] ∧ simA X.K ad W (evA G Φ n S (a :: r)) σ H1 (fun vs H2 => simSp X.K ad F.ps.length (Φ f) vs H2 Q (fun c d H' => W c d σ H'))) := by
    obtain ⟨ρ, R, env, h0, er, hr, s⟩ := h
    refine ⟨ρ, R, env, h0, er, hr, (SimR.bind s).imp fun ρ1 H1 v h1 st1 hr1 s1 v' vr => ?_⟩
    cases v with
    | fn f =>
      cases vr
      dsimp only at s1
      cases eN : G.np f with
      | none => rw [eN] at s1; exact s1.elim
      | some kk =>
        rw [eN] at s1
        dsimp only at s1
        unfold Glob.np at eN
        cases eF : G.fn? f with
        | none => rw [eF] at eN; cases eN
        | some F =>
          rw [eF] at eN
          dsimp only at eN
          by_cases hd : F.dfl = []
          · rw [if_pos hd] at eN
            cases eN
            refine ⟨f, F, rfl, eF, hd, ρ1, R, env, h1, er.mono st1, hr1, (SimR.bind s1).imp fun ρ2 H2 xs h2 st2 hr2 s2 vs rv => ?_⟩
            by_cases hl : xs.length = F.ps.length
            · rw [if_pos hl] at s2
              exact ⟨ρ2, R, h2, xs, rv, hl, hr2, s2⟩
            · rw [if_neg hl] at s2; exact s2.elim
          · rw [if_neg hd] at eN; cases eN
    | _ => exact s1.elim
  have ev : eval (.Call (.Subscript o i p) (a :: r) [] cpos) X.env = (do callWith cpos (← eval (.Subscript o i p) X.env) [] (backTo cpos (starEach (a :: r) X.env)) (backToKw cpos (keywordEach [] X.env))) := rfl
  rw [ev]
  refine wpAny_bind (thn ((I.e S X W _ g).run pins s σ H _ J h1) fun u s1 z => ?_)
  obtain ⟨v, H1, J1, r1, f, F, rfl, eF, hd, q1⟩ := z
  obtain ⟨f0, fd, m1, m2, m3, m4, m5⟩ := g.w.fns f F eF
  have em := g.w.fnv f F eF
  rw [m1] at em
  have ef : f0 = ad.fn f := Value.ref.inj (Option.some.inj em)
  subst ef
  cases r1
  obtain ⟨dvs, ds, w1, w2, w3⟩ := m4 0 (Nat.zero_le _)
  rw [List.drop_zero, hd] at w2
  have edv : dvs = [] := w2 ⟨[], []⟩ (fun _ => none)
  subst edv
  cases w1
  refine PySem.W.callWith_K (h₀ := X.base) J.ok.mod.kin m2 (thn ((I.a S X W _ g).run cpos pins s1 σ H1 _ J1 q1) fun us s2 ⟨vs, H2, J2, rv, q2⟩ => ⟨J2.kIn, ?_⟩) (starEach_cons (okArgs_cons ho).1 _ _) (star_plain r X.env cpos (okArgs_cons ho).2).1
  refine wpAny_call (codeAny_mono (m3.run X.A X.stack s2 H2 ⟨us, []⟩ us vs Q _ g.w.room J2.env0 ?_ rv q2) fun r s' hq => ?_)
  · have hl : us.length = F.ps.length := by rw [← rv.length]; exact m3.len _ _ _ _ q2
    have := w3 s2 us J2.kIn (by rw [List.append_nil]; exact hl)
    rw [List.append_nil] at this
    exact this
  · cases r with
    | error e => exact passAt g.tk σ pins H2 s2 e s' J2 hq
    | ok fl =>
      cases fl with
      | ret u => exact J2.after hq
      | next => exact False.elim hq
      | brk => exact False.elim hq
      | cont => exact False.elim hq
theorem z_callE (I : Snd G Φ k ad n) (g : Good G Φ k ad S W X) (x : Str) (p : Pos) (args : List Expr) (kws : List Keyword) (cpos : Pos) : PE X (.Call (.Name x p) args kws cpos) (simE X.K ad W (evE G Φ (n + 1) S (.Call (.Name x p) args kws cpos))) := by
  rw [evE]
  split
  · rename_i hg
    obtain ⟨d1, d2, d3⟩ := noDbg_ok hg.2
    split
    · rename_i F eF
      obtain ⟨f, fd, h1, h2, h3, h4, h5⟩ := g.w.fns x F eF
      split
      · split
        · obtain ⟨dvs, ds, q1, q2, q3⟩ := h4 (0 + F.dfl.length - F.ps.length) (by omega)
          exact z_call0 h3 g.w.room (g.gl hg.1) h1 h2 q3 q1 q2 d1
        · rename_i a r
          split
          · rename_i ho
            by_cases hj : (a :: r).length + F.dfl.length - F.ps.length ≤ F.dfl.length
            · obtain ⟨dvs, ds, q1, q2, q3⟩ := h4 _ hj
              exact z_call h3 g.w.room (g.gl hg.1) h1 h2 q3 q1 q2 g.tk (I.a S X W _ g) d1 (okArgs_cons ho).1 (star_plain r X.env cpos (okArgs_cons ho).2).1
            · have e0 : F.dfl.drop ((a :: r).length + F.dfl.length - F.ps.length) = F.dfl.drop F.dfl.length := by rw [List.drop_length, List.drop_eq_nil_of_le (by omega)]
              obtain ⟨dvs, ds, q1, q2, q3⟩ := h4 F.dfl.length (Nat.le_refl _)
              unfold dflFor
              rw [e0]
              exact z_call h3 g.w.room (g.gl hg.1) h1 h2 q3 q1 q2 g.tk (I.a S X W _ g) d1 (okArgs_cons ho).1 (star_plain r X.env cpos (okArgs_cons ho).2).1
          · exact PE.bad
      · split
        · split
          · rename_i ks ek
            split
            · rename_i hk
              exact z_callK h3 g.w.room (g.gl hg.1) h1 h2 (h5 ks (List.contains_iff_mem.mp hk)) g.tk (I.kw S X W _ g) d1 ek
            · exact PE.bad
          · exact PE.bad
        · exact PE.bad
    · split
      · rename_i E eE
        obtain ⟨en, F⟩ := g.w.exs x E eE
        have hr2 : Room 2 X.A := g.w.room.mono (Nat.le_trans (by decide) g.w.big)
        have F' : ExF X.prog X.w X.K X.mg X.base (ad.cls E.name) E := by rw [en]; exact F
        split
        · split
          · refine z_mkx (E := E) fun pins s σ H Q I h => pmk_ex0 F' en.symm hr2 (g.gl hg.1) d1 pins s σ H Q I ?_
            obtain ⟨ρ, R, env, h0, er, hr, s⟩ := h
            exact (SimR.here s hr) [] rfl
          · rename_i a r
            split
            · rename_i ho
              exact z_mkx (pmk_ex F' en.symm hr2 (g.gl hg.1) (I.a S X W _ g) d1 (starEach_cons (okArgs_cons ho).1 _ _) (star_plain r X.env cpos (okArgs_cons ho).2).1)
            · exact PE.bad
        · split
          · split
            · rename_i ho
              obtain ⟨hall, hks, hno⟩ := kwNames_ok X.env cpos ho.1
              exact z_mkx (pmk_exK F' en.symm ho.2 hr2 (g.gl hg.1) (I.kw S X W _ g) d1 hall hks hno)
            · exact PE.bad
          · exact PE.bad
      split
      · rename_i hf
        have hk : kws = [] := List.isEmpty_iff.mp hf.2
        subst hk
        split
        · rename_i b eb
          split
          · exact PE.bad
          · rename_i a r
            split
            · rename_i ho
              have h1 := (star_plain r X.env cpos (okArgs_cons ho).2).1
              rcases built_okG g eb with ⟨id, q1, q2⟩ | ⟨T, q1, q2⟩
              · exact PE.imp (pe_callB q2 (g.gl hg.1) (g.w.fre x hf.1) q1 (I.a S X W _ g) d3 d1 (starEach_cons (okArgs_cons ho).1 _ _) h1) fun _ _ _ h => sim_fn h
              · exact PE.imp (pe_callTy q2 (g.gl hg.1) (g.w.fre x hf.1) q1 (I.a S X W _ g) d3 d1 (starEach_cons (okArgs_cons ho).1 _ _) h1) fun _ _ _ h => sim_fn h
            · exact PE.bad
        · exact PE.bad
      · exact PE.bad
  · exact PE.bad
theorem z_methE (I : Snd G Φ k ad n) (g : Good G Φ k ad S W X) (o : Expr) (m : Str) (apos : Pos) (args : List Expr) (kws : List Keyword) (cpos : Pos) : PE X (.Call (.Attribute o m apos) args kws cpos) (simE X.K ad W (evE G Φ (n + 1) S (.Call (.Attribute o m apos) args kws cpos))) := by
  unfold evE
  dsimp only
  split
  · rename_i hh
    obtain ⟨h1, h2, h3, h4, h5⟩ := hh
    have hk : kws = [] := List.isEmpty_iff.mp h1
    subst hk
    split
    · split
      · rename_i e
        have e := eq_of_beq e
        subst e
        exact z_pop0 F.slot_list_pop F.type_list_pop (I.e S X W o g) (base_ok h4) h3
      · exact PE.bad
    · rename_i a r
      have q1 := few_ok (env := X.env) (cpos := cpos) h2 h5
      have q2 := starEach_cons (okArgs_cons h2).1 r X.env
      have q3 := (star_plain r X.env cpos (okArgs_cons h2).2).1
      split
      · rename_i e; have e := eq_of_beq e; subst e
        exact mut_ok F.slot_list_append F.type_list_append mt_append (fun ρ H m zs xs ys v l vz vx Q => m_append) (I.e S X W o g) (I.a S X W _ g) (base_ok h4) q1 h3 q2 q3
      split
      · rename_i e; have e := eq_of_beq e; subst e
        refine mut_ok F.slot_list_pop F.type_list_pop mt_popAt (fun ρ H m zs xs ys v l vz vx Q hr el rz rx e kk => ?_) (I.e S X W o g) (I.a S X W _ g) (base_ok h4) q1 h3 q2 q3
        cases xs with
        | nil => cases e
        | cons x r => exact m_popAt hr el rz rx (by simp) e kk
      split
      · rename_i e; have e := eq_of_beq e; subst e
        exact mut_ok F.slot_list_extend F.type_list_extend mt_extend (fun ρ H m zs xs ys v l vz vx Q => m_extend) (I.e S X W o g) (I.a S X W _ g) (base_ok h4) q1 h3 q2 q3
      split
      · rename_i e; have e := eq_of_beq e; subst e
        exact strm_ok F.slot_str_join F.type_str_join mt_join (fun ρ H m p v xs x vx Q => m_join) (I.e S X W o g) (I.a S X W _ g) (base_ok h4) q1 h3 q2 q3
      split
      · rename_i e; have e := eq_of_beq e; subst e
        exact strm_ok F.slot_str_split F.type_str_split mt_split (fun ρ H m p v xs x vx Q => m_split) (I.e S X W o g) (I.a S X W _ g) (base_ok h4) q1 h3 q2 q3
      · exact PE.bad
  · exact PE.bad
end Z

end
section -- Z20
/-! Z20: the text's expressions, all depths. -/
namespace Z
open PySem PySem.Spec PyProof.Rows L2
variable {G : Glob} {Φ : Calls} {k : Nat} {ad : Ads} {S : Sc} {X : Cx} {W : WX} {n : Nat}

theorem se_bool (I : Snd G Φ k ad n) (g : Good G Φ k ad S W X) (op : BoolOp) (es : List Expr) (p : Pos) : PE X (.BoolOp op es p) (simE X.K ad W (evE G Φ (n + 1) S (.BoolOp op es p))) := by
  unfold evE
  dsimp only
  match es, op with
  | [], _ => exact PE.bad
  | [a], _ => exact pe_one (I.e S X W a g)
  | a :: b :: r, .And => exact z_andV (I.e S X W a g) (I.e S X W _ g)
  | a :: b :: r, .Or => exact z_orV (I.e S X W a g) (I.e S X W _ g)
theorem se_cmp (I : Snd G Φ k ad n) (g : Good G Φ k ad S W X) (a : Expr) (ops : List CmpOp) (bs : List Expr) (p : Pos) : PE X (.Compare a ops bs p) (simE X.K ad W (evE G Φ (n + 1) S (.Compare a ops bs p))) := by
  unfold evE
  dsimp only
  split
  · split
    · split
      · rename_i hm _ _ kvs q e1 e2
        obtain ⟨x, p, d, es, n, rfl, h1, h2, h3, h4, h5⟩ := dicN_ok g e1
        exact z_inD e2 h1 h2 h3 h4 h5 (I.e S X W _ g) hm
      · exact z_cmp (cmp_ok g.hu _) (I.e S X W _ g) (I.e S X W _ g) (by assumption)
    · exact PE.bad
  · split
    · exact z_chain (cmp_ok g.hu _) (cmp_ok g.hu _) (I.e S X W _ g) (I.e S X W _ g) (I.e S X W _ g) (by assumption)
    · exact PE.bad
  · exact PE.bad
theorem st_cmp (I : Snd G Φ k ad n) (g : Good G Φ k ad S W X) (a : Expr) (ops : List CmpOp) (bs : List Expr) (p : Pos) : PT X (.Compare a ops bs p) (simT X.K ad W (evT G Φ (n + 1) S (.Compare a ops bs p))) := by
  unfold evT
  dsimp only
  split
  · split
    · split
      · rename_i hm _ _ kvs q e1 e2
        obtain ⟨x, p, d, es, n, rfl, h1, h2, h3, h4, h5⟩ := dicN_ok g e1
        exact z_inDT e2 h1 h2 h3 h4 h5 (I.e S X W _ g) hm
      · exact z_cmpT (cmp_ok g.hu _) (I.e S X W _ g) (I.e S X W _ g) (by assumption)
    · exact PT.bad
  · split
    · exact z_chainT (cmp_ok g.hu _) (cmp_ok g.hu _) (I.e S X W _ g) (I.e S X W _ g) (I.e S X W _ g) (by assumption)
    · exact PT.bad
  · exact PT.bad
theorem se_sub (I : Snd G Φ k ad n) (g : Good G Φ k ad S W X) (a b : Expr) (p : Pos) : PE X (.Subscript a b p) (simE X.K ad W (evE G Φ (n + 1) S (.Subscript a b p))) := by
  unfold evE
  dsimp only
  split
  · exact z_sl (I.e S X W _ g) (I.o S X W _ g) (I.o S X W _ g)
  · split
    · rename_i h
      split
      · rename_i kvs e1
        obtain ⟨x, p, d, es, n, rfl, h1, h2, h3, h4, h5⟩ := dicN_ok g e1
        exact z_dic h1 h2 h3 h4 h5 (I.e S X W _ g) (ix_ok h.1 h.2)
      · exact z_ix o_ix (I.e S X W _ g) (I.e S X W _ g) (ix_ok h.1 h.2)
    · exact PE.bad
theorem se_lc (I : Snd G Φ k ad n) (g : Good G Φ k ad S W X) (elt : Expr) (gens : List Comprehension) (scope : Scope) (p : Pos) : PE X (.ListComp elt gens scope p) (simE X.K ad W (evE G Φ (n + 1) S (.ListComp elt gens scope p))) := by
  unfold evE
  dsimp only
  split
  · rename_i tg it ifs
    split
    · rename_i h
      obtain ⟨h1, h2, h3⟩ := h
      refine z_lc (is := gSl S.N n tg) g.calm (by rw [g.N]; exact g.nd) (I.i S X W tg it g) (by rw [g.N, g.sc]; exact blkOk_by h1) (fun s H C cl fp => I.g _ _ W0 tg (g.blk scope s H C cl fp)) (fun s H C cl fp => I.ifs _ _ _ ifs (g.blk scope s H C cl fp))
        (fun s H C cl fp => I.e _ _ _ elt (g.blk scope s H C cl fp)) (fold_ok h2) fun j hj => ?_
      rw [List.all_eq_true] at h3
      exact List.contains_iff_mem.mp (h3 j hj)
    · exact PE.bad
  · exact PE.bad
theorem snd_succ (I : Snd G Φ k ad n) : Snd G Φ k ad (n + 1) where
  e S X W x g := by
    cases x with
    | Name x p => exact z_name g x p
    | Constant c j p => exact z_constE c j p
    | BinOp a op b p =>
      unfold evE
      dsimp only
      split
      · rename_i f ef; exact z_op2 (bin_ok ef) (I.e S X W a g) (I.e S X W b g)
      · exact PE.bad
    | UnaryOp op a p =>
      cases op with
      | USub => exact z_un o_neg (I.e S X W a g)
      | Not => exact z_notV (I.e S X W a g)
      | _ => exact PE.bad
    | BoolOp op es p => exact se_bool I g op es p
    | IfExp t a b p => exact z_if (I.t S X W t g) (I.e S X W a g) (I.e S X W b g)
    | Compare a ops bs p => exact se_cmp I g a ops bs p
    | Tuple es x p => exact z_tup (I.a S X W es g)
    | List es p => exact z_lst (I.a S X W es g)
    | Subscript a b p => exact se_sub I g a b p
    | ListComp elt gens scope p => exact se_lc I g elt gens scope p
    | Call f args kws p =>
      cases f with
      | Name x q => exact z_callE I g x q args kws p
      | Attribute o m q => exact z_methE I g o m q args kws p
      | Subscript o i q =>
        unfold evE
        dsimp only
        split
        · split
          · rename_i ho; exact z_callS I g o i q _ _ p ho
          · exact PE.bad
        · exact PE.bad
      | _ => exact PE.bad
    | Attribute o f p =>
      unfold evE
      dsimp only
      split
      · rename_i h
        refine z_attrX (fun c f e => ?_) (I.e S X W o g) (base_ok h)
        unfold Glob.fldOf at e
        cases eE : G.exc? c with
        | none => rw [eE] at e; cases e
        | some E =>
          rw [eE] at e
          cases e
          obtain ⟨en, F⟩ := g.w.exs c E eE
          exact ⟨F.xf, F.no⟩
      · exact PE.bad
    | _ => exact PE.bad
  t S X W x g := by
    cases x with
    | BoolOp op es p =>
      refine PW.pt ?_
      unfold evT
      dsimp only
      match es, op with
      | [], _ => exact PW.bad
      | [a], _ => exact zw_one (I.t S X W a g)
      | a :: b :: r, .And => exact zw_and (I.t S X W a g) (I.w S X W .And (b :: r) p g)
      | a :: b :: r, .Or => exact zw_or (I.t S X W a g) (I.w S X W .Or (b :: r) p g)
    | UnaryOp op a p =>
      cases op with
      | Not => exact zt_not (I.t S X W a g)
      | _ => exact PT.bad
    | Compare a ops bs p => exact st_cmp I g a ops bs p
    | Name x p => exact z_truth (I.e S X W _ g) (fun _ => rfl)
    | Call f a kk p => exact z_truth (I.e S X W _ g) (fun _ => rfl)
    | Subscript a b p => exact z_truth (I.e S X W _ g) (fun _ => rfl)
    | Constant c j p => exact z_truth (I.e S X W _ g) (fun _ => rfl)
    | _ => exact PT.bad
  w S X W op es p g := by
    unfold evT
    try dsimp only
    match es, op with
    | [], _ => exact PW.bad
    | [a], _ => exact zw_one (I.t S X W a g)
    | a :: b :: r, .And => exact zw_and (I.t S X W a g) (I.w S X W .And (b :: r) p g)
    | a :: b :: r, .Or => exact zw_or (I.t S X W a g) (I.w S X W .Or (b :: r) p g)
  a S X W es g := by
    cases es with
    | nil => exact z_nil
    | cons e r =>
      unfold evA
      dsimp only
      split
      · rename_i h; exact z_cons (I.e S X W e g) (I.a S X W r g) (starEach_cons h _ _)
      · exact PA.bad
  kw S X W es g := by
    cases es with
    | nil => exact zk_nil
    | cons e r =>
      obtain ⟨nm, v, kp⟩ := e
      show PK X _ (simA X.K ad W (evA G Φ (n + 1) S (v :: r.map (·.value))))
      unfold evA
      dsimp only
      split
      · exact zk_cons (I.e S X W v g) (I.kw S X W r g)
      · exact PK.bad
  o S X W x g := by
    cases x with
    | none => exact z_onone
    | some e => exact z_osome (I.e S X W e g)
  ifs S X W es g := by
    unfold evIfs
    try dsimp only
    match es with
    | [] => exact z_tyes
    | [e] => exact zts_one (I.t S X W e g)
    | _ :: _ :: _ => exact PTs.bad
  i S X W tg x g := by
    unfold evI
    try dsimp only
    split
    · split
      · rename_i hx
        have hx := eq_of_beq hx
        subst hx
        split
        · rename_i h
          exact zi_range1 (g.gl h.1) (g.w.fre _ h.2.2.1) (I.a S X W _ g) h.2.2.2
        · exact PI.bad
      · split
        · rename_i hx
          have hx := eq_of_beq hx
          subst hx
          split
          · rename_i h
            obtain ⟨h1, h2, h3, h4, h5⟩ := h
            cases tg <;> first | cases h5; done | skip
            exact zi_enum (g.gl h1) (g.w.fre _ h3) (I.a S X W _ g) h4
          · exact PI.bad
        · exact zi_val (I.e S X W _ g)
    · split
      · rename_i hx
        have hx := eq_of_beq hx
        subst hx
        split
        · rename_i h
          exact zi_range2 (g.gl h.1) (g.w.fre _ h.2.2.1) (I.a S X W _ g) h.2.2.2.1 h.2.2.2.2
        · exact PI.bad
      · split
        · rename_i hx
          have hx := eq_of_beq hx
          subst hx
          split
          · rename_i h
            obtain ⟨h1, h2, h3, h4, h5, h6⟩ := h
            cases tg <;> first | cases h6; done | skip
            exact zi_zip (g.gl h1) (g.w.fre _ h3) (I.a S X W _ g) h4 h5
          · exact PI.bad
        · exact zi_val (I.e S X W _ g)
    · exact zi_val (I.e S X W _ g)
  g S X W x g := by
    unfold evG
    try dsimp only
    split
    · rename_i x p
      unfold gSl
      dsimp only
      split
      · rename_i i ei
        split
        · rename_i h
          refine zg_name (by rw [g.N]; exact g.nd) (by rw [g.N]; exact slotOf_ok ei) (by rw [g.sc]; exact isLoc_ok h.1) ?_
          rcases Bool.or_eq_true _ _ ▸ h.2 with h | h
          · exact .inl (g.raw x h)
          · exact .inr (by rw [g.sc]; exact eq_of_beq h)
        · exact PG.bad
      · exact PG.bad
    · rename_i es x p
      unfold gSl
      dsimp only
      split
      · rename_i h
        obtain ⟨q1, q2⟩ := I.gs S X W es g h
        exact zg_tup g.calm q1 h q2
      · exact PG.bad
    · rename_i o i p
      unfold gSl
      dsimp only
      split
      · rename_i h
        exact zg_sub (I.e S X W0 o g.zero) (I.e S X W0 i g.zero) (sub_ok h.1)
      · exact PG.bad
    · exact PG.bad
  gs S X W es g ho := by
    cases es with
    | nil => exact ⟨by unfold evGs gSls; exact zgs_nil, rfl⟩
    | cons e r =>
      obtain ⟨q1, q2⟩ := I.gs S X W r g (okArgs_cons ho).2
      unfold evGs gSls
      exact ⟨zgs_cons (I.g S X W e g) q1 (okArgs_cons ho).1, by simp [q2]⟩
theorem snd_all : ∀ n, Snd G Φ k ad n
  | 0 => snd_zero
  | n + 1 => snd_succ (snd_all n)
end Z

end
section -- Z21
/-! Z21: what statements mean, by our values. -/
namespace Z
open PySem PySem.Spec PyProof.Rows L2

/-- values that go into a variable whose list will change -/
def evM (G : Glob) (Φ : Calls) : Nat → Sc → Expr → Ev
  | 0, _, _ => cBad
  | n + 1, S, e => match e with
    | .List es _ => cNew (evA G Φ n S es)
    | .Call (.Name x p) [a] [] q => if x == ("list" : Str) then (if isGlo S.sc x = true ∧ G.fn? x = none ∧ G.free.contains x = true ∧ isStar a = false then cNew (aList (evA G Φ n S [a])) else cBad) else evE G Φ n S (.Call (.Name x p) [a] [] q)
    | .Call (.Attribute o m apos) [a] [] cpos => if (m == ("split" : Str)) = true ∧ isStar a = false ∧ lineOk apos cpos = true ∧ isCallN0 o = false then cNew (aSplit (evE G Φ n S o) (evA G Φ n S [a])) else evE G Φ n S (.Call (.Attribute o m apos) [a] [] cpos)
    | .BoolOp .Or [a, b] _ => cOrV (evM G Φ n S a) (evM G Φ n S b)
    | .IfExp t a b _ => cIf (evT G Φ n S t) (evM G Φ n S a) (evM G Φ n S b)
    | e => evE G Φ n S e
def evV (G : Glob) (Φ : Calls) (n : Nat) (S : Sc) (m : Bool) (e : Expr) : Ev := if m = true then evM G Φ n S e else evE G Φ n S e
/-- name, name = value, value; by flags -/
def evVs (G : Glob) (Φ : Calls) (n : Nat) (S : Sc) : List Bool → List Expr → EvA
  | m :: ms, e :: es => if isStar e = false then cCons (evV G Φ n S m e) (evVs G Φ n S ms es) else aBad
  | _, [] => cNil
  | [], _ :: _ => aBad
def isCompE : Expr → Bool
  | .ListComp _ _ _ _ => true
  | .SetComp _ _ _ _ => true
  | .DictComp _ _ _ _ _ => true
  | _ => false
def isTargE : Expr → Bool
  | .Name _ _ => true
  | .Subscript _ _ _ => true
  | _ => false
def isMut (S : Sc) (e : Expr) : Bool := match e with
  | .Name x _ => S.muts.contains x
  | _ => false
def sPar2 (i j : Nat) (a : EvA) : EvS := fun R env h => (a R env h).go env fun vs h1 => match vs with
  | [v, w] => .nx ((env.set i (some v)).set j (some w)) h1
  | _ => .bad
def sPar3 (i j l : Nat) (a : EvA) : EvS := fun R env h => (a R env h).go env fun vs h1 => match vs with
  | [u, v, w] => .nx (((env.set i (some u)).set j (some v)).set l (some w)) h1
  | _ => .bad
def ipF : Operator → Option (Int → Int → Int)
  | .Add => some fun i j => i + j
  | .Sub => some fun i j => i - j
  | _ => none
def sAug (i : Nat) (f : Int → Int → Int) (a : Ev) : EvS := fun R env h => match env[i]? with
  | some (some (.int x)) => (a R env h).go env fun v h1 => match v with
    | .int y => .nx (env.set i (some (.int (f x y)))) h1
    | _ => .bad
  | _ => .bad
def isFunK (sc : Scope) : Bool := match sc.kind with
  | .function => true
  | _ => false
/-- a swap of stores is made here -/
def parOk (S : Sc) (xs : List (Str × Pos)) (vs : List Expr) : Bool :=
  isFunK S.sc && ((xs.all fun x => isLocal S.sc x.1) && ((xs.all fun x => x.2.line == (xs.head?.map (·.2.line)).getD 0) && ((xs.map (·.1)).eraseDups.length == xs.length && (!(vs.any isStar) && (!(vs.all (foldedForSure 8)) && !(vs.all (constantsAlone 8)))))))
where isLocal (sc : Scope) (x : Str) : Bool := match sc.names.lookup x with
  | some .local => true
  | _ => false
/-- none is made -/
def seqOk (vs : List Expr) : Bool := !(vs.any isStar) && vs.all (foldedForSure 8)
def swapB (S : Sc) (x : Str) (px : Pos) (vp : Pos) (scope : Scope) : Bool :=
  isFunK S.sc && (parOk.isLocal S.sc x && (px.line == vp.line && !(scope.names.any fun y => y.1 == x && (y.2 == .local || y.2 == .cell))))
/-- what may stand in an except suite -/
def evQE (G : Glob) (S : Sc) : Expr → Ev
  | .Name x _ => if isVis S.sc x = true then (match slotOf S.N x with
    | some i => if noDbg x = true then cVar i else cBad
    | none => cBad) else cBad
  | .Constant c _ _ => match constV c with
    | some v => cC v
    | none => cBad
  | .Attribute (.Name x _) f _ => if isVis S.sc x = true then (match slotOf S.N x with
    | some i => if noDbg x = true then cAttr G.fldOf f (cVar i) else cBad
    | none => cBad) else cBad
  | _ => cBad
def evQ (G : Glob) (S : Sc) : Stmt → EvS
  | .Pass _ => sPass
  | .Return (some e) _ => sRet (evQE G S e)
  | .Assign [.Name x _] e _ => if isCompE e = false then (match slotOf S.N x with
    | some i => if isLoc S.sc x = true ∧ (S.sc.names.lookup x == some .local) = true then sAsg (gName i) (evQE G S e) else sBad
    | none => sBad) else sBad
  | _ => sBad
def evQs (G : Glob) (S : Sc) : List Stmt → EvS
  | [] => sPass
  | st :: r => sSeq (evQ G S st) (evQs G S r)
mutual
def evS (G : Glob) (Φ : Calls) : Nat → Sc → Stmt → EvS
  | 0, _, _ => sBad
  | n + 1, S, st => match st with
    | .Pass _ => sPass
    | .Break _ => sBrk
    | .Continue _ => sCt
    | .Return none _ => sRetN
    | .Return (some e) _ => sRet (evV G Φ n S (S.muts.contains ("return" : Str)) e)
    | .Expr e _ => if isCompE e = false then sExpr (evE G Φ n S e) else sBad
    | .If c a b _ => sIf (evT G Φ n S c) (evSs G Φ n S a) (evSs G Φ n S b)
    | .While c b [] _ => sWhile (evT G Φ n S c) (evSs G Φ n S b)
    | .For tg it b [] _ => if isSetE it = false then sFor (evI G Φ n S tg it) (evG G Φ n S tg) (evSs G Φ n S b) else sBad
    | .Assign [tg] e pos => match tg with
      | .Name x px => match e with
        | .ListComp elt gens scope vp => match gens with
          | [⟨tg2, it, ifs, 0⟩] =>
            if swapB S x px vp scope = true then (match slotOf S.N x with
              | some y => if blkC S.N S.sc scope (ownOf S.N scope) = true ∧ isSetE it = false ∧ ((gSl S.N n tg2).all fun i => ((ownOf S.N scope).map (·.2)).contains i) = true then
                  sAsg (gName y) (cLc ((ownOf S.N scope).map (·.2)) (evI G Φ n S tg2 it) (evG G Φ n (S.blk scope) tg2) (evIfs G Φ n (S.blk scope) ifs) (evE G Φ n (S.blk scope) elt))
                else sBad
              | none => sBad)
            else if isFunK S.sc = true then sAsg (evG G Φ n S (.Name x px)) (evE G Φ n S (.ListComp elt gens scope vp)) else sBad
          | _ => sBad
        | e => if isCompE e = false then sAsg (evG G Φ n S (.Name x px)) (evV G Φ n S (S.muts.contains x) e) else sBad
      | .Subscript o i p => if isCompE e = false then sAsg (evG G Φ n S (.Subscript o i p)) (evE G Φ n S e) else sBad
      | .Tuple ts kt pt => match e with
        | .Tuple vs _ _ => match ts, vs with
          | [.Name x px, .Name y py], [a, b] => match slotOf S.N x, slotOf S.N y with
            | some i, some j => if parOk S [(x, px), (y, py)] [a, b] = true ∧ i ≠ j then sPar2 i j (evVs G Φ n S [S.muts.contains x, S.muts.contains y] [a, b])
              else if seqOk [a, b] = true then sAsg (evG G Φ n S (.Tuple [.Name x px, .Name y py] kt pt)) (cFn fTup (evVs G Φ n S [S.muts.contains x, S.muts.contains y] [a, b])) else sBad
            | _, _ => sBad
          | [.Name x px, .Name y py, .Name z pz], [a, b, c] => match slotOf S.N x, slotOf S.N y, slotOf S.N z with
            | some i, some j, some l => if parOk S [(x, px), (y, py), (z, pz)] [a, b, c] = true ∧ i ≠ j ∧ i ≠ l ∧ j ≠ l then sPar3 i j l (evVs G Φ n S [S.muts.contains x, S.muts.contains y, S.muts.contains z] [a, b, c]) else sBad
            | _, _, _ => sBad
          | ts, vs => if 3 < ts.length then sAsg (evG G Φ n S (.Tuple ts kt pt)) (cFn fTup (evVs G Φ n S (ts.map (isMut S)) vs)) else sBad
        | e => if isCompE e = false then sAsg (evG G Φ n S (.Tuple ts kt pt)) (evE G Φ n S e) else sBad
      | _ => sBad
    | .AugAssign (.Name x _) op e _ => match slotOf S.N x, ipF op with
      | some i, some f => if isLoc S.sc x = true ∧ (S.raw.names.lookup x == some .cell || S.sc.names.lookup x == some .local) = true then sAug i f (evE G Φ n S e) else sBad
      | _, _ => sBad
    | .Raise (some e) none _ => match e with
      | .Call (.Name x _) args [] _ => if isGlo S.sc x = true ∧ noDbg x = true then (match G.exc? x with
        | some E => match args with
          | [] => sRaise E cNil
          | a :: r => if okArgs (a :: r) = true then sRaise E (evA G Φ n S (a :: r)) else sBad
        | none => sBad) else sBad
      | _ => sBad
    | .Try body [.ExceptHandler (some (.Name x _)) nm (b :: su) _] [] [] _ => if isGlo S.sc x = true ∧ noDbg x = true ∧ G.clss.contains x = true then (match nm with
      | some m => match slotOf S.N m with
        | some i => if (S.sc.names.lookup m == some .local) = true then sTryX (fun c => G.sub? c x) i (evSs G Φ n S body) (evQs G S (b :: su)) else sBad
        | none => sBad
      | none => sTryO (fun c => G.sub? c x) (evSs G Φ n S body) (evQs G S (b :: su))) else sBad
    | _ => sBad
def evSs (G : Glob) (Φ : Calls) : Nat → Sc → List Stmt → EvS
  | 0, _, _ => sBad
  | n + 1, S, sts => match sts with
    | [] => sPass
    | st :: r => sSeq (evS G Φ n S st) (evSs G Φ n S r)
end
end Z

end
section -- Z22
/-! Z22: the text's statements give what Z21 says. -/
namespace Z
open PySem PySem.Spec PyProof.Rows L2
variable {G : Glob} {Φ : Calls} {k : Nat} {ad : Ads} {S : Sc} {X : Cx} {W : WX} {n : Nat}

structure GoodS (G : Glob) (Φ : Calls) (k : Nat) (ad : Ads) (S : Sc) (W : WX) (X : Cx) : Prop extends Good G Φ k ad S W X where
  ow : PassesOwn (model X.prog X.w) X.A X.env X.xe
  stk : X.stack = X.env :: X.outer
  frm : X.env.frame = some X.env.locals
theorem GoodS.tr (g : GoodS G Φ k ad S W X) {W' : WX} {pn : List (Addr × Obj)} {xe : Value → Shared → Prop} (tk : Takes (X.tr pn xe) W') (ow : PassesOwn (model X.prog X.w) X.A X.env xe) : GoodS G Φ k ad S W' (X.tr pn xe) :=
  ⟨⟨g.w, g.N, g.nd, g.sc, g.raw, g.calm, tk⟩, ow, g.stk, g.frm⟩
theorem PS.bad {st : Stmt} : PS X st (simS X.K ad W sBad) := ⟨fun pins s σ H D I h => by obtain ⟨ρ, R, env, h0, er, hr, s⟩ := h; exact s.elim⟩
theorem PSs.bad {st : List Stmt} : PSs X st (simS X.K ad W sBad) := ⟨fun pins s σ H D I h => by obtain ⟨ρ, R, env, h0, er, hr, s⟩ := h; exact s.elim⟩
theorem z_evM : ∀ (n : Nat) (e : Expr), Good G Φ k ad S W X → PE X e (simE X.K ad W (evM G Φ n S e))
  | 0, e, _ => PE.bad
  | n + 1, e, g => by
    have I := snd_all (G := G) (Φ := Φ) (k := k) (ad := ad) n
    unfold evM
    split
    · exact z_new (zf_lst (I.a S X W _ g))
    · split
      · rename_i hx
        have hx := eq_of_beq hx
        subst hx
        split
        · rename_i h
          exact z_new (zf_list (g.gl h.1) (g.w.fre _ h.2.2.1) PyProof.Rows.boot_list (I.a S X W _ g) (by decide) (by decide) h.2.2.2)
        · exact PE.bad
      · exact I.e S X W _ g
    · rename_i o m apos a cpos
      split
      · rename_i h
        obtain ⟨h1, h2, h3, h4⟩ := h
        have h1 := eq_of_beq h1
        subst h1
        have ho : okArgs [a] = true := by
          show (!isStar a && true) = true
          rw [h2]; rfl
        exact z_new (zf_split F.slot_str_split F.type_str_split (I.e S X W o g) (I.a S X W _ g) (base_ok h4) (few_ok (env := X.env) (cpos := cpos) ho (by simp)) h3 (starEach_cons h2 [] X.env) (star_plain [] X.env cpos rfl).1)
      · exact I.e S X W _ g
    · exact z_orV (z_evM n _ g) (pe_one (z_evM n _ g))
    · exact z_if (I.t S X W _ g) (z_evM n _ g) (z_evM n _ g)
    · exact I.e S X W _ g
theorem z_evV (g : Good G Φ k ad S W X) (n : Nat) (m : Bool) (e : Expr) : PE X e (simE X.K ad W (evV G Φ n S m e)) := by
  unfold evV
  split
  · exact z_evM n e g
  · exact (snd_all n).e S X W e g
theorem z_evVs (g : Good G Φ k ad S W X) (n : Nat) : ∀ (ms : List Bool) (es : List Expr), PA X es (simA X.K ad W (evVs G Φ n S ms es))
  | ms, [] => by cases ms <;> exact z_nil
  | [], e :: es => PA.bad
  | m :: ms, e :: es => by
    unfold evVs
    split
    · rename_i h; exact z_cons (z_evV g n m e) (z_evVs g n ms es) (starEach_cons h _ _)
    · exact PA.bad
theorem nosw {tg e : Expr} {l : Nat} {env : Env} (h : isCompE e = false) : swapsWithSole [tg] e l env = pure false := by
  cases e <;> first | cases h; done | rfl
theorem nosw1 {e : Expr} {l : Nat} {env : Env} (h : isCompE e = false) : swapsWith e none l env = pure false := by
  cases e <;> first | cases h; done | rfl
theorem nopar {tg e : Expr} {env : Env} (h : isTargE tg = true) : swappedStores [tg] e env = pure none := by
  cases tg <;> first | cases h; done | rfl
def isTup2 : Expr → Bool
  | .Tuple _ _ _ => true
  | _ => false
theorem nopar2 {tg e : Expr} {env : Env} (h : isTup2 e = false) : swappedStores [tg] e env = pure none := by
  cases tg <;> cases e <;> first | cases h; done | rfl
theorem isLocal_ok {sc : Scope} {x : Str} (h : parOk.isLocal sc x = true) : sc.names.lookup x = some .local := by
  unfold parOk.isLocal at h
  split at h
  · assumption
  · cases h
theorem funK {sc : Scope} (h : isFunK sc = true) : sc.kind = .function := by
  unfold isFunK at h
  split at h
  · assumption
  · cases h
theorem starf : (fun (e : Expr) => match e with | .Starred .. => true | _ => false) = isStar := by
  funext e; cases e <;> rfl
theorem par_ok {S : Sc} {xs : List (Str × Pos)} {vs : List Expr} {env : Env} {kt k2 : Nat} {pt p2 : Pos} (h : parOk S xs vs = true) (hs : env.scope = S.sc) (hl : xs.length = vs.length) (hn : xs.length = 2 ∨ xs.length = 3) :
    swappedStores [.Tuple (xs.map fun x => .Name x.1 x.2) kt pt] (.Tuple vs k2 p2) env = pure (some (xs.map (·.1))) ∧ ∀ x ∈ xs, S.sc.names.lookup x.1 = some .local := by
  unfold parOk at h
  rw [Bool.and_eq_true, Bool.and_eq_true, Bool.and_eq_true, Bool.and_eq_true, Bool.and_eq_true, Bool.and_eq_true] at h
  obtain ⟨hk, hlo, hln, hd, hst, hf, hc⟩ := h
  have hk := funK hk
  rw [List.all_eq_true] at hlo hln
  have lo : ∀ x ∈ xs, S.sc.names.lookup x.1 = some .local := fun x hx => isLocal_ok (hlo x hx)
  refine ⟨?_, lo⟩
  have ek : env.blockKind = .function := by unfold Env.blockKind; rw [hs, hk]; rfl
  have el : ((xs.map fun x => Expr.Name x.1 x.2).head?.map (·.pos.line)).getD 0 = (xs.head?.map (·.2.line)).getD 0 := by cases xs <;> rfl
  have en : ∀ (l : Nat) (ys : List (Str × Pos)), (∀ y ∈ ys, S.sc.names.lookup y.1 = some .local ∧ (y.2.line == l) = true) → ((ys.map fun x => Expr.Name x.1 x.2).filterMap fun e => match e with
      | .Name id pos => if env.kindOf id == some .local && pos.line == l then some id else none
      | _ => none) = ys.map (·.1) := by
    intro l ys
    induction ys with
    | nil => intro _; rfl
    | cons y ys ih =>
      intro hy
      have h1 := hy y (List.mem_cons_self ..)
      have e1 : (env.kindOf y.1 == some .local && y.2.line == l) = true := by
        rw [Bool.and_eq_true]; refine ⟨?_, h1.2⟩
        unfold Env.kindOf; rw [hs, h1.1]; rfl
      rw [List.map_cons, List.map_cons, List.filterMap_cons]
      dsimp only
      rw [if_pos e1]
      dsimp only
      rw [ih fun z hz => hy z (List.mem_cons_of_mem _ hz)]
  unfold swappedStores
  dsimp only
  rw [Bool.not_eq_true'] at hst hf hc
  have hst2 : vs.any (fun (e : Expr) => match e with | .Starred .. => true | _ => false) = false := by rw [starf]; exact hst
  have e2 := en ((xs.head?.map (·.2.line)).getD 0) xs fun y hy => ⟨lo y hy, hln y hy⟩
  rw [if_neg, if_neg, if_neg, if_neg (by rw [hf]; simp), if_neg (by rw [hc]; simp)]
  · rw [el]; exact congrArg (fun z => pure (some z)) e2
  · rw [el]
    have e3 := congrArg List.length e2
    have e4 := congrArg (fun z : List Str => z.eraseDups.length) e2
    intro z
    rw [Bool.or_eq_true, bne_iff_ne, bne_iff_ne] at z
    rcases z with z | z
    · exact z (e3.trans (by rw [List.length_map, List.length_map]))
    · refine z (e4.trans (Eq.trans ?_ e3.symm))
      show (xs.map (·.1)).eraseDups.length = (xs.map (·.1)).length
      rw [List.length_map]; exact eq_of_beq hd
  · exact fun z => Bool.noConfusion (hst2.symm.trans z)
  · rw [ek, List.length_map, hl]
    rw [hl] at hn
    rcases hn with h | h <;> rw [h] <;> decide
theorem par_no {S : Sc} {ts vs : List Expr} {env : Env} {kt k2 : Nat} {pt p2 : Pos} (h : 3 < ts.length) : swappedStores [.Tuple ts kt pt] (.Tuple vs k2 p2) env = pure none := by
  unfold swappedStores
  dsimp only
  rw [if_pos]
  have h2 : (ts.length == 2 || ts.length == 3) = false := by
    rw [Bool.or_eq_false_iff]; exact ⟨beq_eq_false_iff_ne.mpr (by omega), beq_eq_false_iff_ne.mpr (by omega)⟩
  rw [h2]; rfl
theorem par_seq {ts vs : List Expr} {env : Env} {kt k2 : Nat} {pt p2 : Pos} (h : seqOk vs = true) : swappedStores [.Tuple ts kt pt] (.Tuple vs k2 p2) env = pure none := by
  unfold seqOk at h
  rw [Bool.and_eq_true, Bool.not_eq_true'] at h
  unfold swappedStores
  dsimp only
  split
  · rfl
  split
  · rfl
  split
  · rfl
  rw [if_pos h.2]
theorem swap_ok {S : Sc} {x : Str} {px vp : Pos} {elt : Expr} {gens : List Comprehension} {scope : Scope} {env : Env} {l : Nat} (hs : env.scope = S.sc) (hk : isFunK S.sc = true) :
    swapsWith (.ListComp elt gens scope vp) (some (.Name x px)) l env = pure (swapB S x px vp scope) ∧ (swapB S x px vp scope = true → S.sc.names.lookup x = some .local) := by
  have hk2 := funK hk
  have ek : env.blockKind = .function := by unfold Env.blockKind; rw [hs, hk2]; rfl
  unfold swapB
  rw [hk]
  have e1 : (env.kindOf x == some .local) = parOk.isLocal S.sc x := by
    unfold Env.kindOf parOk.isLocal
    rw [hs]
    cases S.sc.names.lookup x with
    | none => rfl
    | some q => cases q <;> rfl
  refine ⟨?_, fun h => ?_⟩
  · show pure (env.blockKind == .function && env.kindOf x == some .local && px.line == vp.line && !(scope.names.any fun (n, q) => n == x && (q == .local || q == .cell))) = _
    rw [ek, e1]
    simp only [Bool.true_and, Bool.and_assoc]
    rfl
  · rw [Bool.true_and, Bool.and_eq_true] at h
    exact isLocal_ok h.1
theorem exF_ok (g : Good G Φ k ad S W X) (c f : Str) (e : G.fldOf c = some f) : XfC X.K (ad.cls c) ∧ PySem.W.findIn X.K (.ref (ad.cls c)) f = some none := by
  unfold Glob.fldOf at e
  cases eE : G.exc? c with
  | none => rw [eE] at e; cases e
  | some E =>
    rw [eE] at e
    cases e
    obtain ⟨en, F⟩ := g.w.exs c E eE
    exact ⟨F.xf, F.no⟩
section
variable {a : Addr} {pn : List (Addr × Obj)}
theorem zq_e (g : Good G Φ k ad S W X) : ∀ e : Expr, PE (X.suite a pn) e (simE X.K ad W0 (evQE G S e)) := by
  intro e
  unfold evQE
  split
  · split
    · rename_i hv
      split
      · rename_i i ei
        split
        · rename_i hd
          obtain ⟨d1, d2, _⟩ := noDbg_ok hd
          exact z_var (X := X.suite a pn) (by show X.N[i]? = _; rw [g.N]; exact slotOf_ok ei) (by show Vis X.env.scope _; rw [g.sc]; exact isVis_ok hv) d1 d2
        · exact PE.bad (X := X.suite a pn)
      · exact PE.bad (X := X.suite a pn)
    · exact PE.bad (X := X.suite a pn)
  · rename_i c j p
    exact z_constE (X := X.suite a pn) c j p
  · split
    · rename_i hv
      split
      · rename_i i ei
        split
        · rename_i hd
          obtain ⟨d1, d2, _⟩ := noDbg_ok hd
          exact z_attrX (X := X.suite a pn) (fun c f e => exF_ok g c f e) (z_var (X := X.suite a pn) (by show X.N[i]? = _; rw [g.N]; exact slotOf_ok ei) (by show Vis X.env.scope _; rw [g.sc]; exact isVis_ok hv) d1 d2) (base_ok rfl)
        · exact PE.bad (X := X.suite a pn)
      · exact PE.bad (X := X.suite a pn)
    · exact PE.bad (X := X.suite a pn)
  · exact PE.bad (X := X.suite a pn)
theorem zq_s (g : Good G Φ k ad S W X) : ∀ st : Stmt, PS (X.suite a pn) st (simS X.K ad W0 (evQ G S st)) := by
  intro st
  unfold evQ
  split
  · exact zs_pass (X := X.suite a pn)
  · exact zs_ret (X := X.suite a pn) (zq_e g _)
  · split
    · rename_i hc
      split
      · rename_i i ei
        split
        · rename_i h
          exact zs_asg (X := X.suite a pn) (zq_e g _) (zg_name (X := X.suite a pn) (by show X.N.Nodup; rw [g.N]; exact g.nd) (by show X.N[i]? = _; rw [g.N]; exact slotOf_ok ei) (by show Loc X.env.scope _; rw [g.sc]; exact isLoc_ok h.1) (.inr (by show X.env.scope.names.lookup _ = _; rw [g.sc]; exact eq_of_beq h.2))) (nosw hc) (nopar rfl) rfl
        · exact PS.bad (X := X.suite a pn)
      · exact PS.bad (X := X.suite a pn)
    · exact PS.bad (X := X.suite a pn)
  · exact PS.bad (X := X.suite a pn)
theorem zq_ss (g : Good G Φ k ad S W X) : ∀ sts : List Stmt, PSs (X.suite a pn) sts (simS X.K ad W0 (evQs G S sts))
  | [] => zss_nil (X := X.suite a pn)
  | st :: r => zss_cons (X := X.suite a pn) (zq_s g st) (zq_ss g r)
end
end Z

end
section -- Z23
/-! Z23: the text's statements, all depths. -/
namespace Z
open PySem PySem.Spec PyProof.Rows L2
variable {G : Glob} {Φ : Calls} {k : Nat} {ad : Ads} {S : Sc} {X : Cx} {W : WX} {n : Nat}
theorem zs_par2 {i j : Nat} {x y : Str} {a b : Expr} {ea : EvA} {px py pt pos : Pos} {kt k2 pt2} (hc : X.calm = true) (hN : X.N.Nodup) (hi : X.N[i]? = some x) (hj : X.N[j]? = some y) (hij : i ≠ j)
    (hx : X.env.scope.names.lookup x = some .local) (hy : X.env.scope.names.lookup y = some .local) (ha : PA X [a, b] (simA X.K ad W ea))
    (hw : swappedStores [.Tuple [.Name x px, .Name y py] kt pt] (.Tuple [a, b] k2 pt2) X.env = pure (some [x, y])) :
    PS X (.Assign [.Tuple [.Name x px, .Name y py] kt pt] (.Tuple [a, b] k2 pt2) pos) (simS X.K ad W (sPar2 i j ea)) := by
  refine PS.imp (ps_par hc hN hi hj hij hx hy ha hw) fun D σ H h => ?_
  obtain ⟨ρ, R, env, h0, er, hr, s⟩ := h
  refine ⟨ρ, R, env, h0, er, hr, (SimS.go er s).imp fun ρ1 H1 vs h1 st1 hr1 s1 us rv => ?_⟩
  match vs, s1, rv with
  | [v, w], s1, rv =>
    obtain ⟨v', w', rfl, r1, r2⟩ := VRs.two rv
    exact ⟨v', w', rfl, SimS.here_nx s1 hr1 (((er.mono st1).set r1 i).set r2 j)⟩
  | [], s1, _ => exact s1.elim
  | [_], s1, _ => exact s1.elim
  | _ :: _ :: _ :: _, s1, _ => exact s1.elim
theorem zs_par3 {i j l : Nat} {x y z : Str} {a b c : Expr} {ea : EvA} {px py pz pt pos : Pos} {kt k2 pt2} (hc : X.calm = true) (hN : X.N.Nodup) (hi : X.N[i]? = some x) (hj : X.N[j]? = some y) (hl : X.N[l]? = some z) (hij : i ≠ j) (hil : i ≠ l) (hjl : j ≠ l)
    (hx : X.env.scope.names.lookup x = some .local) (hy : X.env.scope.names.lookup y = some .local) (hz : X.env.scope.names.lookup z = some .local) (ha : PA X [a, b, c] (simA X.K ad W ea))
    (hw : swappedStores [.Tuple [.Name x px, .Name y py, .Name z pz] kt pt] (.Tuple [a, b, c] k2 pt2) X.env = pure (some [x, y, z])) :
    PS X (.Assign [.Tuple [.Name x px, .Name y py, .Name z pz] kt pt] (.Tuple [a, b, c] k2 pt2) pos) (simS X.K ad W (sPar3 i j l ea)) := by
  refine PS.imp (ps_par3 hc hN hi hj hl hij hil hjl hx hy hz ha hw) fun D σ H h => ?_
  obtain ⟨ρ, R, env, h0, er, hr, s⟩ := h
  refine ⟨ρ, R, env, h0, er, hr, (SimS.go er s).imp fun ρ1 H1 vs h1 st1 hr1 s1 us rv => ?_⟩
  match vs, s1, rv with
  | [u, v, w], s1, rv =>
    obtain ⟨u', us', rfl, r0, rv⟩ := rv
    obtain ⟨v', w', rfl, r1, r2⟩ := VRs.two rv
    exact ⟨u', v', w', rfl, SimS.here_nx s1 hr1 ((((er.mono st1).set r0 i).set r1 j).set r2 l)⟩
  | [], s1, _ => exact s1.elim
  | [_], s1, _ => exact s1.elim
  | [_, _], s1, _ => exact s1.elim
  | _ :: _ :: _ :: _ :: _, s1, _ => exact s1.elim
theorem ipF_ok {op : Operator} {f : Int → Int → Int} (e : ipF op = some f) : PIp X op (ipI f) := by
  cases op <;> first | (cases e; done) | (cases e; first | exact ip_add | exact ip_sub)
theorem zs_aug {i : Nat} {x : Str} {e : Expr} {a : Ev} {op : Operator} {f : Int → Int → Int} {pos pos' : Pos} (hN : X.N.Nodup) (hi : X.N[i]? = some x) (hx : Loc X.env.scope x) (he : PE X e (simE X.K ad W a)) (ho : ipF op = some f) (hf : X.fn x = true ∨ X.env.scope.names.lookup x = some .local) :
    PS X (.AugAssign (.Name x pos') op e pos) (simS X.K ad W (sAug i f a)) := by
  refine PS.imp (ps_aug hN hi hx he (ipF_ok ho) hf) fun D σ H h => ?_
  obtain ⟨ρ, R, env, h0, er, hr, s⟩ := h
  unfold sAug at s
  split at s
  · rename_i x ex
    obtain ⟨v', e1, e2⟩ := er.2 i _ ex
    cases e2
    refine ⟨_, e1, ρ, R, env, h0, er, hr, (SimS.go er s).imp fun ρ1 H1 v h1 st1 hr1 s1 v' rv => ?_⟩
    cases v <;> first | exact s1.elim | skip
    rename_i y
    cases rv
    exact ⟨x, y, rfl, rfl, SimS.here_nx s1 hr1 ((er.mono st1).set (p := .int (f x y)) rfl i)⟩
  · exact s.elim
structure SndS (G : Glob) (Φ : Calls) (k : Nat) (ad : Ads) (n : Nat) : Prop where
  s : ∀ (S : Sc) (X : Cx) (W : WX) (st : Stmt), GoodS G Φ k ad S W X → PS X st (simS X.K ad W (evS G Φ n S st))
  ss : ∀ (S : Sc) (X : Cx) (W : WX) (sts : List Stmt), GoodS G Φ k ad S W X → PSs X sts (simS X.K ad W (evSs G Φ n S sts))
theorem ss_assign (g : GoodS G Φ k ad S W X) (tg e : Expr) (pos : Pos) : PS X (.Assign [tg] e pos) (simS X.K ad W (evS G Φ (n + 1) S (.Assign [tg] e pos))) := by
  have I := snd_all (G := G) (Φ := Φ) (k := k) (ad := ad) n
  have g0 := g.toGood
  unfold evS
  dsimp only
  split
  · rename_i x px
    split
    · rename_i elt gens scope vp
      split
      · rename_i tg2 it ifs
        split
        · rename_i hsw
          split
          · rename_i y ey
            split
            · rename_i h
              obtain ⟨h1, h2, h3⟩ := h
              have hk : isFunK S.sc = true := by
                unfold swapB at hsw
                rw [Bool.and_eq_true] at hsw
                exact hsw.1
              obtain ⟨q1, q2⟩ := swap_ok (x := x) (px := px) (vp := vp) (elt := elt) (gens := [⟨tg2, it, ifs, 0⟩]) (scope := scope) (l := pos.line) g.sc hk
              refine zs_lc (is := gSl S.N n tg2) g.calm (by rw [g.N]; exact g.nd) (by rw [g.N]; exact slotOf_ok ey) (by rw [g.sc]; exact q2 hsw) (by rw [q1, hsw]) (I.i S X W tg2 it g0) (by rw [g.N, g.sc]; exact blkOk_by h1) (fun s H C cl fp => I.g _ _ W0 tg2 (g0.blk scope s H C cl fp)) (fun s H C cl fp => I.ifs _ _ _ ifs (g0.blk scope s H C cl fp))
                (fun s H C cl fp => I.e _ _ _ elt (g0.blk scope s H C cl fp)) (fold_ok h2) fun j hj => ?_
              rw [List.all_eq_true] at h3
              exact List.contains_iff_mem.mp (h3 j hj)
            · exact PS.bad
          · exact PS.bad
        · rename_i hsw
          split
          · rename_i hk
            obtain ⟨q1, q2⟩ := swap_ok (x := x) (px := px) (vp := vp) (elt := elt) (gens := [⟨tg2, it, ifs, 0⟩]) (scope := scope) (l := pos.line) g.sc hk
            refine zs_asg (I.e S X W _ g0) (I.g S X W _ g0) ?_ (nopar rfl) rfl
            exact q1.trans (congrArg pure (by simpa using hsw))
          · exact PS.bad
      · exact PS.bad
    · split
      · rename_i h
        exact zs_asg (z_evV g0 n _ _) (I.g S X W _ g0) (nosw h) (nopar rfl) rfl
      · exact PS.bad
  · split
    · rename_i h
      exact zs_asg (I.e S X W _ g0) (I.g S X W _ g0) (nosw h) (nopar rfl) rfl
    · exact PS.bad
  · rename_i ts kt pt
    split
    · rename_i vs k2 p2
      split
      · rename_i x px y py a b
        split
        · rename_i i j ei ej
          split
          · rename_i h
            obtain ⟨q1, q2⟩ := par_ok (kt := kt) (k2 := k2) (pt := pt) (p2 := p2) h.1 g.sc rfl (.inl rfl)
            exact zs_par2 g.calm (by rw [g.N]; exact g.nd) (by rw [g.N]; exact slotOf_ok ei) (by rw [g.N]; exact slotOf_ok ej) h.2 (by rw [g.sc]; exact q2 (x, px) (by simp)) (by rw [g.sc]; exact q2 (y, py) (by simp)) (z_evVs g0 n _ _) q1
          · split
            · rename_i h
              exact zs_asg (z_tup (z_evVs g0 n _ _)) (I.g S X W _ g0) (nosw rfl) (par_seq h) rfl
            · exact PS.bad
        · exact PS.bad
      · rename_i x px y py z pz a b c
        split
        · rename_i i j l ei ej el
          split
          · rename_i h
            obtain ⟨q1, q2⟩ := par_ok (kt := kt) (k2 := k2) (pt := pt) (p2 := p2) h.1 g.sc rfl (.inr rfl)
            exact zs_par3 g.calm (by rw [g.N]; exact g.nd) (by rw [g.N]; exact slotOf_ok ei) (by rw [g.N]; exact slotOf_ok ej) (by rw [g.N]; exact slotOf_ok el) h.2.1 h.2.2.1 h.2.2.2 (by rw [g.sc]; exact q2 (x, px) (by simp)) (by rw [g.sc]; exact q2 (y, py) (by simp)) (by rw [g.sc]; exact q2 (z, pz) (by simp)) (z_evVs g0 n _ _) q1
          · exact PS.bad
        · exact PS.bad
      · split
        · rename_i h
          exact zs_asg (z_tup (z_evVs g0 n _ _)) (I.g S X W _ g0) (nosw rfl) (par_no (S := S) h) rfl
        · exact PS.bad
    · rename_i hne
      split
      · rename_i h
        refine zs_asg (I.e S X W _ g0) (I.g S X W _ g0) (nosw h) (nopar2 ?_) rfl
        cases e <;> first | rfl | exact absurd rfl (hne _ _ _)
      · exact PS.bad
  · exact PS.bad
theorem ss_raise (g : GoodS G Φ k ad S W X) (e c : Option Expr) (p : Pos) : PS X (.Raise e c p) (simS X.K ad W (evS G Φ (n + 1) S (.Raise e c p))) := by
  have I := snd_all (G := G) (Φ := Φ) (k := k) (ad := ad) n
  have g0 := g.toGood
  match e, c with
  | none, _ => exact PS.bad
  | some _, some _ => exact PS.bad
  | some e, none =>
    unfold evS
    dsimp only
    split
    · rename_i x q args cp
      split
      · rename_i hg
        obtain ⟨d1, d2, d3⟩ := noDbg_ok hg.2
        split
        · rename_i E eE
          obtain ⟨en, F⟩ := g.w.exs x E eE
          have hr2 : Room 2 X.A := g.w.room.mono (Nat.le_trans (by decide) g.w.big)
          have F' : ExF X.prog X.w X.K X.mg X.base (ad.cls E.name) E := by rw [en]; exact F
          split
          · refine zs_raise (E := E) g.calm g.tk fun pins s σ H Q I h => pmk_ex0 F' en.symm hr2 (g0.gl hg.1) d1 pins s σ H Q I ?_
            obtain ⟨ρ, R, env, h0, er, hr, s⟩ := h
            exact (SimR.here s hr) [] rfl
          · rename_i a r
            split
            · rename_i ho
              exact zs_raise g.calm g.tk (pmk_ex F' en.symm hr2 (g0.gl hg.1) (I.a S X W _ g0) d1 (starEach_cons (okArgs_cons ho).1 _ _) (star_plain r X.env cp (okArgs_cons ho).2).1)
            · exact PS.bad
        · exact PS.bad
      · exact PS.bad
    · exact PS.bad
theorem ss_try (J : SndS G Φ k ad n) (g : GoodS G Φ k ad S W X) (body : List Stmt) (hs : List ExceptHandler) (el fi : List Stmt) (p : Pos) : PS X (.Try body hs el fi p) (simS X.K ad W (evS G Φ (n + 1) S (.Try body hs el fi p))) := by
  have g0 := g.toGood
  unfold evS
  split
  all_goals first | (exfalso; rename_i h; cases h; done) | skip
  · rename_i bo x q nm b su hp po heq
    injection heq with h1 h2 h3 h4 h5
    subst h1 h2 h3 h4 h5
    split
    · rename_i hg
      obtain ⟨d1, d2, d3⟩ := noDbg_ok hg.2.1
      have nm0 : Names X x (.ref (ad.cls x)) := ⟨g0.gl hg.1, d1, .inl (g.w.cls x hg.2.2)⟩
      split
      · rename_i m
        split
        · rename_i i ei
          split
          · rename_i hl
            exact zs_try g.stk g.frm (by rw [g.N]; exact g.nd) (by rw [g.N]; exact slotOf_ok ei) (by show X.env.scope.names.lookup m = _; rw [g.sc]; exact eq_of_beq hl) nm0 g.tk (fun d b e => (g.w.sub d x b e).2.2) (fun W' pn xe tk ow => J.ss S (X.tr pn xe) W' _ (g.tr tk ow)) fun a pn => zq_ss g0 _
          · exact PS.bad
        · exact PS.bad
      · exact zs_tryO g.stk g.frm nm0 g.tk (fun d b e => (g.w.sub d x b e).2.2) (fun W' pn xe tk ow => J.ss S (X.tr pn xe) W' _ (g.tr tk ow)) fun a pn => zq_ss g0 _
    · exact PS.bad
  · exact PS.bad
theorem sndS_succ (J : SndS G Φ k ad n) : SndS G Φ k ad (n + 1) where
  s S X W st g := by
    have I := snd_all (G := G) (Φ := Φ) (k := k) (ad := ad) n
    have g0 := g.toGood
    cases st with
    | Pass p => exact zs_pass
    | Break p => exact zs_break
    | Continue p => exact zs_continue
    | Return e p =>
      cases e with
      | none => exact zs_retN
      | some e => exact zs_ret (z_evV g0 n _ e)
    | Expr e p =>
      unfold evS
      dsimp only
      split
      · rename_i h; exact zs_expr (I.e S X W e g0) (nosw1 h)
      · exact PS.bad
    | If c a b p => exact zs_if (I.t S X W c g0) (J.ss S X W a g) (J.ss S X W b g)
    | While c b o p =>
      cases o with
      | nil => exact zs_while g.ow (I.t S X W c g0) (J.ss S X W b g)
      | cons _ _ => exact PS.bad
    | For tg it b o p =>
      cases o with
      | nil =>
        unfold evS
        dsimp only
        split
        · rename_i h; exact zi_for g.ow g.calm (I.i S X W tg it g0) (I.g S X W tg g0) (J.ss S X W b g) (fold_ok h)
        · exact PS.bad
      | cons _ _ => exact PS.bad
    | Assign tgs e p =>
      match tgs with
      | [] => exact PS.bad
      | [tg] => exact ss_assign g tg e p
      | _ :: _ :: _ => exact PS.bad
    | AugAssign tg op e p =>
      cases tg with
      | Name x q =>
        unfold evS
        dsimp only
        split
        · rename_i i f ei ef
          split
          · rename_i h
            refine zs_aug (by rw [g.N]; exact g.nd) (by rw [g.N]; exact slotOf_ok ei) (by rw [g.sc]; exact isLoc_ok h.1) (I.e S X W e g0) ef ?_
            rcases Bool.or_eq_true _ _ ▸ h.2 with h | h
            · exact .inl (g.raw x h)
            · exact .inr (by rw [g.sc]; exact eq_of_beq h)
          · exact PS.bad
        · exact PS.bad
      | _ => exact PS.bad
    | Raise e c p => exact ss_raise g e c p
    | Try body hs el fi p => exact ss_try J g body hs el fi p
    | _ => exact PS.bad
  ss S X W sts g := by
    cases sts with
    | nil => exact zss_nil
    | cons st r => exact zss_cons (J.s S X W st g) (J.ss S X W r g)
theorem sndS_all : ∀ n, SndS G Φ k ad n
  | 0 => ⟨fun _ _ _ _ _ => PS.bad, fun _ _ _ _ _ => PSs.bad⟩
  | n + 1 => sndS_succ (sndS_all n)
end Z

end
section -- Z24
/-! Z24: the text's defs. -/
namespace Z
open PySem PySem.Spec PyProof.Rows L2
def fuelN : Nat := 200
def Fn.sc (F : Fn) : Sc := ⟨F.N, F.scope, F.scope, F.muts⟩
/-- calls, down to a depth -/
def runF (G : Glob) : Nat → Calls
  | 0 => fun _ _ _ _ => .bad
  | d + 1 => fun x args R h => match G.fn? x with
    | some F => callB F.md F.N.length (evSs G (runF G d) fuelN F.sc F.body) args R h
    | none => .bad
def dvP : PV → V
  | .bl b => .bl b
  | .int i => .int i
  | .str x => .str x
  | .ty n => .ty n
  | _ => .non
def isSmall : PV → Bool
  | .non => true
  | .bl _ => true
  | .int _ => true
  | .str _ => true
  | .ty _ => true
  | _ => false
structure Facts (G : Glob) (w : World) (K : PySem.W.Frag) (mg : Str → Option Value) (ad : Ads) : Prop where
  cst : ∀ x v, G.consts.lookup x = some v → ∃ u y, mg x = some u ∧ RelV y u ∧ ∀ ρ H, VR K ad ρ H v y
  fre : ∀ x, G.free.contains x = true → mg x = none
  dic : ∀ x kvs, G.dicts.lookup x = some kvs → ∃ d es n, mg x = some (.ref d) ∧ KDict K w d es n ∧ ∀ z, match kvs.lookup z with
    | some v => ∃ u y, PySem.W.nsIn K d z = some (some u) ∧ RelV y u ∧ ∀ ρ H, VR K ad ρ H v y
    | none => PySem.W.nsIn K d z = some none
  fns : ∀ x F, G.fn? x = some F → ∃ f fd, mg x = some (.ref f) ∧ FunD K F.name F.name F.params F.body F.scope (F.dfl.map dvP) [] f fd ∧ FnScope F.N F.ps F.scope ∧
    (∀ j, j ≤ F.dfl.length → ∃ dvs ds, Vals dvs ds ∧ (∀ ρ H, VRs K ad ρ H (F.dfl.drop j) dvs) ∧ Binds K fd F.ps ds) ∧
    (∀ ks ∈ F.kws, ∀ (s : Shared) (us : List Value), K.In s.heap → us.length = ks.length → BindsTo s fd ⟨[], ks.zip us⟩ (F.ps.zip (permOf Value.none F.ps ks us)))
  fnv : ∀ x F, G.fn? x = some F → mg x = some (.ref (ad.fn x))
  cls : ∀ x, G.clss.contains x = true → mg x = some (.ref (ad.cls x))
  exs : ∀ x E, G.exc? x = some E → E.name = x ∧ ∀ (P : Program) (base : Heap), ExF P w K mg base (ad.cls x) E
  sub : ∀ c d b, G.sub? c d = some b → ExcC K (ad.cls c) ∧ PySem.W.kitOne K (.ref (ad.cls c)) (.ref (ad.cls d)) = some b ∧ PySem.W.exmOne K (.ref (ad.cls c)) (.ref (ad.cls d)) = some b
  subT : ∀ c n b, G.subT? c n = some b → ExcC K (ad.cls c) ∧ PySem.W.kitOne K (.ref (ad.cls c)) (.type n) = some b
section
variable {G : Glob} {P : Program} {w : World} {K : PySem.W.Frag} {mg : Str → Option Value} {base : Heap} {ad : Ads}
theorem simSp_len {np : Nat} {Φ : List PV → Mem → Mem → Res PV} {vs : List V} {H : Hp} {Q : VK} {E : XK} (h : simSp K ad np Φ vs H Q E) : vs.length = np := by
  obtain ⟨ρ, R, h, args, rv, hl, _⟩ := h
  rw [← rv.length]; exact hl
theorem fn_all (c : Facts G w K mg ad) : ∀ (d : Nat) (x : Str) (F : Fn) (f : Addr) (fd : FuncData), G.fn? x = some F → FunD K F.name F.name F.params F.body F.scope (F.dfl.map dvP) [] f fd → FnScope F.N F.ps F.scope →
    FnOk P w K mg base (L2.CX P w) (d + 4) f fd F.ps (simSp K ad F.ps.length (runF G d x))
  | 0, x, F, f, fd, e, D, sc => ⟨fun vs H Q E h => simSp_len h, fun A outer s H args us vs Q E _ _ _ _ h => by
      obtain ⟨ρ, R, h0, as, rv, hl, hr, s⟩ := h
      exact s.elim⟩
  | d + 1, x, F, f, fd, e, D, sc => by
    refine D.ok (k := d + 4) sc (fun vs H Q E h => simSp_len h) fun cdv A outer s H vs Q E hr h => ?_
    have e2 : runF G (d + 1) x = callB F.md F.N.length (evSs G (runF G d) fuelN F.sc F.body) := by
      funext args R h
      rw [runF]; dsimp only; rw [e]
    rw [e2] at h
    have gw : GoodW G (runF G d) (d + 4) ad P w K mg base (A.deeper (envOfC F.name F.scope s.heap.objs.size f cdv)) := by
      refine ⟨?_, hr, Nat.le_add_left 4 d, c.cst, c.fre, c.dic, fun y F' e' => ?_, c.fnv, c.cls, fun y E e => ⟨(c.exs y E e).1, (c.exs y E e).2 P base⟩, c.sub, c.subT⟩
      · have := hr.un; omega
      · obtain ⟨f', fd', h1, h2, h3, h4, h5⟩ := c.fns y F' e'
        exact ⟨f', fd', h1, h2.kp, fn_all c d y F' f' fd' e' h2 h3, h4, h5⟩
    exact ⟨_, (sndS_all fuelN).ss F.sc (cxOf (L2.CX P w) P w K mg base F.N F.name F.scope f cdv A outer s H E) (fun cl d _ H => E cl d H) F.body ⟨⟨gw, rfl, sc.nd, rfl, fun _ _ => rfl, rfl, takes_of rfl rfl rfl rfl⟩, passes_of rfl, rfl, rfl⟩, simSp_any h⟩
end
end Z

end
section -- Z25
/-! Z25: what the head tells of the module. -/
namespace Z
open PySem PySem.Spec PyProof.Rows L2
def toDv : PV → He.Dv
  | .bl b => .bl b
  | .int i => .int i
  | .str x => .str x
  | .ty n => .ty n
  | _ => .non
def Fn.d (F : Fn) : He.DefD := ⟨(F.name, none), F.name, F.name, F.params, F.body, F.scope, F.dfl.map toDv, []⟩
def faC : Str × PV → He.Fa
  | (x, .int i) => .int x i
  | (x, .str z) => .str x z
  | (x, _) => .glo x
def Glob.fa (G : Glob) : List He.Fa := G.fns.map (fun F => He.Fa.glo F.name) ++ (G.consts.map faC ++ (G.free.map He.Fa.free ++ (G.dicts.map (fun q => He.Fa.glo q.1) ++ G.clss.map He.Fa.glo)))
def clsB : Stmt → List Stmt
  | .ClassDef _ _ _ b _ _ _ _ _ _ _ => b
  | _ => []
def Ex.d (E : Ex) : He.DefD := ⟨(E.name, some "__init__"), "__init__", E.qual, E.params, E.body, E.scope, [], []⟩
def Glob.fd (G : Glob) : List He.DefD := G.fns.map Fn.d ++ G.excs.map Ex.d
/-- the object of an own exception class -/
def oexB (K : PySem.W.Frag) (C : Addr) : Bool := match K.lookup C with
  | some ⟨.type "type", _, .cls cd, sl⟩ => (match cd.mro, sl.toList with
    | .ref C' :: bm, [_, _, _, _, some (.builtin n), _] => C' == C && (n == "ValueError.__new__" && (!cd.hasDel && (cd.hasDict && PySem.HandSPX.refsVE bm)))
    | _, _ => false)
  | _ => false
def eqB {α : Type} [DecidableEq α] (a b : α) : Bool := decide (a = b)
def exB (K : PySem.W.Frag) (E : Ex) : Bool :=
  oexB K (He.ga K E.name) && (eqB (PySem.W.findIn K (.ref (He.ga K E.name)) "__setattr__") (some (some (.builtin "object.__setattr__"))) && (eqB (PySem.W.subIn K (.ref (He.ga K E.name)) (.type "BaseException")) (some true) && (eqB (PySem.W.typeIn K (.ref (He.ga K E.name))) (some (.type "type")) && (PySem.W.keepIn K (.ref (He.ga K E.name)) &&
  (xfB K (He.ga K E.name) && (eqB (PySem.W.findIn K (.ref (He.ga K E.name)) "__class__") (some (some (.builtin "object.__class__"))) && (eqB (PySem.W.specialIn K (.builtin "object.__class__") "__get__") (some (some (.builtin "getset_descriptor.__get__"))) && (eqB (PySem.W.takesIn K (.builtin "object.__class__")) (some true) && (eqB (PySem.W.mroIn K (He.ga K E.name) (.type "object")) (some true) &&
  (eqB (PySem.W.findIn K (.ref (He.ga K E.name)) E.fld) (some none) && (eqB (PySem.W.findIn K (.ref (He.ga K E.name)) "__init__") (some (some (.ref (He.ma K (He.ga K E.name) "__init__")))) && eqB (PySem.W.typeIn K (.ref (He.ma K (He.ga K E.name) "__init__"))) (some (.type "function")))))))))))))
def Glob.exB (G : Glob) (K : PySem.W.Frag) : Bool := (G.excs.all fun E => Z.exB K E && G.clss.contains E.name) &&
  ((G.subs.all fun q => (G.exc? q.1).isSome && (eqB (PySem.W.kitOne K (.ref (He.ga K q.1)) (.ref (He.ga K q.2.1))) (some q.2.2) && eqB (PySem.W.exmOne K (.ref (He.ga K q.1)) (.ref (He.ga K q.2.1))) (some q.2.2))) && G.subT.all fun q => (G.exc? q.1).isSome && eqB (PySem.W.kitOne K (.ref (He.ga K q.1)) (.type q.2.1)) (some q.2.2))
theorem eqB_ok {α : Type} [DecidableEq α] {a b : α} (h : eqB a b = true) : a = b := of_decide_eq_true h
theorem oexB_ok {K : PySem.W.Frag} {C : Addr} (h : oexB K C = true) : ∃ nm q N bs bm sn sub ab col dd k0 k1 k2 k3 k5, K.lookup C = some (excClassObj nm q C N bs bm true sn sub ab col dd k0 k1 k2 k3 k5 "ValueError.__new__") ∧ PySem.HandSPX.refsVE bm = true := by
  unfold oexB at h
  split at h
  · rename_i dd cd sl ho
    split at h
    · rename_i C' bm k0 k1 k2 k3 n k5 hm hs
      simp only [Bool.and_eq_true, beq_iff_eq, Bool.not_eq_true'] at h
      obtain ⟨rfl, rfl, hdel, hdc, hbm⟩ := h
      obtain ⟨nm, bs, mro, ns, qn, hd, sn, sub, ab, col, del⟩ := cd
      dsimp only at hm hdel hdc
      subst hm hdel hdc
      have e : sl = #[k0, k1, k2, k3, some (.builtin "ValueError.__new__"), k5] := by
        obtain ⟨l⟩ := sl
        simp only at hs
        rw [hs]
      subst e
      exact ⟨nm, qn, ns, bs, bm, sn, sub, ab, col, dd, k0, k1, k2, k3, k5, ho, hbm⟩
    · cases h
  · cases h
def Glob.ts (G : Glob) : List He.Tab := G.dicts.map fun q => (fun K => He.ga K q.1, q.2.map (·.1))
def Glob.more (G : Glob) (K : PySem.W.Frag) : Bool := G.exB K && G.dicts.all fun q => He.valsB K (He.ga K q.1) (q.2.map fun r => (r.1, toDv r.2))
/-- lists are left out -/
def cutL (K : PySem.W.Frag) : PySem.W.Frag := K.filter fun p => match p.2.cls with
  | .type t => !(t == "list")
  | _ => true
abbrev AlZ : Type := He.AlT × Bool
def obsZ (G : Glob) (K : PySem.W.Frag) : AlZ := (He.obsT G.fa G.fd G.ts K, G.more K)
def valZ (G : Glob) (w : World) : AlZ := (He.valT G.fd G.ts w, true)
def SaysZ (G : Glob) (w : World) (K : PySem.W.Frag) : Prop := obsZ G K = valZ G w ∧ ∃ K', K = cutL K'
theorem lookup_filter {p : Addr × Obj → Bool} {a : Addr} {o : Obj} : ∀ {K : PySem.W.Frag}, (K.filter p).lookup a = some o → (a, o) ∈ K ∧ p (a, o) = true
  | [], h => by cases h
  | (b, q) :: K, h => by
    rw [List.filter_cons] at h
    by_cases hp : p (b, q) = true
    · rw [if_pos hp, List.lookup_cons] at h
      cases hb : a == b with
      | true =>
        rw [hb] at h
        cases h
        have := eq_of_beq hb
        subst this
        exact ⟨List.mem_cons_self .., hp⟩
      | false =>
        rw [hb] at h
        obtain ⟨h1, h2⟩ := lookup_filter h
        exact ⟨List.mem_cons_of_mem _ h1, h2⟩
    · rw [if_neg hp] at h
      obtain ⟨h1, h2⟩ := lookup_filter h
      exact ⟨List.mem_cons_of_mem _ h1, h2⟩
theorem frG_mem {g : Addr → Option Obj} {a : Addr} {o : Obj} {as : List Addr} (h : (a, o) ∈ He.frG g as) : g a = some o := by
  unfold He.frG at h
  obtain ⟨b, _, hb⟩ := List.mem_filterMap.mp h
  cases e : g b with
  | none => rw [e] at hb; cases hb
  | some q => rw [e] at hb; cases hb; exact e
theorem cut_in {as : List Addr} {h : Heap} : (cutL (He.frG h.get? as)).In h := fun a o e => frG_mem (lookup_filter e).1
def obsZG (n : Nat) (G : Glob) (g : Addr → Option Obj) : AlZ := obsZ G (cutL (He.frG g (He.asD g n)))
def hookZ (n : Nat) (G : Glob) : PySem.W.Hook where
  α := AlZ
  obs := fun s => obsZG n G s.heap.get?
  val := valZ G
  says := fun w h => ∃ K : PySem.W.Frag, K.In h ∧ SaysZ G w K
  of := fun _ _ e => ⟨_, cut_in, e, _, rfl⟩
  keeps := fun _ _ _ z k => z.elim fun K q => ⟨K, q.1.keeps k, q.2⟩
theorem obsZG_eq {n : Nat} {G : Glob} {g : Addr → Option Obj} {s : Shared} (h : ∀ a, g a = s.heap.get? a) : obsZG n G g = (hookZ n G).obs s := by
  have e : g = s.heap.get? := funext h
  subst e; rfl
/-- what is seen of a def's text -/
structure FnT (F : Fn) : Prop where
  sc : FnScope F.N F.ps F.scope
  sm : F.dfl.all isSmall = true
  dl : F.dfl.length ≤ F.ps.length
  b0 : F.dfl = [] → ∀ (kV doc pm : Value) (an : Option Addr) (cdv ct : Value) (us : List Value), us.length = F.ps.length → bindArgs (PySem.W.fnOf F.name F.name F.params F.body F.scope .none kV doc pm an cdv ct) ⟨us, []⟩ = pure (F.ps.zip us)
  b1 : F.dfl ≠ [] → ∀ j, j ≤ F.dfl.length → ∀ (T : Addr) (kV doc pm : Value) (an : Option Addr) (cdv ct : Value) (us its : List Value), us.length + (F.dfl.length - j) = F.ps.length → its.length = F.dfl.length →
    ∃ k, bindArgs (PySem.W.fnOf F.name F.name F.params F.body F.scope (.ref T) kV doc pm an cdv ct) ⟨us, []⟩ = seqItems? (.ref T) >>= k ∧ k (some its.toArray) = pure (F.ps.zip (us ++ its.drop j))
  k0 : F.dfl = [] → ∀ ks ∈ F.kws, ∀ (kV doc pm : Value) (an : Option Addr) (cdv ct : Value) (us : List Value), us.length = ks.length → bindArgs (PySem.W.fnOf F.name F.name F.params F.body F.scope .none kV doc pm an cdv ct) ⟨[], ks.zip us⟩ = pure (F.ps.zip (permOf Value.none F.ps ks us))
  k1 : F.dfl ≠ [] → ∀ ks ∈ F.kws, ∀ (T : Addr) (kV doc pm : Value) (an : Option Addr) (cdv ct : Value) (us its : List Value), us.length = ks.length → its.length = F.dfl.length →
    ∃ k, bindArgs (PySem.W.fnOf F.name F.name F.params F.body F.scope (.ref T) kV doc pm an cdv ct) ⟨[], ks.zip us⟩ = seqItems? (.ref T) >>= k ∧ k (some its.toArray) = pure (F.ps.zip (permOf Value.none F.ps ks us))
/-- what is seen of an exception's __init__ -/
structure ExT (E : Ex) : Prop where
  ex : ∃ ps, FnScope ps ps E.scope ∧ ExBody E.fld E.one ps E.body ∧
    (∀ (kV doc pm : Value) (an : Option Addr) (cdv ct : Value) (us : List Value), us.length = ps.length → bindArgs (PySem.W.fnOf "__init__" E.qual E.params E.body E.scope .none kV doc pm an cdv ct) ⟨us, []⟩ = pure (ps.zip us)) ∧
    (E.one = true → ∀ (kV doc pm : Value) (an : Option Addr) (cdv ct x u : Value), bindArgs (PySem.W.fnOf "__init__" E.qual E.params E.body E.scope .none kV doc pm an cdv ct) ⟨[x], [(E.fld, u)]⟩ = pure (ps.zip [x, u]))
structure GlobT (G : Glob) : Prop where
  ex : ∀ E ∈ G.excs, ExT E
  fn : ∀ F ∈ G.fns, FnT F
  co : ∀ q ∈ G.consts, (∃ i, q.2 = .int i) ∨ ∃ z, q.2 = .str z
  di : ∀ q ∈ G.dicts, q.2.all (fun r => isSmall r.2) = true
section
variable {G : Glob} {w : World} {K : PySem.W.Frag} {h : Heap} {mg : Str → Option Value} {ad : Ads}
theorem lookup_mem {β : Type} {x : Str} {v : β} : ∀ {l : List (Str × β)}, l.lookup x = some v → (x, v) ∈ l
  | [], h => by cases h
  | (y, u) :: l, h => by
    rw [List.lookup_cons] at h
    cases hb : x == y with
    | true => rw [hb] at h; cases h; rw [eq_of_beq hb]; exact List.mem_cons_self ..
    | false => rw [hb] at h; exact List.mem_cons_of_mem _ (lookup_mem h)
theorem small_VR {p : PV} (hs : isSmall p = true) (ρ : Rho) (H : Hp) : VR K ad ρ H p (dvP p) := by
  cases p <;> first | exact rfl | cases hs
theorem small_VRs : ∀ {ps : List PV}, ps.all isSmall = true → ∀ (ρ : Rho) (H : Hp), VRs K ad ρ H ps (ps.map dvP)
  | [], _, _, _ => rfl
  | p :: ps, h, ρ, H => by
    rw [List.all_cons, Bool.and_eq_true] at h
    exact ⟨_, _, rfl, small_VR h.1 ρ H, small_VRs h.2 ρ H⟩
theorem toDv_v {p : PV} : (toDv p).v K = dvP p := by cases p <;> rfl
theorem says_fact (c : SaysZ G w K) {f : He.Fa} (hf : f ∈ G.fa) : f.ok K = true := by
  have c1 := congrArg (fun z : AlZ => z.1.1.1) c.1
  have c2 : ((G.fa.all fun f => f.ok K) && G.fd.all fun d => d.ok K) = true := c1
  exact List.all_eq_true.mp (He.ba c2).1 f hf
theorem says_def (c : SaysZ G w K) {F : Fn} (hF : F ∈ G.fns) : ∃ fd, FunD K F.name F.name F.params F.body F.scope (F.dfl.map dvP) [] (He.ga K F.name) fd := by
  have c1 : He.SaysD G.fa G.fd K := congrArg (fun z : AlZ => z.1.1) c.1
  obtain ⟨i, hi, e⟩ := List.mem_iff_getElem.mp hF
  have e2 : G.fd[i]? = some F.d := by
    unfold Glob.fd
    rw [List.getElem?_append_left (by rw [List.length_map]; exact hi), List.getElem?_map, List.getElem?_eq_getElem hi, e]; rfl
  obtain ⟨fd, D⟩ := He.SaysD.def_ c1 i e2
  refine ⟨fd, ?_⟩
  have e3 : (F.d).dvs K = F.dfl.map dvP := by
    show (F.dfl.map toDv).map (He.Dv.v K) = _
    rw [List.map_map]
    exact List.map_congr_left fun p _ => toDv_v
  rw [← e3]
  exact D
theorem says_init (c : SaysZ G w K) {E : Ex} (hE : E ∈ G.excs) : ∃ fd, FunD K "__init__" E.qual E.params E.body E.scope [] [] (He.ma K (He.ga K E.name) "__init__") fd := by
  have c1 : He.SaysD G.fa G.fd K := congrArg (fun z : AlZ => z.1.1) c.1
  obtain ⟨i, hi, e⟩ := List.mem_iff_getElem.mp hE
  have e2 : G.fd[G.fns.length + i]? = some E.d := by
    unfold Glob.fd
    rw [List.getElem?_append_right (by rw [List.length_map]; omega), List.length_map, Nat.add_sub_cancel_left, List.getElem?_map, List.getElem?_eq_getElem hi, e]; rfl
  exact He.SaysD.def_ c1 _ e2
theorem says_more (c : SaysZ G w K) : G.exB K = true ∧ (G.dicts.all fun q => He.valsB K (He.ga K q.1) (q.2.map fun r => (r.1, toDv r.2))) = true := by
  have c2 := congrArg (fun z : AlZ => z.2) c.1
  have c4 : G.more K = true := c2
  exact He.ba c4
theorem exBody_len {f : Str} {one : Bool} {ps : List Str} {b : List Stmt} (h : ExBody f one ps b) : ps.length = (if one = true then 1 else 0) + 1 := by
  cases h <;> rfl
theorem ex_facts (T : GlobT G) (c : SaysZ G w K) {E : Ex} (hE : E ∈ G.excs) (g1 : mg E.name = some (.ref (He.ga K E.name))) (P : Program) (base : Heap) : ExF P w K mg base (He.ga K E.name) E := by
  have b0 := (says_more c).1
  unfold Glob.exB at b0
  have b1 := (He.ba (List.all_eq_true.mp (He.ba b0).1 E hE)).1
  unfold Z.exB at b1
  obtain ⟨h1, b1⟩ := He.ba b1
  obtain ⟨h2, b1⟩ := He.ba b1
  obtain ⟨h3, b1⟩ := He.ba b1
  obtain ⟨h4, b1⟩ := He.ba b1
  obtain ⟨h5, b1⟩ := He.ba b1
  obtain ⟨h6, b1⟩ := He.ba b1
  obtain ⟨h7, b1⟩ := He.ba b1
  obtain ⟨h8, b1⟩ := He.ba b1
  obtain ⟨h9, b1⟩ := He.ba b1
  obtain ⟨h10, b1⟩ := He.ba b1
  obtain ⟨h11, b1⟩ := He.ba b1
  obtain ⟨h12, h13⟩ := He.ba b1
  have xf := xfB_ok h6
  obtain ⟨ps, sc, bo, t1, t2⟩ := (T.ex E hE).ex
  obtain ⟨fd, D⟩ := says_init c hE
  refine ⟨g1, ⟨oexB_ok h1, eqB_ok h2, eqB_ok h3, eqB_ok h4, h5⟩, xf, ⟨xf.ga, xf.gg, xf.exC, xf.hdC, eqB_ok h7, eqB_ok h8, eqB_ok h9, eqB_ok h10⟩, eqB_ok h11, _, fd, ps, eqB_ok h12, eqB_ok h13, fun k => ex_init D sc bo k, fun s a us k hl => ?_, fun ho s a u k => ?_⟩
  · obtain ⟨oc, od, dV, kV, doc, pm, an, cdv, ct, osl, rfl, lk, hcd, hD, hK⟩ := D.ex
    have lp : (Value.ref a :: us).length = ps.length := by
      rw [List.length_cons, hl]
      exact (exBody_len bo).symm
    rcases hD with ⟨_, rfl⟩ | ⟨e, _⟩
    · exact BindsTo.of_eq (t1 kV doc pm an cdv ct _ lp)
    · exact absurd rfl e
  · obtain ⟨oc, od, dV, kV, doc, pm, an, cdv, ct, osl, rfl, lk, hcd, hD, hK⟩ := D.ex
    rcases hD with ⟨_, rfl⟩ | ⟨e, _⟩
    · exact BindsTo.of_eq (t2 ho kV doc pm an cdv ct _ u)
    · exact absurd rfl e
theorem says_tab (c : SaysZ G w K) {q : Str × List (Str × PV)} (hq : q ∈ G.dicts) : He.dicW K (He.ga K q.1) = some (He.keysIn w.params (q.2.map (·.1))) ∧ He.valsB K (He.ga K q.1) (q.2.map fun r => (r.1, toDv r.2)) = true := by
  have c1 := congrArg (fun z : AlZ => z.1.2) c.1
  have c3 : (G.ts.map fun t => He.dicW K (t.1 K)) = G.ts.map fun t => some (He.keysIn w.params t.2) := c1
  have c4 := (says_more c).2
  refine ⟨?_, List.all_eq_true.mp c4 q hq⟩
  obtain ⟨i, hi, e⟩ := List.mem_iff_getElem.mp hq
  have c5 := congrArg (fun z => z[i]?) c3
  unfold Glob.ts at c5
  simp only [List.getElem?_map, List.getElem?_eq_getElem hi, e] at c5
  exact Option.some.inj c5
theorem nsIn_not {a : Addr} {P : Params} {ks : List Str} {z : Str} (h : He.dicW K a = some (He.keysIn P ks)) (hz : z ∉ ks) : PySem.W.nsIn K a z = some none := by
  unfold He.dicW at h
  split at h
  · rename_i c es sl e0
    split at h
    · have h := Option.some.inj h
      have key : ∀ (l : List DictEntry) (ks : List Str), l.map He.keyOf = He.keysIn P ks → z ∉ ks → l.find? (fun e => e.key.isStr z) = none ∧ l.any (fun e => e.refKey) = false := by
        intro l
        induction l with
        | nil => intro _ _ _; exact ⟨rfl, rfl⟩
        | cons e r ih =>
          intro ks hk hn
          cases ks with
          | nil => cases hk
          | cons k ks =>
            have h1 : He.keyOf e :: r.map He.keyOf = some (k, PyData.keyHash P k) :: He.keysIn P ks := hk
            injection h1 with h2 h3
            obtain ⟨i1, i2⟩ := ih ks h3 fun m => hn (List.mem_cons_of_mem _ m)
            unfold He.keyOf at h2
            split at h2
            · rename_i x t q
              obtain ⟨h5, _⟩ := Prod.mk.inj (Option.some.inj h2)
              subst h5
              have e1 : (e.key.isStr z) = false := by
                rw [q]
                show (x == z) = false
                exact beq_eq_false_iff_ne.mpr fun y => hn (by rw [y]; exact List.mem_cons_self ..)
              have e2 : e.refKey = false := by
                unfold DictEntry.refKey
                rw [q]
              exact ⟨by rw [List.find?_cons, e1]; exact i1, by rw [List.any_cons, e2]; exact i2⟩
            · cases h2
      obtain ⟨k1, k2⟩ := key _ _ h hz
      unfold PySem.W.nsIn
      rw [e0]
      dsimp only
      rw [k1, k2]; rfl
    · cases h
  · cases h
theorem find_at {β : Type} {p : β → Bool} {l : List β} {x : β} (h : l.find? p = some x) : x ∈ l ∧ p x = true := ⟨List.mem_of_find?_eq_some h, List.find?_some h⟩
theorem exc_at {c : Str} {E : Ex} (h : G.exc? c = some E) : E ∈ G.excs ∧ E.name = c := ⟨(find_at h).1, eq_of_beq (find_at h).2⟩
theorem cls_glo (c : SaysZ G w K) (X : K.In h) (N : h.Ns mainGlobals mg) {x : Str} (hx : x ∈ G.clss) : mg x = some (.ref (He.ga K x)) := by
  refine He.glo_ok X N (says_fact c ?_)
  unfold Glob.fa
  exact List.mem_append_right _ (List.mem_append_right _ (List.mem_append_right _ (List.mem_append_right _ (List.mem_map_of_mem hx))))
theorem exc_glo (c : SaysZ G w K) (X : K.In h) (N : h.Ns mainGlobals mg) {E : Ex} (hE : E ∈ G.excs) : mg E.name = some (.ref (He.ga K E.name)) := by
  have b0 := (says_more c).1
  unfold Glob.exB at b0
  have b1 := (He.ba (List.all_eq_true.mp (He.ba b0).1 E hE)).2
  exact cls_glo c X N (List.contains_iff_mem.mp b1)
theorem facts_of (T : GlobT G) (c : SaysZ G w K) (X : K.In h) (N : h.Ns mainGlobals mg) : Facts G w K mg ⟨He.ga K, He.ga K⟩ where
  fnv x F e := by
    unfold Glob.fn? at e
    have hm := List.mem_of_find?_eq_some e
    have hx0 := List.find?_some e
    have hx : F.name = x := eq_of_beq hx0
    subst hx
    refine He.glo_ok X N (says_fact c ?_)
    unfold Glob.fa
    exact List.mem_append_left _ (List.mem_map_of_mem (f := fun F : Fn => He.Fa.glo F.name) hm)
  cls x e := cls_glo c X N (List.contains_iff_mem.mp e)
  exs x E e := by
    obtain ⟨hE, rfl⟩ := exc_at e
    exact ⟨rfl, fun P base => ex_facts T c hE (exc_glo c X N hE) P base⟩
  sub a d b e := by
    unfold Glob.sub? at e
    cases eq : G.subs.find? (fun q => q.1 == a && q.2.1 == d) with
    | none => rw [eq] at e; cases e
    | some q =>
      rw [eq] at e
      cases e
      obtain ⟨m1, m2⟩ := find_at eq
      obtain ⟨k1, k2⟩ := He.ba m2
      have k1 := eq_of_beq k1
      have k2 := eq_of_beq k2
      subst k1 k2
      have b0 := (says_more c).1
      unfold Glob.exB at b0
      obtain ⟨z1, z2⟩ := He.ba (List.all_eq_true.mp (He.ba (He.ba b0).2).1 q m1)
      obtain ⟨z2, z3⟩ := He.ba z2
      obtain ⟨E, eE⟩ := Option.isSome_iff_exists.mp z1
      obtain ⟨hE, en⟩ := exc_at eE
      have F := ex_facts T c hE (exc_glo c X N hE) default h
      rw [en] at F
      exact ⟨F.ec, eqB_ok z2, eqB_ok z3⟩
  subT a d b e := by
    unfold Glob.subT? at e
    cases eq : G.subT.find? (fun q => q.1 == a && q.2.1 == d) with
    | none => rw [eq] at e; cases e
    | some q =>
      rw [eq] at e
      cases e
      obtain ⟨m1, m2⟩ := find_at eq
      obtain ⟨k1, k2⟩ := He.ba m2
      have k1 := eq_of_beq k1
      have k2 := eq_of_beq k2
      subst k1 k2
      have b0 := (says_more c).1
      unfold Glob.exB at b0
      obtain ⟨z1, z2⟩ := He.ba (List.all_eq_true.mp (He.ba (He.ba b0).2).2 q m1)
      obtain ⟨E, eE⟩ := Option.isSome_iff_exists.mp z1
      obtain ⟨hE, en⟩ := exc_at eE
      have F := ex_facts T c hE (exc_glo c X N hE) default h
      rw [en] at F
      exact ⟨F.ec, eqB_ok z2⟩
  cst x v e := by
    have hm := lookup_mem e
    have hf : faC (x, v) ∈ G.fa := by
      unfold Glob.fa
      exact List.mem_append_right _ (List.mem_append_left _ (List.mem_map_of_mem hm))
    have ok := says_fact c hf
    rcases T.co _ hm with ⟨i, e1⟩ | ⟨z, e1⟩
    · have e1 : v = .int i := e1
      subst e1
      obtain ⟨t, e2⟩ := He.int_ok X N ok
      exact ⟨_, .int i, e2, ⟨t, rfl⟩, fun _ _ => rfl⟩
    · have e1 : v = .str z := e1
      subst e1
      obtain ⟨t, e2⟩ := He.str_ok X N ok
      exact ⟨_, .str z, e2, ⟨t, rfl⟩, fun _ _ => rfl⟩
  fre x e := by
    have hm := List.contains_iff_mem.mp e
    refine He.free_ok X N (says_fact c ?_)
    unfold Glob.fa
    exact List.mem_append_right _ (List.mem_append_right _ (List.mem_append_left _ (List.mem_map_of_mem hm)))
  dic x kvs e := by
    have hm := lookup_mem e
    obtain ⟨t1, t2⟩ := says_tab c hm
    obtain ⟨es, n, D⟩ := He.dicW_ok t1
    have g1 : mg x = some (.ref (He.ga K x)) := by
      refine He.glo_ok X N (says_fact c ?_)
      unfold Glob.fa
      exact List.mem_append_right _ (List.mem_append_right _ (List.mem_append_right _ (List.mem_append_left _ (List.mem_map_of_mem (f := fun q : Str × List (Str × PV) => He.Fa.glo q.1) hm))))
    refine ⟨_, es, n, g1, D, fun z => ?_⟩
    cases ez : kvs.lookup z with
    | some v =>
      have hz := lookup_mem ez
      obtain ⟨u, e1, e2⟩ := He.valsB_ok t2 (List.mem_map_of_mem (f := fun r : Str × PV => (r.1, toDv r.2)) hz)
      have e2 : RelV ((toDv v).v K) u := e2
      rw [toDv_v] at e2
      have hs := List.all_eq_true.mp (T.di _ hm) _ hz
      exact ⟨u, _, e1, e2, fun ρ H => small_VR hs ρ H⟩
    | none =>
      refine nsIn_not t1 fun hk => ?_
      obtain ⟨r, hr, e1⟩ := List.mem_map.mp hk
      have e1 : r.1 = z := e1
      have := List.lookup_eq_none_iff.mp ez r hr
      rw [e1] at this
      simp at this
  fns x F e := by
    unfold Glob.fn? at e
    have hm := List.mem_of_find?_eq_some e
    have hx0 := List.find?_some e
    have hx : F.name = x := eq_of_beq hx0
    subst hx
    have g1 : mg F.name = some (.ref (He.ga K F.name)) := by
      refine He.glo_ok X N (says_fact c ?_)
      unfold Glob.fa
      exact List.mem_append_left _ (List.mem_map_of_mem (f := fun F : Fn => He.Fa.glo F.name) hm)
    obtain ⟨fd, D⟩ := says_def c hm
    have t := T.fn F hm
    refine ⟨_, fd, g1, D, t.sc, fun j hj => ?_, fun ks hk s us hs hl => ?_⟩
    · by_cases hd : F.dfl = []
      · have D0 := D
        rw [hd] at D0
        refine ⟨[], [], .nil, fun ρ H => by rw [hd]; simp [VRs], FunD.bindsN D0 (t.b0 hd)⟩
      · obtain ⟨ds, v1, v2⟩ := FunD.binds1 (ps := F.ps) D (F.ps.length - (F.dfl.length - j)) j (by simpa using hd) (by have := t.dl; rw [List.length_map]; omega) (fun T kV doc pm an cdv ct us its hl hi => t.b1 hd j hj T kV doc pm an cdv ct us its (by have := t.dl; omega) (by rw [hi, List.length_map]))
        refine ⟨_, ds, v1, fun ρ H => ?_, v2⟩
        rw [← List.map_drop]
        refine small_VRs ?_ ρ H
        rw [List.all_eq_true]
        exact fun p hp => List.all_eq_true.mp t.sm p (List.mem_of_mem_drop hp)
    · by_cases hd : F.dfl = []
      · have D0 := D
        rw [hd] at D0
        obtain ⟨oc, od, dV, kV, doc, pm, an, cdv, ct, osl, rfl, lk, hcd, hD, hK⟩ := D0.ex
        rcases hD with ⟨_, rfl⟩ | ⟨e, _⟩
        · exact BindsTo.of_eq (t.k0 hd ks hk kV doc pm an cdv ct us hl)
        · exact absurd rfl e
      · obtain ⟨oc, od, dV, kV, doc, pm, an, cdv, ct, osl, rfl, lk, hcd, hD, hK⟩ := D.ex
        rcases hD with ⟨e, _⟩ | ⟨_, T, o, its, m, rfl, lT, oT, rT⟩
        · exact absurd (by simpa using e) hd
        · have l1 : its.length = F.dfl.length := by rw [← rT.length, List.length_map]
          obtain ⟨k, e1, e2⟩ := t.k1 hd ks hk T kV doc pm an cdv ct us its hl l1
          refine BindsTo.of_looks fun M => ?_
          rw [e1]
          exact looks_items hs lT oT (.of_pure e2)
end
end Z

end
section -- Z26
/-! Z26: a law, by what its def comes to. -/
namespace Z
open PySem PySem.Spec PyProof.Rows L2
theorem intsP_VR {K : PySem.W.Frag} {ad : Ads} {ρ : Rho} {H : Hp} : ∀ ns : List Int, VRs K ad ρ H (ns.map PV.int) (ns.map V.int)
  | [] => rfl
  | n :: ns => ⟨_, _, rfl, rfl, intsP_VR ns⟩
theorem script_at {K' : PySem.W.Frag} {ad : Ads} {H : Hp} {a : Addr} {ns : List Int} (hS : SqL (cutL K') H a (ns.map V.int)) : HR (cutL K') ad ⟨[a], []⟩ H [.frz (ns.map PV.int)] := by
  refine ⟨rfl, by simp, fun n o b e1 e2 => ?_, fun b hb => by cases hb⟩
  have hn : n = 0 := by
    have := (List.getElem?_eq_some_iff.mp e1).1
    simpa using this
  subst hn
  cases e1
  cases e2
  refine ⟨_, ?_, intsP_VR ns⟩
  rcases hS with h | ⟨o, its, m, h1, h2, _⟩
  · exact h
  · have z := (lookup_filter h1).2
    have z2 : (match o.cls with
      | .type t => !(t == "list")
      | _ => true) = true := z
    rw [h2] at z2
    exact absurd z2 (by decide)
theorem cx_none {P : Program} {w : World} {H : Hp} {s : Shared} {e : Value} {s' : Shared} (h : L2.CX P w [] H s (fun _ _ _ => False) e s') : False := by
  obtain ⟨_, _, _, _, _, _, _, _, _, _, _, _, z⟩ := h
  exact z.elim
theorem fn_wide {P : Program} {w : World} {K : PySem.W.Frag} {mg : Str → Option Value} {base : Heap} {k : Nat} {f : Addr} {fd : FuncData} {ps : List Str} {sp : Sp} (F : FnOk P w K mg base (L2.CX P w) k f fd ps sp) :
    FnOk P w K mg base (fun o H s E e s' => ∃ P w, L2.CX P w o H s E e s') k f fd ps sp := by
  refine ⟨F.len, fun A outer s H args us vs Q E hr e0 hb r h => codeAny_mono (F.run A outer s H args us vs Q E hr e0 hb r h) fun r s' z => ?_⟩
  cases r with
  | error e => exact ⟨P, w, z⟩
  | ok fl => cases fl <;> exact z
theorem law_end {l : PySem.W.OpenLaw} {n d m : Nat} {G : Glob} {x : Str} {F : Fn} {q : Program} {loose : List Str} {XP : (Str → Option Value) → Heap → Prop} {dr : DefRec} (T : GlobT G) (hn : l.most = some n) (hn2 : n ≤ sizeLine) (hdf : dr.params.defaults = []) (hr : Room (d + 4) callerA) (hd : dr.name = ("law" : Str))
    (eF : G.fn? "law" = some F) (hp : F.ps = [x]) (hf : F.dfl = [])
    (main : ∀ ns : List Int, ns.length ≤ n → ∃ h, runF G d "law" [.ref 0] [.frz (ns.map PV.int)] [] = .ok (.bl true) h) :
    PySem.W.WalkO q loose XP (hookZ m G).says l.row.toRowW dr [] (fun f vs => PySem.call f vs) := by
  refine walk_ofE (k := d + 4) (x := x) (CX := fun o H s E e s' => ∃ P w, L2.CX P w o H s E e s') hn hn2 hdf hr (fun w mg fa h Y N hmg => ?_) fun H s e s' z => ?_
  · obtain ⟨K, KX, c, K', rfl⟩ := Y
    have hl : mg ("law" : Str) = some (.ref fa) := by rw [← hd]; exact hmg
    have c0 : Facts G w (cutL K') mg ⟨He.ga (cutL K'), He.ga (cutL K')⟩ := facts_of T ⟨c, K', rfl⟩ KX N
    obtain ⟨f, fd, h1, h2, h3, h4, h5⟩ := c0.fns "law" F eF
    have e0 : fa = f := by
      have := hl.symm.trans h1
      cases this; rfl
    subst e0
    have hm := List.mem_of_find?_eq_some eF
    have t := T.fn F hm
    have h2' := h2
    rw [hf] at h2'
    have b := FunD.bindsA (ps := F.ps) h2' (t.b0 hf)
    refine ⟨_, fd, simSp (cutL K') ⟨He.ga (cutL K'), He.ga (cutL K')⟩ 1 (runF G d "law"), KX, fun s u => ?_, fun H a ns hlen hO hS => ?_, fun base KB NB => ?_⟩
    · have := b s [u] (by rw [hp]; rfl)
      rw [hp] at this
      exact this
    · obtain ⟨h', e⟩ := main ns hlen
      refine ⟨⟨[a], []⟩, [.frz (ns.map PV.int)], [], [.ref 0], ⟨.ref a, [], rfl, ⟨a, rfl, rfl⟩, rfl⟩, rfl, by rw [List.append_nil]; exact script_at hS, ?_⟩
      rw [e]
      intro ρ' H' _ _ v' hv
      exact hv
    · have c1 : Facts G w (cutL K') mg ⟨He.ga (cutL K'), He.ga (cutL K')⟩ := facts_of T ⟨c, K', rfl⟩ KB NB
      have ok := fn_wide (fn_all (P := l.prog) (w := w) (base := base) c1 d "law" F fa fd eF h2 h3)
      rw [hp] at ok
      exact ok
  · obtain ⟨P, w, z⟩ := z
    exact cx_none z
end Z

end
section -- Z27
/-! Z27: the draws of a law: boxes, what is taken out of them. -/
namespace Z
open PySem PySem.Spec PyProof.Rows L2
def bTake : EvS := (sSeq (sIf (cCmpT (fOrd .gt) (cOp2 fIx (cVar 0) (cC (.int (0)))) (cC (.int (0)))) (sSeq (sAsg (Z.gName 2) (cOp2 fMod (cFn (one fInt) (cCons (cOp2 fIx (cVar 0) (cC (.int (0)))) cNil)) (cVar 1))) (sSeq (sAsg (gSubL (cVar 0) (cC (.int (0)))) (cOp2 fDiv (cOp2 fIx (cVar 0) (cC (.int (0)))) (cVar 1))) (sSeq (sRet (cVar 2)) sPass))) sPass) (sSeq (sAsg (gSubL (cVar 0) (cC (.int (2)))) (cOp2 fAdd (cOp2 fIx (cVar 0) (cC (.int (2)))) (cC (.int (1))))) (sSeq (sAsg (Z.gName 3) (cOp2 fMod (cFn (one fInt) (cCons (cOp2 fMul (cOp2 fAdd (cOp2 fIx (cVar 0) (cC (.int (1)))) (cOp2 fMul (cC (.int (48271))) (cOp2 fIx (cVar 0) (cC (.int (2)))))) (cOp2 fAdd (cC (.int (39373))) (cOp2 fIx (cVar 0) (cC (.int (2)))))) cNil)) (cC (.int (2147483647))))) (sSeq (sAsg (Z.gName 4) (cOp2 fAdd (cOp2 fMod (cFn (one fInt) (cCons (cVar 3) cNil)) (cC (.int (40009)))) (cC (.int (7))))) (sSeq (sAsg (Z.gName 5) (cOp2 fMod (cFn (one fInt) (cCons (cOp2 fMul (cOp2 fAdd (cOp2 fAdd (cVar 3) (cOp2 fIx (cVar 0) (cC (.int (2))))) (cOp2 fDiv (cOp2 fIx (cVar 0) (cC (.int (1)))) (cC (.int (1000003))))) (cVar 4)) cNil)) (cC (.int (2147483629))))) (sSeq (sRet (cOp2 fMod (cFn (one fInt) (cCons (cOp2 fDiv (cOp2 fMod (cFn (one fInt) (cCons (cOp2 fAdd (cOp2 fMul (cVar 5) (cC (.int (48271)))) (cVar 3)) cNil)) (cC (.int (2147483587)))) (cC (.int (64)))) cNil)) (cVar 1))) sPass))))))
def Box (h : Mem) (i m : Nat) : Prop := ∃ b0 b1 b2 : Int, h[i]? = some (.lst [.int b0, .int b1, .int b2]) ∧ 0 ≤ b0 ∧ 0 ≤ b1 ∧ b1 < 4611686018427387904 ∧ 0 ≤ b2 ∧ b2 ≤ m
def Chg (h h' : Mem) (i : Nat) : Prop := h'.length = h.length ∧ ∀ j, j ≠ i → h'[j]? = h[j]?
section
variable {R h h1 : Mem} {env : Envr}
@[simp] theorem ev_bind {α β : Type} {a : α} {k : α → Mem → Res β} : (Res.ok a h).bind k = k a h := rfl
@[simp] theorem ev_go {α : Type} {a : α} {k : α → Mem → SR} : (Res.ok a h).go env k = k a h := rfl
@[simp] theorem ev_nx {k : Envr → Mem → SR} : (SR.nx env h).seq k = k env h := rfl
@[simp] theorem ev_ret {v : PV} {k : Envr → Mem → SR} : (SR.ret v h).seq k = .ret v h := rfl
@[simp] theorem ev_lift {α : Type} {v : α} : liftO h (some v) = .ok v h := rfl
@[simp] theorem ev_seq {a b : EvS} : sSeq a b R env h = (a R env h).seq fun env' h' => b R env' h' := rfl
@[simp] theorem ev_if {t : EvT} {a b : EvS} : sIf t a b R env h = (t R env h).go env fun c h1 => if c = true then a R env h1 else b R env h1 := rfl
@[simp] theorem ev_sret {a : Ev} : sRet a R env h = (a R env h).go env fun v h1 => .ret v h1 := rfl
@[simp] theorem ev_sexpr {a : Ev} : sExpr a R env h = (a R env h).go env fun _ h1 => .nx env h1 := rfl
@[simp] theorem ev_pass : sPass R env h = .nx env h := rfl
@[simp] theorem ev_asg {g : EvG} {a : Ev} : sAsg g a R env h = (a R env h).go env fun v h1 => match g R env h1 v with
  | some (env', h') => .nx env' h'
  | none => .bad := rfl
@[simp] theorem ev_name {i : Nat} {v : PV} : Z.gName i R env h v = some (env.set i (some v), h) := rfl
@[simp] theorem ev_c {v : PV} : cC v R env h = .ok v h := rfl
theorem ev_var {i : Nat} {v : PV} (e : env[i]? = some (some v)) : cVar i R env h = .ok v h := by unfold cVar; rw [e]
def varK : Option (Option PV) → Mem → Res PV
  | some (some v), h => .ok v h
  | _, _ => .bad
@[simp] theorem varK_s {v : PV} : varK (some (some v)) h = .ok v h := rfl
@[simp] theorem ev_varK {i : Nat} : cVar i R env h = varK env[i]? h := by
  unfold cVar
  cases env[i]? with
  | none => rfl
  | some o => cases o <;> rfl
@[simp] theorem ev_op2 {f : Mem → PV → PV → Option PV} {a b : Ev} : cOp2 f a b R env h = (a R env h).bind fun x h1 => (b R env h1).bind fun y h2 => liftO h2 (f (R ++ h2) x y) := rfl
@[simp] theorem ev_op1 {f : Mem → PV → Option PV} {a : Ev} : cOp1 f a R env h = (a R env h).bind fun x h1 => liftO h1 (f (R ++ h1) x) := rfl
@[simp] theorem ev_fn {f : Mem → List PV → Option PV} {a : EvA} : cFn f a R env h = (a R env h).bind fun xs h1 => liftO h1 (f (R ++ h1) xs) := rfl
@[simp] theorem ev_nil : cNil R env h = .ok [] h := rfl
@[simp] theorem ev_cons {a : Ev} {r : EvA} : cCons a r R env h = (a R env h).bind fun x h1 => (r R env h1).bind fun xs h2 => .ok (x :: xs) h2 := rfl
@[simp] theorem ev_cif {t : EvT} {a b : Ev} : cIf t a b R env h = (t R env h).bind fun c h1 => if c = true then a R env h1 else b R env h1 := rfl
def bOf : Option PV → Mem → Res Bool
  | some (.bl k), h => .ok k h
  | _, _ => .bad
@[simp] theorem ev_bof {k : Bool} : bOf (some (.bl k)) h = .ok k h := rfl
@[simp] theorem ev_cmpT {f : Mem → PV → PV → Option PV} {a b : Ev} : cCmpT f a b R env h = (a R env h).bind fun x h1 => (b R env h1).bind fun y h2 => bOf (f (R ++ h2) x y) h2 := by
  show (a R env h).bind _ = (a R env h).bind _
  congr 1; funext x h1
  congr 1; funext y h2
  cases f (R ++ h2) x y with
  | none => rfl
  | some v => cases v <;> rfl
@[simp] theorem ev_one {f : Mem → PV → Option PV} {p : PV} : one f h [p] = f h p := rfl
end
section
theorem at_box {R h : Mem} {i : Nat} : (R ++ h)[R.length + i]? = h[i]? := by
  rw [List.getElem?_append_right (Nat.le_add_right _ _), Nat.add_sub_cancel_left]
theorem lst_box {R h : Mem} {i : Nat} {xs : List PV} (e : h[i]? = some (.lst xs)) : lstOf (R ++ h) (.ref (R.length + i)) = some xs := by
  show (match (R ++ h)[R.length + i]? with
    | some (.lst xs) => some xs
    | some (.frz xs) => some xs
    | _ => none) = some xs
  rw [at_box, e]
theorem seq_box {R h : Mem} {i : Nat} {xs : List PV} (e : h[i]? = some (.lst xs)) : seqOf (R ++ h) (.ref (R.length + i)) = some xs := by
  unfold seqOf; rw [lst_box e]
theorem ix_box {R h : Mem} {i : Nat} {xs : List PV} (k : Int) (e : h[i]? = some (.lst xs)) : fIx (R ++ h) (.ref (R.length + i)) (.int k) = atI xs k := by
  show (match seqOf (R ++ h) (.ref (R.length + i)) with
    | some xs => atI xs k
    | none => none) = _
  rw [seq_box e]
theorem b0_ix {R h : Mem} {i : Nat} {x y z : PV} (e : h[i]? = some (.lst [x, y, z])) : fIx (R ++ h) (.ref (R.length + i)) (.int 0) = some x := ix_box 0 e
theorem b1_ix {R h : Mem} {i : Nat} {x y z : PV} (e : h[i]? = some (.lst [x, y, z])) : fIx (R ++ h) (.ref (R.length + i)) (.int 1) = some y := ix_box 1 e
theorem b2_ix {R h : Mem} {i : Nat} {x y z : PV} (e : h[i]? = some (.lst [x, y, z])) : fIx (R ++ h) (.ref (R.length + i)) (.int 2) = some z := ix_box 2 e
theorem sub0 {R h : Mem} {i : Nat} {x y z v : PV} {env : Envr} {o q : Ev} (ho : o R env h = .ok (.ref (R.length + i)) h) (hq : q R env h = .ok (.int 0) h) (e : h[i]? = some (.lst [x, y, z])) : gSubL o q R env h v = some (env, h.set i (.lst [v, y, z])) := by
  unfold gSubL; rw [ho]; dsimp only; rw [hq]; dsimp only; rw [at_box, e]; dsimp only; rw [if_pos (Nat.le_add_right _ _), Nat.add_sub_cancel_left]; rfl
theorem sub2 {R h : Mem} {i : Nat} {x y z v : PV} {env : Envr} {o q : Ev} (ho : o R env h = .ok (.ref (R.length + i)) h) (hq : q R env h = .ok (.int 2) h) (e : h[i]? = some (.lst [x, y, z])) : gSubL o q R env h v = some (env, h.set i (.lst [x, y, v])) := by
  unfold gSubL; rw [ho]; dsimp only; rw [hq]; dsimp only; rw [at_box, e]; dsimp only; rw [if_pos (Nat.le_add_right _ _), Nat.add_sub_cancel_left]; rfl
theorem fin_same {R h h1 : Mem} {v : PV} (hl : h1.length = h.length) (hd : isData v = true) : finMut R h (.ret v h1) = .ok v h1 := by
  unfold finMut
  dsimp only
  rw [if_pos (by unfold trimOk; rw [hl]; simp)]
  have e : frz (R ++ h).length (R ++ h1) 40 v = some v := by
    unfold frz frz1; rw [if_pos hd]
  rw [e, ← hl, List.take_length]
theorem mul_ok {m : Mem} {i j : Int} (h : (-18446744073709551616 < i ∧ i < 18446744073709551616) ∨ (-18446744073709551616 < j ∧ j < 18446744073709551616)) : fMul m (.int i) (.int j) = some (.int (i * j)) := by
  unfold fMul
  dsimp only
  refine if_pos ?_
  unfold mulOk
  rcases h with ⟨h1, h2⟩ | ⟨h1, h2⟩ <;> simp [h1, h2]
theorem gt_int {m : Mem} {i j : Int} : fOrd .gt m (.int i) (.int j) = some (.bl (decide (j < i))) := rfl
theorem add_int {m : Mem} {i j : Int} : fAdd m (.int i) (.int j) = some (.int (i + j)) := rfl
theorem mod_ok {m : Mem} {i j : Int} (h : 0 < j) : fMod m (.int i) (.int j) = some (.int (i % j)) := if_pos h
theorem div_ok {m : Mem} {i j : Int} (h : 0 < j) (h2 : j < 1073741824) : fDiv m (.int i) (.int j) = some (.int (i / j)) := by
  unfold fDiv
  refine if_pos ?_
  unfold divOk
  simp [h, h2]
theorem take_ok {R h : Mem} {i m : Nat} {s : Int} (b : Box h i m) (hm : m < 1099511627776) (hs : 0 < s) (hs2 : s < 1073741824) :
    ∃ (d : Int) (h' : Mem), finMut R h (bTake R (startE 6 [.ref (R.length + i), .int s]) h) = .ok (.int d) h' ∧ 0 ≤ d ∧ d < s ∧ Chg h h' i ∧ Box h' i (m + 1) := by
  obtain ⟨b0, b1, b2, e, p0, p1, q1, p2, q2⟩ := b
  have hi : i < h.length := (List.getElem?_eq_some_iff.mp e).1
  have es : ∀ o : MO, (h.set i o)[i]? = some o := fun o => by rw [List.getElem?_set_self hi]
  have chg : ∀ o : MO, Chg h (h.set i o) i := fun o => ⟨List.length_set .., fun j hj => List.getElem?_set_ne (Ne.symm hj)⟩
  by_cases hb : 0 < b0
  · refine ⟨b0 % s, h.set i (.lst [.int (b0 / s), .int b1, .int b2]), ?_, Int.emod_nonneg _ (by omega), Int.emod_lt_of_pos _ hs, chg _, ⟨b0 / s, b1, b2, es _, Int.ediv_nonneg p0 (by omega), p1, q1, p2, by omega⟩⟩
    have run : bTake R (startE 6 [.ref (R.length + i), .int s]) h = .ret (.int (b0 % s)) (h.set i (.lst [.int (b0 / s), .int b1, .int b2])) := by
      unfold bTake
      simp [startE, b0_ix e, mod_ok hs, div_ok hs hs2, gt_int, hb, fInt, sub0 (R := R) (env := [some (.ref (R.length + i)), some (.int s), some (.int (b0 % s)), none, none, none]) (o := cVar 0) (q := cC (.int 0)) rfl rfl e]
    rw [run]
    exact fin_same (chg _).1 rfl
  · have e2 : b0 = 0 := by omega
    subst e2
    have c2 : (h.set i (.lst [.int 0, .int b1, .int (b2 + 1)]))[i]? = some (.lst [.int 0, .int b1, .int (b2 + 1)]) := es _
    have nn : ∀ (a b : Int), 0 < b → 0 ≤ a % b ∧ a % b < b := fun a b hb => ⟨Int.emod_nonneg _ (by omega), Int.emod_lt_of_pos _ hb⟩
    obtain ⟨o1, ho1⟩ : ∃ o, o = (b1 + 48271 * (b2 + 1)) * (39373 + (b2 + 1)) % 2147483647 := ⟨_, rfl⟩
    obtain ⟨o2, ho2⟩ : ∃ o, o = o1 % 40009 + 7 := ⟨_, rfl⟩
    obtain ⟨o3, ho3⟩ : ∃ o, o = (o1 + (b2 + 1) + b1 / 1000003) * o2 % 2147483629 := ⟨_, rfl⟩
    have h2 := nn o1 40009 (by decide)
    have m1 : ∀ m : Mem, fMul m (.int 48271) (.int (b2 + 1)) = some (.int (48271 * (b2 + 1))) := fun m => mul_ok (.inl (by decide))
    have m2 : ∀ m : Mem, fMul m (.int (b1 + 48271 * (b2 + 1))) (.int (39373 + (b2 + 1))) = some (.int ((b1 + 48271 * (b2 + 1)) * (39373 + (b2 + 1)))) := fun m => mul_ok (.inr (by omega))
    have m3 : ∀ m : Mem, fMul m (.int (o1 + (b2 + 1) + b1 / 1000003)) (.int o2) = some (.int ((o1 + (b2 + 1) + b1 / 1000003) * o2)) := fun m => mul_ok (.inr (by omega))
    have m4 : ∀ m : Mem, fMul m (.int o3) (.int 48271) = some (.int (o3 * 48271)) := fun m => mul_ok (.inr (by decide))
    refine ⟨((o3 * 48271 + o1) % 2147483587 / 64) % s, h.set i (.lst [.int 0, .int b1, .int (b2 + 1)]), ?_, (nn _ s hs).1, (nn _ s hs).2, chg _, ⟨0, b1, b2 + 1, es _, by omega, p1, q1, by omega, by omega⟩⟩
    have run : bTake R (startE 6 [.ref (R.length + i), .int s]) h = .ret (.int (((o3 * 48271 + o1) % 2147483587 / 64) % s)) (h.set i (.lst [.int 0, .int b1, .int (b2 + 1)])) := by
      unfold bTake
      simp [startE, b0_ix e, b2_ix e, b2_ix c2, b1_ix c2, mod_ok hs, div_ok, mod_ok, gt_int, fInt, add_int, m1, m2, sub2 (R := R) (env := [some (.ref (R.length + i)), some (.int s), none, none, none, none]) (o := cVar 0) (q := cC (.int 2)) rfl rfl e, ← ho1, ← ho2, m3, ← ho3, m4]
    rw [run]
    exact fin_same (chg _).1 rfl
end
end Z

end
section -- Z28
/-! Z28: the draws of a law: one of some, boxes, cells, sameness. -/
namespace Z
open PySem PySem.Spec PyProof.Rows L2
@[simp] theorem ev_call {f : List PV → Mem → Mem → Res PV} {np : Nat} {dfl : List PV} {a : EvA} {R h : Mem} {env : Envr} : cCall f np dfl a R env h = (a R env h).bind fun xs h1 => if (xs ++ dfl).length = np then f (xs ++ dfl) R h1 else .bad := rfl
def andK (o : Option Bool) (x : PV) (h : Mem) (r : Res PV) : Res PV := match o with
  | some true => r
  | some false => .ok x h
  | none => .bad
def orK (o : Option Bool) (x : PV) (h : Mem) (r : Res PV) : Res PV := match o with
  | some true => .ok x h
  | some false => r
  | none => .bad
section
variable {R h : Mem} {env : Envr}
@[simp] theorem ev_truth {a : Ev} : cTruth a R env h = (a R env h).bind fun x h1 => liftO h1 (truth (R ++ h1) x) := rfl
@[simp] theorem ev_or2 {t u : EvT} : tOr2 t u R env h = (t R env h).bind fun c h1 => if c = true then .ok true h1 else u R env h1 := rfl
@[simp] theorem ev_and2 {t u : EvT} : tAnd2 t u R env h = (t R env h).bind fun c h1 => if c = true then u R env h1 else .ok false h1 := rfl
@[simp] theorem ev_not1 {t : EvT} : tNot1 t R env h = (t R env h).bind fun c h1 => .ok (!c) h1 := rfl
@[simp] theorem ev_notV {a : Ev} : cNotV a R env h = (a R env h).bind fun x h1 => liftO h1 ((truth (R ++ h1) x).map fun b => .bl (!b)) := rfl
@[simp] theorem ev_andV {a b : Ev} : cAndV a b R env h = (a R env h).bind fun x h1 => andK (truth (R ++ h1) x) x h1 (b R env h1) := by
  unfold cAndV
  congr 1
@[simp] theorem ev_orV {a b : Ev} : cOrV a b R env h = (a R env h).bind fun x h1 => orK (truth (R ++ h1) x) x h1 (b R env h1) := by
  unfold cOrV
  congr 1
@[simp] theorem ev_andKt {x : PV} {r : Res PV} : andK (some true) x h r = r := rfl
@[simp] theorem ev_andKf {x : PV} {r : Res PV} : andK (some false) x h r = .ok x h := rfl
@[simp] theorem ev_orKt {x : PV} {r : Res PV} : orK (some true) x h r = .ok x h := rfl
@[simp] theorem ev_orKf {x : PV} {r : Res PV} : orK (some false) x h r = r := rfl
@[simp] theorem ev_tbl {b : Bool} : truth h (.bl b) = some b := rfl
end
theorem eq_self {m : Mem} {p : PV} (hp : plain p = true) (hd : dep p ≤ 64) (hr : lstOf m p = none) : fEq m p p = some (.bl true) := by
  unfold fEq datum
  rw [hr]
  dsimp only
  rw [if_pos hp]
  dsimp only
  rw [if_pos (.inl hd), eqv_refl p hp]
section
def bOfs (Φ : Calls) : EvS := (sSeq (sRet (cOp2 fIx (cVar 1) (cCall (Φ "_law_take") 2 [] (cCons (cVar 0) (cCons (cFn (one fLen) (cCons (cVar 1) cNil)) cNil))))) sPass)
/-- take is what it is -/
def TakeIs (Φ : Calls) : Prop := ∀ as R h, Φ "_law_take" as R h = finMut R h (bTake R (startE 6 as) h)
theorem areData_mem : ∀ {xs : List PV} {x : PV}, areData xs = true → x ∈ xs → isData x = true
  | y :: ys, x, h, m => by
    rw [areData, Bool.and_eq_true] at h
    rcases List.mem_cons.mp m with e | e
    · rw [e]; exact h.1
    · exact areData_mem h.2 e
theorem len_lst {m : Mem} {xs : List PV} : fLen m (.lst xs) = some (.int xs.length) := by
  unfold fLen lenOf seqOf lstOf; rfl
theorem len_tup {m : Mem} {xs : List PV} : fLen m (.tup xs) = some (.int xs.length) := by
  unfold fLen lenOf seqOf lstOf tupOf; rfl
theorem atI_nat {α : Type} {xs : List α} {d : Int} (h0 : 0 ≤ d) (h1 : d < xs.length) : ∃ x, atI xs d = some x ∧ x ∈ xs ∧ xs[d.toNat]? = some x := by
  have hd : d.toNat < xs.length := by omega
  refine ⟨xs[d.toNat], ?_, List.getElem_mem hd, List.getElem?_eq_getElem hd⟩
  unfold atI ixN
  rw [if_pos h0, if_pos (by omega)]
  exact List.getElem?_eq_getElem hd
theorem ix_lst {m : Mem} {xs : List PV} {d : Int} : fIx m (.lst xs) (.int d) = atI xs d := rfl
theorem ix_tup {m : Mem} {xs : List PV} {d : Int} : fIx m (.tup xs) (.int d) = atI xs d := rfl
theorem of_ok {Φ : Calls} (hT : TakeIs Φ) {R h : Mem} {i m : Nat} {xs : List PV} (b : Box h i m) (hm : m < 1099511627776) (hx : xs ≠ []) (hl : xs.length < 1073741824) (hd : areData xs = true) :
    ∃ (x : PV) (h' : Mem), finMut R h (bOfs Φ R (startE 2 [.ref (R.length + i), .lst xs]) h) = .ok x h' ∧ x ∈ xs ∧ Chg h h' i ∧ Box h' i (m + 1) := by
  have hp : 0 < xs.length := List.length_pos_iff.mpr hx
  obtain ⟨d, h', e1, e2, e3, e4, e5⟩ := take_ok (R := R) b hm (s := (xs.length : Int)) (by omega) (by omega)
  obtain ⟨x, q1, q2, _⟩ := atI_nat e2 e3
  refine ⟨x, h', ?_, q2, e4, e5⟩
  have run : bOfs Φ R (startE 2 [.ref (R.length + i), .lst xs]) h = .ret x h' := by
    rw [show startE 2 [.ref (R.length + i), .lst xs] = [some (.ref (R.length + i)), some (.lst xs)] from rfl]
    unfold bOfs
    simp [len_lst, hT _ _ _, e1, ix_lst, q1]
  rw [run]
  exact fin_same e4.1 (areData_mem hd q2)
def bSame (s : Str → Str → Option Bool) (t : Str → String → Option Bool) (Φ : Calls) : EvS := (sSeq (sIf (cTruth (cFn (isiX s t) (cCons (cVar 1) (cCons (cFn fTup (cCons (cC (.ty "list")) (cCons (cC (.ty "tuple")) cNil))) cNil)))) (sSeq (sIf (cCmpT fNe (cFn (isiX s t) (cCons (cVar 0) (cCons (cC (.ty "list")) cNil))) (cFn (isiX s t) (cCons (cVar 1) (cCons (cC (.ty "list")) cNil)))) (sSeq (sRet (cC (.bl false))) sPass) sPass) (sSeq (sIf (cCmpT fNe (cFn (isiX s t) (cCons (cVar 0) (cCons (cC (.ty "tuple")) cNil))) (cFn (isiX s t) (cCons (cVar 1) (cCons (cC (.ty "tuple")) cNil)))) (sSeq (sRet (cC (.bl false))) sPass) sPass) (sSeq (sRet (cAndV (cOp2 fEq (cFn (one fLen) (cCons (cVar 0) cNil)) (cFn (one fLen) (cCons (cVar 1) cNil))) (cFn (one fAll) (cCons (cLc [2, 3] (iZipE (cCons (cVar 0) (cCons (cVar 1) cNil))) (Z.gTup [(Z.gName 2), (Z.gName 3)]) tYesE (cCall (Φ "_law_same") 2 [] (cCons (cVar 2) (cCons (cVar 3) cNil)))) cNil)))) sPass))) sPass) (sSeq (sIf (tOr2 (cCmpT fIs (cVar 1) (cC (.non))) (cTruth (cFn (isiX s t) (cCons (cVar 1) (cCons (cFn fTup (cCons (cC (.ty "bool")) (cCons (cC (.ty "str")) cNil))) cNil))))) (sSeq (sRet (cAndV (cOp2 fEq (cVar 0) (cVar 1)) (cAndV (cOp2 fEq (cFn (isiX s t) (cCons (cVar 0) (cCons (cC (.ty "bool")) cNil))) (cFn (isiX s t) (cCons (cVar 1) (cCons (cC (.ty "bool")) cNil)))) (cOp2 fEq (cOp2 fIs (cVar 0) (cC (.non))) (cOp2 fIs (cVar 1) (cC (.non))))))) sPass) sPass) (sSeq (sRet (cAndV (cFn (isiX s t) (cCons (cVar 0) (cCons (cC (.ty "int")) cNil))) (cAndV (cNotV (cFn (isiX s t) (cCons (cVar 0) (cCons (cC (.ty "bool")) cNil)))) (cOp2 fEq (cVar 0) (cVar 1))))) sPass)))
def bSameRec (Φ : Calls) : Ev := cCall (Φ "_law_same") 2 [] (cCons (cVar 2) (cCons (cVar 3) cNil))
theorem compL_cons {vs : List Nat} {g : EvG} {t : EvT} {e : Ev} {R : Mem} {env : Envr} {x : PV} {xs ys : List PV} {y : Option PV} {h h1 h2 : Mem} (e1 : turnC vs g t e R env x h = .ok y h1) (e2 : compL vs g t e R env xs h1 = .ok ys h2) :
    compL vs g t e R env (x :: xs) h = .ok (consO y ys) h2 := by
  rw [compL, e1]
  dsimp only
  rw [e2]
theorem turnC_yes {vs : List Nat} {g : EvG} {e : Ev} {R : Mem} {env env1 : Envr} {x y : PV} {h h1 h3 : Mem} (e1 : g R (wipeE env vs) h x = some (env1, h1)) (e2 : e R env1 h1 = .ok y h3) : turnC vs g tYesE e R env x h = .ok (some y) h3 := by
  unfold turnC
  rw [e1]
  dsimp only [tYesE]
  rw [e2]
theorem turnC_if {vs : List Nat} {g : EvG} {t : EvT} {e : Ev} {R : Mem} {env env1 : Envr} {x y : PV} {h h1 h2 h3 : Mem} (e1 : g R (wipeE env vs) h x = some (env1, h1)) (e0 : t R env1 h1 = .ok true h2) (e2 : e R env1 h2 = .ok y h3) : turnC vs g t e R env x h = .ok (some y) h3 := by
  unfold turnC
  rw [e1]
  dsimp only
  rw [e0]
  dsimp only
  rw [e2]
theorem turnC_no {vs : List Nat} {g : EvG} {t : EvT} {e : Ev} {R : Mem} {env env1 : Envr} {x : PV} {h h1 h2 : Mem} (e1 : g R (wipeE env vs) h x = some (env1, h1)) (e0 : t R env1 h1 = .ok false h2) : turnC vs g t e R env x h = .ok none h2 := by
  unfold turnC
  rw [e1]
  dsimp only
  rw [e0]
theorem lc_items {vs : List Nat} {i : EvI} {g : EvG} {t : EvT} {e : Ev} {R h h1 h2 : Mem} {env : Envr} {xs ys : List PV} (e1 : i R env h = .ok (.items xs) h1) (e2 : compL vs g t e R env xs h1 = .ok ys h2) (hz : ys.length ≤ sizeLine) : cLc vs i g t e R env h = .ok (.lst ys) h2 := by
  unfold cLc
  rw [e1, ev_bind]
  show (match compL vs g t e R env xs h1 with
    | Res.ok ys h2 => if ys.length ≤ sizeLine then Res.ok (PV.lst ys) h2 else Res.bad
    | _ => Res.bad) = _
  rw [e2]
  exact if_pos hz
theorem comp_same {Φ : Calls} {R h : Mem} {p : PV} : ∀ (xs : List PV), (∀ x ∈ xs, Φ "_law_same" [x, x] R h = .ok (.bl true) h) →
    compL [2, 3] (Z.gTup [(Z.gName 2), (Z.gName 3)]) tYesE (cCall (Φ "_law_same") 2 [] (cCons (cVar 2) (cCons (cVar 3) cNil))) R [some p, some p, none, none] (pairsZ xs xs) h = .ok (xs.map fun _ => .bl true) h
  | [], _ => rfl
  | x :: xs, hr => by
    have h1 := hr x (List.mem_cons_self ..)
    refine compL_cons (y := some (.bl true)) (turnC_yes (env1 := [some p, some p, some x, some x]) rfl ?_) (comp_same (p := p) xs fun y hy => hr y (List.mem_cons_of_mem _ hy))
    simp [h1]
theorem asBls_true : ∀ xs : List PV, asBls (xs.map fun _ => .bl true) = some (xs.map fun _ => true)
  | [] => rfl
  | x :: xs => by
    rw [List.map_cons, asBls, asBls_true xs]
    rfl
theorem all_true {m : Mem} (xs : List PV) : fAll m (.lst (xs.map fun _ => .bl true)) = some (.bl true) := by
  show (asBls (xs.map fun _ => PV.bl true)).map (fun bs => PV.bl (bs.all id)) = _
  rw [asBls_true]
  show some (PV.bl _) = _
  congr 2
  rw [List.all_map]
  exact List.all_eq_true.mpr fun _ _ => rfl
/-- what may be held against itself -/
def wide (n : Nat) : List PV → Bool := fun xs => decide (xs.length ≤ n)
mutual
def okS : PV → Bool
  | .non => true
  | .bl _ => true
  | .int _ => true
  | .str _ => true
  | .tup xs => decide (xs.length ≤ sizeLine) && okSs xs
  | .lst xs => decide (xs.length ≤ sizeLine) && okSs xs
  | _ => false
def okSs : List PV → Bool
  | [] => true
  | x :: xs => okS x && okSs xs
end
theorem okSs_mem : ∀ {xs : List PV} {x : PV}, okSs xs = true → x ∈ xs → okS x = true
  | y :: ys, x, h, m => by
    rw [okSs, Bool.and_eq_true] at h
    rcases List.mem_cons.mp m with e | e
    · rw [e]; exact h.1
    · exact okSs_mem h.2 e
theorem deps_mem : ∀ {xs : List PV} {x : PV}, x ∈ xs → dep x ≤ deps xs
  | y :: ys, x, m => by
    rw [deps]
    rcases List.mem_cons.mp m with e | e
    · rw [e]; exact Nat.le_max_left _ _
    · exact Nat.le_trans (deps_mem e) (Nat.le_max_right _ _)
theorem same_ok {s : Str → Str → Option Bool} {t : Str → String → Option Bool} {Φs : Nat → Calls} (hS : ∀ d as R h, Φs (d + 1) "_law_same" as R h = finPure R h (bSame s t (Φs d) (R ++ h) (startE 4 as) [])) :
    ∀ (d : Nat) (p : PV), okS p = true → dep p < d → ∀ R h, Φs d "_law_same" [p, p] R h = .ok (.bl true) h
  | 0, p, _, hd, _, _ => absurd hd (Nat.not_lt_zero _)
  | d + 1, p, ho, hd, R, h => by
    rw [hS, show startE 4 [p, p] = [some p, some p, none, none] from rfl]
    have fin : ∀ b, finPure R h (.ret (.bl b) []) = .ok (.bl b) h := fun b => rfl
    have key : bSame s t (Φs d) (R ++ h) [some p, some p, none, none] [] = .ret (.bl true) [] := by
      cases p with
      | non => rfl
      | bl b => cases b <;> rfl
      | int i =>
        have e : ∀ m, fEq m (.int i) (.int i) = some (.bl true) := fun m => eq_self rfl (Nat.zero_le _) rfl
        have i1 : ∀ m, (isiX s t) m [.int i, .tup [.ty "list", .ty "tuple"]] = some (.bl false) := fun m => rfl
        have i2 : ∀ m, (isiX s t) m [.int i, .tup [.ty "bool", .ty "str"]] = some (.bl false) := fun m => rfl
        have i3 : ∀ m, (isiX s t) m [.int i, .ty "int"] = some (.bl true) := fun m => rfl
        have i4 : ∀ m, (isiX s t) m [.int i, .ty "bool"] = some (.bl false) := fun m => rfl
        unfold bSame
        simp [e, i1, i2, i3, i4, fTup, fIs, isNone, sizeLine]
      | str x =>
        have e : ∀ m, fEq m (.str x) (.str x) = some (.bl true) := fun m => eq_self rfl (Nat.zero_le _) rfl
        have e2 : ∀ m, fEq m (.bl false) (.bl false) = some (.bl true) := fun m => rfl
        have i1 : ∀ m, (isiX s t) m [.str x, .tup [.ty "list", .ty "tuple"]] = some (.bl false) := fun m => rfl
        have i2 : ∀ m, (isiX s t) m [.str x, .tup [.ty "bool", .ty "str"]] = some (.bl true) := fun m => rfl
        have i4 : ∀ m, (isiX s t) m [.str x, .ty "bool"] = some (.bl false) := fun m => rfl
        unfold bSame
        simp [e, e2, i1, i2, i4, fTup, fIs, isNone, sizeLine]
      | tup xs =>
        rw [okS, Bool.and_eq_true] at ho
        have hz : xs.length ≤ sizeLine := of_decide_eq_true ho.1
        have hrec : ∀ x ∈ xs, Φs d "_law_same" [x, x] (R ++ h) [] = .ok (.bl true) [] := fun x hx => same_ok hS d x (okSs_mem ho.2 hx) (by have := deps_mem hx; rw [dep] at hd; omega) _ _
        have e : ∀ m (k : Int), fEq m (.int k) (.int k) = some (.bl true) := fun m k => eq_self rfl (Nat.zero_le _) rfl
        have i1 : ∀ m, (isiX s t) m [.tup xs, .tup [.ty "list", .ty "tuple"]] = some (.bl true) := fun m => rfl
        have i2 : ∀ m, (isiX s t) m [.tup xs, .ty "list"] = some (.bl false) := fun m => rfl
        have i3 : ∀ m, (isiX s t) m [.tup xs, .ty "tuple"] = some (.bl true) := fun m => rfl
        have n1 : ∀ m b, fNe m (.bl b) (.bl b) = some (.bl false) := fun m b => by cases b <;> rfl
        have lc : cLc [2, 3] (iZipE (cCons (cVar 0) (cCons (cVar 1) cNil))) (Z.gTup [(Z.gName 2), (Z.gName 3)]) tYesE (cCall (Φs d "_law_same") 2 [] (cCons (cVar 2) (cCons (cVar 3) cNil))) (R ++ h) [some (.tup xs), some (.tup xs), none, none] [] = .ok (.lst (xs.map fun _ => .bl true)) [] :=
          lc_items rfl (comp_same xs hrec) (by rw [List.length_map]; exact hz)
        unfold bSame
        simp [e, i1, i2, i3, n1, fTup, lc, len_tup, all_true, sizeLine]
      | lst xs =>
        rw [okS, Bool.and_eq_true] at ho
        have hz : xs.length ≤ sizeLine := of_decide_eq_true ho.1
        have hrec : ∀ x ∈ xs, Φs d "_law_same" [x, x] (R ++ h) [] = .ok (.bl true) [] := fun x hx => same_ok hS d x (okSs_mem ho.2 hx) (by have := deps_mem hx; rw [dep] at hd; omega) _ _
        have e : ∀ m (k : Int), fEq m (.int k) (.int k) = some (.bl true) := fun m k => eq_self rfl (Nat.zero_le _) rfl
        have i1 : ∀ m, (isiX s t) m [.lst xs, .tup [.ty "list", .ty "tuple"]] = some (.bl true) := fun m => rfl
        have i2 : ∀ m, (isiX s t) m [.lst xs, .ty "list"] = some (.bl true) := fun m => rfl
        have i3 : ∀ m, (isiX s t) m [.lst xs, .ty "tuple"] = some (.bl false) := fun m => rfl
        have n1 : ∀ m b, fNe m (.bl b) (.bl b) = some (.bl false) := fun m b => by cases b <;> rfl
        have lc : cLc [2, 3] (iZipE (cCons (cVar 0) (cCons (cVar 1) cNil))) (Z.gTup [(Z.gName 2), (Z.gName 3)]) tYesE (cCall (Φs d "_law_same") 2 [] (cCons (cVar 2) (cCons (cVar 3) cNil))) (R ++ h) [some (.lst xs), some (.lst xs), none, none] [] = .ok (.lst (xs.map fun _ => .bl true)) [] :=
          lc_items rfl (comp_same xs hrec) (by rw [List.length_map]; exact hz)
        unfold bSame
        simp [e, i1, i2, i3, n1, fTup, lc, len_lst, all_true, sizeLine]
      | _ => cases ho
    rw [key, fin]
end
end Z

end
section -- Z29
/-! Z29: the draws of a law: a box is made, the cells are read, some are picked. -/
namespace Z
open PySem PySem.Spec PyProof.Rows L2
def Ints (h : Mem) : Prop := ∀ o ∈ h, ∃ ns : List Int, o = .lst (ns.map PV.int)
theorem closeds_ints (n : Nat) : ∀ ns : List Int, closeds n (ns.map PV.int) = true
  | [] => rfl
  | k :: ns => closeds_ints n ns
theorem areData_ints : ∀ ns : List Int, areData (ns.map PV.int) = true
  | [] => rfl
  | k :: ns => areData_ints ns
theorem Ints.closed {h : Mem} (hi : Ints h) (n : Nat) : h.all (closedO n) = true := by
  rw [List.all_eq_true]
  intro o ho
  obtain ⟨ns, rfl⟩ := hi o ho
  exact closeds_ints n ns
theorem trim_grown {R h t : Mem} (hi : Ints h) : trimOk R h (h ++ t) = true := by
  unfold trimOk
  rw [List.take_left, hi.closed]
  simp
section
def bBox (c : Int) : EvS := (sSeq (sAsg (Z.gName 2) (cIf (cCmpT (fOrd .lt) (cVar 1) (cFn (one fLen) (cCons (cVar 0) cNil))) (cOp2 fIx (cVar 0) (cVar 1)) (cC (.int (0))))) (sSeq (sRet (cNew (cCons (cOp2 fMul (cFn (one fAbs) (cCons (cVar 2) cNil)) (cFn (one fInt) (cCons (cOp2 (fOrd .ge) (cFn (one fAbs) (cCons (cVar 2) cNil)) (cOp2 fPow (cC (.int (10))) (cC (.int (18))))) cNil))) (cCons (cOp2 fAdd (cOp2 fAdd (cOp2 fMod (cFn (one fInt) (cCons (cVar 2) cNil)) (cC (.int (2305843009213693951)))) (cOp2 fMul (cC (.int (39373))) (cVar 1))) (cC (.int c))) (cCons (cC (.int (0))) cNil))))) sPass))
@[simp] theorem ev_new {a : EvA} {R h : Mem} {env : Envr} : cNew a R env h = (a R env h).bind fun xs h1 => if xs.length ≤ sizeLine then .ok (.ref (R ++ h1).length) (h1 ++ [.lst xs]) else .bad := rfl
theorem lt_int {m : Mem} {i j : Int} : fOrd .lt m (.int i) (.int j) = some (.bl (decide (i < j))) := rfl
theorem ge_int {m : Mem} {i j : Int} : fOrd .ge m (.int i) (.int j) = some (.bl (decide (j ≤ i))) := rfl
theorem box_ok {c : Int} (hc : 0 ≤ c) (hc2 : c < 1000000) {R h : Mem} {cs : List Int} {k : Nat} (hk : k < cs.length) (hk2 : k < 1000) (hi : Ints h) :
    ∃ b0 b1 : Int, finNew R h (bBox c R (startE 3 [.lst (cs.map PV.int), .int k]) h) = .ok (.ref (R ++ h).length) (h ++ [.lst [.int b0, .int b1, .int 0]]) ∧ 0 ≤ b0 ∧ 0 ≤ b1 ∧ b1 < 4611686018427387904 := by
  obtain ⟨x, hx⟩ : ∃ x, cs[k]? = some x := ⟨_, List.getElem?_eq_getElem hk⟩
  have ex : atI (cs.map PV.int) (k : Int) = some (.int x) := by
    obtain ⟨y, q1, _, q3⟩ := atI_nat (xs := cs.map PV.int) (d := (k : Int)) (by omega) (by rw [List.length_map]; omega)
    rw [q1]
    rw [Int.toNat_natCast, List.getElem?_map, hx] at q3
    exact q3.symm
  obtain ⟨a, ha, ha0⟩ : ∃ a : Int, (∀ m, fAbs m (.int x) = some (.int a)) ∧ 0 ≤ a := ⟨_, fun m => rfl, by split <;> omega⟩
  obtain ⟨b, hb⟩ : ∃ b : Bool, ∀ m, fOrd .ge m (.int a) (.int 1000000000000000000) = some (.bl b) := ⟨_, fun m => rfl⟩
  obtain ⟨z, hz, hz0⟩ : ∃ z : Int, (∀ m, fInt m (.bl b) = some (.int z)) ∧ (z = 0 ∨ z = 1) := ⟨_, fun m => rfl, by cases b <;> simp⟩
  have ii : ∀ (m : Mem) (y : Int), fInt m (.int y) = some (.int y) := fun m y => rfl
  have m0 : ∀ m : Mem, fMul m (.int a) (.int z) = some (.int (a * z)) := fun m => mul_ok (.inr (by omega))
  have m1 : ∀ m : Mem, fMul m (.int 39373) (.int (k : Int)) = some (.int (39373 * (k : Int))) := fun m => mul_ok (.inl (by decide))
  have p1 : ∀ m : Mem, fPow m (.int 10) (.int 18) = some (.int 1000000000000000000) := fun m => rfl
  have e1 := Int.emod_nonneg x (b := 2305843009213693951) (by decide)
  have e2 := Int.emod_lt_of_pos x (b := 2305843009213693951) (by decide)
  refine ⟨a * z, x % 2305843009213693951 + 39373 * (k : Int) + c, ?_, Int.mul_nonneg ha0 (by omega), by omega, by omega⟩
  have run : bBox c R (startE 3 [.lst (cs.map PV.int), .int k]) h = .ret (.ref (R ++ h).length) (h ++ [.lst [.int (a * z), .int (x % 2305843009213693951 + 39373 * (k : Int) + c), .int 0]]) := by
    rw [show startE 3 [.lst (cs.map PV.int), .int k] = [some (.lst (cs.map PV.int)), some (.int k), none] from rfl]
    unfold bBox
    simp [len_lst, ix_lst, ex, hk, lt_int, hb, hz, ha, ii, mod_ok, m0, m1, p1, add_int, ev_new, sizeLine]
  rw [run]
  unfold finNew
  dsimp only
  rw [if_pos ⟨trim_grown hi, Nat.lt_irrefl _⟩, List.take_left, ← List.append_assoc, List.getElem?_append_right (Nat.le_refl _), Nat.sub_self]
  rfl
theorem sub1 {R h : Mem} {i : Nat} {x y z v : PV} {env : Envr} {o q : Ev} (ho : o R env h = .ok (.ref (R.length + i)) h) (hq : q R env h = .ok (.int 1) h) (e : h[i]? = some (.lst [x, y, z])) : gSubL o q R env h v = some (env, h.set i (.lst [x, v, z])) := by
  unfold gSubL; rw [ho]; dsimp only; rw [hq]; dsimp only; rw [at_box, e]; dsimp only; rw [if_pos (Nat.le_add_right _ _), Nat.add_sub_cancel_left]; rfl
def bCellsB : EvS := (sSeq (sAsg (Z.gName 5) (cOp2 fMod (cFn (one fInt) (cCons (cVar 3) cNil)) (cVar 1))) (sSeq (sAsg (gSubL (cVar 2) (cVar 5)) (cOp2 fAdd (cOp2 fIx (cVar 2) (cVar 5)) (cOp2 fMul (cVar 4) (cOp2 fAdd (cVar 3) (cC (.int (2))))))) sPass))
def bCells : EvS := (sSeq (sAsg (Z.gName 2) (cOrV (cNew (aList (cCons (cSl (cVar 0) oNone (oSome (cVar 1))) cNil))) (cNew (cCons (cC (.int (0))) cNil)))) (sSeq (sFor (iEnumE (cCons (cSl (cVar 0) (oSome (cVar 1)) (oSome (cC (.int (63))))) cNil)) (Z.gTup [(Z.gName 3), (Z.gName 4)]) bCellsB) (sSeq (sRet (cVar 2)) sPass)))
theorem cell_turn {R : Mem} {p : PV} {c0 c1 c2 x : Int} {j : Nat} (hj : j < 1000000) {a5 : Option PV} : ∃ d0 d1 d2 : Int, ∃ a : Option PV, bCellsB R [some p, some (.int 3), some (.ref R.length), some (.int j), some (.int x), a5] [.lst [.int c0, .int c1, .int c2]] =
    .nx [some p, some (.int 3), some (.ref R.length), some (.int j), some (.int x), a] [.lst [.int d0, .int d1, .int d2]] := by
  have ii : ∀ (m : Mem) (y : Int), fInt m (.int y) = some (.int y) := fun m y => rfl
  have m1 : ∀ m : Mem, fMul m (.int x) (.int ((j : Int) + 2)) = some (.int (x * ((j : Int) + 2))) := fun m => mul_ok (.inr (by omega))
  have e : ([.lst [.int c0, .int c1, .int c2]] : Mem)[0]? = some (.lst [.int c0, .int c1, .int c2]) := rfl
  have h3 : (j : Int) % 3 = 0 ∨ (j : Int) % 3 = 1 ∨ (j : Int) % 3 = 2 := by omega
  have m3 : ∀ m : Mem, fMod m (.int (j : Int)) (.int 3) = some (.int ((j : Int) % 3)) := fun m => mod_ok (by decide)
  have g0 : fIx (R ++ [.lst [.int c0, .int c1, .int c2]]) (.ref R.length) (.int 0) = some (.int c0) := b0_ix (R := R) (i := 0) e
  have g1 : fIx (R ++ [.lst [.int c0, .int c1, .int c2]]) (.ref R.length) (.int 1) = some (.int c1) := b1_ix (R := R) (i := 0) e
  have g2 : fIx (R ++ [.lst [.int c0, .int c1, .int c2]]) (.ref R.length) (.int 2) = some (.int c2) := b2_ix (R := R) (i := 0) e
  have s0 : ∀ v : PV, gSubL (cVar 2) (cVar 5) R [some p, some (.int 3), some (.ref R.length), some (.int j), some (.int x), some (.int 0)] [.lst [.int c0, .int c1, .int c2]] v = some ([some p, some (.int 3), some (.ref R.length), some (.int j), some (.int x), some (.int 0)], [.lst [v, .int c1, .int c2]]) := fun v => sub0 (R := R) (i := 0) rfl rfl e
  have s1 : ∀ v : PV, gSubL (cVar 2) (cVar 5) R [some p, some (.int 3), some (.ref R.length), some (.int j), some (.int x), some (.int 1)] [.lst [.int c0, .int c1, .int c2]] v = some ([some p, some (.int 3), some (.ref R.length), some (.int j), some (.int x), some (.int 1)], [.lst [.int c0, v, .int c2]]) := fun v => sub1 (R := R) (i := 0) rfl rfl e
  have s2 : ∀ v : PV, gSubL (cVar 2) (cVar 5) R [some p, some (.int 3), some (.ref R.length), some (.int j), some (.int x), some (.int 2)] [.lst [.int c0, .int c1, .int c2]] v = some ([some p, some (.int 3), some (.ref R.length), some (.int j), some (.int x), some (.int 2)], [.lst [.int c0, .int c1, v]]) := fun v => sub2 (R := R) (i := 0) rfl rfl e
  rcases h3 with h | h | h
  · refine ⟨c0 + x * ((j : Int) + 2), c1, c2, some (.int 0), ?_⟩
    unfold bCellsB
    simp [m3, h, ii, m1, add_int, g0, s0]
  · refine ⟨c0, c1 + x * ((j : Int) + 2), c2, some (.int 1), ?_⟩
    unfold bCellsB
    simp [m3, h, ii, m1, add_int, g1, s1]
  · refine ⟨c0, c1, c2 + x * ((j : Int) + 2), some (.int 2), ?_⟩
    unfold bCellsB
    simp [m3, h, ii, m1, add_int, g2, s2]
theorem cell_loop {R : Mem} {p : PV} : ∀ (xs : List Int) (j : Nat) (c0 c1 c2 : Int) (a3 a4 a5 : Option PV), j + xs.length < 1000000 → ∃ d0 d1 d2 : Int, ∃ b3 b4 b5 : Option PV,
    forL (Z.gTup [(Z.gName 3), (Z.gName 4)]) bCellsB R (pairsI j (xs.map PV.int)) [some p, some (.int 3), some (.ref R.length), a3, a4, a5] [.lst [.int c0, .int c1, .int c2]] =
      .nx [some p, some (.int 3), some (.ref R.length), b3, b4, b5] [.lst [.int d0, .int d1, .int d2]]
  | [], j, c0, c1, c2, a3, a4, a5, _ => ⟨c0, c1, c2, a3, a4, a5, rfl⟩
  | x :: xs, j, c0, c1, c2, a3, a4, a5, hj => by
    rw [List.length_cons] at hj
    obtain ⟨d0, d1, d2, a, e⟩ := cell_turn (R := R) (p := p) (c0 := c0) (c1 := c1) (c2 := c2) (x := x) (j := j) (by omega) (a5 := a5)
    obtain ⟨f0, f1, f2, b3, b4, b5, e2⟩ := cell_loop xs (j + 1) d0 d1 d2 (some (.int j)) (some (.int x)) a (by omega)
    refine ⟨f0, f1, f2, b3, b4, b5, ?_⟩
    show (match bCellsB R [some p, some (.int 3), some (.ref R.length), some (.int (j : Int)), some (.int x), a5] [.lst [.int c0, .int c1, .int c2]] with
      | .nx env2 h2 => forL (Z.gTup [(Z.gName 3), (Z.gName 4)]) bCellsB R (pairsI (j + 1) (xs.map PV.int)) env2 h2
      | .ct env2 h2 => forL (Z.gTup [(Z.gName 3), (Z.gName 4)]) bCellsB R (pairsI (j + 1) (xs.map PV.int)) env2 h2
      | .brk env2 h2 => .nx env2 h2
      | r => r) = _
    rw [e]
    exact e2
@[simp] theorem ev_sl {a : Ev} {lo hi : EvO} {R h : Mem} {env : Envr} : cSl a lo hi R env h = (a R env h).bind fun x h1 => (lo R env h1).bind fun l h2 => (hi R env h2).bind fun u h3 => liftO h3 (fSl (R ++ h3) x l u) := rfl
@[simp] theorem ev_onone {R h : Mem} {env : Envr} : oNone R env h = .ok none h := rfl
def oK : PV → Mem → Res (Option Int)
  | .int i, h => .ok (some i) h
  | _, _ => .bad
@[simp] theorem ev_oK {i : Int} {h : Mem} : oK (.int i) h = .ok (some i) h := rfl
@[simp] theorem ev_osome {a : Ev} {R h : Mem} {env : Envr} : oSome a R env h = (a R env h).bind fun x h1 => oK x h1 := by
  unfold oSome
  congr 1
  funext x h1
  cases x <;> rfl
theorem cut_lo (ns : List Int) : cutP (ns.map PV.int) none (some 3) = (ns.take 3).map PV.int := by
  unfold cutP
  rw [HT.sIx_none, show (some (3 : Int)) = some ((3 : Nat) : Int) from rfl, HT.sIx_nat, List.drop_zero, Nat.sub_zero, List.map_take, List.take_eq_take_iff]
  omega
theorem cut_hi (ns : List Int) : cutP (ns.map PV.int) (some 3) (some 63) = ((ns.drop 3).take 60).map PV.int := by
  unfold cutP
  rw [show (some (3 : Int)) = some ((3 : Nat) : Int) from rfl, show (some (63 : Int)) = some ((63 : Nat) : Int) from rfl, HT.sIx_nat, HT.sIx_nat, List.map_take, List.map_drop]
  by_cases h : 3 ≤ (ns.map PV.int).length
  · rw [Nat.min_eq_left h, List.take_eq_take_iff, List.length_drop]
    omega
  · rw [List.drop_eq_nil_of_le (by omega), List.drop_eq_nil_of_le (by omega)]
    simp
theorem frz_ref {n j : Nat} {m : Mem} {ns : List Int} (hj : ¬ j < n) (e : m[j]? = some (.lst (ns.map PV.int))) : frz n m 40 (.ref j) = some (.lst (ns.map PV.int)) := by
  have ho : ∀ (k : Nat) (ns : List Int), optMap (frz n m (k + 1)) (ns.map PV.int) = some (ns.map PV.int) := by
    intro k ns
    induction ns with
    | nil => rfl
    | cons x r ih =>
      rw [List.map_cons, optMap, ih]
      rfl
  show (if isData (.ref j) = true then some (.ref j) else if j < n then some (.ref j) else match m[j]? with
    | some (.lst xs) => (optMap (frz n m 39) xs).map PV.lst
    | some (.ins c ns xs) => match allSome xs with
      | some ys => (optMap (frz n m 39) ys).map (PV.ins c ns)
      | none => none
    | _ => none) = _
  rw [if_neg (fun z => Bool.noConfusion z), if_neg hj, e]
  dsimp only
  rw [ho 38]; rfl
theorem ev_for {i : EvI} {g : EvG} {b : EvS} {R h h1 : Mem} {env : Envr} {xs : List PV} (e : i R env h = .ok (.items xs) h1) : sFor i g b R env h = forL g b R xs env h1 := by
  unfold sFor; rw [e]; rfl
theorem ev_alist {a : EvA} {R h : Mem} {env : Envr} : aList a R env h = (a R env h).bind fun xs h1 => match xs with
  | [p] => liftO h1 (seqOf (R ++ h1) p)
  | _ => .bad := rfl
theorem set2 {a b v : PV} : ([some a, some b, none, none, none, none] : Envr).set 2 (some v) = [some a, some b, some v, none, none, none] := rfl
theorem cells_ok {R h : Mem} {ns : List Int} (e0 : (R ++ h)[0]? = some (.frz (ns.map PV.int))) (hl : ns.length ≤ 63) :
    ∃ cs : List Int, finPure R h (bCells (R ++ h) (startE 6 [.ref 0, .int 3]) []) = .ok (.lst (cs.map PV.int)) h ∧ 1 ≤ cs.length ∧ cs.length ≤ 3 := by
  obtain ⟨M, hM⟩ : ∃ M, M = R ++ h := ⟨_, rfl⟩
  have fin : ∀ (cs : List Int) (j : Nat) (t : Mem), (R ++ h ++ t)[j]? = some (.lst (cs.map PV.int)) → ¬ j < (R ++ h).length → finPure R h (.ret (.ref j) t) = .ok (.lst (cs.map PV.int)) h := by
    intro cs j t e hj
    unfold finPure
    dsimp only
    rw [frz_ref hj e]
  rw [← hM] at e0
  have l0 : ∀ t : Mem, (M ++ t)[0]? = some (.frz (ns.map PV.int)) := fun t => by
    rw [List.getElem?_append_left (List.getElem?_eq_some_iff.mp e0).1]; exact e0
  have lo : ∀ t : Mem, fSl (M ++ t) (.ref 0) none (some 3) = some (.lst ((ns.take 3).map PV.int)) := fun t => by
    show (match lstOf (M ++ t) (.ref 0) with
      | some xs => some (PV.lst (cutP xs none (some 3)))
      | none => none) = _
    rw [show lstOf (M ++ t) (.ref 0) = some (ns.map PV.int) from by unfold lstOf; dsimp only; rw [l0 t]]
    dsimp only
    rw [cut_lo]
  have hi : ∀ t : Mem, fSl (M ++ t) (.ref 0) (some 3) (some 63) = some (.lst (((ns.drop 3).take 60).map PV.int)) := fun t => by
    show (match lstOf (M ++ t) (.ref 0) with
      | some xs => some (PV.lst (cutP xs (some 3) (some 63)))
      | none => none) = _
    rw [show lstOf (M ++ t) (.ref 0) = some (ns.map PV.int) from by unfold lstOf; dsimp only; rw [l0 t]]
    dsimp only
    rw [cut_hi]
  have tr : ∀ (xs : List PV), truth (M ++ [.lst xs]) (.ref M.length) = some (!xs.isEmpty) := fun xs => by
    show (match (M ++ [MO.lst xs])[M.length]? with
      | some (.lst xs) => some (!xs.isEmpty)
      | some (.frz xs) => some (!xs.isEmpty)
      | _ => none) = _
    rw [List.getElem?_append_right (Nat.le_refl _), Nat.sub_self]; rfl
  have first : ∀ l : List Int, l = ns.take 3 → l ≠ [] → cOrV (cNew (aList (cCons (cSl (cVar 0) oNone (oSome (cVar 1))) cNil))) (cNew (cCons (cC (.int (0))) cNil)) M [some (.ref 0), some (.int 3), none, none, none, none] [] = .ok (.ref M.length) [.lst (l.map PV.int)] := by
    intro l el hne
    have e1 : cNew (aList (cCons (cSl (cVar 0) oNone (oSome (cVar 1))) cNil)) M [some (.ref 0), some (.int 3), none, none, none, none] [] = .ok (.ref M.length) [.lst (l.map PV.int)] := by
      have lo' := lo []
      rw [List.append_nil] at lo'
      have hz : l.length ≤ sizeLine := by rw [el, List.length_take]; exact Nat.le_trans (Nat.min_le_left _ _) (by decide)
      simp [ev_alist, lo', seqOf, lstOf, ← el, hz]
    rw [ev_orV, e1, ev_bind, tr]
    cases l with
    | nil => exact absurd rfl hne
    | cons _ _ => rfl
  rw [← hM, show startE 6 [.ref 0, .int 3] = [some (.ref 0), some (.int 3), none, none, none, none] from rfl]
  have mid : ∀ (j : Nat) (t : Mem), iEnumE (cCons (cSl (cVar 0) (oSome (cVar 1)) (oSome (cC (.int (63))))) cNil) M [some (.ref 0), some (.int 3), some (.ref j), none, none, none] t = .ok (.items (pairsI 0 (((ns.drop 3).take 60).map PV.int))) t := by
    intro j t
    show ((cCons (cSl (cVar 0) (oSome (cVar 1)) (oSome (cC (.int (63))))) cNil) M [some (.ref 0), some (.int 3), some (.ref j), none, none, none] t).bind (fun xs h1 => liftO h1 (fEnum xs)) = _
    simp [hi]
    rfl
  by_cases hn : ns = []
  · refine ⟨[0], ?_, by decide, by decide⟩
    have e1 : cOrV (cNew (aList (cCons (cSl (cVar 0) oNone (oSome (cVar 1))) cNil))) (cNew (cCons (cC (.int (0))) cNil)) M [some (.ref 0), some (.int 3), none, none, none, none] [] = .ok (.ref (M.length + 1)) [.lst [], .lst [.int 0]] := by
      have lo' := lo []
      rw [List.append_nil, hn] at lo'
      have tr' := tr []
      simp [ev_alist, lo', seqOf, lstOf, tr', sizeLine]
    have run : bCells M [some (.ref 0), some (.int 3), none, none, none, none] [] = .ret (.ref (M.length + 1)) [.lst [], .lst [.int 0]] := by
      unfold bCells
      rw [ev_seq, ev_asg, e1, ev_go, ev_name]
      dsimp only
      rw [set2, ev_nx, ev_seq, ev_for (mid _ _), hn]
      rfl
    rw [run]
    refine fin [0] _ _ ?_ (by rw [← hM]; omega)
    rw [← hM, List.getElem?_append_right (Nat.le_succ _)]
    simp
  · have hp : 0 < ns.length := List.length_pos_iff.mpr hn
    have hne : ns.take 3 ≠ [] := by simp [hn]
    by_cases h3 : ns.length ≤ 3
    · refine ⟨ns.take 3, ?_, by rw [List.length_take]; omega, by rw [List.length_take]; omega⟩
      have run : bCells M [some (.ref 0), some (.int 3), none, none, none, none] [] = .ret (.ref M.length) [.lst ((ns.take 3).map PV.int)] := by
        unfold bCells
        rw [ev_seq, ev_asg, first _ rfl hne, ev_go, ev_name]
        dsimp only
        rw [set2, ev_nx, ev_seq, ev_for (mid _ _), List.drop_eq_nil_of_le h3]
        rfl
      rw [run]
      refine fin (ns.take 3) _ _ ?_ (by rw [← hM]; omega)
      rw [← hM, List.getElem?_append_right (Nat.le_refl _), Nat.sub_self]; rfl
    · obtain ⟨a, b, c, r, rfl⟩ : ∃ a b c r, ns = a :: b :: c :: r := by
        match ns, h3 with
        | a :: b :: c :: r, _ => exact ⟨a, b, c, r, rfl⟩
        | [], h => simp at h
        | [_], h => simp at h
        | [_, _], h => simp at h
      obtain ⟨d0, d1, d2, b3, b4, b5, e⟩ := cell_loop (R := M) (p := .ref 0) (r.take 60) 0 a b c none none none (by rw [List.length_take]; omega)
      refine ⟨[d0, d1, d2], ?_, by simp, by simp⟩
      have run : bCells M [some (.ref 0), some (.int 3), none, none, none, none] [] = .ret (.ref M.length) [.lst [.int d0, .int d1, .int d2]] := by
        unfold bCells
        rw [ev_seq, ev_asg, first _ rfl hne, ev_go, ev_name]
        dsimp only
        rw [set2, ev_nx, ev_seq, ev_for (mid _ _)]
        have e' : forL (Z.gTup [(Z.gName 3), (Z.gName 4)]) bCellsB M (pairsI 0 ((((a :: b :: c :: r).drop 3).take 60).map PV.int)) [some (.ref 0), some (.int 3), some (.ref M.length), none, none, none] [.lst (((a :: b :: c :: r).take 3).map PV.int)] = .nx [some (.ref 0), some (.int 3), some (.ref M.length), b3, b4, b5] [.lst [.int d0, .int d1, .int d2]] := e
        rw [e']
        rfl
      rw [run]
      refine fin [d0, d1, d2] _ _ ?_ (by rw [← hM]; omega)
      rw [← hM, List.getElem?_append_right (Nat.le_refl _), Nat.sub_self]; rfl
end
end Z

end
section -- Z30
/-! Z30: the draws of a law: some are picked. -/
namespace Z
open PySem PySem.Spec PyProof.Rows L2
section
theorem ev_mut {f : Mem → List PV → List PV → Option (PV × List PV)} {a : Ev} {b : EvA} {R h h1 h2 : Mem} {env : Envr} {i : Nat} {zs0 zs xs ys : List PV} {v : PV} (e1 : a R env h = .ok (.ref (R.length + i)) h1) (e2 : h1[i]? = some (.lst zs0)) (e3 : b R env h1 = .ok xs h2) (e4 : h2[i]? = some (.lst zs)) (e5 : f (R ++ h2) zs xs = some (v, ys)) :
    cMut f a b R env h = .ok v (h2.set i (.lst ys)) := by
  unfold cMut
  rw [e1, ev_bind]
  dsimp only
  rw [at_box, e2]
  dsimp only
  rw [e3, ev_bind, at_box, e4]
  dsimp only
  rw [if_pos (Nat.le_add_right _ _), e5, Nat.add_sub_cancel_left]
def bPickB (Φ : Calls) : EvS := (sSeq (sExpr (cMut mAppend (cVar 4) (cCons (cMut mPopA (cVar 3) (cCons (cCall (Φ "_law_take") 2 [] (cCons (cVar 0) (cCons (cFn (one fLen) (cCons (cVar 3) cNil)) cNil))) cNil)) cNil))) sPass)
def bPick (Φ : Calls) : EvS := (sSeq (sPar2 3 4 (cCons (cNew (aList (cCons (cVar 1) cNil))) (cCons (cNew cNil) cNil))) (sSeq (sFor (iRange1 (cCons (cFn fMin (cCons (cFn (one fInt) (cCons (cVar 2) cNil)) (cCons (cFn (one fLen) (cCons (cVar 3) cNil)) cNil))) cNil)) (Z.gName 5) (bPickB Φ)) (sSeq (sRet (cVar 4)) sPass)))
theorem len_box {R h : Mem} {i : Nat} {xs : List PV} (e : h[i]? = some (.lst xs)) : fLen (R ++ h) (.ref (R.length + i)) = some (.int xs.length) := by
  unfold fLen lenOf
  dsimp only
  rw [seq_box e]
  rfl
theorem Box.lst {h : Mem} {i m : Nat} (b : Box h i m) : ∃ ns : List Int, h[i]? = some (.lst (ns.map PV.int)) := by
  obtain ⟨b0, b1, b2, e, _⟩ := b
  exact ⟨[b0, b1, b2], e⟩
theorem pick_turn {Φ : Calls} (hT : TakeIs Φ) {R h : Mem} {i ip jf m : Nat} {p f : List PV} {g c t : Option PV} (b : Box h i m) (hm : m < 1099511627776) (hp : h[ip]? = some (.lst p)) (hf : h[jf]? = some (.lst f)) (n1 : i ≠ ip) (n2 : i ≠ jf) (n3 : ip ≠ jf) (hne : p ≠ []) (hl : p.length < 1073741824) (hlf : f.length < sizeLine) :
    ∃ (x : PV) (k : Nat) (h' : Mem), bPickB Φ R [some (.ref (R.length + i)), g, c, some (.ref (R.length + ip)), some (.ref (R.length + jf)), t] h = .nx [some (.ref (R.length + i)), g, c, some (.ref (R.length + ip)), some (.ref (R.length + jf)), t] h' ∧
      p[k]? = some x ∧ h'[ip]? = some (.lst (p.eraseIdx k)) ∧ h'[jf]? = some (.lst (f ++ [x])) ∧ Box h' i (m + 1) ∧ h'.length = h.length ∧ ∀ q, q ≠ i → q ≠ ip → q ≠ jf → h'[q]? = h[q]? := by
  have hp0 : 0 < p.length := List.length_pos_iff.mpr hne
  obtain ⟨d, h1, e1, d0, d1, ch, bx⟩ := take_ok (R := R) b hm (s := (p.length : Int)) (by omega) (by omega)
  obtain ⟨x, _, _, q3⟩ := atI_nat d0 d1
  have hp1 : h1[ip]? = some (.lst p) := by rw [ch.2 ip (Ne.symm n1)]; exact hp
  have hf1 : h1[jf]? = some (.lst f) := by rw [ch.2 jf (Ne.symm n2)]; exact hf
  have ip1 : ip < h1.length := (List.getElem?_eq_some_iff.mp hp1).1
  have jf1 : jf < h1.length := (List.getElem?_eq_some_iff.mp hf1).1
  have si : seqIndex? d p.length = some d.toNat := by
    unfold seqIndex?
    have : ¬ d < 0 := by omega
    simp [this, d0, d1]
  have pop : cMut mPopA (cVar 3) (cCons (cCall (Φ "_law_take") 2 [] (cCons (cVar 0) (cCons (cFn (one fLen) (cCons (cVar 3) cNil)) cNil))) cNil) R [some (.ref (R.length + i)), g, c, some (.ref (R.length + ip)), some (.ref (R.length + jf)), t] h = .ok x (h1.set ip (.lst (p.eraseIdx d.toNat))) := by
    refine ev_mut (i := ip) (h1 := h) (h2 := h1) (xs := [.int d]) rfl hp ?_ hp1 ?_
    · simp [len_box hp, hT _ _ _, e1]
    · show (if -(2 ^ 63) ≤ d ∧ d < 2 ^ 63 then (match seqIndex? d p.length with
        | some k => (p[k]?).map fun y => (y, p.eraseIdx k)
        | none => none) else none) = some (x, p.eraseIdx d.toNat)
      rw [if_pos (by omega), si]
      dsimp only
      rw [q3]; rfl
  have app : cMut mAppend (cVar 4) (cCons (cMut mPopA (cVar 3) (cCons (cCall (Φ "_law_take") 2 [] (cCons (cVar 0) (cCons (cFn (one fLen) (cCons (cVar 3) cNil)) cNil))) cNil)) cNil) R [some (.ref (R.length + i)), g, c, some (.ref (R.length + ip)), some (.ref (R.length + jf)), t] h = .ok .non ((h1.set ip (.lst (p.eraseIdx d.toNat))).set jf (.lst (f ++ [x]))) := by
    refine ev_mut (i := jf) (h1 := h) (h2 := h1.set ip (.lst (p.eraseIdx d.toNat))) (xs := [x]) (zs := f) rfl hf ?_ ?_ ?_
    · rw [ev_cons, pop]; rfl
    · rw [List.getElem?_set_ne n3]; exact hf1
    · exact if_pos hlf
  refine ⟨x, d.toNat, (h1.set ip (.lst (p.eraseIdx d.toNat))).set jf (.lst (f ++ [x])), ?_, q3, ?_, ?_, ?_, ?_, fun q k1 k2 k3 => ?_⟩
  · unfold bPickB
    rw [ev_seq, ev_sexpr, app]
    rfl
  · rw [List.getElem?_set_ne (Ne.symm n3), List.getElem?_set_self ip1]
  · rw [List.getElem?_set_self (by rw [List.length_set]; exact jf1)]
  · obtain ⟨b0, b1, b2, e, r⟩ := bx
    exact ⟨b0, b1, b2, by rw [List.getElem?_set_ne (Ne.symm n2), List.getElem?_set_ne (Ne.symm n1)]; exact e, r⟩
  · rw [List.length_set, List.length_set]; exact ch.1
  · rw [List.getElem?_set_ne (Ne.symm k3), List.getElem?_set_ne (Ne.symm k2)]; exact ch.2 q k1
theorem perm_erase {α : Type} {x : α} : ∀ {p : List α} {k : Nat}, p[k]? = some x → (x :: p.eraseIdx k).Perm p
  | y :: p, 0, e => by cases e; exact List.Perm.refl _
  | y :: p, k + 1, e => (List.Perm.swap y x (p.eraseIdx k)).trans (List.Perm.cons y (perm_erase (p := p) (k := k) e))
theorem pick_loop {Φ : Calls} (hT : TakeIs Φ) {R : Mem} {i ip jf : Nat} {g c : Option PV} (n1 : i ≠ ip) (n2 : i ≠ jf) (n3 : ip ≠ jf) : ∀ (zs : List PV) (h : Mem) (m : Nat) (p f : List PV) (t : Option PV), Box h i m → m + zs.length < 1099511627776 → h[ip]? = some (.lst p) → h[jf]? = some (.lst f) → zs.length ≤ p.length → p.length < 1073741824 → f.length + zs.length < sizeLine →
    ∃ (ys rest : List PV) (h' : Mem) (t' : Option PV), forL (Z.gName 5) (bPickB Φ) R zs [some (.ref (R.length + i)), g, c, some (.ref (R.length + ip)), some (.ref (R.length + jf)), t] h = .nx [some (.ref (R.length + i)), g, c, some (.ref (R.length + ip)), some (.ref (R.length + jf)), t'] h' ∧
      (ys ++ rest).Perm p ∧ ys.length = zs.length ∧ h'[ip]? = some (.lst rest) ∧ h'[jf]? = some (.lst (f ++ ys)) ∧ Box h' i (m + zs.length) ∧ h'.length = h.length ∧ ∀ q, q ≠ i → q ≠ ip → q ≠ jf → h'[q]? = h[q]?
  | [], h, m, p, f, t, b, _, hp, hf, _, _, _ => ⟨[], p, h, t, rfl, List.Perm.refl _, rfl, hp, by rw [List.append_nil]; exact hf, b, rfl, fun _ _ _ _ => rfl⟩
  | z :: zs, h, m, p, f, t, b, hm, hp, hf, hl, hl2, hlf => by
    rw [List.length_cons] at hm hl hlf
    obtain ⟨x, k, h1, e1, e2, e3, e4, e5, e6, e7⟩ := pick_turn hT (R := R) (g := g) (c := c) (t := some z) b (by omega) hp hf n1 n2 n3 (fun y => by rw [y] at hl; simp at hl) hl2 (by omega)
    have hk := (List.getElem?_eq_some_iff.mp e2).1
    have le : (p.eraseIdx k).length = p.length - 1 := by rw [List.length_eraseIdx, if_pos hk]
    obtain ⟨ys, rest, h', t', q1, q2, q3, q4, q5, q6, q7, q8⟩ := pick_loop hT n1 n2 n3 zs h1 (m + 1) (p.eraseIdx k) (f ++ [x]) (some z) e5 (by omega) e3 e4 (by omega) (by omega) (by rw [List.length_append]; simp; omega)
    have q6' : Box h' i (m + (z :: zs).length) := by
      have e : m + (z :: zs).length = m + 1 + zs.length := by rw [List.length_cons]; omega
      rw [e]; exact q6
    refine ⟨x :: ys, rest, h', t', ?_, (List.Perm.cons x q2).trans (perm_erase e2), by simp [q3], q4, by rw [q5, List.append_assoc]; rfl, q6', q7.trans e6, fun q a1 a2 a3 => (q8 q a1 a2 a3).trans (e7 q a1 a2 a3)⟩
    rw [forL, ev_name]
    dsimp only
    rw [show (([some (.ref (R.length + i)), g, c, some (.ref (R.length + ip)), some (.ref (R.length + jf)), t] : Envr).set 5 (some z)) = [some (.ref (R.length + i)), g, c, some (.ref (R.length + ip)), some (.ref (R.length + jf)), some z] from rfl, e1]
    exact q1
end
end Z

end
section -- Z31
/-! Z31: the draws of a law: some are picked, as a whole. -/
namespace Z
open PySem PySem.Spec PyProof.Rows L2
section
theorem frz_data {n j : Nat} {m : Mem} {ys : List PV} (hj : ¬ j < n) (e : m[j]? = some (.lst ys)) (hd : areData ys = true) : frz n m 40 (.ref j) = some (.lst ys) := by
  have ho : ∀ (k : Nat) (ys : List PV), areData ys = true → optMap (frz n m (k + 1)) ys = some ys := by
    intro k ys
    induction ys with
    | nil => intro _; rfl
    | cons x r ih =>
      intro h
      rw [areData, Bool.and_eq_true] at h
      rw [optMap, ih h.2]
      have : frz n m (k + 1) x = some x := by unfold frz frz1; rw [if_pos h.1]
      rw [this]
  show (if isData (.ref j) = true then some (.ref j) else if j < n then some (.ref j) else match m[j]? with
    | some (.lst xs) => (optMap (frz n m 39) xs).map PV.lst
    | some (.ins c ns xs) => match allSome xs with
      | some ys => (optMap (frz n m 39) ys).map (PV.ins c ns)
      | none => none
    | _ => none) = _
  rw [if_neg (fun z => Bool.noConfusion z), if_neg hj, e]
  dsimp only
  rw [ho 38 ys hd]; rfl
theorem areData_perm {xs ys : List PV} (p : xs.Perm ys) (h : areData ys = true) : areData xs = true := by
  have key : ∀ l : List PV, (∀ x ∈ l, isData x = true) → areData l = true := by
    intro l
    induction l with
    | nil => intro _; rfl
    | cons x r ih => intro h; rw [areData, h x (List.mem_cons_self ..), ih fun y hy => h y (List.mem_cons_of_mem _ hy)]; rfl
  exact key xs fun x hx => areData_mem h (p.mem_iff.mp hx)
theorem Ints.of_chg {h h' : Mem} {i m : Nat} (hi : Ints h) (hl : h'.length = h.length) (b : Box h' i m) (hq : ∀ q, q ≠ i → h'[q]? = h[q]?) : Ints h' := by
  intro o ho
  obtain ⟨q, hq1, rfl⟩ := List.mem_iff_getElem.mp ho
  by_cases e : q = i
  · subst e
    obtain ⟨ns, hn⟩ := b.lst
    rw [List.getElem?_eq_getElem hq1] at hn
    exact ⟨ns, Option.some.inj hn⟩
  · have := hq q e
    rw [List.getElem?_eq_getElem hq1] at this
    exact hi _ (List.mem_of_getElem? this.symm)
theorem pick_ok {Φ : Calls} (hT : TakeIs Φ) {R h : Mem} {i m : Nat} {xs : List PV} {c : Int} (b : Box h i m) (hi : Ints h) (hm : m < 1000000000) (hl : xs.length < 1000) (hd : areData xs = true) (hc : 0 ≤ c) (hc2 : c < 1000) :
    ∃ (ys rest : List PV) (h' : Mem), finMut R h (bPick Φ R (startE 6 [.ref (R.length + i), .lst xs, .int c]) h) = .ok (.lst ys) h' ∧ (ys ++ rest).Perm xs ∧ ys.length = min c.toNat xs.length ∧ Box h' i (m + 1000) ∧ Chg h h' i := by
  obtain ⟨k, hk⟩ : ∃ k : Int, k = if (xs.length : Int) < c then (xs.length : Int) else c := ⟨_, rfl⟩
  have hk0 : 0 ≤ k ∧ k.toNat = min c.toNat xs.length := by rw [hk]; split <;> omega
  have il : i < h.length := by obtain ⟨_, _, _, e, _⟩ := b; exact (List.getElem?_eq_some_iff.mp e).1
  obtain ⟨H2, hH2⟩ : ∃ H2 : Mem, H2 = h ++ [.lst xs] ++ [.lst []] := ⟨_, rfl⟩
  have b2 : Box H2 i m := by
    obtain ⟨b0, b1, b2, e, r⟩ := b
    exact ⟨b0, b1, b2, by rw [hH2, List.append_assoc, List.getElem?_append_left il]; exact e, r⟩
  have hp2 : H2[h.length]? = some (.lst xs) := by rw [hH2, List.append_assoc, List.getElem?_append_right (Nat.le_refl _), Nat.sub_self]; rfl
  have hf2 : H2[h.length + 1]? = some (.lst []) := by rw [hH2, List.append_assoc, List.getElem?_append_right (Nat.le_add_right _ _), Nat.add_sub_cancel_left]; rfl
  have lz : (intsP 0 k.toNat).length = k.toNat := by unfold intsP; simp
  obtain ⟨ys, rest, h', t', q1, q2, q3, q4, q5, q6, q7, q8⟩ := pick_loop hT (R := R) (g := some (.lst xs)) (c := some (.int c)) (i := i) (ip := h.length) (jf := h.length + 1) (by omega) (by omega) (by omega) (intsP 0 k.toNat) H2 m xs [] none b2 (by rw [lz]; omega) hp2 hf2 (by rw [lz]; omega) (by omega) (by rw [lz]; simp [sizeLine]; omega)
  have mid : iRange1 (cCons (cFn fMin (cCons (cFn (one fInt) (cCons (cVar 2) cNil)) (cCons (cFn (one fLen) (cCons (cVar 3) cNil)) cNil))) cNil) R [some (.ref (R.length + i)), some (.lst xs), some (.int c), some (.ref (R.length + h.length)), some (.ref (R.length + (h.length + 1))), none] H2 = .ok (.items (intsP 0 k.toNat)) H2 := by
    have ii : ∀ (m : Mem) (y : Int), fInt m (.int y) = some (.int y) := fun m y => rfl
    have mn : ∀ m : Mem, fMin m [.int c, .int (xs.length : Int)] = some (.int k) := fun m => by rw [hk]; rfl
    have rg : fRange1 [.int k] = some (.items (intsP 0 k.toNat)) := by
      show (if rgOk k = true then some (Src.items (intsP 0 k.toNat)) else none) = _
      refine if_pos ?_
      unfold rgOk
      rw [Bool.and_eq_true, decide_eq_true_eq, decide_eq_true_eq]
      omega
    show ((cCons (cFn fMin (cCons (cFn (one fInt) (cCons (cVar 2) cNil)) (cCons (cFn (one fLen) (cCons (cVar 3) cNil)) cNil))) cNil) R [some (.ref (R.length + i)), some (.lst xs), some (.int c), some (.ref (R.length + h.length)), some (.ref (R.length + (h.length + 1))), none] H2).bind (fun zs h1 => liftO h1 (fRange1 zs)) = _
    simp [ii, len_box hp2, mn, rg]
  have run : bPick Φ R (startE 6 [.ref (R.length + i), .lst xs, .int c]) h = .ret (.ref (R.length + (h.length + 1))) h' := by
    rw [show startE 6 [.ref (R.length + i), .lst xs, .int c] = [some (.ref (R.length + i)), some (.lst xs), some (.int c), none, none, none] from rfl]
    have e1 : sPar2 3 4 (cCons (cNew (aList (cCons (cVar 1) cNil))) (cCons (cNew cNil) cNil)) R [some (.ref (R.length + i)), some (.lst xs), some (.int c), none, none, none] h = .nx [some (.ref (R.length + i)), some (.lst xs), some (.int c), some (.ref (R.length + h.length)), some (.ref (R.length + (h.length + 1))), none] H2 := by
      unfold sPar2
      have hz : xs.length ≤ 16777216 := by omega
      simp [ev_alist, seqOf, lstOf, sizeLine, hz, hH2]
    unfold bPick
    rw [ev_seq, e1, ev_nx, ev_seq, ev_for mid, q1]
    rfl
  have l2 : H2.length = h.length + 2 := by rw [hH2]; simp
  have tk : (h'.take h.length).length = h.length := by rw [List.length_take, q7, l2]; omega
  have tq : ∀ q, q < h.length → (h'.take h.length)[q]? = h'[q]? := fun q hq => by rw [List.getElem?_take, if_pos hq]
  have bx : Box (h'.take h.length) i (m + 1000) := by
    obtain ⟨b0, b1, b2, e, r0, r1, r2, r3, r4⟩ := q6
    exact ⟨b0, b1, b2, by rw [tq i il]; exact e, r0, r1, r2, r3, by rw [lz] at r4; omega⟩
  have oth : ∀ q, q ≠ i → (h'.take h.length)[q]? = h[q]? := fun q hq => by
    by_cases hlt : q < h.length
    · rw [tq q hlt, q8 q hq (by omega) (by omega), hH2, List.append_assoc, List.getElem?_append_left hlt]
    · rw [List.getElem?_eq_none (by omega), List.getElem?_eq_none (by omega)]
  have hi2 : Ints (h'.take h.length) := hi.of_chg tk bx oth
  refine ⟨ys, rest, h'.take h.length, ?_, q2, by rw [q3, lz]; exact hk0.2, bx, tk, oth⟩
  rw [run]
  unfold finMut
  dsimp only
  have tr : trimOk R h h' = true := by
    unfold trimOk
    rw [hi2.closed]
    simp [q7, l2]
  have fz : frz (R ++ h).length (R ++ h') 40 (.ref (R.length + (h.length + 1))) = some (.lst ys) := by
    refine frz_data (by rw [List.length_append]; omega) (by rw [at_box, q5]; rfl) ?_
    exact areData_perm (List.Perm.refl ys) (by
      have := areData_perm q2 hd
      have key : ∀ (a b : List PV), areData (a ++ b) = true → areData a = true := by
        intro a
        induction a with
        | nil => intro _ _; rfl
        | cons x r ih => intro b h; rw [List.cons_append, areData, Bool.and_eq_true] at h; rw [areData, h.1, ih b h.2]; rfl
      exact key ys rest this)
  rw [if_pos tr, fz]
end
end Z

end
section -- Z32
/-! Z32: sorting what comes of a few known things. -/
namespace Z
open PySem PySem.Spec PyProof.Rows L2
theorem plains_all : ∀ {xs : List PV}, plains xs = true ↔ ∀ x ∈ xs, plain x = true
  | [] => ⟨fun _ _ h => absurd h List.not_mem_nil, fun _ => rfl⟩
  | x :: xs => by
    rw [plains, Bool.and_eq_true, plains_all (xs := xs)]
    exact ⟨fun h y hy => (List.mem_cons.mp hy).elim (fun e => e ▸ h.1) (h.2 y), fun h => ⟨h x (List.mem_cons_self ..), fun y hy => h y (List.mem_cons_of_mem _ hy)⟩⟩
theorem deps_le : ∀ {xs : List PV} {n : Nat}, deps xs ≤ n ↔ ∀ x ∈ xs, dep x ≤ n
  | [], n => ⟨fun _ _ h => absurd h List.not_mem_nil, fun _ => Nat.zero_le _⟩
  | x :: xs, n => by
    rw [deps, Nat.max_le, deps_le (xs := xs)]
    exact ⟨fun h y hy => (List.mem_cons.mp hy).elim (fun e => e ▸ h.1) (h.2 y), fun h => ⟨h x (List.mem_cons_self ..), fun y hy => h y (List.mem_cons_of_mem _ hy)⟩⟩
theorem sortOk_sub {xs D : List PV} (h : ∀ x ∈ xs, x ∈ D) (hD : sortOk D = true) (hl : xs.length ≤ sizeLine) : sortOk xs = true := by
  unfold sortOk at hD ⊢
  rw [Bool.and_eq_true, Bool.and_eq_true, Bool.and_eq_true, Bool.and_eq_true] at hD ⊢
  obtain ⟨h1, h2, h3, h4, _⟩ := hD
  have hm : ∀ d ∈ toDatas xs, d ∈ toDatas D := fun d hd => by
    rw [toDatas_map] at hd ⊢
    obtain ⟨x, hx, rfl⟩ := List.mem_map.mp hd
    exact List.mem_map_of_mem (h x hx)
  refine ⟨plains_all.mpr fun x hx => plains_all.mp h1 x (h x hx), ?_, ?_, decide_eq_true (deps_le.mpr fun x hx => deps_le.mp (of_decide_eq_true h4) x (h x hx)), decide_eq_true hl⟩
  · unfold alikes at h2 ⊢
    rw [List.all_eq_true] at h2 ⊢
    intro d hd
    have := h2 d (hm d hd)
    rw [List.all_eq_true] at this ⊢
    exact fun e he => this e (hm e he)
  · rw [Bool.or_eq_true] at h3 ⊢
    rcases h3 with h3 | h3
    · exact .inl (List.all_eq_true.mpr fun d hd => List.all_eq_true.mp h3 d (hm d hd))
    · exact .inr (List.all_eq_true.mpr fun d hd => List.all_eq_true.mp h3 d (hm d hd))
theorem sorted_ok {m : Mem} {xs D : List PV} (h : ∀ x ∈ xs, x ∈ D) (hD : sortOk D = true) (hl : xs.length ≤ sizeLine) : fSorted m (.lst xs) = some (.lst (isortB (leD false) xs)) := by
  have e := sortOk_sub h hD hl
  unfold fSorted
  rw [show seqOf m (.lst xs) = some xs from rfl]
  dsimp only
  rw [if_pos e]
end Z

end
section -- Z33
/-! Z33: texts out of a pool, sorted. -/
namespace Z
open PySem PySem.Spec PyProof.Rows L2
def leS (a b : Str) : Bool := leD false (.str a) (.str b)
def insS (x : Str) : List Str → List Str
  | [] => [x]
  | y :: ys => if leS x y = true then x :: y :: ys else y :: insS x ys
def isortS : List Str → List Str
  | [] => []
  | x :: xs => insS x (isortS xs)
def subs : List Str → List (List Str)
  | [] => [[]]
  | x :: xs => subs xs ++ (subs xs).map (x :: ·)
theorem insS_map (x : Str) : ∀ ys : List Str, insB (leD false) (.str x) (ys.map PV.str) = (insS x ys).map PV.str
  | [] => rfl
  | y :: ys => by
    show (if leD false (.str x) (.str y) = true then _ else _) = _
    unfold insS
    by_cases h : leD false (.str x) (.str y) = true
    · rw [if_pos h, if_pos (show leS x y = true from h)]; rfl
    · rw [if_neg h, if_neg (show ¬ leS x y = true from h), insS_map x ys]; rfl
theorem isortS_map : ∀ ys : List Str, isortB (leD false) (ys.map PV.str) = (isortS ys).map PV.str
  | [] => rfl
  | y :: ys => by
    show insB (leD false) (.str y) (isortB (leD false) (ys.map PV.str)) = _
    rw [isortS_map ys, insS_map]; rfl
def poolOk (P : List Str) : Bool := (subs P).all fun zs => P.all fun x => zs.contains x || (subs P).contains (insS x zs)
theorem insS_mem (x z : Str) : ∀ ys : List Str, z ∈ insS x ys ↔ z = x ∨ z ∈ ys
  | [] => by simp [insS]
  | y :: ys => by
    unfold insS
    split
    · simp
    · rw [List.mem_cons, insS_mem x z ys, List.mem_cons]
      exact ⟨fun h => h.elim (fun e => .inr (.inl e)) (fun h => h.elim .inl fun h => .inr (.inr h)), fun h => h.elim (fun e => .inr (.inl e)) (fun h => h.elim .inl fun h => .inr (.inr h))⟩
theorem isortS_mem (z : Str) : ∀ ys : List Str, z ∈ isortS ys ↔ z ∈ ys
  | [] => by simp [isortS]
  | y :: ys => by rw [isortS, insS_mem, isortS_mem z ys, List.mem_cons]
theorem nil_subs : ∀ P : List Str, [] ∈ subs P
  | [] => by simp [subs]
  | x :: P => List.mem_append_left _ (nil_subs P)
theorem isort_sub {P : List Str} (hP : poolOk P = true) : ∀ {ys : List Str}, ys.Nodup → (∀ y ∈ ys, y ∈ P) → isortS ys ∈ subs P
  | [], _, _ => nil_subs P
  | y :: ys, hn, hm => by
    have ih := isort_sub hP (ys := ys) (List.nodup_cons.mp hn).2 fun z hz => hm z (List.mem_cons_of_mem _ hz)
    unfold poolOk at hP
    have h1 := List.all_eq_true.mp (List.all_eq_true.mp hP _ ih) y (hm y (List.mem_cons_self ..))
    rw [Bool.or_eq_true] at h1
    rcases h1 with h1 | h1
    · exact absurd ((isortS_mem y ys).mp (List.contains_iff_mem.mp h1)) (List.nodup_cons.mp hn).1
    · exact List.contains_iff_mem.mp h1
end Z

end
section -- Z34
/-! Z34: what the draws promise; the steps of a program are drawn. -/
namespace Z
open PySem PySem.Spec PyProof.Rows L2
def TakeS (Φ : Calls) : Prop := ∀ (R h : Mem) (i m : Nat) (s : Int), Box h i m → m < 1099511627776 → 0 < s → s < 1073741824 → ∃ (d : Int) (h' : Mem), Φ "_law_take" [.ref (R.length + i), .int s] R h = .ok (.int d) h' ∧ 0 ≤ d ∧ d < s ∧ Chg h h' i ∧ Box h' i (m + 1)
def OfS (Φ : Calls) : Prop := ∀ (R h : Mem) (i m : Nat) (xs : List PV), Box h i m → m < 1099511627776 → xs ≠ [] → xs.length < 1073741824 → areData xs = true → ∃ (x : PV) (h' : Mem), Φ "_law_of" [.ref (R.length + i), .lst xs] R h = .ok x h' ∧ x ∈ xs ∧ Chg h h' i ∧ Box h' i (m + 1)
def PickS (Φ : Calls) : Prop := ∀ (R h : Mem) (i m : Nat) (xs : List PV) (c : Int), Box h i m → Ints h → m < 1000000000 → xs.length < 1000 → areData xs = true → 0 ≤ c → c < 1000 →
    ∃ (ys rest : List PV) (h' : Mem), Φ "_law_pick" [.ref (R.length + i), .lst xs, .int c] R h = .ok (.lst ys) h' ∧ (ys ++ rest).Perm xs ∧ ys.length = min c.toNat xs.length ∧ Box h' i (m + 1000) ∧ Chg h h' i
theorem Chg.ints {h h' : Mem} {i m : Nat} (c : Chg h h' i) (b : Box h' i m) (hi : Ints h) : Ints h' := hi.of_chg c.1 b c.2
theorem Chg.trans {a b c : Mem} {i : Nat} (x : Chg a b i) (y : Chg b c i) : Chg a c i := ⟨y.1.trans x.1, fun j hj => (y.2 j hj).trans (x.2 j hj)⟩
theorem Box.mono {h : Mem} {i m n : Nat} (b : Box h i m) (hmn : m ≤ n) : Box h i n := by
  obtain ⟨b0, b1, b2, e, r0, r1, r2, r3, r4⟩ := b
  exact ⟨b0, b1, b2, e, r0, r1, r2, r3, by omega⟩
end Z

end
section -- Z35
/-! Z35: plain helps: what a def hands back, comprehensions, sorting by an order. -/
namespace Z
open PySem PySem.Spec PyProof.Rows L2
theorem frz_of_data {n : Nat} {m : Mem} {v : PV} (hd : isData v = true) : frz n m 40 v = some v := by unfold frz frz1; rw [if_pos hd]
theorem fin_data {R h h1 : Mem} {v : PV} (hd : isData v = true) : finPure R h (.ret v h1) = .ok v h := by
  show (match frz (R ++ h).length (R ++ h ++ h1) 40 v with
    | some w => Res.ok w h
    | none => Res.bad) = _
  rw [frz_of_data hd]
theorem optMap_data {n : Nat} {m : Mem} : ∀ {vs : List PV}, areData vs = true → optMap (frz n m 40) vs = some vs
  | [], _ => rfl
  | v :: vs, h => by
    rw [areData, Bool.and_eq_true] at h
    show (match frz n m 40 v, optMap (frz n m 40) vs with
      | some y, some ys => some (y :: ys)
      | _, _ => none) = _
    rw [frz_of_data h.1, optMap_data h.2]
theorem fin_exc {R h h1 : Mem} {env : Envr} {c : Xc} {ns : List Str} {vs : List PV} (hd : areData vs = true) : finPure R h (.exc c ns vs env h1) = .exc c ns vs h := by
  show (match optMap (frz (R ++ h).length (R ++ h ++ h1) 40) vs with
    | some ws => Res.exc c ns ws h
    | none => Res.bad) = _
  rw [optMap_data hd]
theorem areData_all {xs : List PV} (h : ∀ x ∈ xs, isData x = true) : areData xs = true := by
  induction xs with
  | nil => rfl
  | cons x xs ih => rw [areData, h x (List.mem_cons_self ..), ih fun y hy => h y (List.mem_cons_of_mem _ hy)]; rfl
theorem areData_map {α : Type} {f : α → PV} (xs : List α) (h : ∀ x ∈ xs, isData (f x) = true) : areData (xs.map f) = true := areData_all fun y hy => by
  obtain ⟨x, hx, rfl⟩ := List.mem_map.mp hy
  exact h x hx
theorem areData_strs (xs : List Str) : areData (xs.map PV.str) = true := areData_map xs fun _ _ => rfl
theorem compL_map {α : Type} {vs : List Nat} {g : EvG} {e : Ev} {R : Mem} {env : Envr} {h : Mem} {emb f : α → PV} : ∀ (xs : List α), (∀ x ∈ xs, ∃ env1, g R (wipeE env vs) h (emb x) = some (env1, h) ∧ e R env1 h = .ok (f x) h) →
    compL vs g tYesE e R env (xs.map emb) h = .ok (xs.map f) h
  | [], _ => rfl
  | x :: xs, hx => by
    obtain ⟨env1, e1, e2⟩ := hx x (List.mem_cons_self ..)
    exact compL_cons (y := some (f x)) (turnC_yes e1 e2) (compL_map xs fun y hy => hx y (List.mem_cons_of_mem _ hy))
theorem compL_filter {α : Type} {vs : List Nat} {g : EvG} {t : EvT} {e : Ev} {R : Mem} {env : Envr} {h : Mem} {emb f : α → PV} {p : α → Bool} : ∀ (xs : List α), (∀ x ∈ xs, ∃ env1, g R (wipeE env vs) h (emb x) = some (env1, h) ∧ t R env1 h = .ok (p x) h ∧ (p x = true → e R env1 h = .ok (f x) h)) →
    compL vs g t e R env (xs.map emb) h = .ok ((xs.filter p).map f) h
  | [], _ => rfl
  | x :: xs, hx => by
    obtain ⟨env1, e1, e0, e2⟩ := hx x (List.mem_cons_self ..)
    have ih := compL_filter (vs := vs) (g := g) (t := t) (e := e) (R := R) (env := env) (h := h) (emb := emb) (f := f) (p := p) xs fun y hy => hx y (List.mem_cons_of_mem _ hy)
    rw [List.map_cons, List.filter_cons]
    cases hp : p x with
    | true =>
      rw [if_pos rfl]
      rw [hp] at e0
      exact compL_cons (y := some (f x)) (turnC_if e1 e0 (e2 hp)) ih
    | false =>
      rw [hp] at e0
      rw [if_neg (by simp)]
      exact compL_cons (y := none) (turnC_no e1 e0) ih
theorem asBls_map {α : Type} (p : α → Bool) : ∀ xs : List α, asBls (xs.map fun x => PV.bl (p x)) = some (xs.map p)
  | [] => rfl
  | x :: xs => by rw [List.map_cons, asBls, asBls_map p xs]; rfl
theorem all_map {α : Type} {m : Mem} (p : α → Bool) (xs : List α) : fAll m (.lst (xs.map fun x => PV.bl (p x))) = some (.bl (xs.all p)) := by
  show (asBls (xs.map fun x => PV.bl (p x))).map (fun bs => PV.bl (bs.all id)) = _
  rw [asBls_map]
  show some (PV.bl _) = _
  rw [List.all_map]; rfl
theorem any_map {α : Type} {m : Mem} (p : α → Bool) (xs : List α) : fAny m (.lst (xs.map fun x => PV.bl (p x))) = some (.bl (xs.any p)) := by
  show (asBls (xs.map fun x => PV.bl (p x))).map (fun bs => PV.bl (bs.any id)) = _
  rw [asBls_map]
  show some (PV.bl _) = _
  rw [List.any_map]; rfl
theorem asStrs_map : ∀ xs : List Str, asStrs (xs.map PV.str) = some xs
  | [] => rfl
  | x :: xs => by rw [List.map_cons, asStrs, asStrs_map xs]; rfl
/-! ### orders -/
structure OrdE (α : Type) where
  emb : α → PV
  lt : α → α → Bool
  irr : ∀ a, lt a a = false
  tr : ∀ a b c, lt a b = true → lt b c = true → lt a c = true
  tot : ∀ a b, lt a b = false → lt b a = false → a = b
  le : ∀ a b, leD false (emb a) (emb b) = !lt b a
section
variable {α : Type} (O : OrdE α)
def insA (x : α) : List α → List α
  | [] => [x]
  | y :: ys => if O.lt y x = false then x :: y :: ys else y :: insA x ys
def isortA : List α → List α
  | [] => []
  | x :: xs => insA O x (isortA xs)
theorem insA_map (x : α) : ∀ ys : List α, insB (leD false) (O.emb x) (ys.map O.emb) = (insA O x ys).map O.emb
  | [] => rfl
  | y :: ys => by
    rw [List.map_cons, insB, insA, O.le]
    cases h : O.lt y x with
    | false => exact (if_pos rfl).trans (by rw [if_pos rfl]; rfl)
    | true => rw [if_neg (by simp), if_neg (by simp), insA_map x ys]; rfl
theorem isortA_map : ∀ ys : List α, isortB (leD false) (ys.map O.emb) = (isortA O ys).map O.emb
  | [] => rfl
  | y :: ys => by rw [List.map_cons, isortB, isortA_map ys, insA_map]; rfl
theorem insA_perm (x : α) : ∀ ys : List α, (insA O x ys).Perm (x :: ys)
  | [] => List.Perm.refl _
  | y :: ys => by
    rw [insA]
    split
    · exact List.Perm.refl _
    · exact (List.Perm.cons y (insA_perm x ys)).trans (List.Perm.swap x y ys)
theorem isortA_perm : ∀ ys : List α, (isortA O ys).Perm ys
  | [] => List.Perm.refl _
  | y :: ys => (insA_perm O y _).trans (List.Perm.cons y (isortA_perm ys))
theorem isortA_mem {x : α} {ys : List α} : x ∈ isortA O ys ↔ x ∈ ys := (isortA_perm O ys).mem_iff
theorem OrdE.ne_lt {a b : α} (h : a ≠ b) (h1 : O.lt a b = false) : O.lt b a = true := by
  cases h2 : O.lt b a with
  | true => rfl
  | false => exact absurd (O.tot a b h1 h2) h
theorem insA_sorted (x : α) : ∀ {ys : List α}, ys.Pairwise (fun a b => O.lt a b = true) → x ∉ ys → (insA O x ys).Pairwise (fun a b => O.lt a b = true)
  | [], _, _ => by simp [insA]
  | y :: ys, hs, hx => by
    rw [insA]
    have hs' := List.pairwise_cons.mp hs
    cases h : O.lt y x with
    | false =>
      rw [if_pos rfl]
      have hxy : O.lt x y = true := O.ne_lt (fun e => hx (by rw [e]; exact List.mem_cons_self ..)) h
      refine List.pairwise_cons.mpr ⟨fun z hz => ?_, hs⟩
      rcases List.mem_cons.mp hz with e | e
      · rw [e]; exact hxy
      · exact O.tr _ _ _ hxy (hs'.1 z e)
    | true =>
      rw [if_neg (by simp)]
      refine List.pairwise_cons.mpr ⟨fun z hz => ?_, insA_sorted x hs'.2 fun e => hx (List.mem_cons_of_mem _ e)⟩
      rcases List.mem_cons.mp ((insA_perm O x ys).mem_iff.mp hz) with e | e
      · rw [e]; exact h
      · exact hs'.1 z e
theorem isortA_sorted : ∀ {ys : List α}, ys.Nodup → (isortA O ys).Pairwise (fun a b => O.lt a b = true)
  | [], _ => List.Pairwise.nil
  | y :: ys, h => insA_sorted O y (isortA_sorted (List.nodup_cons.mp h).2) fun e => (List.nodup_cons.mp h).1 ((isortA_mem O).mp e)
theorem sorted_nodup {ys : List α} (h : ys.Pairwise (fun a b => O.lt a b = true)) : ys.Nodup := h.imp fun {a b} hab e => by
  rw [e, O.irr] at hab; cases hab
theorem sorted_ext : ∀ {xs ys : List α}, xs.Pairwise (fun a b => O.lt a b = true) → ys.Pairwise (fun a b => O.lt a b = true) → (∀ z, z ∈ xs ↔ z ∈ ys) → xs = ys
  | [], [], _, _, _ => rfl
  | [], y :: ys, _, _, h => absurd ((h y).mpr (List.mem_cons_self ..)) (by simp)
  | x :: xs, [], _, _, h => absurd ((h x).mp (List.mem_cons_self ..)) (by simp)
  | x :: xs, y :: ys, hx, hy, h => by
    have hx' := List.pairwise_cons.mp hx
    have hy' := List.pairwise_cons.mp hy
    have e : x = y := by
      rcases List.mem_cons.mp ((h x).mp (List.mem_cons_self ..)) with e | e
      · exact e
      · rcases List.mem_cons.mp ((h y).mpr (List.mem_cons_self ..)) with e2 | e2
        · exact e2.symm
        · have a := hx'.1 y e2
          have b := hy'.1 x e
          have c := O.tr _ _ _ a b
          rw [O.irr] at c; cases c
    subst e
    congr 1
    refine sorted_ext hx'.2 hy'.2 fun z => ⟨fun hz => ?_, fun hz => ?_⟩
    · rcases List.mem_cons.mp ((h z).mp (List.mem_cons_of_mem _ hz)) with e | e
      · subst e; have := hx'.1 z hz; rw [O.irr] at this; cases this
      · exact e
    · rcases List.mem_cons.mp ((h z).mpr (List.mem_cons_of_mem _ hz)) with e | e
      · subst e; have := hy'.1 z hz; rw [O.irr] at this; cases this
      · exact e
theorem isortA_eq {xs ys : List α} (hn : xs.Nodup) (hy : ys.Pairwise (fun a b => O.lt a b = true)) (h : ∀ z, z ∈ xs ↔ z ∈ ys) : isortA O xs = ys :=
  sorted_ext O (isortA_sorted O hn) hy fun z => (isortA_mem O).trans (h z)
end
def ltS (a b : Str) : Bool := decide (TL.tl a < TL.tl b)
theorem ltS_irr (a : Str) : ltS a a = false := decide_eq_false (List.lt_irrefl _)
theorem ltS_tr (a b c : Str) (h1 : ltS a b = true) (h2 : ltS b c = true) : ltS a c = true := decide_eq_true (List.lt_trans (of_decide_eq_true h1) (of_decide_eq_true h2))
theorem ltS_tot (a b : Str) (h1 : ltS a b = false) (h2 : ltS b a = false) : a = b :=
  TL.ext_tl (List.le_antisymm (List.not_lt.mp (of_decide_eq_false h2)) (List.not_lt.mp (of_decide_eq_false h1)))
theorem leD_str (a b : Str) : leD false (.str a) (.str b) = !ltS b a := by
  show (!(PyProof.Rows.lexLt PyProof.Rows.itemOrd [Sum.inr b.cps.toList] [Sum.inr a.cps.toList])) = _
  rw [PyProof.Rows.lex_cons]
  show (!(decide (b.cps.toList < a.cps.toList) || (!decide (a.cps.toList < b.cps.toList) && false))) = _
  rw [Bool.and_false, Bool.or_false]; rfl
def OS : OrdE Str := ⟨PV.str, ltS, ltS_irr, ltS_tr, ltS_tot, leD_str⟩
def ltP (a b : Str × Str) : Bool := ltS a.1 b.1 || (!ltS b.1 a.1 && ltS a.2 b.2)
def pv2 (p : Str × Str) : PV := .tup [.str p.1, .str p.2]
theorem ltP_irr (a : Str × Str) : ltP a a = false := by unfold ltP; rw [ltS_irr, ltS_irr]; rfl
theorem ltS_asy {a b : Str} (h : ltS a b = true) : ltS b a = false := by
  cases h2 : ltS b a with
  | false => rfl
  | true => have := ltS_tr _ _ _ h h2; rw [ltS_irr] at this; cases this
theorem ltP_iff {a b : Str × Str} : ltP a b = true ↔ ltS a.1 b.1 = true ∨ (a.1 = b.1 ∧ ltS a.2 b.2 = true) := by
  unfold ltP
  rw [Bool.or_eq_true, Bool.and_eq_true, Bool.not_eq_true']
  constructor
  · rintro (h | ⟨h1, h2⟩)
    · exact .inl h
    · cases h3 : ltS a.1 b.1 with
      | true => exact .inl rfl
      | false => exact .inr ⟨ltS_tot _ _ h3 h1, h2⟩
  · rintro (h | ⟨h1, h2⟩)
    · exact .inl h
    · exact .inr ⟨by rw [h1]; exact ltS_irr _, h2⟩
theorem ltP_tr (a b c : Str × Str) (h1 : ltP a b = true) (h2 : ltP b c = true) : ltP a c = true := by
  rw [ltP_iff] at *
  rcases h1 with h1 | ⟨e1, h1⟩ <;> rcases h2 with h2 | ⟨e2, h2⟩
  · exact .inl (ltS_tr _ _ _ h1 h2)
  · exact .inl (e2 ▸ h1)
  · exact .inl (e1 ▸ h2)
  · exact .inr ⟨e1.trans e2, ltS_tr _ _ _ h1 h2⟩
theorem ltP_tot (a b : Str × Str) (h1 : ltP a b = false) (h2 : ltP b a = false) : a = b := by
  have n1 : ¬ ltP a b = true := by rw [h1]; simp
  have n2 : ¬ ltP b a = true := by rw [h2]; simp
  rw [ltP_iff] at n1 n2
  have a1 : ltS a.1 b.1 = false := by cases h : ltS a.1 b.1 with | false => rfl | true => exact absurd (.inl h) n1
  have a2 : ltS b.1 a.1 = false := by cases h : ltS b.1 a.1 with | false => rfl | true => exact absurd (.inl h) n2
  have e1 := ltS_tot _ _ a1 a2
  have b1 : ltS a.2 b.2 = false := by cases h : ltS a.2 b.2 with | false => rfl | true => exact absurd (.inr ⟨e1, h⟩) n1
  have b2 : ltS b.2 a.2 = false := by cases h : ltS b.2 a.2 with | false => rfl | true => exact absurd (.inr ⟨e1.symm, h⟩) n2
  exact Prod.ext e1 (ltS_tot _ _ b1 b2)
theorem leD_pair (a b : Str × Str) : leD false (pv2 a) (pv2 b) = !ltP b a := by
  show (!(PyProof.Rows.lexLt PyProof.Rows.itemOrd [Sum.inl 1, Sum.inr b.1.cps.toList, Sum.inl 1, Sum.inr b.2.cps.toList, Sum.inl 0] [Sum.inl 1, Sum.inr a.1.cps.toList, Sum.inl 1, Sum.inr a.2.cps.toList, Sum.inl 0])) = _
  rw [PyProof.Rows.lex_cons, PyProof.Rows.lex_cons, PyProof.Rows.lex_cons, PyProof.Rows.lex_cons, PyProof.Rows.lex_cons]
  show (!(false || (true && (decide (b.1.cps.toList < a.1.cps.toList) || (!decide (a.1.cps.toList < b.1.cps.toList) && (false || (true && (decide (b.2.cps.toList < a.2.cps.toList) || (!decide (a.2.cps.toList < b.2.cps.toList) && (false || (true && false))))))))))) = _
  rw [Bool.and_false, Bool.or_false, Bool.and_false, Bool.or_false, Bool.true_and, Bool.true_and, Bool.false_or, Bool.false_or]; rfl
def OP : OrdE (Str × Str) := ⟨pv2, ltP, ltP_irr, ltP_tr, ltP_tot, leD_pair⟩
/-! ### what may be sorted -/
theorem alikes_of {ds : List PyData} (h : ∀ d ∈ ds, ∀ d' ∈ ds, PySem.W.alike d d' = true) : alikes ds = true := List.all_eq_true.mpr fun d hd => List.all_eq_true.mpr fun d' hd' => h d hd d' hd'
theorem plains_map {α : Type} {f : α → PV} (xs : List α) (h : ∀ x ∈ xs, plain (f x) = true) : plains (xs.map f) = true := plains_all.mpr fun y hy => by
  obtain ⟨x, hx, rfl⟩ := List.mem_map.mp hy
  exact h x hx
theorem deps_map {α : Type} {f : α → PV} (xs : List α) {n : Nat} (h : ∀ x ∈ xs, dep (f x) ≤ n) : deps (xs.map f) ≤ n := deps_le.mpr fun y hy => by
  obtain ⟨x, hx, rfl⟩ := List.mem_map.mp hy
  exact h x hx
theorem sortOk_strs {xs : List Str} (hl : xs.length ≤ sizeLine) : sortOk (xs.map PV.str) = true := by
  have e : toDatas (xs.map PV.str) = xs.map PyData.str := by rw [toDatas_map, List.map_map]; rfl
  have h1 : plains (xs.map PV.str) = true := plains_map _ fun _ _ => rfl
  have h2 : alikes (xs.map PyData.str) = true := alikes_of fun d hd d' hd' => by
    obtain ⟨x, _, rfl⟩ := List.mem_map.mp hd
    obtain ⟨y, _, rfl⟩ := List.mem_map.mp hd'
    rfl
  have h3 : (xs.map PyData.str).all notTup = true := List.all_eq_true.mpr fun d hd => by
    obtain ⟨x, _, rfl⟩ := List.mem_map.mp hd
    rfl
  have h4 : deps (xs.map PV.str) ≤ 64 := deps_map _ fun _ _ => Nat.zero_le _
  unfold sortOk
  rw [e, h1, h2, h3, Bool.or_true, decide_eq_true h4, decide_eq_true (by rw [List.length_map]; exact hl)]; rfl
theorem sortOk_pairs {xs : List (Str × Str)} (hl : xs.length ≤ sizeLine) : sortOk (xs.map pv2) = true := by
  have e : toDatas (xs.map pv2) = xs.map fun p => PyData.tuple [.str p.1, .str p.2] := by rw [toDatas_map, List.map_map]; rfl
  have h1 : plains (xs.map pv2) = true := plains_map _ fun _ _ => rfl
  have h2 : alikes (xs.map fun p => PyData.tuple [.str p.1, .str p.2]) = true := alikes_of fun d hd d' hd' => by
    obtain ⟨x, _, rfl⟩ := List.mem_map.mp hd
    obtain ⟨y, _, rfl⟩ := List.mem_map.mp hd'
    rfl
  have h3 : (xs.map fun p => PyData.tuple [.str p.1, .str p.2]).all isTup1 = true := List.all_eq_true.mpr fun d hd => by
    obtain ⟨x, _, rfl⟩ := List.mem_map.mp hd
    rfl
  have h4 : deps (xs.map pv2) ≤ 64 := deps_map _ fun _ _ => by simp [pv2, dep, deps]
  unfold sortOk
  rw [e, h1, h2, h3, Bool.true_or, decide_eq_true h4, decide_eq_true (by rw [List.length_map]; exact hl)]; rfl
theorem sorted_strs {m : Mem} {xs : List Str} (hl : xs.length ≤ sizeLine) : fSorted m (.lst (xs.map PV.str)) = some (.lst ((isortA OS xs).map PV.str)) := by
  show (if sortOk (xs.map PV.str) = true then some (PV.lst (isortB (leD false) (xs.map OS.emb))) else none) = _
  rw [if_pos (sortOk_strs hl), isortA_map]; rfl
theorem sorted_pairs {m : Mem} {xs : List (Str × Str)} (hl : xs.length ≤ sizeLine) : fSorted m (.lst (xs.map pv2)) = some (.lst ((isortA OP xs).map pv2)) := by
  show (if sortOk (xs.map pv2) = true then some (PV.lst (isortB (leD false) (xs.map OP.emb))) else none) = _
  rw [if_pos (sortOk_pairs hl), isortA_map]; rfl
end Z

end
section -- ZP
/-! ZP: the bodies of the program's defs (printed by comb.py) -/
namespace ZP
open PySem PySem.Spec PyProof.Rows L2 Z
def B_is_name_0 (G : Glob) (Φ : Calls) : EvS := (sIf (tOr2 (tNot1 (cTruth (cFn (isiX G.sub? G.subT?) (cCons (cVar 0) (cCons (cC (.ty "str")) cNil))))) (tNot1 (cChainT (fOrd .le) (fOrd .le) (cC (.int (1))) (cFn (one fLen) (cCons (cVar 0) cNil)) (cC (.int (8)))))) (sSeq (sRet (cC (.bl false))) sPass) sPass)
def B_is_name_1 (G : Glob) (Φ : Calls) : EvS := (sRet (cFn (one fAll) (cCons (cLc [1] (iVal (cVar 0)) (Z.gName 1) tYesE (cOp2 fIn (cVar 1) (cC (.str "abcdefghijklmnopqrstuvwxyz")))) cNil)))
def B_is_name_t1 (G : Glob) (Φ : Calls) : EvS := sSeq (B_is_name_1 G Φ) sPass
def B_is_name (G : Glob) (Φ : Calls) : EvS := sSeq (B_is_name_0 G Φ) (B_is_name_t1 G Φ)
def I_is_name (G : Glob) (Φs : Nat → Calls) : Prop := ∀ (d : Nat) (as : List PV) (R h : Mem), Φs (d + 1) "is_name" as R h = finPure R h (B_is_name G (Φs d) (R ++ h) (startE 2 as) [])
def B_is_rising_0 (G : Glob) (Φ : Calls) : EvS := (sRet (cFn (one fAll) (cCons (cLc [1, 2] (iZipE (cCons (cVar 0) (cCons (cSl (cVar 0) (oSome (cC (.int (1)))) oNone) cNil))) (Z.gTup [(Z.gName 1), (Z.gName 2)]) tYesE (cOp2 (fOrd .lt) (cVar 1) (cVar 2))) cNil)))
def B_is_rising (G : Glob) (Φ : Calls) : EvS := sSeq (B_is_rising_0 G Φ) sPass
def I_is_rising (G : Glob) (Φs : Nat → Calls) : Prop := ∀ (d : Nat) (as : List PV) (R h : Mem), Φs (d + 1) "is_rising" as R h = finPure R h (B_is_rising G (Φs d) (R ++ h) (startE 3 as) [])
def B_number_in_0 (G : Glob) (Φ : Calls) : EvS := (sIf (tOr2 (cCmpT fEq (cVar 0) (cC (.str ""))) (tOr2 (tNot1 (cTruth (cFn (one fAll) (cCons (cLc [1] (iVal (cVar 0)) (Z.gName 1) tYesE (cOp2 fIn (cVar 1) (cC (.str "0123456789")))) cNil)))) (tAnd2 (cCmpT fEq (cOp2 fIx (cVar 0) (cC (.int (0)))) (cC (.str "0"))) (cCmpT fNe (cVar 0) (cC (.str "0")))))) (sSeq (sRet (cC (.non))) sPass) sPass)
def B_number_in_1 (G : Glob) (Φ : Calls) : EvS := (sRet (cFn (one fInt) (cCons (cVar 0) cNil)))
def B_number_in_t1 (G : Glob) (Φ : Calls) : EvS := sSeq (B_number_in_1 G Φ) sPass
def B_number_in (G : Glob) (Φ : Calls) : EvS := sSeq (B_number_in_0 G Φ) (B_number_in_t1 G Φ)
def I_number_in (G : Glob) (Φs : Nat → Calls) : Prop := ∀ (d : Nat) (as : List PV) (R h : Mem), Φs (d + 1) "number_in" as R h = finPure R h (B_number_in G (Φs d) (R ++ h) (startE 2 as) [])
def B_steps_text_0 (G : Glob) (Φ : Calls) : EvS := (sRet (cIf (cCmpT (fOrd .gt) (cFn (one fLen) (cCons (cVar 0) cNil)) (cC (.int (0)))) (cStrM sJoin (cC (.str " ")) (cCons (cVar 0) cNil)) (cC (.str "-"))))
def B_steps_text (G : Glob) (Φ : Calls) : EvS := sSeq (B_steps_text_0 G Φ) sPass
def I_steps_text (G : Glob) (Φs : Nat → Calls) : Prop := ∀ (d : Nat) (as : List PV) (R h : Mem), Φs (d + 1) "steps_text" as R h = finPure R h (B_steps_text G (Φs d) (R ++ h) (startE 1 as) [])
def B_pair_text_0 (G : Glob) (Φ : Calls) : EvS := (sRet (cStrM sJoin (cC (.str " ")) (cCons (cVar 0) cNil)))
def B_pair_text (G : Glob) (Φ : Calls) : EvS := sSeq (B_pair_text_0 G Φ) sPass
def I_pair_text (G : Glob) (Φs : Nat → Calls) : Prop := ∀ (d : Nat) (as : List PV) (R h : Mem), Φs (d + 1) "pair_text" as R h = finPure R h (B_pair_text G (Φs d) (R ++ h) (startE 1 as) [])
def B_pairs_text_0 (G : Glob) (Φ : Calls) : EvS := (sRet (cIf (cCmpT (fOrd .gt) (cFn (one fLen) (cCons (cVar 0) cNil)) (cC (.int (0)))) (cStrM sJoin (cC (.str "; ")) (cCons (cLc [1] (iVal (cVar 0)) (Z.gName 1) tYesE (cCall (Φ "pair_text") 1 [] (cCons (cVar 1) cNil))) cNil)) (cC (.str "-"))))
def B_pairs_text (G : Glob) (Φ : Calls) : EvS := sSeq (B_pairs_text_0 G Φ) sPass
def I_pairs_text (G : Glob) (Φs : Nat → Calls) : Prop := ∀ (d : Nat) (as : List PV) (R h : Mem), Φs (d + 1) "pairs_text" as R h = finPure R h (B_pairs_text G (Φs d) (R ++ h) (startE 2 as) [])
def B_sizes_text_0 (G : Glob) (Φ : Calls) : EvS := (sRet (cIf (cCmpT (fOrd .gt) (cFn (one fLen) (cCons (cVar 0) cNil)) (cC (.int (0)))) (cStrM sJoin (cC (.str " ")) (cCons (cLc [1] (iVal (cVar 0)) (Z.gName 1) tYesE (cFn (one fStr) (cCons (cVar 1) cNil))) cNil)) (cC (.str "-"))))
def B_sizes_text (G : Glob) (Φ : Calls) : EvS := sSeq (B_sizes_text_0 G Φ) sPass
def I_sizes_text (G : Glob) (Φs : Nat → Calls) : Prop := ∀ (d : Nat) (as : List PV) (R h : Mem), Φs (d + 1) "sizes_text" as R h = finPure R h (B_sizes_text G (Φs d) (R ++ h) (startE 2 as) [])
def B_run_text_0 (G : Glob) (Φ : Calls) : EvS := (sRet (cIf (cCmpT (fOrd .gt) (cFn (one fLen) (cCons (cVar 0) cNil)) (cC (.int (0)))) (cStrM sJoin (cC (.str " ")) (cCons (cLc [1, 2] (iVal (cVar 0)) (Z.gTup [(Z.gName 1), (Z.gName 2)]) tYesE (cOp2 fAdd (cDic [("begin", .str "+"), ("end", .str "-")] (cVar 1)) (cVar 2))) cNil)) (cC (.str "-"))))
def B_run_text (G : Glob) (Φ : Calls) : EvS := sSeq (B_run_text_0 G Φ) sPass
def I_run_text (G : Glob) (Φs : Nat → Calls) : Prop := ∀ (d : Nat) (as : List PV) (R h : Mem), Φs (d + 1) "run_text" as R h = finPure R h (B_run_text G (Φs d) (R ++ h) (startE 3 as) [])
def B_pair_in_0 (G : Glob) (Φ : Calls) : EvS := (sAsg (Z.gName 1) (cFn (one fTuple) (cCons (cStrM sSplit (cVar 0) (cCons (cC (.str " ")) cNil)) cNil)))
def B_pair_in_1 (G : Glob) (Φ : Calls) : EvS := (sAsg (Z.gName 2) (cAndV (cOp2 fEq (cFn (one fLen) (cCons (cVar 1) cNil)) (cC (.int (2)))) (cAndV (cFn (one fAll) (cCons (cLc [3] (iVal (cVar 1)) (Z.gName 3) tYesE (cCall (Φ "is_name") 1 [] (cCons (cVar 3) cNil))) cNil)) (cOp2 fNe (cOp2 fIx (cVar 1) (cC (.int (0)))) (cOp2 fIx (cVar 1) (cC (.int (1))))))))
def B_pair_in_2 (G : Glob) (Φ : Calls) : EvS := (sRet (cIf (cTruth (cVar 2)) (cVar 1) (cC (.non))))
def B_pair_in_t2 (G : Glob) (Φ : Calls) : EvS := sSeq (B_pair_in_2 G Φ) sPass
def B_pair_in_t1 (G : Glob) (Φ : Calls) : EvS := sSeq (B_pair_in_1 G Φ) (B_pair_in_t2 G Φ)
def B_pair_in (G : Glob) (Φ : Calls) : EvS := sSeq (B_pair_in_0 G Φ) (B_pair_in_t1 G Φ)
def I_pair_in (G : Glob) (Φs : Nat → Calls) : Prop := ∀ (d : Nat) (as : List PV) (R h : Mem), Φs (d + 1) "pair_in" as R h = finPure R h (B_pair_in G (Φs d) (R ++ h) (startE 4 as) [])
def B_steps_from_0 (G : Glob) (Φ : Calls) : EvS := (sAsg (Z.gName 1) (cIf (cCmpT fNe (cVar 0) (cC (.str "-"))) (cFn (one fTuple) (cCons (cStrM sSplit (cVar 0) (cCons (cC (.str " ")) cNil)) cNil)) (cFn fTup cNil)))
def B_steps_from_1b_0 (G : Glob) (Φ : Calls) : EvS := (sIf (tOr2 (tNot1 (cTruth (cCall (Φ "is_name") 1 [] (cCons (cVar 3) cNil)))) (tNot1 (cTruth (cCall (Φ "is_rising") 1 [] (cCons (cSl (cVar 1) (oSome (cFn fMax (cCons (cC (.int (0))) (cCons (cOp2 fSub (cVar 2) (cC (.int (1)))) cNil)))) (oSome (cOp2 fAdd (cVar 2) (cC (.int (1)))))) cNil))))) (sSeq (sRaiseN "BadText" "piece" true (cCons (cVar 2) cNil)) sPass) sPass)
def B_steps_from_1b (G : Glob) (Φ : Calls) : EvS := sSeq (B_steps_from_1b_0 G Φ) sPass
def B_steps_from_1 (G : Glob) (Φ : Calls) : EvS := (sFor (iEnumE (cCons (cVar 1) cNil)) (Z.gTup [(Z.gName 2), (Z.gName 3)]) (B_steps_from_1b G Φ))
def B_steps_from_2 (G : Glob) (Φ : Calls) : EvS := (sRet (cVar 1))
def B_steps_from_t2 (G : Glob) (Φ : Calls) : EvS := sSeq (B_steps_from_2 G Φ) sPass
def B_steps_from_t1 (G : Glob) (Φ : Calls) : EvS := sSeq (B_steps_from_1 G Φ) (B_steps_from_t2 G Φ)
def B_steps_from (G : Glob) (Φ : Calls) : EvS := sSeq (B_steps_from_0 G Φ) (B_steps_from_t1 G Φ)
def I_steps_from (G : Glob) (Φs : Nat → Calls) : Prop := ∀ (d : Nat) (as : List PV) (R h : Mem), Φs (d + 1) "steps_from" as R h = finPure R h (B_steps_from G (Φs d) (R ++ h) (startE 4 as) [])
def B_pairs_from_0 (G : Glob) (Φ : Calls) : EvS := (sAsg (Z.gName 1) (cNew cNil))
def B_pairs_from_1b_0 (G : Glob) (Φ : Calls) : EvS := (sAsg (Z.gName 4) (cCall (Φ "pair_in") 1 [] (cCons (cVar 3) cNil)))
def B_pairs_from_1b_1 (G : Glob) (Φ : Calls) : EvS := (sIf (tOr2 (cCmpT fIs (cVar 4) (cC (.non))) (tAnd2 (cCmpT (fOrd .gt) (cFn (one fLen) (cCons (cVar 1) cNil)) (cC (.int (0)))) (cCmpT (fOrd .le) (cVar 4) (cOp2 fIx (cVar 1) (cOp1 fNeg (cC (.int (1)))))))) (sSeq (sRaiseN "BadText" "piece" true (cCons (cVar 2) cNil)) sPass) sPass)
def B_pairs_from_1b_2 (G : Glob) (Φ : Calls) : EvS := (sExpr (cMut mAppend (cVar 1) (cCons (cVar 4) cNil)))
def B_pairs_from_1b_t2 (G : Glob) (Φ : Calls) : EvS := sSeq (B_pairs_from_1b_2 G Φ) sPass
def B_pairs_from_1b_t1 (G : Glob) (Φ : Calls) : EvS := sSeq (B_pairs_from_1b_1 G Φ) (B_pairs_from_1b_t2 G Φ)
def B_pairs_from_1b (G : Glob) (Φ : Calls) : EvS := sSeq (B_pairs_from_1b_0 G Φ) (B_pairs_from_1b_t1 G Φ)
def B_pairs_from_1 (G : Glob) (Φ : Calls) : EvS := (sFor (iEnumE (cCons (cIf (cCmpT fNe (cVar 0) (cC (.str "-"))) (cStrM sSplit (cVar 0) (cCons (cC (.str "; ")) cNil)) (cFn fLst cNil)) cNil)) (Z.gTup [(Z.gName 2), (Z.gName 3)]) (B_pairs_from_1b G Φ))
def B_pairs_from_2 (G : Glob) (Φ : Calls) : EvS := (sRet (cFn (one fTuple) (cCons (cVar 1) cNil)))
def B_pairs_from_t2 (G : Glob) (Φ : Calls) : EvS := sSeq (B_pairs_from_2 G Φ) sPass
def B_pairs_from_t1 (G : Glob) (Φ : Calls) : EvS := sSeq (B_pairs_from_1 G Φ) (B_pairs_from_t2 G Φ)
def B_pairs_from (G : Glob) (Φ : Calls) : EvS := sSeq (B_pairs_from_0 G Φ) (B_pairs_from_t1 G Φ)
def I_pairs_from (G : Glob) (Φs : Nat → Calls) : Prop := ∀ (d : Nat) (as : List PV) (R h : Mem), Φs (d + 1) "pairs_from" as R h = finPure R h (B_pairs_from G (Φs d) (R ++ h) (startE 5 as) [])
def B_sizes_from_0 (G : Glob) (Φ : Calls) : EvS := (sAsg (Z.gName 1) (cNew cNil))
def B_sizes_from_1b_0 (G : Glob) (Φ : Calls) : EvS := (sAsg (Z.gName 4) (cCall (Φ "number_in") 1 [] (cCons (cVar 3) cNil)))
def B_sizes_from_1b_1 (G : Glob) (Φ : Calls) : EvS := (sIf (cCmpT fIs (cVar 4) (cC (.non))) (sSeq (sRaiseN "BadText" "piece" true (cCons (cVar 2) cNil)) sPass) sPass)
def B_sizes_from_1b_2 (G : Glob) (Φ : Calls) : EvS := (sExpr (cMut mAppend (cVar 1) (cCons (cVar 4) cNil)))
def B_sizes_from_1b_t2 (G : Glob) (Φ : Calls) : EvS := sSeq (B_sizes_from_1b_2 G Φ) sPass
def B_sizes_from_1b_t1 (G : Glob) (Φ : Calls) : EvS := sSeq (B_sizes_from_1b_1 G Φ) (B_sizes_from_1b_t2 G Φ)
def B_sizes_from_1b (G : Glob) (Φ : Calls) : EvS := sSeq (B_sizes_from_1b_0 G Φ) (B_sizes_from_1b_t1 G Φ)
def B_sizes_from_1 (G : Glob) (Φ : Calls) : EvS := (sFor (iEnumE (cCons (cIf (cCmpT fNe (cVar 0) (cC (.str "-"))) (cStrM sSplit (cVar 0) (cCons (cC (.str " ")) cNil)) (cFn fLst cNil)) cNil)) (Z.gTup [(Z.gName 2), (Z.gName 3)]) (B_sizes_from_1b G Φ))
def B_sizes_from_2 (G : Glob) (Φ : Calls) : EvS := (sRet (cFn (one fTuple) (cCons (cVar 1) cNil)))
def B_sizes_from_t2 (G : Glob) (Φ : Calls) : EvS := sSeq (B_sizes_from_2 G Φ) sPass
def B_sizes_from_t1 (G : Glob) (Φ : Calls) : EvS := sSeq (B_sizes_from_1 G Φ) (B_sizes_from_t2 G Φ)
def B_sizes_from (G : Glob) (Φ : Calls) : EvS := sSeq (B_sizes_from_0 G Φ) (B_sizes_from_t1 G Φ)
def I_sizes_from (G : Glob) (Φs : Nat → Calls) : Prop := ∀ (d : Nat) (as : List PV) (R h : Mem), Φs (d + 1) "sizes_from" as R h = finPure R h (B_sizes_from G (Φs d) (R ++ h) (startE 5 as) [])
def B_run_from_0 (G : Glob) (Φ : Calls) : EvS := (sAsg (Z.gName 1) (cNew cNil))
def B_run_from_1b_0 (G : Glob) (Φ : Calls) : EvS := (sIf (tOr2 (tInD false [("+", .str "begin"), ("-", .str "end")] (cSl (cVar 3) oNone (oSome (cC (.int (1)))))) (tNot1 (cTruth (cCall (Φ "is_name") 1 [] (cCons (cSl (cVar 3) (oSome (cC (.int (1)))) oNone) cNil))))) (sSeq (sRaiseN "BadText" "piece" true (cCons (cVar 2) cNil)) sPass) sPass)
def B_run_from_1b_1 (G : Glob) (Φ : Calls) : EvS := (sExpr (cMut mAppend (cVar 1) (cCons (cFn fTup (cCons (cDic [("+", .str "begin"), ("-", .str "end")] (cSl (cVar 3) oNone (oSome (cC (.int (1)))))) (cCons (cSl (cVar 3) (oSome (cC (.int (1)))) oNone) cNil))) cNil)))
def B_run_from_1b_t1 (G : Glob) (Φ : Calls) : EvS := sSeq (B_run_from_1b_1 G Φ) sPass
def B_run_from_1b (G : Glob) (Φ : Calls) : EvS := sSeq (B_run_from_1b_0 G Φ) (B_run_from_1b_t1 G Φ)
def B_run_from_1 (G : Glob) (Φ : Calls) : EvS := (sFor (iEnumE (cCons (cIf (cCmpT fNe (cVar 0) (cC (.str "-"))) (cStrM sSplit (cVar 0) (cCons (cC (.str " ")) cNil)) (cFn fLst cNil)) cNil)) (Z.gTup [(Z.gName 2), (Z.gName 3)]) (B_run_from_1b G Φ))
def B_run_from_2 (G : Glob) (Φ : Calls) : EvS := (sRet (cFn (one fTuple) (cCons (cVar 1) cNil)))
def B_run_from_t2 (G : Glob) (Φ : Calls) : EvS := sSeq (B_run_from_2 G Φ) sPass
def B_run_from_t1 (G : Glob) (Φ : Calls) : EvS := sSeq (B_run_from_1 G Φ) (B_run_from_t2 G Φ)
def B_run_from (G : Glob) (Φ : Calls) : EvS := sSeq (B_run_from_0 G Φ) (B_run_from_t1 G Φ)
def I_run_from (G : Glob) (Φs : Nat → Calls) : Prop := ∀ (d : Nat) (as : List PV) (R h : Mem), Φs (d + 1) "run_from" as R h = finPure R h (B_run_from G (Φs d) (R ++ h) (startE 4 as) [])
end ZP

end
section -- Z36
/-! Z36: the texts' functions, plain. -/
namespace Z
open PySem PySem.Spec PyProof.Rows L2
theorem forL_inv {g : EvG} {b : EvS} {R : Mem} (P : List PV → Envr → Mem → Prop) (step : ∀ x rest env h, P (x :: rest) env h → ∃ env1 h1 env2 h2, g R env h x = some (env1, h1) ∧ (b R env1 h1 = .nx env2 h2 ∨ b R env1 h1 = .ct env2 h2) ∧ P rest env2 h2) :
    ∀ (xs : List PV) (env : Envr) (h : Mem), P xs env h → ∃ env' h', forL g b R xs env h = .nx env' h' ∧ P [] env' h'
  | [], env, h, p => ⟨env, h, rfl, p⟩
  | x :: xs, env, h, p => by
    obtain ⟨env1, h1, env2, h2, e1, e2, p2⟩ := step x xs env h p
    obtain ⟨env', h', e3, p3⟩ := forL_inv P step xs env2 h2 p2
    refine ⟨env', h', ?_, p3⟩
    rw [forL, e1]
    dsimp only
    rcases e2 with e2 | e2 <;> rw [e2] <;> exact e3
theorem forL_app {g : EvG} {b : EvS} {R : Mem} {ys : List PV} : ∀ (xs : List PV) {env env' : Envr} {h h' : Mem}, forL g b R xs env h = .nx env' h' → (∀ x ∈ xs, ∀ env h env1 h1, g R env h x = some (env1, h1) → ∀ env2 h2, b R env1 h1 ≠ .brk env2 h2) → forL g b R (xs ++ ys) env h = forL g b R ys env' h'
  | [], _, _, _, _, e, _ => by cases e; rfl
  | x :: xs, env, env', h, h', e, hb => by
    rw [List.cons_append, forL]
    rw [forL] at e
    cases e1 : g R env h x with
    | none => rw [e1] at e; cases e
    | some p =>
      obtain ⟨env1, h1⟩ := p
      rw [e1] at e
      dsimp only at e ⊢
      cases e2 : b R env1 h1 with
      | nx env2 h2 => rw [e2] at e; exact forL_app xs e fun y hy => hb y (List.mem_cons_of_mem _ hy)
      | ct env2 h2 => rw [e2] at e; exact forL_app xs e fun y hy => hb y (List.mem_cons_of_mem _ hy)
      | brk env2 h2 => exact absurd e2 (hb x (List.mem_cons_self ..) _ _ _ _ e1 _ _)
      | _ => rw [e2] at e; cases e
theorem inStr_one (c : Nat) (z : Str) : inStr ⟨#[c]⟩ z = decide (c ∈ z.cps.toList) := PySem.StrLaws.found_one z c
def lowB (c : Nat) : Bool := decide (97 ≤ c) && decide (c ≤ 122)
theorem low_in (c : Nat) : decide (c ∈ ("abcdefghijklmnopqrstuvwxyz" : Str).cps.toList) = lowB c := by
  rw [show ("abcdefghijklmnopqrstuvwxyz" : Str).cps.toList = [97, 98, 99, 100, 101, 102, 103, 104, 105, 106, 107, 108, 109, 110, 111, 112, 113, 114, 115, 116, 117, 118, 119, 120, 121, 122] from by decide +kernel]
  unfold lowB
  rw [Bool.eq_iff_iff]
  simp
  omega
def digB (c : Nat) : Bool := decide (48 ≤ c) && decide (c ≤ 57)
theorem dig_in (c : Nat) : decide (c ∈ ("0123456789" : Str).cps.toList) = digB c := by
  rw [show ("0123456789" : Str).cps.toList = [48, 49, 50, 51, 52, 53, 54, 55, 56, 57] from by decide +kernel]
  unfold digB
  rw [Bool.eq_iff_iff]
  simp
  omega
def nameB (x : Str) : Bool := decide (1 ≤ x.length) && (decide (x.length ≤ 8) && (TL.tl x).all lowB)
@[simp] theorem le_int {m : Mem} {i j : Int} : fOrd .le m (.int i) (.int j) = some (.bl (decide (i ≤ j))) := rfl
@[simp] theorem isi_str {s : Str → Str → Option Bool} {t : Str → String → Option Bool} {m : Mem} {x : Str} : isiX s t m [.str x, .ty "str"] = some (.bl true) := rfl
theorem len_str {m : Mem} {x : Str} (hx : x.length ≤ sizeLine) : fLen m (.str x) = some (.int x.length) := by
  unfold fLen lenOf
  dsimp only
  rw [if_pos hx]; rfl
def chainK (o : Option PV) (h : Mem) (k : Res Bool) : Res Bool := match o with
  | some (.bl true) => k
  | some (.bl false) => .ok false h
  | _ => .bad
@[simp] theorem chainK_t {h : Mem} {k : Res Bool} : chainK (some (.bl true)) h k = k := rfl
@[simp] theorem chainK_f {h : Mem} {k : Res Bool} : chainK (some (.bl false)) h k = .ok false h := rfl
@[simp] theorem ev_chainT {f g : Mem → PV → PV → Option PV} {a b c : Ev} {R h : Mem} {env : Envr} : cChainT f g a b c R env h = (a R env h).bind fun x h1 => (b R env h1).bind fun y h2 => chainK (f (R ++ h2) x y) h2 ((c R env h2).bind fun z h3 => bOf (g (R ++ h3) y z) h3) := by
  unfold cChainT
  congr 1; funext x h1
  congr 1; funext y h2
  cases f (R ++ h2) x y with
  | none => rfl
  | some v =>
    cases v with
    | bl b =>
      cases b with
      | false => rfl
      | true =>
        show Res.bind _ _ = Res.bind _ _
        congr 1; funext z h3
        cases g (R ++ h3) y z with
        | none => rfl
        | some w => cases w <;> rfl
    | _ => rfl
theorem sizeLine_val : sizeLine = 16777216 := by decide
section
variable {G : Glob} {Φs : Nat → Calls} {d : Nat} {R h : Mem}
theorem is_name_ok (I : ZP.I_is_name G Φs) {x : Str} (hx : x.length ≤ sizeLine) : Φs (d + 1) "is_name" [.str x] R h = .ok (.bl (nameB x)) h := by
  rw [I, show startE 2 [.str x] = [some (.str x), none] from rfl]
  have lc : cLc [1] (iVal (cVar 0)) (Z.gName 1) tYesE (cOp2 fIn (cVar 1) (cC (.str "abcdefghijklmnopqrstuvwxyz"))) (R ++ h) [some (.str x), none] [] = .ok (.lst ((TL.tl x).map fun c => .bl (lowB c))) [] := by
    refine lc_items (xs := signs x) rfl (compL_map (emb := fun c => PV.str ⟨#[c]⟩) _ fun c _ => ⟨_, rfl, ?_⟩) ?_
    · have e : ∀ m, fIn m (.str ⟨#[c]⟩) (.str "abcdefghijklmnopqrstuvwxyz") = some (.bl (lowB c)) := fun m => by
        rw [← low_in, ← inStr_one]; rfl
      simp [wipeE, e]
    · rw [List.length_map, ← TL.len_tl]; exact hx
  unfold ZP.B_is_name ZP.B_is_name_t1 ZP.B_is_name_0 ZP.B_is_name_1 nameB
  by_cases h1 : 1 ≤ x.length
  · by_cases h2 : x.length ≤ 8
    · have c1 : ((1 : Int) ≤ (x.length : Int)) := by omega
      have c2 : ((x.length : Int) ≤ (8 : Int)) := by omega
      simp [len_str hx, lc, c1, c2, h1, h2, all_map]
      exact fin_data rfl
    · have c1 : ((1 : Int) ≤ (x.length : Int)) := by omega
      have c2 : ¬ ((x.length : Int) ≤ (8 : Int)) := by omega
      simp [len_str hx, lc, c1, c2, h1, h2]
      exact fin_data rfl
  · have c1 : ¬ ((1 : Int) ≤ (x.length : Int)) := by omega
    simp [len_str hx, lc, c1, h1]
    exact fin_data rfl
end
end Z

end
section -- Z37
/-! Z37: the texts' functions, plain: reading names and pairs. -/
namespace Z
open PySem PySem.Spec PyProof.Rows L2
theorem eq_str {m : Mem} {x y : Str} : fEq m (.str x) (.str y) = some (.bl (x == y)) := rfl
theorem ne_str {m : Mem} {x y : Str} : fNe m (.str x) (.str y) = some (.bl (!(x == y))) := rfl
theorem eq_int {m : Mem} {i j : Int} : fEq m (.int i) (.int j) = some (.bl (i == j)) := rfl
theorem lt_str {m : Mem} {x y : Str} : fOrd .lt m (.str x) (.str y) = some (.bl (ltS x y)) := rfl
theorem is_non {m : Mem} {p : PV} : fIs m p .non = some (.bl (isNone p)) := rfl
theorem cut_drop1 {α : Type} (xs : List α) : cutP xs (some 1) none = xs.drop 1 := by
  unfold cutP
  rw [show HT.sIx xs.length 0 (some 1) = min 1 xs.length from HT.sIx_nat xs.length 0 1, HT.sIx_none]
  cases xs with
  | nil => rfl
  | cons x xs =>
    rw [show min 1 (x :: xs).length = 1 from Nat.min_eq_left (by simp)]
    exact List.take_of_length_le (by simp)
theorem pairsZ_map {α β : Type} (f : α → PV) (g : β → PV) : ∀ (xs : List α) (ys : List β), pairsZ (xs.map f) (ys.map g) = (xs.zip ys).map fun p => .tup [f p.1, g p.2]
  | [], _ => rfl
  | _ :: _, [] => rfl
  | x :: xs, y :: ys => by rw [List.map_cons, List.map_cons, pairsZ, pairsZ_map f g xs ys]; rfl
def risingB (xs : List Str) : Bool := (xs.zip (xs.drop 1)).all fun p => ltS p.1 p.2
theorem ord_le_pair {m : Mem} {p q : Str × Str} : fOrd .le m (pv2 p) (pv2 q) = some (.bl (!ltP q p)) := by
  have c : cmpv .le (pv2 p) (pv2 q) = some (!ltP q p) := by
    have o : ∀ a b : Str, ordS .le a b = !ltS b a := fun a b => rfl
    have n : ordN .le 0 ([] : List PV).length = true := rfl
    simp only [pv2, cmpv, cmpvs, eqv, o, n]
    unfold ltP
    by_cases e1 : p.1 = q.1
    · by_cases e2 : p.2 = q.2
      · simp [e1, e2, ltS_irr]
      · simp [e1, e2, ltS_irr]
    · have h3 : (ltS q.1 p.1 || (!ltS p.1 q.1 && ltS q.2 p.2)) = ltS q.1 p.1 := by
        cases h : ltS q.1 p.1 with
        | true => rfl
        | false =>
          cases h2 : ltS p.1 q.1 with
          | true => rfl
          | false => exact absurd (ltS_tot _ _ h2 h) e1
      rw [h3]
      by_cases e2 : p.2 = q.2
      · simp [e1, e2]
      · simp [e1, e2]
  unfold fOrd
  rw [c]
  exact if_pos ⟨rfl, rfl, by simp [pv2, dep, deps]⟩
theorem split_str {m : Mem} {a b : Str} (hb : (b.length == 0) = false) (ha : a.length + 2 ≤ sizeLine) : sSplit m (.str a) [.str b] = some (.lst ((Txt.split a b).map .str)) := if_pos ⟨hb, ha⟩
@[simp] theorem ev_strM {f : Mem → PV → List PV → Option PV} {a : Ev} {b : EvA} {R h : Mem} {env : Envr} : cStrM f a b R env h = (a R env h).bind fun p h1 => if isStrV p = true then (b R env h1).bind fun xs h2 => liftO h2 (f (R ++ h2) p xs) else .bad := rfl
@[simp] theorem isStrV_str {x : Str} : isStrV (.str x) = true := rfl
section
variable {G : Glob} {Φs : Nat → Calls} {d : Nat} {R h : Mem}
theorem is_rising_ok (I : ZP.I_is_rising G Φs) {xs : List Str} (hx : xs.length ≤ sizeLine) : Φs (d + 1) "is_rising" [.tup (xs.map .str)] R h = .ok (.bl (risingB xs)) h := by
  rw [I, show startE 3 [.tup (xs.map PV.str)] = [some (.tup (xs.map .str)), none, none] from rfl]
  have lc : cLc [1, 2] (iZipE (cCons (cVar 0) (cCons (cSl (cVar 0) (oSome (cC (.int (1)))) oNone) cNil))) (Z.gTup [(Z.gName 1), (Z.gName 2)]) tYesE (cOp2 (fOrd .lt) (cVar 1) (cVar 2)) (R ++ h) [some (.tup (xs.map .str)), none, none] [] = .ok (.lst ((xs.zip (xs.drop 1)).map fun p => .bl (ltS p.1 p.2))) [] := by
    refine lc_items (xs := (xs.zip (xs.drop 1)).map fun p => .tup [.str p.1, .str p.2]) (h1 := []) ?_ (compL_map (emb := fun p : Str × Str => PV.tup [.str p.1, .str p.2]) _ fun p _ => ⟨[some (.tup (xs.map .str)), some (.str p.1), some (.str p.2)], rfl, ?_⟩) ?_
    · unfold iZipE
      have e : ∀ m, fSl m (.tup (xs.map PV.str)) (some 1) none = some (.tup ((xs.drop 1).map PV.str)) := fun m => by
        show some (PV.tup (cutP (xs.map PV.str) (some 1) none)) = _
        rw [cut_drop1, List.map_drop]
      simp [e, -List.drop_one]
      rw [← List.map_drop]
      show liftO [] (some (Src.items (pairsZ (xs.map PV.str) ((xs.drop 1).map PV.str)))) = _
      rw [pairsZ_map]; rfl
    · simp [lt_str]
    · rw [List.length_map, List.length_zip]; omega
  unfold ZP.B_is_rising ZP.B_is_rising_0 risingB
  simp [lc, all_map]
  exact fin_data rfl
def pairOf (x : Str) : Option (Str × Str) := match Txt.split x " " with
  | [a, b] => if nameB a = true ∧ nameB b = true ∧ a ≠ b then some (a, b) else none
  | _ => none
def optP : Option (Str × Str) → PV
  | some p => pv2 p
  | none => .non
theorem and_bl {b : Bool} {h : Mem} {k : Res PV} : andK (some b) (.bl b) h k = if b = true then k else .ok (.bl false) h := by cases b <;> rfl
theorem pair_in_ok (I : ZP.I_pair_in G Φs) (I1 : ZP.I_is_name G Φs) {x : Str} (hx : x.length + 2 ≤ sizeLine) : Φs (d + 2) "pair_in" [.str x] R h = .ok (optP (pairOf x)) h := by
  rw [I, show startE 4 [.str x] = [some (.str x), none, none, none] from rfl]
  have hs : ∀ y ∈ Txt.split x " ", y.length ≤ sizeLine := fun y hy => Nat.le_trans (PyProof.Rows.part_short hy) (by omega)
  have hl : (Txt.split x " ").length ≤ sizeLine := Nat.le_trans (PyProof.Rows.split_le x " ") hx
  obtain ⟨ws, hws⟩ : ∃ ws, ws = Txt.split x " " := ⟨_, rfl⟩
  rw [← hws] at hs hl
  have lc : cLc [3] (iVal (cVar 1)) (Z.gName 3) tYesE (cCall (Φs (d + 1) "is_name") 1 [] (cCons (cVar 3) cNil)) (R ++ h) [some (.str x), some (.tup (ws.map .str)), none, none] [] = .ok (.lst (ws.map fun w => .bl (nameB w))) [] := by
    refine lc_items (xs := ws.map PV.str) (h1 := []) rfl (compL_map (emb := PV.str) _ fun w hw => ⟨[some (.str x), some (.tup (ws.map .str)), none, some (.str w)], rfl, ?_⟩) (by rw [List.length_map]; exact hl)
    simp [is_name_ok I1 (hs w hw)]
  have sp : ∀ m, sSplit m (.str x) [.str " "] = some (.lst (ws.map .str)) := fun m => by rw [hws]; exact split_str (by decide +kernel) hx
  have tu : ∀ m, fTuple m (.lst (ws.map PV.str)) = some (.tup (ws.map PV.str)) := fun m => rfl
  unfold ZP.B_pair_in ZP.B_pair_in_t1 ZP.B_pair_in_t2 ZP.B_pair_in_0 ZP.B_pair_in_1 ZP.B_pair_in_2 pairOf
  simp [sp, tu, len_tup, eq_int, and_bl, lc, all_map, -List.map_map]
  rw [← hws]
  match ws with
  | [] => exact fin_data rfl
  | [a] => exact fin_data rfl
  | [a, b] =>
    have i0 : ∀ m, fIx m (.tup [.str a, .str b]) (.int 0) = some (.str a) := fun m => rfl
    have i1 : ∀ m, fIx m (.tup [.str a, .str b]) (.int 1) = some (.str b) := fun m => rfl
    simp [i0, i1, ne_str]
    by_cases h1 : nameB a = true
    · by_cases h2 : nameB b = true
      · by_cases h3 : a = b
        · simp [h1, h2, h3]; exact fin_data rfl
        · simp [h1, h2, h3]; exact fin_data rfl
      · simp [h1, h2]; exact fin_data rfl
    · simp [h1]; exact fin_data rfl
  | a :: b :: c :: r =>
    have e : ((((a :: b :: c :: r).length : Nat) : Int) == 2) = false := by
      rw [beq_eq_false_iff_ne]
      simp only [List.length_cons]
      omega
    simp only [e]
    exact fin_data rfl
end
end Z

end
section -- Z38
/-! Z38: a law's own loop over its boxes. -/
namespace Z
open PySem PySem.Spec PyProof.Rows L2
/-- what a case of a law promises of a box -/
def RightS (Φ : Calls) (R : Mem) : Prop := ∀ (h : Mem) (i : Nat), Ints h → Box h i 0 → ∃ h' m, Φ "_law_right" [.ref (R.length + i)] R h = .ok (.bl true) h' ∧ Chg h h' i ∧ Box h' i m
theorem box_new {h : Mem} {b0 b1 : Int} (h0 : 0 ≤ b0) (h1 : 0 ≤ b1) (h2 : b1 < 4611686018427387904) : Box (h ++ [.lst [.int b0, .int b1, .int 0]]) h.length 0 :=
  ⟨b0, b1, 0, by rw [List.getElem?_append_right (Nat.le_refl _), Nat.sub_self]; rfl, h0, h1, h2, Int.le_refl _, Int.le_refl _⟩
theorem Ints.snoc {h : Mem} (hi : Ints h) (ns : List Int) : Ints (h ++ [.lst (ns.map PV.int)]) := by
  intro o ho
  rcases List.mem_append.mp ho with q | q
  · exact hi o q
  · exact ⟨ns, List.mem_singleton.mp q⟩
theorem boxes_all {Φ : Calls} {c : Int} (hc : 0 ≤ c) (hc2 : c < 1000000) {R : Mem} {p : PV} {cs : List Int} (hl : cs.length < 1000) (hb : ∀ as R h, Φ "_law_box" as R h = finNew R h (bBox c R (startE 3 as) h)) (hr : RightS Φ R) :
    ∀ (n j : Nat) (h : Mem), j + n = cs.length → Ints h → ∃ h', compL [2] (Z.gName 2) tYesE (cCall (Φ "_law_right") 1 [] (cCons (cCall (Φ "_law_box") 2 [] (cCons (cVar 1) (cCons (cVar 2) cNil))) cNil)) R [some p, some (.lst (cs.map PV.int)), none] ((List.range' j n).map fun (i : Nat) => PV.int i) h = .ok ((List.range' j n).map fun _ => PV.bl true) h' ∧ Ints h'
  | 0, j, h, _, hi => ⟨h, rfl, hi⟩
  | n + 1, j, h, e, hi => by
    obtain ⟨b0, b1, e1, q0, q1, q2⟩ := box_ok hc hc2 (R := R) (cs := cs) (k := j) (by omega) (by omega) hi
    have hi1 := hi.snoc [b0, b1, 0]
    obtain ⟨h2, m, e2, c2, x2⟩ := hr _ h.length hi1 (box_new (h := h) q0 q1 q2)
    have hi2 : Ints h2 := hi1.of_chg c2.1 x2 c2.2
    obtain ⟨h3, e3, hi3⟩ := boxes_all hc hc2 (p := p) hl hb hr n (j + 1) h2 (by omega) hi2
    refine ⟨h3, ?_, hi3⟩
    rw [List.range'_succ, List.map_cons, List.map_cons]
    refine compL_cons (y := some (.bl true)) (h1 := h2) (turnC_yes (env1 := [some p, some (.lst (cs.map PV.int)), some (.int j)]) (h1 := h) rfl ?_) e3
    rw [List.length_append] at e1
    simp [hb, e1]
    exact e2
theorem rgOk_nat {n : Nat} (h : n < 1000000) : rgOk (n : Int) = true := by
  unfold rgOk
  rw [Bool.and_eq_true, decide_eq_true_eq, decide_eq_true_eq]
  omega
theorem range_nat {n : Nat} (h : n < 1000000) : fRange1 [.int (n : Int)] = some (.items ((List.range' 0 n).map fun (i : Nat) => PV.int i)) := by
  have e : fRange1 [.int (n : Int)] = if rgOk (n : Int) = true then some (Src.items (intsP 0 (n : Int).toNat)) else none := rfl
  rw [e, if_pos (rgOk_nat h), Int.toNat_natCast]
  have e3 : intsP 0 n = (List.range' 0 n).map fun (i : Nat) => PV.int i := by
    unfold intsP
    rw [List.range_eq_range']
    exact List.map_congr_left fun i _ => by rw [Int.zero_add]
  rw [e3]
theorem boxes_lc {Φ : Calls} {c : Int} (hc : 0 ≤ c) (hc2 : c < 1000000) {R h : Mem} {p : PV} {cs : List Int} (hl : cs.length < 1000) (hi : Ints h) (hb : ∀ as R h, Φ "_law_box" as R h = finNew R h (bBox c R (startE 3 as) h)) (hr : RightS Φ R) :
    ∃ h', cLc [2] (iRange1 (cCons (cFn (one fLen) (cCons (cVar 1) cNil)) cNil)) (Z.gName 2) tYesE (cCall (Φ "_law_right") 1 [] (cCons (cCall (Φ "_law_box") 2 [] (cCons (cVar 1) (cCons (cVar 2) cNil))) cNil)) R [some p, some (.lst (cs.map PV.int)), none] h = .ok (.lst (cs.map fun _ => PV.bl true)) h' := by
  obtain ⟨h', e, _⟩ := boxes_all hc hc2 (p := p) hl hb hr cs.length 0 h (Nat.zero_add _) hi
  refine ⟨h', ?_⟩
  have e2 : (List.range' 0 cs.length).map (fun _ => PV.bl true) = cs.map fun _ => PV.bl true := by
    rw [List.map_const', List.map_const', List.length_range']
  rw [e2] at e
  have hN : cs.length < 1000000 := by omega
  have it : iRange1 (cCons (cFn (one fLen) (cCons (cVar 1) cNil)) cNil) R [some p, some (.lst (cs.map PV.int)), none] h = .ok (.items ((List.range' 0 cs.length).map fun (i : Nat) => PV.int i)) h := by
    have e4 : ∀ m, fLen m (.lst (cs.map PV.int)) = some (.int cs.length) := fun m => by rw [len_lst, List.length_map]
    have k : (cCons (cFn (one fLen) (cCons (cVar 1) cNil)) cNil) R [some p, some (.lst (cs.map PV.int)), none] h = .ok [.int (cs.length : Int)] h := by
      simp [e4]
    unfold iRange1
    rw [k, ev_bind, range_nat hN, ev_lift]
  have hz : (cs.map fun _ => PV.bl true).length ≤ sizeLine := by
    rw [List.length_map, sizeLine_eq]
    omega
  exact lc_items it e hz
end Z

end
section -- Z39
/-! Z39: the texts' functions, plain: reading. -/
namespace Z
open PySem PySem.Spec PyProof.Rows L2
def txX (k : Int) (env : Envr) (h : Mem) : SR := .exc (.own "BadText") ["piece"] [.int k] env h
/-- a walk that goes on or stops at a place -/
def runE {α S : Type} (step : S → α → Option S) : List α → Nat → S → Except Nat S
  | [], _, s => .ok s
  | x :: xs, k, s => match step s x with
    | some s' => runE step xs (k + 1) s'
    | none => .error k
theorem enum_loop {α S : Type} {g : EvG} {b : EvS} {R : Mem} (emb : α → PV) (step : S → α → Option S) (inv : Nat → List α → S → Envr → Mem → Prop)
    (hs : ∀ k x xs s env h, inv k (x :: xs) s env h → ∃ env1 h1, g R env h (.tup [.int (k : Nat), emb x]) = some (env1, h1) ∧ match step s x with
      | some s' => ∃ env2 h2, b R env1 h1 = .nx env2 h2 ∧ inv (k + 1) xs s' env2 h2
      | none => ∃ env2 h2, b R env1 h1 = txX k env2 h2) :
    ∀ (xs : List α) (k : Nat) (s : S) (env : Envr) (h : Mem), inv k xs s env h → match runE step xs k s with
      | .ok s' => ∃ env' h', forL g b R (pairsI k (xs.map emb)) env h = .nx env' h' ∧ inv (k + xs.length) [] s' env' h'
      | .error j => ∃ env' h', forL g b R (pairsI k (xs.map emb)) env h = txX j env' h'
  | [], k, s, env, h, i => ⟨env, h, rfl, i⟩
  | x :: xs, k, s, env, h, i => by
    obtain ⟨env1, h1, e1, e2⟩ := hs k x xs s env h i
    rw [runE, List.map_cons, pairsI, forL, e1]
    dsimp only
    cases es : step s x with
    | none =>
      rw [es] at e2
      obtain ⟨env2, h2, e3⟩ := e2
      rw [e3]
      exact ⟨env2, h2, rfl⟩
    | some s' =>
      rw [es] at e2
      obtain ⟨env2, h2, e3, i2⟩ := e2
      rw [e3]
      have := enum_loop emb step inv hs xs (k + 1) s' env2 h2 i2
      rw [List.length_cons, Nat.add_comm xs.length 1, ← Nat.add_assoc]
      exact this
@[simp] theorem ev_exc {c : Xc} {ns : List Str} {vs : List PV} {env : Envr} {h : Mem} {k : Envr → Mem → SR} : (SR.exc c ns vs env h).seq k = .exc c ns vs env h := rfl
@[simp] theorem ev_tx {j : Int} {env : Envr} {h : Mem} {k : Envr → Mem → SR} : (txX j env h).seq k = txX j env h := rfl
theorem ev_raise {nm fld : Str} {a : EvA} {R h h1 : Mem} {env : Envr} {v : PV} (e : a R env h = .ok [v] h1) : sRaiseN nm fld true a R env h = .exc (.own nm) [fld] [v] env h1 := by
  unfold sRaiseN; rw [e]; rfl
@[simp] theorem ev_raise1 {nm fld : Str} {a : Ev} {R h : Mem} {env : Envr} : sRaiseN nm fld true (cCons a cNil) R env h = (a R env h).go env fun v h1 => .exc (.own nm) [fld] [v] env h1 := by
  unfold sRaiseN
  rw [ev_cons]
  cases a R env h <;> rfl
theorem iEnum_seq {a : Ev} {R h h1 : Mem} {env : Envr} {p : PV} {xs : List PV} (e : a R env h = .ok p h1) (hs : stillOf p = some xs) : iEnumE (cCons a cNil) R env h = .ok (.items (pairsI 0 xs)) h1 := by
  show (((a R env h).bind fun x h1 => (Res.ok [] h1).bind fun xs h2 => Res.ok (x :: xs) h2).bind fun xs h1 => liftO h1 (fEnum xs)) = _
  rw [e]
  show liftO h1 (fEnum [p]) = _
  have : fEnum [p] = some (.items (pairsI 0 xs)) := by
    show (stillOf p).map (fun xs => Src.items (pairsI 0 xs)) = _
    rw [hs]; rfl
  rw [this]; rfl
theorem fin_tx {R h h1 : Mem} {env : Envr} {k : Int} : finPure R h (txX k env h1) = .exc (.own "BadText") ["piece"] [.int k] h := fin_exc rfl
end Z

end
section -- Z40
/-! Z40: steps_from, pairs_from: what they tell. -/
namespace Z
open PySem PySem.Spec PyProof.Rows L2
def cutAt (x sep : Str) : List Str := if x = "-" then [] else Txt.split x sep
def ltO : Option Str → Str → Bool
  | some q, w => ltS q w
  | none, _ => true
/-- a word behind another one -/
def stepW (p : Option Str) (w : Str) : Option (Option Str) := if (nameB w && ltO p w) = true then some (some w) else none
def prevOf (ws : List Str) : Nat → Option Str
  | 0 => none
  | j + 1 => ws[j]?
def txR (h : Mem) (v : List Str → PV) (ws : List Str) : Except Nat (Option Str) → Res PV
  | .ok _ => .ok (v ws) h
  | .error k => .exc (.own "BadText") ["piece"] [.int k] h
def tupS (ws : List Str) : PV := .tup (ws.map .str)
theorem cutAt_le {x sep : Str} : (cutAt x sep).length ≤ x.length + 2 := by
  unfold cutAt
  split
  · exact Nat.zero_le _
  · exact PyProof.Rows.split_le x sep
theorem cutAt_part {x sep y : Str} (h : y ∈ cutAt x sep) : y.length ≤ x.length := by
  unfold cutAt at h
  split at h
  · cases h
  · exact PyProof.Rows.part_short h
theorem cut_two (ws : List Str) (k : Nat) (w : Str) (rest : List Str) (e : ws.drop k = w :: rest) : cutP (ws.map PV.str) (some (if (0 : Int) < (k : Int) - 1 then (k : Int) - 1 else 0)) (some ((k : Int) + 1)) = ((prevOf ws k).toList ++ [w]).map PV.str := by
  have hk : k < ws.length := by
    rcases Nat.lt_or_ge k ws.length with h | h
    · exact h
    · rw [List.drop_eq_nil_of_le h] at e; cases e
  unfold cutP
  rw [show ((k : Int) + 1) = ((k + 1 : Nat) : Int) from rfl, HT.sIx_nat, List.length_map]
  cases k with
  | zero =>
    rw [show (if (0 : Int) < ((0 : Nat) : Int) - 1 then ((0 : Nat) : Int) - 1 else 0) = ((0 : Nat) : Int) from rfl, HT.sIx_nat, Nat.zero_min, List.drop_zero, Nat.min_eq_left (by omega), ← List.map_take]
    rw [List.drop_zero] at e
    rw [e]; rfl
  | succ j =>
    have e0 : (if (0 : Int) < ((j + 1 : Nat) : Int) - 1 then ((j + 1 : Nat) : Int) - 1 else 0) = ((j : Nat) : Int) := by
      split <;> omega
    rw [e0, HT.sIx_nat, Nat.min_eq_left (by omega), Nat.min_eq_left (by omega), ← List.map_drop, ← List.map_take]
    congr 1
    have hj : prevOf ws (j + 1) = some ws[j] := List.getElem?_eq_getElem (by omega)
    rw [List.drop_eq_getElem_cons (by omega), e, hj, show j + 1 + 1 - j = 2 from by omega]
    rfl
theorem rising_two {a b : Str} : risingB [a, b] = ltS a b := by
  show (ltS a b && true) = _
  rw [Bool.and_true]
section
variable {G : Glob} {Φs : Nat → Calls} {d : Nat} {R h : Mem}
theorem steps_from_ok (I : ZP.I_steps_from G Φs) (I1 : ZP.I_is_name G Φs) (I2 : ZP.I_is_rising G Φs) {x : Str} (hx : x.length + 2 ≤ sizeLine) :
    Φs (d + 2) "steps_from" [.str x] R h = txR h tupS (cutAt x " ") (runE stepW (cutAt x " ") 0 none) := by
  obtain ⟨ws, hws⟩ : ∃ ws, ws = cutAt x " " := ⟨_, rfl⟩
  have hl : ws.length ≤ sizeLine := by rw [hws]; exact Nat.le_trans cutAt_le hx
  have hp : ∀ y ∈ ws, y.length ≤ sizeLine := fun y hy => by rw [hws] at hy; exact Nat.le_trans (cutAt_part hy) (by omega)
  rw [I, show startE 4 [.str x] = [some (.str x), none, none, none] from rfl, ← hws]
  have s0 : ZP.B_steps_from_0 G (Φs (d + 1)) (R ++ h) [some (.str x), none, none, none] [] = .nx [some (.str x), some (tupS ws), none, none] [] := by
    unfold ZP.B_steps_from_0
    by_cases hm : x = "-"
    · have : ws = [] := by rw [hws]; exact if_pos hm
      have t0 : ∀ m, fTup m [] = some (.tup []) := fun m => if_pos (Nat.zero_le _)
      simp [ne_str, hm, this, t0, tupS]
    · have e : ws = Txt.split x " " := by rw [hws]; exact if_neg hm
      have sp : ∀ m, sSplit m (.str x) [.str " "] = some (.lst (ws.map .str)) := fun m => by rw [e]; exact split_str (by decide +kernel) hx
      have tu : ∀ m, fTuple m (.lst (ws.map PV.str)) = some (.tup (ws.map PV.str)) := fun m => rfl
      have nb : (x == ("-" : Str)) = false := beq_eq_false_iff_ne.mpr hm
      simp [ne_str, nb, sp, tu, tupS, -List.map_map]
  have lp := enum_loop (g := Z.gTup [Z.gName 2, Z.gName 3]) (b := ZP.B_steps_from_1b G (Φs (d + 1))) (R := R ++ h) PV.str stepW
    (fun k xs s env hh => hh = [] ∧ ws.drop k = xs ∧ (s = prevOf ws k) ∧ ∃ a b, env = [some (.str x), some (tupS ws), a, b]) (fun k w xs s env hh i => ?_) ws 0 none _ [] ⟨rfl, rfl, rfl, none, none, rfl⟩
  · unfold ZP.B_steps_from ZP.B_steps_from_t1 ZP.B_steps_from_t2 ZP.B_steps_from_1 ZP.B_steps_from_2
    rw [ev_seq, s0, ev_nx, ev_seq, ev_for (iEnum_seq (p := tupS ws) (xs := ws.map .str) (h1 := []) rfl rfl)]
    cases er : runE stepW ws 0 none with
    | ok s' =>
      rw [er] at lp
      obtain ⟨env', h', e1, e2, _, _, a, b, e3⟩ := lp
      subst e2 e3
      rw [e1]
      exact fin_data (areData_strs ws)
    | error j =>
      rw [er] at lp
      obtain ⟨env', h', e1⟩ := lp
      rw [e1, ev_tx]
      exact fin_tx
  · obtain ⟨rfl, e1, e2, a, b, rfl⟩ := i
    have hk : k < ws.length := by
      rcases Nat.lt_or_ge k ws.length with h | h
      · exact h
      · rw [List.drop_eq_nil_of_le h] at e1; cases e1
    have hw : ws[k]? = some w := by
      have := congrArg (fun l => l[0]?) e1
      simpa [List.getElem?_drop] using this
    have wl := hp w (List.mem_of_getElem? hw)
    have e1' : ws.drop (k + 1) = xs := by
      rw [← List.drop_drop, e1]; rfl
    refine ⟨[some (.str x), some (tupS ws), some (.int k), some (.str w)], [], rfl, ?_⟩
    have mx : ∀ m, fMax m [.int 0, .int ((k : Int) - 1)] = some (.int (if (0 : Int) < (k : Int) - 1 then (k : Int) - 1 else 0)) := fun m => by
      show (maxI [0, (k : Int) - 1]).map PV.int = _
      show some (PV.int (if (k : Int) - 1 > 0 then (k : Int) - 1 else 0)) = _
      rfl
    have sb : ∀ m, fSub m (.int k) (.int 1) = some (.int ((k : Int) - 1)) := fun m => rfl
    have adk : ∀ m, fAdd m (.int k) (.int 1) = some (.int ((k : Int) + 1)) := fun m => rfl
    have sl : ∀ m, fSl m (tupS ws) (some (if (0 : Int) < (k : Int) - 1 then (k : Int) - 1 else 0)) (some ((k : Int) + 1)) = some (.tup (((prevOf ws k).toList ++ [w]).map PV.str)) := fun m => by
      rw [← cut_two ws k w xs e1]; rfl
    have rs : Φs (d + 1) "is_rising" [.tup (((prevOf ws k).toList ++ [w]).map PV.str)] (R ++ h) [] = .ok (.bl (ltO s w)) [] := by
      rw [e2, is_rising_ok I2 (by cases prevOf ws k <;> (rw [sizeLine_val]; simp))]
      cases prevOf ws k with
      | none => rfl
      | some q => exact congrArg (fun b => Res.ok (PV.bl b) []) rising_two
    obtain ⟨lo, hlo⟩ : ∃ lo : Int, lo = if (0 : Int) < (k : Int) - 1 then (k : Int) - 1 else 0 := ⟨_, rfl⟩
    obtain ⟨tw, htw⟩ : ∃ tw, tw = PV.tup (((prevOf ws k).toList ++ [w]).map PV.str) := ⟨_, rfl⟩
    rw [← hlo] at mx
    rw [← hlo, ← htw] at sl
    rw [← htw] at rs
    have nm : Φs (d + 1) "is_name" [.str w] (R ++ h) [] = .ok (.bl (nameB w)) [] := is_name_ok I1 wl
    have body : ZP.B_steps_from_1b G (Φs (d + 1)) (R ++ h) [some (.str x), some (tupS ws), some (.int k), some (.str w)] [] = (if (nameB w && ltO s w) = true then .nx [some (.str x), some (tupS ws), some (.int k), some (.str w)] [] else txX k [some (.str x), some (tupS ws), some (.int k), some (.str w)] []) := by
      unfold ZP.B_steps_from_1b ZP.B_steps_from_1b_0
      cases hn : nameB w with
      | false => simp [nm, hn, txX]
      | true =>
        cases hr : ltO s w with
        | false => simp [nm, hn, mx, sb, adk, sl, rs, hr, txX]
        | true => simp [nm, hn, mx, sb, adk, sl, rs, hr]
    rw [body]
    unfold stepW
    cases hn : nameB w && ltO s w with
    | false => exact ⟨_, _, rfl⟩
    | true => exact ⟨_, _, rfl, rfl, e1', by show some w = ws[k]?; rw [hw], _, _, rfl⟩
end
end Z

end
section -- Z41
/-! Z41: reading into a list that grows. -/
namespace Z
open PySem PySem.Spec PyProof.Rows L2
section
variable {M : Mem} {zs : List PV}
theorem g_ix (k : Int) : fIx (M ++ [.lst zs]) (.ref M.length) (.int k) = atI zs k := ix_box (R := M) (i := 0) k rfl
theorem g_len : fLen (M ++ [.lst zs]) (.ref M.length) = some (.int zs.length) := len_box (R := M) (i := 0) rfl
theorem g_tup : fTuple (M ++ [.lst zs]) (.ref M.length) = some (.tup zs) := by
  have e : lstOf (M ++ [.lst zs]) (.ref M.length) = some zs := lst_box (R := M) (i := 0) rfl
  unfold fTuple
  dsimp only
  rw [e]; rfl
theorem g_app {a : Ev} {b : Ev} {env : Envr} {y : PV} (e1 : a M env [.lst zs] = .ok (.ref M.length) [.lst zs]) (e2 : b M env [.lst zs] = .ok y [.lst zs]) (hz : zs.length < sizeLine) : cMut mAppend a (cCons b cNil) M env [.lst zs] = .ok .non [.lst (zs ++ [y])] :=
  ev_mut (R := M) (i := 0) (h1 := [.lst zs]) (h2 := [.lst zs]) (xs := [y]) e1 rfl (by rw [ev_cons, e2]; rfl) rfl (if_pos hz)
end
theorem atI_last {α : Type} (xs : List α) (x : α) : atI (xs ++ [x]) (-1) = some x := by
  have e : ixN (xs ++ [x]).length (-1) = some xs.length := by
    unfold ixN
    rw [if_neg (by omega), List.length_append, List.length_singleton, if_pos (by omega)]
    congr 1
    omega
  unfold atI
  rw [e]
  simp
/-- a def that reads pieces into a list -/
theorem found_fn {β : Type} (emb : β → PV) (step : List β → Str → Option β) {g : EvG} {b : EvS} {M : Mem} {ws : List Str} {p : PV} {n : Nat} (hl : ws.length ≤ sizeLine)
    (hb : ∀ (k : Nat) (acc : List β) (w : Str) (rest : Envr), rest.length = n → acc.length < sizeLine → w ∈ ws → ∃ env1, g M (some p :: some (.ref M.length) :: rest) [.lst (acc.map emb)] (.tup [.int k, .str w]) = some (env1, [.lst (acc.map emb)]) ∧ match step acc w with
      | some y => ∃ rest2, rest2.length = n ∧ b M env1 [.lst (acc.map emb)] = .nx (some p :: some (.ref M.length) :: rest2) [.lst ((acc ++ [y]).map emb)]
      | none => ∃ env2 h2, b M env1 [.lst (acc.map emb)] = txX k env2 h2) (rest : Envr) (hr : rest.length = n) :
    match runE (fun acc w => (step acc w).map fun y => acc ++ [y]) ws 0 [] with
      | .ok acc => ∃ rest2, rest2.length = n ∧ forL g b M (pairsI 0 (ws.map .str)) (some p :: some (.ref M.length) :: rest) [.lst []] = .nx (some p :: some (.ref M.length) :: rest2) [.lst (acc.map emb)]
      | .error j => ∃ env' h', forL g b M (pairsI 0 (ws.map .str)) (some p :: some (.ref M.length) :: rest) [.lst []] = txX j env' h' := by
  have lp := enum_loop (g := g) (b := b) (R := M) PV.str (fun acc w => (step acc w).map fun y => acc ++ [y])
    (fun k xs (acc : List β) env hh => hh = [.lst (acc.map emb)] ∧ acc.length = k ∧ ws.drop k = xs ∧ ∃ rest : Envr, rest.length = n ∧ env = some p :: some (.ref M.length) :: rest) (fun k w xs acc env hh i => ?_) ws 0 [] _ [.lst []] ⟨rfl, rfl, rfl, rest, hr, rfl⟩
  · cases er : runE (fun acc w => (step acc w).map fun y => acc ++ [y]) ws 0 [] with
    | ok acc =>
      rw [er] at lp
      obtain ⟨env', h', e1, e2, _, _, rest2, l2, e3⟩ := lp
      subst e2 e3
      exact ⟨rest2, l2, e1⟩
    | error j =>
      rw [er] at lp
      exact lp
  · obtain ⟨rfl, rfl, e1, rest, l1, rfl⟩ := i
    have hw : ws[acc.length]? = some w := by
      have := congrArg (fun l => l[0]?) e1
      simpa [List.getElem?_drop] using this
    have hk := (List.getElem?_eq_some_iff.mp hw).1
    obtain ⟨env1, q1, q2⟩ := hb acc.length acc w rest l1 (by omega) (List.mem_of_getElem? hw)
    refine ⟨env1, _, q1, ?_⟩
    cases es : step acc w with
    | none => rw [es] at q2; exact q2
    | some y =>
      rw [es] at q2
      obtain ⟨rest2, l2, q3⟩ := q2
      refine ⟨_, _, q3, rfl, by rw [List.length_append]; rfl, ?_, rest2, l2, rfl⟩
      rw [← List.drop_drop, e1]; rfl
/-- the end of such a def -/
theorem found_end {β : Type} (emb : β → PV) (hd : ∀ y, isData (emb y) = true) {R h : Mem} {acc : List β} {env : Envr} {p : PV} {rest : Envr} : finPure R h (sSeq (sRet (cFn (one fTuple) (cCons (cVar 1) cNil))) sPass (R ++ h) (some p :: some (.ref (R ++ h).length) :: rest) [.lst (acc.map emb)]) = .ok (.tup (acc.map emb)) h := by
  have e := g_tup (M := R ++ h) (zs := acc.map emb)
  obtain ⟨zs, hz⟩ : ∃ zs, zs = acc.map emb := ⟨_, rfl⟩
  have hd2 : areData zs = true := by rw [hz]; exact areData_map acc fun y _ => hd y
  rw [← hz] at e ⊢
  obtain ⟨M, hM⟩ : ∃ M, M = R ++ h := ⟨_, rfl⟩
  rw [← hM] at e ⊢
  have run : sSeq (sRet (cFn (one fTuple) (cCons (cVar 1) cNil))) sPass M (some p :: some (.ref M.length) :: rest) [.lst zs] = .ret (.tup zs) [.lst zs] := by
    simp [e]
  rw [run]
  exact fin_data hd2
def foundR {β : Type} (emb : β → PV) (h : Mem) : Except Nat (List β) → Res PV
  | .ok acc => .ok (.tup (acc.map emb)) h
  | .error k => .exc (.own "BadText") ["piece"] [.int k] h
/-- the whole of such a def -/
theorem found_all {β : Type} (emb : β → PV) (hd : ∀ y, isData (emb y) = true) (step : List β → Str → Option β) {g : EvG} {b : EvS} {i : EvI} {R h : Mem} {ws : List Str} {p : PV} {n : Nat} (hl : ws.length ≤ sizeLine)
    (hi : ∀ rest : Envr, i (R ++ h) (some p :: some (.ref (R ++ h).length) :: rest) [.lst []] = .ok (.items (pairsI 0 (ws.map .str))) [.lst []])
    (hb : ∀ (k : Nat) (acc : List β) (w : Str) (rest : Envr), rest.length = n → acc.length < sizeLine → w ∈ ws → ∃ env1, g (R ++ h) (some p :: some (.ref (R ++ h).length) :: rest) [.lst (acc.map emb)] (.tup [.int k, .str w]) = some (env1, [.lst (acc.map emb)]) ∧ match step acc w with
      | some y => ∃ rest2, rest2.length = n ∧ b (R ++ h) env1 [.lst (acc.map emb)] = .nx (some p :: some (.ref (R ++ h).length) :: rest2) [.lst ((acc ++ [y]).map emb)]
      | none => ∃ env2 h2, b (R ++ h) env1 [.lst (acc.map emb)] = txX k env2 h2) (rest : Envr) (hr : rest.length = n) :
    finPure R h (sSeq (sAsg (Z.gName 1) (cNew cNil)) (sSeq (sFor i g b) (sSeq (sRet (cFn (one fTuple) (cCons (cVar 1) cNil))) sPass)) (R ++ h) (some p :: none :: rest) []) = foundR emb h (runE (fun acc w => (step acc w).map fun y => acc ++ [y]) ws 0 []) := by
  have s0 : sAsg (Z.gName 1) (cNew cNil) (R ++ h) (some p :: none :: rest) [] = .nx (some p :: some (.ref (R ++ h).length) :: rest) [.lst []] := by
    simp [ev_new, sizeLine]
  rw [ev_seq, s0, ev_nx, ev_seq, ev_for (hi rest)]
  have lp := found_fn emb step (g := g) (b := b) (M := R ++ h) (p := p) hl hb rest hr
  cases er : runE (fun acc w => (step acc w).map fun y => acc ++ [y]) ws 0 [] with
  | ok acc =>
    rw [er] at lp
    obtain ⟨rest2, l2, e1⟩ := lp
    rw [e1, ev_nx]
    exact found_end emb hd (env := [])
  | error j =>
    rw [er] at lp
    obtain ⟨env', h', e1⟩ := lp
    rw [e1, ev_tx]
    exact fin_tx
end Z

end
section -- Z42
/-! Z42: pairs_from, sizes_from, run_from: what they tell. -/
namespace Z
open PySem PySem.Spec PyProof.Rows L2
def ltL (acc : List (Str × Str)) (q : Str × Str) : Bool := match acc.getLast? with
  | some l => ltP l q
  | none => true
def stepP (acc : List (Str × Str)) (w : Str) : Option (Str × Str) := match pairOf w with
  | some q => if ltL acc q = true then some q else none
  | none => none
theorem enum_cut {x sep : Str} {M h : Mem} {rest : Envr} (hb : (sep.length == 0) = false) (hx : x.length + 2 ≤ sizeLine) : iEnumE (cCons (cIf (cCmpT fNe (cVar 0) (cC (.str "-"))) (cStrM sSplit (cVar 0) (cCons (cC (.str sep)) cNil)) (cFn fLst cNil)) cNil) M (some (.str x) :: rest) h = .ok (.items (pairsI 0 ((cutAt x sep).map .str))) h := by
  refine iEnum_seq (p := .lst ((cutAt x sep).map .str)) ?_ rfl
  unfold cutAt
  by_cases hm : x = "-"
  · have l0 : ∀ m, fLst m [] = some (.lst []) := fun m => if_pos (Nat.zero_le _)
    simp [ne_str, hm, l0]
  · have sp : ∀ m, sSplit m (.str x) [.str sep] = some (.lst ((Txt.split x sep).map .str)) := fun m => split_str hb hx
    have nb : (x == ("-" : Str)) = false := beq_eq_false_iff_ne.mpr hm
    simp [ne_str, nb, hm, sp, -List.map_map]
theorem isD2 (q : Str × Str) : isData (pv2 q) = true := rfl
theorem env3 {rest : Envr} (h : rest.length = 3) : ∃ a b c, rest = [a, b, c] := by
  match rest, h with
  | [a, b, c], _ => exact ⟨a, b, c, rfl⟩
theorem env2 {rest : Envr} (h : rest.length = 2) : ∃ a b, rest = [a, b] := by
  match rest, h with
  | [a, b], _ => exact ⟨a, b, rfl⟩
section
variable {G : Glob} {Φs : Nat → Calls} {d : Nat} {R h : Mem}
theorem pairs_from_ok (I : ZP.I_pairs_from G Φs) (I1 : ZP.I_pair_in G Φs) (I2 : ZP.I_is_name G Φs) {x : Str} (hx : x.length + 2 ≤ sizeLine) :
    Φs (d + 3) "pairs_from" [.str x] R h = foundR pv2 h (runE (fun acc w => (stepP acc w).map fun y => acc ++ [y]) (cutAt x "; ") 0 []) := by
  rw [I, show startE 5 [.str x] = some (.str x) :: none :: [none, none, none] from rfl]
  refine found_all pv2 isD2 stepP (n := 3) (Nat.le_trans cutAt_le hx) (fun rest => enum_cut (by decide +kernel) hx) (fun k acc w rest l1 la hw => ?_) _ rfl
  obtain ⟨M, hM⟩ : ∃ M, M = R ++ h := ⟨_, rfl⟩
  rw [← hM]
  obtain ⟨a, b, c, rfl⟩ := env3 l1
  refine ⟨[some (.str x), some (.ref M.length), some (.int k), some (.str w), c], rfl, ?_⟩
  have pi : Φs (d + 2) "pair_in" [.str w] M [.lst (acc.map pv2)] = .ok (optP (pairOf w)) [.lst (acc.map pv2)] := pair_in_ok I1 I2 (Nat.le_trans (Nat.add_le_add_right (cutAt_part hw) 2) hx)
  have s0 : ZP.B_pairs_from_1b_0 G (Φs (d + 2)) M [some (.str x), some (.ref M.length), some (.int k), some (.str w), c] [.lst (acc.map pv2)] = .nx [some (.str x), some (.ref M.length), some (.int k), some (.str w), some (optP (pairOf w))] [.lst (acc.map pv2)] := by
    unfold ZP.B_pairs_from_1b_0
    simp [pi]
  unfold ZP.B_pairs_from_1b ZP.B_pairs_from_1b_t1 ZP.B_pairs_from_1b_t2
  rw [ev_seq, s0, ev_nx, ev_seq]
  unfold stepP
  cases ep : pairOf w with
  | none =>
    refine ⟨[some (.str x), some (.ref M.length), some (.int k), some (.str w), some .non], [.lst (acc.map pv2)], ?_⟩
    unfold ZP.B_pairs_from_1b_1
    simp [optP, is_non, isNone, txX]
  | some q =>
    dsimp only
    have lt0 : ZP.B_pairs_from_1b_1 G (Φs (d + 2)) M [some (.str x), some (.ref M.length), some (.int k), some (.str w), some (pv2 q)] [.lst (acc.map pv2)] = if ltL acc q = true then .nx [some (.str x), some (.ref M.length), some (.int k), some (.str w), some (pv2 q)] [.lst (acc.map pv2)] else txX k [some (.str x), some (.ref M.length), some (.int k), some (.str w), some (pv2 q)] [.lst (acc.map pv2)] := by
      have nn : ∀ m, fIs m (pv2 q) .non = some (.bl false) := fun m => rfl
      have ng : ∀ m, fNeg m (.int 1) = some (.int (-1)) := fun m => rfl
      have ln := g_len (M := M) (zs := acc.map pv2)
      rw [List.length_map] at ln
      unfold ZP.B_pairs_from_1b_1 ltL
      rcases List.eq_nil_or_concat acc with e | ⟨acc', l, e⟩
      · subst e
        have ln0 : fLen (M ++ [.lst []]) (.ref M.length) = some (.int 0) := g_len (zs := [])
        simp [nn, ln0, gt_int]
      · rw [List.concat_eq_append] at e
        subst e
        have ix : fIx (M ++ [.lst ((acc' ++ [l]).map pv2)]) (.ref M.length) (.int (-1)) = some (pv2 l) := by
          rw [g_ix, List.map_append]
          exact atI_last _ _
        have c0 : (0 : Int) < ((acc' ++ [l]).length : Int) := by rw [List.length_append, List.length_singleton]; omega
        obtain ⟨zs, hz⟩ : ∃ zs, zs = (acc' ++ [l]).map pv2 := ⟨_, rfl⟩
        rw [← hz] at ln ix ⊢
        rw [List.getLast?_append, List.getLast?_singleton]
        show _ = if ltP l q = true then _ else _
        cases hl : ltP l q with
        | true => simp [nn, ng, ln, gt_int, c0, ix, ord_le_pair, hl]
        | false => simp [nn, ng, ln, gt_int, c0, ix, ord_le_pair, hl, txX]
    rw [show optP (some q) = pv2 q from rfl, lt0]
    cases hl : ltL acc q with
    | false =>
      exact ⟨_, _, rfl⟩
    | true =>
      refine ⟨[some (.int k), some (.str w), some (pv2 q)], rfl, ?_⟩
      have ap := g_app (M := M) (zs := acc.map pv2) (a := cVar 1) (b := cVar 4) (env := [some (.str x), some (.ref M.length), some (.int k), some (.str w), some (pv2 q)]) (y := pv2 q) rfl rfl (by rw [List.length_map]; exact la)
      rw [if_pos rfl, ev_nx]
      unfold ZP.B_pairs_from_1b_2
      rw [ev_seq, ev_sexpr, ap, List.map_append]
      rfl
end
end Z

end
section -- Z43
/-! Z43: run_from, sizes_from: what they tell. -/
namespace Z
open PySem PySem.Spec PyProof.Rows L2
def headS (w : Str) : Str := ⟨((TL.tl w).take 1).toArray⟩
def tailS (w : Str) : Str := ⟨((TL.tl w).drop 1).toArray⟩
def wordsT : List (Str × PV) := [("+", .str "begin"), ("-", .str "end")]
def deedOf (w : Str) : Option (Str × Str) := if headS w = "+" ∧ nameB (tailS w) = true then some ("begin", tailS w) else if headS w = "-" ∧ nameB (tailS w) = true then some ("end", tailS w) else none
@[simp] theorem ev_inD {p : Bool} {kvs : List (Str × PV)} {b : Ev} {R h h1 : Mem} {env : Envr} {z : Str} (e : b R env h = .ok (.str z) h1) : tInD p kvs b R env h = .ok (p == (kvs.lookup z).isSome) h1 := by
  unfold tInD; rw [e]; rfl
theorem ev_dic {kvs : List (Str × PV)} {b : Ev} {R h h1 : Mem} {env : Envr} {z : Str} {v : PV} (e : b R env h = .ok (.str z) h1) (l : kvs.lookup z = some v) : cDic kvs b R env h = .ok v h1 := by
  unfold cDic; rw [e]
  show liftO h1 (kvs.lookup z) = _
  rw [l]; rfl
theorem cutS_cut (w : Str) (lo hi : Option Int) : cutS w lo hi = ⟨(cutP (TL.tl w) lo hi).toArray⟩ := by
  unfold cutS cutP
  rw [TL.len_tl]
theorem sl_head {m : Mem} {w : Str} (hw : w.length ≤ sizeLine) : fSl m (.str w) none (some 1) = some (.str (headS w)) := by
  have e : cutP (TL.tl w) none (some 1) = (TL.tl w).take 1 := by
    unfold cutP
    rw [HT.sIx_none, show (some (1 : Int)) = some ((1 : Nat) : Int) from rfl, HT.sIx_nat, List.drop_zero, Nat.sub_zero, List.take_eq_take_iff]
    omega
  unfold headS fSl
  dsimp only
  rw [if_pos hw, cutS_cut, e]
theorem sl_tail {m : Mem} {w : Str} (hw : w.length ≤ sizeLine) : fSl m (.str w) (some 1) none = some (.str (tailS w)) := by
  unfold tailS fSl
  dsimp only
  rw [if_pos hw, cutS_cut, cut_drop1]
theorem tailS_len (w : Str) : (tailS w).length ≤ w.length := by
  have : (tailS w).length = ((TL.tl w).drop 1).length := by
    show ((TL.tl w).drop 1).toArray.size = _
    simp
  rw [this, List.length_drop]
  have := TL.len_tl w
  omega
section
variable {G : Glob} {Φs : Nat → Calls} {d : Nat} {R h : Mem}
theorem run_from_ok (I : ZP.I_run_from G Φs) (I1 : ZP.I_is_name G Φs) {x : Str} (hx : x.length + 2 ≤ sizeLine) :
    Φs (d + 2) "run_from" [.str x] R h = foundR pv2 h (runE (fun acc w => (deedOf w).map fun y => acc ++ [y]) (cutAt x " ") 0 []) := by
  rw [I, show startE 4 [.str x] = some (.str x) :: none :: [none, none] from rfl]
  refine found_all pv2 isD2 (fun _ w => deedOf w) (n := 2) (Nat.le_trans cutAt_le hx) (fun rest => enum_cut (by decide +kernel) hx) (fun k acc w rest l1 la hw => ?_) _ rfl
  obtain ⟨M, hM⟩ : ∃ M, M = R ++ h := ⟨_, rfl⟩
  rw [← hM]
  obtain ⟨a, b, rfl⟩ := env2 l1
  refine ⟨[some (.str x), some (.ref M.length), some (.int k), some (.str w)], rfl, ?_⟩
  obtain ⟨zs, hz⟩ : ∃ zs, zs = acc.map pv2 := ⟨_, rfl⟩
  have wl : w.length ≤ sizeLine := Nat.le_trans (cutAt_part hw) (by omega)
  have nm : Φs (d + 1) "is_name" [.str (tailS w)] M [.lst zs] = .ok (.bl (nameB (tailS w))) [.lst zs] := is_name_ok I1 (Nat.le_trans (tailS_len w) (Nat.le_trans (cutAt_part hw) (by omega)))
  have hd : ∀ (env : Envr) (hh : Mem), env[3]? = some (some (.str w)) → cSl (cVar 3) oNone (oSome (cC (.int 1))) M env hh = .ok (.str (headS w)) hh := fun env hh e => by simp [e, sl_head wl]
  have hd0 := hd [some (.str x), some (.ref M.length), some (.int k), some (.str w)] [.lst zs] rfl
  have tl : cSl (cVar 3) (oSome (cC (.int 1))) oNone M [some (.str x), some (.ref M.length), some (.int k), some (.str w)] [.lst zs] = .ok (.str (tailS w)) [.lst zs] := by simp [sl_tail wl]
  have t1 : ZP.B_run_from_1b_0 G (Φs (d + 1)) M [some (.str x), some (.ref M.length), some (.int k), some (.str w)] [.lst zs] = if ((wordsT.lookup (headS w)).isSome && nameB (tailS w)) = true then .nx [some (.str x), some (.ref M.length), some (.int k), some (.str w)] [.lst zs] else txX k [some (.str x), some (.ref M.length), some (.int k), some (.str w)] [.lst zs] := by
    have q := ev_inD (p := false) (kvs := wordsT) hd0
    have cl : cTruth (cCall (Φs (d + 1) "is_name") 1 [] (cCons (cSl (cVar 3) (oSome (cC (.int 1))) oNone) cNil)) M [some (.str x), some (.ref M.length), some (.int k), some (.str w)] [.lst zs] = .ok (nameB (tailS w)) [.lst zs] := by
      rw [ev_truth, ev_call, ev_cons, tl]
      simp [nm]
    unfold ZP.B_run_from_1b_0
    rw [ev_if, ev_or2, show tInD false [("+", .str "begin"), ("-", .str "end")] (cSl (cVar 3) oNone (oSome (cC (.int 1)))) M [some (.str x), some (.ref M.length), some (.int k), some (.str w)] [.lst zs] = _ from q, ev_bind, ev_not1, cl]
    cases h1 : (wordsT.lookup (headS w)).isSome with
    | false => simp [txX]
    | true =>
      cases h2 : nameB (tailS w) with
      | false => simp [txX]
      | true => simp
  have lk : wordsT.lookup (headS w) = if headS w = "+" then some (.str "begin") else if headS w = "-" then some (.str "end") else none := by
    unfold wordsT
    rw [List.lookup_cons, List.lookup_cons, List.lookup_nil]
    by_cases h1 : headS w = "+"
    · rw [if_pos h1, h1]; rfl
    · rw [if_neg h1, beq_eq_false_iff_ne.mpr h1]
      by_cases h2 : headS w = "-"
      · rw [if_pos h2, h2]; rfl
      · rw [if_neg h2, beq_eq_false_iff_ne.mpr h2]
  have go : ∀ (wd : Str), wordsT.lookup (headS w) = some (.str wd) → ZP.B_run_from_1b_1 G (Φs (d + 1)) M [some (.str x), some (.ref M.length), some (.int k), some (.str w)] [.lst zs] = .nx [some (.str x), some (.ref M.length), some (.int k), some (.str w)] [.lst (zs ++ [pv2 (wd, tailS w)])] := fun wd l => by
    have dc := ev_dic (kvs := wordsT) hd0 l
    have tp : ∀ m, fTup m [.str wd, .str (tailS w)] = some (pv2 (wd, tailS w)) := fun m => if_pos (by rw [sizeLine_val]; simp)
    have ap := g_app (M := M) (zs := zs) (a := cVar 1) (b := cFn fTup (cCons (cDic wordsT (cSl (cVar 3) oNone (oSome (cC (.int 1))))) (cCons (cSl (cVar 3) (oSome (cC (.int 1))) oNone) cNil))) (env := [some (.str x), some (.ref M.length), some (.int k), some (.str w)]) (y := pv2 (wd, tailS w)) rfl (by
      rw [ev_fn, ev_cons, dc, ev_bind, ev_cons, tl]
      simp [tp]) (by rw [hz, List.length_map]; exact la)
    show sExpr (cMut mAppend (cVar 1) (cCons (cFn fTup (cCons (cDic wordsT (cSl (cVar 3) oNone (oSome (cC (.int 1))))) (cCons (cSl (cVar 3) (oSome (cC (.int 1))) oNone) cNil))) cNil)) M [some (.str x), some (.ref M.length), some (.int k), some (.str w)] [.lst zs] = _
    rw [ev_sexpr, ap]; rfl
  unfold ZP.B_run_from_1b ZP.B_run_from_1b_t1
  rw [← hz]
  unfold deedOf
  rw [ev_seq, t1]
  cases h2 : nameB (tailS w) with
  | false =>
    rw [if_neg (by simp), if_neg (by simp), Bool.and_false]
    exact ⟨_, _, rfl⟩
  | true =>
    by_cases h1 : headS w = "+"
    · rw [if_pos ⟨h1, rfl⟩]
      have l : wordsT.lookup (headS w) = some (.str "begin") := by rw [lk, if_pos h1]
      refine ⟨[some (.int k), some (.str w)], rfl, ?_⟩
      rw [l]
      show (SR.nx _ _).seq _ = _
      rw [ev_nx, ev_seq, go _ l, List.map_append, ← hz]; rfl
    · rw [if_neg (fun z => h1 z.1)]
      by_cases h3 : headS w = "-"
      · rw [if_pos ⟨h3, rfl⟩]
        have l : wordsT.lookup (headS w) = some (.str "end") := by rw [lk, if_neg h1, if_pos h3]
        refine ⟨[some (.int k), some (.str w)], rfl, ?_⟩
        rw [l]
        show (SR.nx _ _).seq _ = _
        rw [ev_nx, ev_seq, go _ l, List.map_append, ← hz]; rfl
      · rw [if_neg (fun z => h3 z.1)]
        have l : wordsT.lookup (headS w) = none := by rw [lk, if_neg h1, if_neg h3]
        rw [l]
        exact ⟨_, _, rfl⟩
def optN : Option Int → PV
  | some i => .int i
  | none => .non
theorem sizes_from_ok (I : ZP.I_sizes_from G Φs) {x : Str} (hx : x.length + 2 ≤ sizeLine) (num : Str → Option Int) (hn : ∀ w ∈ cutAt x " ", ∀ R h, Φs (d + 1) "number_in" [.str w] R h = .ok (optN (num w)) h) :
    Φs (d + 2) "sizes_from" [.str x] R h = foundR PV.int h (runE (fun acc w => (num w).map fun y => acc ++ [y]) (cutAt x " ") 0 []) := by
  rw [I, show startE 5 [.str x] = some (.str x) :: none :: [none, none, none] from rfl]
  refine found_all PV.int (fun _ => rfl) (fun _ w => num w) (n := 3) (Nat.le_trans cutAt_le hx) (fun rest => enum_cut (by decide +kernel) hx) (fun k acc w rest l1 la hw => ?_) _ rfl
  obtain ⟨M, hM⟩ : ∃ M, M = R ++ h := ⟨_, rfl⟩
  rw [← hM]
  obtain ⟨a, b, c, rfl⟩ := env3 l1
  refine ⟨[some (.str x), some (.ref M.length), some (.int k), some (.str w), c], rfl, ?_⟩
  obtain ⟨zs, hz⟩ : ∃ zs, zs = acc.map PV.int := ⟨_, rfl⟩
  have nm := hn w hw M [.lst zs]
  have s0 : ZP.B_sizes_from_1b_0 G (Φs (d + 1)) M [some (.str x), some (.ref M.length), some (.int k), some (.str w), c] [.lst zs] = .nx [some (.str x), some (.ref M.length), some (.int k), some (.str w), some (optN (num w))] [.lst zs] := by
    unfold ZP.B_sizes_from_1b_0
    simp [nm]
  unfold ZP.B_sizes_from_1b ZP.B_sizes_from_1b_t1 ZP.B_sizes_from_1b_t2
  rw [← hz, ev_seq, s0, ev_nx, ev_seq]
  cases en : num w with
  | none =>
    refine ⟨[some (.str x), some (.ref M.length), some (.int k), some (.str w), some .non], [.lst zs], ?_⟩
    unfold ZP.B_sizes_from_1b_1
    simp [optN, is_non, isNone, txX]
  | some v =>
    refine ⟨[some (.int k), some (.str w), some (.int v)], rfl, ?_⟩
    have s1 : ZP.B_sizes_from_1b_1 G (Φs (d + 1)) M [some (.str x), some (.ref M.length), some (.int k), some (.str w), some (optN (some v))] [.lst zs] = .nx [some (.str x), some (.ref M.length), some (.int k), some (.str w), some (.int v)] [.lst zs] := by
      unfold ZP.B_sizes_from_1b_1
      simp [optN, is_non, isNone]
    have ap := g_app (M := M) (zs := zs) (a := cVar 1) (b := cVar 4) (env := [some (.str x), some (.ref M.length), some (.int k), some (.str w), some (.int v)]) (y := .int v) rfl rfl (by rw [hz, List.length_map]; exact la)
    rw [s1, ev_nx]
    unfold ZP.B_sizes_from_1b_2
    rw [ev_seq, ev_sexpr, ap, List.map_append, ← hz]
    rfl
end
end Z

end
section -- Z44
/-! Z44: the texts' functions, plain: writing; what is written is read back. -/
namespace Z
open PySem PySem.Spec PyProof.Rows L2
def textOf (sep : Str) (ws : List Str) : Str := if ws = [] then "-" else Txt.join sep ws
/-- room for a joined text -/
def roomOk (sep : Str) (ws : List Str) : Prop := (ws.map (·.length)).sum + ws.length * sep.length ≤ 16777216
/-- a tuple or a list of these -/
def IsSeq (p : PV) (xs : List PV) : Prop := p = .tup xs ∨ p = .lst xs
theorem IsSeq.seq {p : PV} {xs : List PV} (h : IsSeq p xs) (m : Mem) : seqOf m p = some xs := by
  rcases h with rfl | rfl <;> rfl
theorem IsSeq.len {p : PV} {xs : List PV} (h : IsSeq p xs) (m : Mem) : fLen m p = some (.int xs.length) := by
  rcases h with rfl | rfl
  · exact len_tup
  · exact len_lst
theorem IsSeq.src {p : PV} {xs : List PV} (h : IsSeq p xs) {a : Ev} {R hh h1 : Mem} {env : Envr} (e : a R env hh = .ok p h1) : iVal a R env hh = .ok (.items xs) h1 := by
  unfold iVal
  rw [e]
  rcases h with rfl | rfl <;> rfl
theorem join_str {m : Mem} {sep : Str} {p : PV} {ws : List Str} (h : IsSeq p (ws.map .str)) (hr : roomOk sep ws) : sJoin m (.str sep) [p] = some (.str (Txt.join sep ws)) := by
  unfold sJoin
  dsimp only
  rw [h.seq m]
  dsimp only
  rw [asStrs_map]
  exact if_pos hr
section
variable {G : Glob} {Φs : Nat → Calls} {d : Nat} {R h : Mem}
theorem steps_text_ok (I : ZP.I_steps_text G Φs) {p : PV} {ws : List Str} (hp : IsSeq p (ws.map .str)) (hr : roomOk " " ws) : Φs (d + 1) "steps_text" [p] R h = .ok (.str (textOf " " ws)) h := by
  rw [I, show startE 1 [p] = [some p] from rfl]
  have run : ZP.B_steps_text G (Φs d) (R ++ h) [some p] [] = .ret (.str (textOf " " ws)) [] := by
    unfold ZP.B_steps_text ZP.B_steps_text_0 textOf
    by_cases hw : ws = []
    · subst hw
      simp [hp.len, gt_int]
    · have l0 : 0 < ws.length := List.length_pos_iff.mpr hw
      simp [hp.len, gt_int, l0, join_str hp hr, hw]
  rw [run]
  exact fin_data rfl
theorem pair_text_ok (I : ZP.I_pair_text G Φs) {p : PV} {ws : List Str} (hp : IsSeq p (ws.map .str)) (hr : roomOk " " ws) : Φs (d + 1) "pair_text" [p] R h = .ok (.str (Txt.join " " ws)) h := by
  rw [I, show startE 1 [p] = [some p] from rfl]
  have run : ZP.B_pair_text G (Φs d) (R ++ h) [some p] [] = .ret (.str (Txt.join " " ws)) [] := by
    unfold ZP.B_pair_text ZP.B_pair_text_0
    simp [join_str hp hr]
  rw [run]
  exact fin_data rfl
def pairT (q : Str × Str) : Str := Txt.join " " [q.1, q.2]
theorem pairs_text_ok (I : ZP.I_pairs_text G Φs) (I1 : ZP.I_pair_text G Φs) {p : PV} {qs : List (Str × Str)} {emb : Str × Str → PV} (he : ∀ q, IsSeq (emb q) [.str q.1, .str q.2]) (hp : IsSeq p (qs.map emb)) (hq : ∀ q ∈ qs, roomOk " " [q.1, q.2]) (hr : roomOk "; " (qs.map pairT)) (hl : qs.length ≤ sizeLine) :
    Φs (d + 2) "pairs_text" [p] R h = .ok (.str (textOf "; " (qs.map pairT))) h := by
  rw [I, show startE 2 [p] = [some p, none] from rfl]
  have lc : cLc [1] (iVal (cVar 0)) (Z.gName 1) tYesE (cCall (Φs (d + 1) "pair_text") 1 [] (cCons (cVar 1) cNil)) (R ++ h) [some p, none] [] = .ok (.lst ((qs.map pairT).map .str)) [] := by
    rw [List.map_map]
    refine lc_items (xs := qs.map emb) (h1 := []) (hp.src rfl) (compL_map (emb := emb) (f := PV.str ∘ pairT) _ fun q hq' => ⟨[some p, some (emb q)], rfl, ?_⟩) (by rw [List.length_map]; exact hl)
    have := pair_text_ok (d := d) (R := R ++ h) (h := []) I1 (ws := [q.1, q.2]) (he q) (hq q hq')
    simp [this, pairT]
  have run : ZP.B_pairs_text G (Φs (d + 1)) (R ++ h) [some p, none] [] = .ret (.str (textOf "; " (qs.map pairT))) [] := by
    unfold ZP.B_pairs_text ZP.B_pairs_text_0 textOf
    by_cases hw : qs = []
    · subst hw
      simp [hp.len, gt_int]
    · have l0 : 0 < qs.length := List.length_pos_iff.mpr hw
      have jo : ∀ m, sJoin m (.str "; ") [.lst ((qs.map pairT).map .str)] = some (.str (Txt.join "; " (qs.map pairT))) := fun m => join_str (.inr rfl) hr
      obtain ⟨zs, hz⟩ : ∃ zs, zs = (qs.map pairT).map PV.str := ⟨_, rfl⟩
      rw [← hz] at lc jo
      simp [hp.len, gt_int, l0, lc, jo, hw]
  rw [run]
  exact fin_data rfl
theorem sizes_text_ok (I : ZP.I_sizes_text G Φs) {p : PV} {ns : List Int} {tx : Int → Str} (hp : IsSeq p (ns.map .int)) (ht : ∀ i ∈ ns, ∀ m, fStr m (.int i) = some (.str (tx i))) (hr : roomOk " " (ns.map tx)) (hl : ns.length ≤ sizeLine) :
    Φs (d + 1) "sizes_text" [p] R h = .ok (.str (textOf " " (ns.map tx))) h := by
  rw [I, show startE 2 [p] = [some p, none] from rfl]
  have lc : cLc [1] (iVal (cVar 0)) (Z.gName 1) tYesE (cFn (one fStr) (cCons (cVar 1) cNil)) (R ++ h) [some p, none] [] = .ok (.lst ((ns.map tx).map .str)) [] := by
    rw [List.map_map]
    refine lc_items (xs := ns.map .int) (h1 := []) (hp.src rfl) (compL_map (emb := PV.int) (f := PV.str ∘ tx) _ fun q hq' => ⟨[some p, some (.int q)], rfl, ?_⟩) (by rw [List.length_map]; exact hl)
    simp [ht q hq']
  have run : ZP.B_sizes_text G (Φs d) (R ++ h) [some p, none] [] = .ret (.str (textOf " " (ns.map tx))) [] := by
    unfold ZP.B_sizes_text ZP.B_sizes_text_0 textOf
    by_cases hw : ns = []
    · subst hw
      simp [hp.len, gt_int]
    · have l0 : 0 < ns.length := List.length_pos_iff.mpr hw
      have jo : ∀ m, sJoin m (.str " ") [.lst ((ns.map tx).map .str)] = some (.str (Txt.join " " (ns.map tx))) := fun m => join_str (.inr rfl) hr
      obtain ⟨zs, hz⟩ : ∃ zs, zs = (ns.map tx).map PV.str := ⟨_, rfl⟩
      rw [← hz] at lc jo
      simp [hp.len, gt_int, l0, lc, jo, hw]
  rw [run]
  exact fin_data rfl
def signsT : List (Str × PV) := [("begin", .str "+"), ("end", .str "-")]
def deedT (q : Str × Str) : Str := (if q.1 = "begin" then ("+" : Str) else "-") ++ q.2
theorem run_text_ok (I : ZP.I_run_text G Φs) {p : PV} {qs : List (Str × Str)} (hp : IsSeq p (qs.map pv2)) (hq : ∀ q ∈ qs, (q.1 = "begin" ∨ q.1 = "end") ∧ ∀ m, fAdd m (.str (if q.1 = "begin" then "+" else "-")) (.str q.2) = some (.str (deedT q))) (hr : roomOk " " (qs.map deedT)) (hl : qs.length ≤ sizeLine) :
    Φs (d + 1) "run_text" [p] R h = .ok (.str (textOf " " (qs.map deedT))) h := by
  rw [I, show startE 3 [p] = [some p, none, none] from rfl]
  have lc : cLc [1, 2] (iVal (cVar 0)) (Z.gTup [Z.gName 1, Z.gName 2]) tYesE (cOp2 fAdd (cDic signsT (cVar 1)) (cVar 2)) (R ++ h) [some p, none, none] [] = .ok (.lst ((qs.map deedT).map .str)) [] := by
    rw [List.map_map]
    refine lc_items (xs := qs.map pv2) (h1 := []) (hp.src rfl) (compL_map (emb := pv2) (f := PV.str ∘ deedT) _ fun q hq' => ⟨[some p, some (.str q.1), some (.str q.2)], rfl, ?_⟩) (by rw [List.length_map]; exact hl)
    obtain ⟨h1, h2⟩ := hq q hq'
    have l : signsT.lookup q.1 = some (.str (if q.1 = "begin" then "+" else "-")) := by
      rcases h1 with e | e
      · rw [e]; rfl
      · rw [e]; rfl
    have dc := ev_dic (kvs := signsT) (b := cVar 1) (R := R ++ h) (h := []) (h1 := []) (env := [some p, some (.str q.1), some (.str q.2)]) rfl l
    rw [ev_op2, dc]
    simp [h2]
  have run : ZP.B_run_text G (Φs d) (R ++ h) [some p, none, none] [] = .ret (.str (textOf " " (qs.map deedT))) [] := by
    unfold ZP.B_run_text ZP.B_run_text_0 textOf
    have lc' : cLc [1, 2] (iVal (cVar 0)) (Z.gTup [Z.gName 1, Z.gName 2]) tYesE (cOp2 fAdd (cDic [("begin", .str "+"), ("end", .str "-")] (cVar 1)) (cVar 2)) (R ++ h) [some p, none, none] [] = .ok (.lst ((qs.map deedT).map .str)) [] := lc
    by_cases hw : qs = []
    · subst hw
      simp [hp.len, gt_int]
    · have l0 : 0 < qs.length := List.length_pos_iff.mpr hw
      have jo : ∀ m, sJoin m (.str " ") [.lst ((qs.map deedT).map .str)] = some (.str (Txt.join " " (qs.map deedT))) := fun m => join_str (.inr rfl) hr
      obtain ⟨zs, hz⟩ : ∃ zs, zs = (qs.map deedT).map PV.str := ⟨_, rfl⟩
      rw [← hz] at lc' jo
      simp [hp.len, gt_int, l0, lc', jo, hw]
  rw [run]
  exact fin_data rfl
end
end Z

end
section -- Z45
/-! Z45: what is written is read back. -/
namespace Z
open PySem PySem.Spec PyProof.Rows L2
theorem join_pre {S : List Nat} : ∀ (p : List Nat) (r : List (List Nat)), ∃ t, TL.joinL S (p :: r) = p ++ t
  | p, [] => ⟨[], by rw [List.append_nil]; rfl⟩
  | p, q :: r => ⟨S ++ TL.joinL S (q :: r), rfl⟩
theorem join_len {S : List Nat} : ∀ (ps : List (List Nat)), (TL.joinL S ps).length ≤ (ps.map List.length).sum + ps.length * S.length
  | [] => Nat.zero_le _
  | [p] => by
    show p.length ≤ _
    simp
  | p :: q :: r => by
    have ih := join_len (S := S) (q :: r)
    show (p ++ (S ++ TL.joinL S (q :: r))).length ≤ _
    rw [List.length_append, List.length_append]
    simp only [List.map_cons, List.sum_cons, List.length_cons] at ih ⊢
    rw [Nat.succ_mul]
    omega
theorem joinT_len (sep : Str) (ws : List Str) : (Txt.join sep ws).length ≤ (ws.map (·.length)).sum + ws.length * sep.length := by
  have e : (Txt.join sep ws).length = (TL.joinL (TL.tl sep) (ws.map TL.tl)).length := by
    rw [← TL.tl_join, ← TL.join_eq, TL.len_tl]
  rw [e]
  have := join_len (S := TL.tl sep) (ws.map TL.tl)
  rw [List.map_map, List.length_map] at this
  have e2 : (ws.map (List.length ∘ TL.tl)) = ws.map (·.length) := List.map_congr_left fun w _ => (TL.len_tl w).symm
  rw [e2, ← TL.len_tl] at this
  exact this
theorem sum_le {α : Type} {f : α → Nat} {B : Nat} : ∀ (ws : List α), (∀ w ∈ ws, f w ≤ B) → (ws.map f).sum ≤ ws.length * B
  | [], _ => Nat.zero_le _
  | w :: ws, h => by
    have h1 := h w (List.mem_cons_self ..)
    have h2 := sum_le ws fun v hv => h v (List.mem_cons_of_mem _ hv)
    rw [List.map_cons, List.sum_cons, List.length_cons, Nat.succ_mul]
    omega
theorem room_of {sep : Str} {ws : List Str} {B N : Nat} (h : ∀ w ∈ ws, w.length ≤ B) (hl : ws.length ≤ N) (hb : N * (B + sep.length) ≤ 16777216) : roomOk sep ws := by
  have := sum_le (f := fun w : Str => w.length) ws h
  unfold roomOk
  have h2 : ws.length * (B + sep.length) ≤ N * (B + sep.length) := Nat.mul_le_mul_right _ hl
  rw [Nat.mul_add] at h2
  omega
theorem text_len {sep : Str} {ws : List Str} (hr : (ws.map (·.length)).sum + ws.length * sep.length ≤ 16777000) : (textOf sep ws).length + 2 ≤ sizeLine := by
  unfold textOf
  rw [sizeLine_val]
  split
  · decide
  · have := joinT_len sep ws
    omega
theorem text_len2 {sep : Str} {ws : List Str} {B N : Nat} (h : ∀ w ∈ ws, w.length ≤ B) (hl : ws.length ≤ N) (hb : N * (B + sep.length) ≤ 16777000) : (textOf sep ws).length + 2 ≤ sizeLine := by
  refine text_len ?_
  have := sum_le (f := fun w : Str => w.length) ws h
  have h2 : ws.length * (B + sep.length) ≤ N * (B + sep.length) := Nat.mul_le_mul_right _ hl
  rw [Nat.mul_add] at h2
  omega
theorem tl_minus : TL.tl ("-" : Str) = [45] := by decide +kernel
theorem tl_blank : TL.tl (" " : Str) = [32] := by decide +kernel
theorem tl_semi : TL.tl ("; " : Str) = [59, 32] := by decide +kernel
theorem tl_plus : TL.tl ("+" : Str) = [43] := by decide +kernel
theorem join_ne {sep : Str} {ws : List Str} (h0 : ws ≠ []) (h : ∀ w ∈ ws, TL.tl w ≠ [] ∧ TL.tl w ≠ [45]) : Txt.join sep ws ≠ "-" := fun e => by
  have e2 := congrArg TL.tl e
  rw [TL.join_eq, TL.tl_join, tl_minus] at e2
  match ws, h0 with
  | w :: r, _ =>
    obtain ⟨t, et⟩ := join_pre (S := TL.tl sep) (TL.tl w) (r.map TL.tl)
    rw [List.map_cons, et] at e2
    obtain ⟨a1, a2⟩ := h w (List.mem_cons_self ..)
    cases hw : TL.tl w with
    | nil => exact a1 hw
    | cons c cs =>
      rw [hw] at e2
      have e3 : c :: (cs ++ t) = [45] := e2
      injection e3 with e4 e5
      have : cs = [] := (List.append_eq_nil_iff.mp e5).1
      exact a2 (by rw [hw, e4, this])
theorem cut_text {sep : Str} {s : Nat} {S : List Nat} (ey : TL.tl sep = s :: S) (hk : sep.cps.all (· < 256) = true) {ws : List Str} (hp : ∀ w ∈ ws, s ∉ TL.tl w) (h : ∀ w ∈ ws, TL.tl w ≠ [] ∧ TL.tl w ≠ [45]) : cutAt (textOf sep ws) sep = ws := by
  unfold cutAt textOf
  by_cases h0 : ws = []
  · rw [if_pos h0, if_pos rfl, h0]
  · rw [if_neg h0, if_neg (join_ne h0 h), TL.split_join ey hk h0 hp]
/-! ### names -/
theorem name_low {w : Str} (h : nameB w = true) : ∀ c ∈ TL.tl w, 97 ≤ c ∧ c ≤ 122 := fun c hc => by
  unfold nameB at h
  rw [Bool.and_eq_true, Bool.and_eq_true] at h
  have := List.all_eq_true.mp h.2.2 c hc
  unfold lowB at this
  rw [Bool.and_eq_true, decide_eq_true_eq, decide_eq_true_eq] at this
  exact this
theorem name_len {w : Str} (h : nameB w = true) : 1 ≤ w.length ∧ w.length ≤ 8 := by
  unfold nameB at h
  rw [Bool.and_eq_true, Bool.and_eq_true, decide_eq_true_eq, decide_eq_true_eq] at h
  exact ⟨h.1, h.2.1⟩
theorem name_free {w : Str} (h : nameB w = true) {c : Nat} (hc : c < 97) : c ∉ TL.tl w := fun hm => by
  have := name_low h c hm
  omega
theorem name_ne {w : Str} (h : nameB w = true) : TL.tl w ≠ [] ∧ TL.tl w ≠ [45] := by
  have hl := (name_len h).1
  rw [TL.len_tl] at hl
  refine ⟨fun e => by rw [e] at hl; simp at hl, fun e => ?_⟩
  have := name_free h (c := 45) (by decide)
  rw [e] at this
  simp at this
theorem steps_back {ws : List Str} (hn : ∀ w ∈ ws, nameB w = true) : cutAt (textOf " " ws) " " = ws :=
  cut_text tl_blank (by decide +kernel) (fun w hw => name_free (hn w hw) (by decide)) fun w hw => name_ne (hn w hw)
theorem steps_run : ∀ {ws : List Str} {p : Option Str} {k : Nat}, (∀ w ∈ ws, nameB w = true) → ws.Pairwise (fun a b => ltS a b = true) → (∀ w ∈ ws, ltO p w = true) → ∃ r, runE stepW ws k p = .ok r
  | [], p, _, _, _, _ => ⟨p, rfl⟩
  | w :: ws, p, k, hn, hs, hp => by
    rw [runE]
    have e : stepW p w = some (some w) := by
      unfold stepW
      rw [hn w (List.mem_cons_self ..), hp w (List.mem_cons_self ..)]; rfl
    rw [e]
    exact steps_run (fun v hv => hn v (List.mem_cons_of_mem _ hv)) (List.pairwise_cons.mp hs).2 fun v hv => (List.pairwise_cons.mp hs).1 v hv
theorem runE_back {α β : Type} {f : List β → α → Option β} {t : β → α} : ∀ {qs : List β} {acc : List β} {k : Nat}, (∀ (as : List β) (q : β) (bs : List β), qs = as ++ q :: bs → f (acc ++ as) (t q) = some q) → runE (fun acc w => (f acc w).map fun y => acc ++ [y]) (qs.map t) k acc = .ok (acc ++ qs)
  | [], acc, _, _ => by rw [List.append_nil]; rfl
  | q :: qs, acc, k, h => by
    rw [List.map_cons, runE]
    have e := h [] q qs rfl
    rw [List.append_nil] at e
    rw [e]
    have ih := runE_back (f := f) (t := t) (qs := qs) (acc := acc ++ [q]) (k := k + 1) fun as r bs e2 => by
      have := h (q :: as) r bs (by rw [e2]; rfl)
      rw [List.append_assoc]
      exact this
    rw [List.append_assoc] at ih
    exact ih
def okPair (q : Str × Str) : Prop := nameB q.1 = true ∧ nameB q.2 = true ∧ q.1 ≠ q.2
theorem pairT_tl (q : Str × Str) : TL.tl (pairT q) = TL.tl q.1 ++ 32 :: TL.tl q.2 := by
  unfold pairT
  rw [TL.join_eq, TL.tl_join, tl_blank]; rfl
theorem pairT_len (q : Str × Str) : (pairT q).length = q.1.length + q.2.length + 1 := by
  rw [TL.len_tl, pairT_tl, TL.len_tl q.1, TL.len_tl q.2, List.length_append, List.length_cons]
  omega
theorem pair_back {q : Str × Str} (h : okPair q) : pairOf (pairT q) = some q := by
  obtain ⟨h1, h2, h3⟩ := h
  have e : Txt.split (pairT q) " " = [q.1, q.2] := TL.split_join tl_blank (by decide +kernel) (by simp) fun w hw => by
    simp at hw
    rcases hw with rfl | rfl
    · exact name_free h1 (by decide)
    · exact name_free h2 (by decide)
  unfold pairOf
  rw [e]
  exact if_pos ⟨h1, h2, h3⟩
theorem pairs_back {qs : List (Str × Str)} (hq : ∀ q ∈ qs, okPair q) : cutAt (textOf "; " (qs.map pairT)) "; " = qs.map pairT := by
  refine cut_text tl_semi (by decide +kernel) (fun w hw => ?_) fun w hw => ?_
  · obtain ⟨q, hq', rfl⟩ := List.mem_map.mp hw
    obtain ⟨h1, h2, _⟩ := hq q hq'
    rw [pairT_tl]
    intro hm
    rcases List.mem_append.mp hm with hm | hm
    · exact name_free h1 (by decide) hm
    · rcases List.mem_cons.mp hm with hm | hm
      · cases hm
      · exact name_free h2 (by decide) hm
  · obtain ⟨q, hq', rfl⟩ := List.mem_map.mp hw
    rw [pairT_tl]
    refine ⟨by simp, fun e => ?_⟩
    have := congrArg (fun l : List Nat => decide (32 ∈ l)) e
    simp at this
theorem pairs_run {qs : List (Str × Str)} (hq : ∀ q ∈ qs, okPair q) (hs : qs.Pairwise (fun a b => ltP a b = true)) : runE (fun acc w => (stepP acc w).map fun y => acc ++ [y]) (qs.map pairT) 0 [] = .ok qs := by
  refine runE_back (f := stepP) (t := pairT) (acc := []) fun as q bs e => ?_
  have hm : q ∈ qs := by rw [e]; simp
  unfold stepP
  rw [pair_back (hq q hm)]
  refine if_pos ?_
  unfold ltL
  rw [List.nil_append]
  cases hl : as.getLast? with
  | none => rfl
  | some l =>
    have ha : l ∈ as := List.mem_of_getLast? hl
    rw [e] at hs
    exact (List.pairwise_append.mp hs).2.2 l ha q (List.mem_cons_self ..)
def okDeed (q : Str × Str) : Prop := (q.1 = "begin" ∨ q.1 = "end") ∧ nameB q.2 = true
theorem deedT_tl {q : Str × Str} (h : okDeed q) : TL.tl (deedT q) = (if q.1 = "begin" then 43 else 45) :: TL.tl q.2 := by
  unfold deedT
  rw [TL.tl_append]
  split
  · rw [tl_plus]; rfl
  · rw [tl_minus]; rfl
theorem mk_tl' (w : Str) : (⟨(TL.tl w).toArray⟩ : Str) = w := TL.mk_tl w
theorem deed_back {q : Str × Str} (h : okDeed q) : deedOf (deedT q) = some q := by
  have e := deedT_tl h
  have h1 : headS (deedT q) = if q.1 = "begin" then "+" else "-" := by
    unfold headS
    rw [e]
    refine TL.ext_tl ?_
    split
    · rw [tl_plus]; rfl
    · rw [tl_minus]; rfl
  have h2 : tailS (deedT q) = q.2 := by
    unfold tailS
    rw [e]
    exact mk_tl' q.2
  unfold deedOf
  rw [h1, h2]
  obtain ⟨a, b⟩ := q
  obtain ⟨e1 | e1, hn⟩ := h
  · have e1 : a = "begin" := e1
    subst e1
    exact if_pos ⟨rfl, hn⟩
  · have e1 : a = "end" := e1
    subst e1
    have ne : ¬ ("end" : Str) = "begin" := by decide +kernel
    have ne2 : ¬ (Str.ofString "-" = "+") := by decide +kernel
    rw [if_neg ne, if_neg (fun z => ne2 z.1)]
    exact if_pos ⟨rfl, hn⟩
theorem deeds_back {qs : List (Str × Str)} (hq : ∀ q ∈ qs, okDeed q) : cutAt (textOf " " (qs.map deedT)) " " = qs.map deedT := by
  refine cut_text tl_blank (by decide +kernel) (fun w hw => ?_) fun w hw => ?_
  · obtain ⟨q, hq', rfl⟩ := List.mem_map.mp hw
    rw [deedT_tl (hq q hq')]
    intro hm
    rcases List.mem_cons.mp hm with hm | hm
    · split at hm <;> cases hm
    · exact name_free (hq q hq').2 (by decide) hm
  · obtain ⟨q, hq', rfl⟩ := List.mem_map.mp hw
    rw [deedT_tl (hq q hq')]
    refine ⟨by simp, fun e => ?_⟩
    injection e with _ e
    exact (name_ne (hq q hq').2).1 e
theorem deeds_run {qs : List (Str × Str)} (hq : ∀ q ∈ qs, okDeed q) : runE (fun acc w => (deedOf w).map fun y => acc ++ [y]) (qs.map deedT) 0 [] = .ok qs :=
  runE_back (f := fun _ w => deedOf w) (t := deedT) (acc := []) fun as q bs e => deed_back (hq q (by rw [e]; simp))
end Z

end
section -- Z46
/-! Z46: the draws of a law: steps, webs. -/
namespace ZL
open PySem PySem.Spec PyProof.Rows L2 Z
def B_law_steps_0 (Φ : Calls) : EvS := (sAsg (Z.gName 2) (cFn fLst (cCons (cFn fLst (cCons (cC (.str "a")) (cCons (cC (.str "ab")) (cCons (cC (.str "b")) (cCons (cC (.str "c")) (cCons (cC (.str "x")) (cCons (cC (.str "y")) cNil))))))) (cCons (cFn fLst (cCons (cC (.str "begin")) (cCons (cC (.str "end")) (cCons (cC (.str "for")) (cCons (cC (.str "of")) (cCons (cC (.str "on")) (cCons (cC (.str "to")) cNil))))))) cNil))))
def B_law_steps_1 (Φ : Calls) : EvS := (sAsg (Z.gName 2) (cOp2 fAdd (cVar 2) (cFn fLst (cCons (cFn fLst (cCons (cC (.str "abcdefgh")) (cCons (cC (.str "abcdefgi")) (cCons (cC (.str "p")) (cCons (cC (.str "q")) (cCons (cC (.str "z")) (cCons (cC (.str "zz")) cNil))))))) cNil))))
def B_law_steps_2 (Φ : Calls) : EvS := (sRet (cFn (one fTuple) (cCons (cFn (one fSorted) (cCons (cCall (Φ "_law_pick") 3 [] (cCons (cVar 0) (cCons (cCall (Φ "_law_of") 2 [] (cCons (cVar 0) (cCons (cVar 2) cNil))) (cCons (cCall (Φ "_law_take") 2 [] (cCons (cVar 0) (cCons (cOp2 fAdd (cVar 1) (cC (.int (1)))) cNil))) cNil)))) cNil)) cNil)))
def B_law_steps_t2 (Φ : Calls) : EvS := sSeq (B_law_steps_2 Φ) sPass
def B_law_steps_t1 (Φ : Calls) : EvS := sSeq (B_law_steps_1 Φ) (B_law_steps_t2 Φ)
def B_law_steps (Φ : Calls) : EvS := sSeq (B_law_steps_0 Φ) (B_law_steps_t1 Φ)
def B_law_webs_0 (Φ : Calls) : EvS := (sPar3 2 3 4 (cCons (cCall (Φ "_law_pick") 3 [] (cCons (cVar 0) (cCons (cFn (one fList) (cCons (cVar 1) cNil)) (cCons (cFn (one fLen) (cCons (cVar 1) cNil)) cNil)))) (cCons (cFn fLst cNil) (cCons (cFn fLst cNil) cNil))))
def B_law_webs_1b_0b_0 (Φ : Calls) : EvS := (sAsg (Z.gName 7) (cCall (Φ "_law_take") 2 [] (cCons (cVar 0) (cCons (cC (.int (4))) cNil))))
def B_law_webs_1b_0b_1 (Φ : Calls) : EvS := (sAsg (Z.gName 3) (cOp2 fAdd (cVar 3) (cOp2 fMul (cFn fLst (cCons (cFn fTup (cCons (cOp2 fIx (cVar 2) (cVar 6)) (cCons (cOp2 fIx (cVar 2) (cVar 5)) cNil))) cNil)) (cFn (one fInt) (cCons (cOp2 fEq (cVar 7) (cC (.int (0)))) cNil)))))
def B_law_webs_1b_0b_2 (Φ : Calls) : EvS := (sAsg (Z.gName 4) (cOp2 fAdd (cVar 4) (cOp2 fMul (cFn fLst (cCons (cFn fTup (cCons (cOp2 fIx (cVar 2) (cVar 6)) (cCons (cOp2 fIx (cVar 2) (cVar 5)) cNil))) cNil)) (cFn (one fInt) (cCons (cOp2 fEq (cVar 7) (cC (.int (1)))) cNil)))))
def B_law_webs_1b_0b_t2 (Φ : Calls) : EvS := sSeq (B_law_webs_1b_0b_2 Φ) sPass
def B_law_webs_1b_0b_t1 (Φ : Calls) : EvS := sSeq (B_law_webs_1b_0b_1 Φ) (B_law_webs_1b_0b_t2 Φ)
def B_law_webs_1b_0b (Φ : Calls) : EvS := sSeq (B_law_webs_1b_0b_0 Φ) (B_law_webs_1b_0b_t1 Φ)
def B_law_webs_1b_0 (Φ : Calls) : EvS := (sFor (iRange1 (cCons (cVar 5) cNil)) (Z.gName 6) (B_law_webs_1b_0b Φ))
def B_law_webs_1b (Φ : Calls) : EvS := sSeq (B_law_webs_1b_0 Φ) sPass
def B_law_webs_1 (Φ : Calls) : EvS := (sFor (iRange1 (cCons (cFn (one fLen) (cCons (cVar 2) cNil)) cNil)) (Z.gName 5) (B_law_webs_1b Φ))
def B_law_webs_2 (Φ : Calls) : EvS := (sRet (cFn fTup (cCons (cFn (one fTuple) (cCons (cFn (one fSorted) (cCons (cVar 3) cNil)) cNil)) (cCons (cFn (one fTuple) (cCons (cFn (one fSorted) (cCons (cVar 4) cNil)) cNil)) cNil))))
def B_law_webs_t2 (Φ : Calls) : EvS := sSeq (B_law_webs_2 Φ) sPass
def B_law_webs_t1 (Φ : Calls) : EvS := sSeq (B_law_webs_1 Φ) (B_law_webs_t2 Φ)
def B_law_webs (Φ : Calls) : EvS := sSeq (B_law_webs_0 Φ) (B_law_webs_t1 Φ)end ZL
namespace Z
open PySem PySem.Spec PyProof.Rows L2
def unS : PV → Str
  | .str x => x
  | _ => ""
theorem perm_map_inv {α : Type} {f : α → PV} {g : PV → α} (hg : ∀ x, g (f x) = x) {l : List PV} {P : List α} (h : l.Perm (P.map f)) : ∃ ws : List α, l = ws.map f ∧ ws.Perm P := by
  refine ⟨l.map g, ?_, ?_⟩
  · rw [List.map_map]
    have : l.map (f ∘ g) = l.map id := List.map_congr_left fun y hy => by
      obtain ⟨x, _, e⟩ := List.mem_map.mp (h.mem_iff.mp hy)
      show f (g y) = y
      rw [← e, hg]
    rw [this, List.map_id]
  · have h2 := h.map g
    rw [List.map_map] at h2
    have : P.map (g ∘ f) = P.map id := List.map_congr_left fun x _ => hg x
    rw [this, List.map_id] at h2
    exact h2
theorem pick_strs {ys rest : List PV} {P : List Str} (h : (ys ++ rest).Perm (P.map PV.str)) : ∃ ws rs : List Str, ys = ws.map .str ∧ (ws ++ rs).Perm P := by
  obtain ⟨l, e, p⟩ := perm_map_inv (g := unS) (fun _ => rfl) h
  obtain ⟨a, b, e1, e2, e3⟩ := List.map_eq_append_iff.mp e.symm
  exact ⟨a, b, e2.symm, by rw [← e1]; exact p⟩
def pools : List (List Str) := [["a", "ab", "b", "c", "x", "y"], ["begin", "end", "for", "of", "on", "to"], ["abcdefgh", "abcdefgi", "p", "q", "z", "zz"]]
theorem pools_ok : ∀ P ∈ pools, P.Nodup ∧ (∀ w ∈ P, nameB w = true) ∧ P.length = 6 := by
  intro P hP
  have h : pools.all (fun P => decide P.Nodup && (P.all nameB && decide (P.length = 6))) = true := by decide +kernel
  have := List.all_eq_true.mp h P hP
  rw [Bool.and_eq_true, Bool.and_eq_true, decide_eq_true_eq, decide_eq_true_eq] at this
  exact ⟨this.1, fun w hw => List.all_eq_true.mp this.2.1 w hw, this.2.2⟩
def lstS (ws : List Str) : PV := .lst (ws.map .str)
/-- what is drawn as STEPS -/
structure StepsD (tags : List Str) : Prop where
  nm : ∀ w ∈ tags, nameB w = true
  so : tags.Pairwise (fun a b => ltS a b = true)
  le : tags.length ≤ 6
theorem steps_draw {Φ : Calls} (hT : TakeS Φ) (hO : OfS Φ) (hP : PickS Φ) {R h : Mem} {i m : Nat} {most : Int} (b : Box h i m) (hi : Ints h) (hm : m < 900000000) (h0 : 0 ≤ most) (h1 : most < 900) :
    ∃ (tags : List Str) (h' : Mem), finMut R h (ZL.B_law_steps Φ R (startE 3 [.ref (R.length + i), .int most]) h) = .ok (tupS tags) h' ∧ StepsD tags ∧ tags.length ≤ most.toNat ∧ Chg h h' i ∧ Box h' i (m + 1002) := by
  obtain ⟨pv, h1', e1, pm, c1, b1⟩ := hO R h i m (pools.map lstS) b (by omega) (by decide) (by decide) rfl
  obtain ⟨P, hPm, rfl⟩ := List.mem_map.mp pm
  obtain ⟨nd, nms, pl⟩ := pools_ok P hPm
  obtain ⟨n, h2, e2, n0, n1, c2, b2⟩ := hT R h1' i (m + 1) (most + 1) b1 (by omega) (by omega) (by omega)
  have i2 : Ints h2 := (hi.of_chg c1.1 b1 c1.2).of_chg c2.1 b2 c2.2
  obtain ⟨ys, rest, h3, e3, p3, l3, b3, c3⟩ := hP R h2 i (m + 1 + 1) (P.map .str) n b2 i2 (by omega) (by rw [List.length_map, pl]; decide) (areData_strs P) n0 (by omega)
  obtain ⟨ws, rs, rfl, pw⟩ := pick_strs p3
  have wn : ws.Nodup := (List.nodup_append.mp (pw.nodup_iff.mpr nd)).1
  have wm : ∀ w ∈ ws, w ∈ P := fun w hw => pw.mem_iff.mp (List.mem_append_left _ hw)
  have c := (c1.trans c2).trans c3
  rw [List.length_map, List.length_map, pl] at l3
  have wl : ws.length ≤ 6 := by omega
  refine ⟨isortA OS ws, h3, ?_, ⟨fun w hw => nms w (wm w ((isortA_mem OS).mp hw)), isortA_sorted OS wn, ?_⟩, ?_, c, ?_⟩
  · rw [show startE 3 [.ref (R.length + i), .int most] = [some (.ref (R.length + i)), some (.int most), none] from rfl]
    have s0 : ZL.B_law_steps_0 Φ R [some (.ref (R.length + i)), some (.int most), none] h = .nx [some (.ref (R.length + i)), some (.int most), some (.lst [lstS ["a", "ab", "b", "c", "x", "y"], lstS ["begin", "end", "for", "of", "on", "to"]])] h := by rfl
    have s1 : ZL.B_law_steps_1 Φ R [some (.ref (R.length + i)), some (.int most), some (.lst [lstS ["a", "ab", "b", "c", "x", "y"], lstS ["begin", "end", "for", "of", "on", "to"]])] h = .nx [some (.ref (R.length + i)), some (.int most), some (.lst (pools.map lstS))] h := by rfl
    have so : ∀ m, fSorted m (.lst (ws.map .str)) = some (.lst ((isortA OS ws).map .str)) := fun m => sorted_strs (by rw [sizeLine_val]; omega)
    have tu : ∀ m, fTuple m (.lst ((isortA OS ws).map .str)) = some (tupS (isortA OS ws)) := fun m => rfl
    have s2 : ZL.B_law_steps_2 Φ R [some (.ref (R.length + i)), some (.int most), some (.lst (pools.map lstS))] h = .ret (tupS (isortA OS ws)) h3 := by
      obtain ⟨pp, hpp⟩ : ∃ pp, pp = pools.map lstS := ⟨_, rfl⟩
      obtain ⟨P', hP'⟩ : ∃ P', P' = lstS P := ⟨_, rfl⟩
      have e3' : Φ "_law_pick" [.ref (R.length + i), P', .int n] R h2 = .ok (.lst (ws.map .str)) h3 := by rw [hP']; exact e3
      rw [← hpp] at e1 ⊢
      rw [← hP'] at e1
      unfold ZL.B_law_steps_2
      simp [e1, e2, e3', add_int, so, tu, -List.map_map]
    unfold ZL.B_law_steps ZL.B_law_steps_t1 ZL.B_law_steps_t2
    rw [ev_seq, s0, ev_nx, ev_seq, s1, ev_nx, ev_seq, s2]
    exact fin_same c.1 (areData_strs _)
  · rw [(isortA_perm OS ws).length_eq]; exact wl
  · rw [(isortA_perm OS ws).length_eq]; omega
  · exact b3.mono (by omega)
end Z

end
section -- Z47
/-! Z47: the draws of a law: webs. -/
namespace Z
open PySem PySem.Spec PyProof.Rows L2
def prI (line : List Str) (q : Nat × Nat) : Str × Str := (line.getD q.1 "", line.getD q.2 "")
def oneIf (b : Bool) (x : PV) : List PV := if b = true then [x] else []
theorem mul_one {m : Mem} {x : PV} {b : Bool} : fMul m (.lst [x]) (.int (if b = true then 1 else 0)) = some (.lst (oneIf b x)) := by
  cases b <;> rfl
theorem add_lst {m : Mem} {xs ys : List PV} (h : xs.length + ys.length ≤ sizeLine) : fAdd m (.lst xs) (.lst ys) = some (.lst (xs ++ ys)) := by
  show (if xs.length + ys.length ≤ sizeLine then some (PV.lst (xs ++ ys)) else none) = _
  exact if_pos h
theorem oneIf_len (b : Bool) (x : PV) : (oneIf b x).length ≤ 1 := by cases b <;> simp [oneIf]
theorem atI_getD {ws : List Str} {j : Nat} (h : j < ws.length) : atI (ws.map PV.str) (j : Int) = some (.str (ws.getD j "")) := by
  obtain ⟨x, e, _, q⟩ := atI_nat (xs := ws.map PV.str) (d := (j : Int)) (by omega) (by rw [List.length_map]; omega)
  rw [e]
  rw [Int.toNat_natCast, List.getElem?_map, List.getElem?_eq_getElem h] at q
  rw [List.getD_eq_getElem?_getD, List.getElem?_eq_getElem h]
  exact q.symm
theorem web_turn {Φ : Calls} (hT : TakeS Φ) {R h : Mem} {i m j k : Nat} {T w : Option PV} {line : List Str} {F F2 : List PV} (b : Box h i m) (hm : m < 1000000000000) (hj : j < line.length) (hk : k < line.length) (lF : F.length < 1000000) (lG : F2.length < 1000000) :
    ∃ (c d : Bool) (w' : Option PV) (h' : Mem), ZL.B_law_webs_1b_0b Φ R [some (.ref (R.length + i)), T, some (lstS line), some (.lst F), some (.lst F2), some (.int k), some (.int j), w] h =
      .nx [some (.ref (R.length + i)), T, some (lstS line), some (.lst (F ++ oneIf c (pv2 (prI line (j, k))))), some (.lst (F2 ++ oneIf d (pv2 (prI line (j, k))))), some (.int k), some (.int j), w'] h' ∧ Chg h h' i ∧ Box h' i (m + 1) := by
  obtain ⟨x, h1, e1, x0, x1, c1, b1⟩ := hT R h i m 4 b (by omega) (by decide) (by decide)
  refine ⟨x == 0, x == 1, some (.int x), h1, ?_, c1, b1⟩
  have ij : ∀ m, fIx m (lstS line) (.int j) = some (.str (line.getD j "")) := fun m => atI_getD hj
  have ik : ∀ m, fIx m (lstS line) (.int k) = some (.str (line.getD k "")) := fun m => atI_getD hk
  have tp : ∀ m, fTup m [.str (line.getD j ""), .str (line.getD k "")] = some (pv2 (prI line (j, k))) := fun m => if_pos (by rw [sizeLine_val]; simp)
  obtain ⟨a, ha⟩ : ∃ a, a = line.getD j "" := ⟨_, rfl⟩
  obtain ⟨c, hc⟩ : ∃ c, c = line.getD k "" := ⟨_, rfl⟩
  obtain ⟨q, hq⟩ : ∃ q, q = pv2 (prI line (j, k)) := ⟨_, rfl⟩
  obtain ⟨L, hL⟩ : ∃ L, L = lstS line := ⟨_, rfl⟩
  rw [← ha, ← hL] at ij
  rw [← hc, ← hL] at ik
  rw [← ha, ← hc, ← hq] at tp
  rw [← hq, ← hL]
  have ls : ∀ m, fLst m [q] = some (.lst [q]) := fun m => if_pos (by rw [sizeLine_val]; simp)
  have bi : ∀ m b, fInt m (.bl b) = some (.int (if b = true then 1 else 0)) := fun m b => by cases b <;> rfl
  have a1 : ∀ m, fAdd m (.lst F) (.lst (oneIf (x == 0) q)) = some (.lst (F ++ oneIf (x == 0) q)) := fun m => add_lst (by have := oneIf_len (x == 0) q; rw [sizeLine_val]; omega)
  have a2 : ∀ m, fAdd m (.lst F2) (.lst (oneIf (x == 1) q)) = some (.lst (F2 ++ oneIf (x == 1) q)) := fun m => add_lst (by have := oneIf_len (x == 1) q; rw [sizeLine_val]; omega)
  have s0 : ZL.B_law_webs_1b_0b_0 Φ R [some (.ref (R.length + i)), T, some L, some (.lst F), some (.lst F2), some (.int k), some (.int j), w] h = .nx [some (.ref (R.length + i)), T, some L, some (.lst F), some (.lst F2), some (.int k), some (.int j), some (.int x)] h1 := by
    unfold ZL.B_law_webs_1b_0b_0
    simp [e1]
  have pr : ∀ (F : List PV) (F2 : List PV), cFn fLst (cCons (cFn fTup (cCons (cOp2 fIx (cVar 2) (cVar 6)) (cCons (cOp2 fIx (cVar 2) (cVar 5)) cNil))) cNil) R [some (.ref (R.length + i)), T, some L, some (.lst F), some (.lst F2), some (.int k), some (.int j), some (.int x)] h1 = .ok (.lst [q]) h1 := fun F F2 => by
    simp [ij, ik, tp, ls]
  have s1 : ZL.B_law_webs_1b_0b_1 Φ R [some (.ref (R.length + i)), T, some L, some (.lst F), some (.lst F2), some (.int k), some (.int j), some (.int x)] h1 = .nx [some (.ref (R.length + i)), T, some L, some (.lst (F ++ oneIf (x == 0) q)), some (.lst F2), some (.int k), some (.int j), some (.int x)] h1 := by
    have iq : cFn (one fInt) (cCons (cOp2 fEq (cVar 7) (cC (.int 0))) cNil) R [some (.ref (R.length + i)), T, some L, some (.lst F), some (.lst F2), some (.int k), some (.int j), some (.int x)] h1 = .ok (.int (if (x == 0) = true then 1 else 0)) h1 := by
      rw [ev_fn, ev_cons, ev_op2]
      show liftO h1 (fInt (R ++ h1) (.bl (x == 0))) = _
      rw [bi]; rfl
    unfold ZL.B_law_webs_1b_0b_1
    rw [ev_asg, ev_op2]
    show ((Res.ok (PV.lst F) h1).bind _).go _ _ = _
    rw [ev_bind, ev_op2, pr, ev_bind, iq, ev_bind, mul_one, ev_lift, ev_bind, a1, ev_lift]
    rfl
  have s2 : ZL.B_law_webs_1b_0b_2 Φ R [some (.ref (R.length + i)), T, some L, some (.lst (F ++ oneIf (x == 0) q)), some (.lst F2), some (.int k), some (.int j), some (.int x)] h1 = .nx [some (.ref (R.length + i)), T, some L, some (.lst (F ++ oneIf (x == 0) q)), some (.lst (F2 ++ oneIf (x == 1) q)), some (.int k), some (.int j), some (.int x)] h1 := by
    have iq : cFn (one fInt) (cCons (cOp2 fEq (cVar 7) (cC (.int 1))) cNil) R [some (.ref (R.length + i)), T, some L, some (.lst (F ++ oneIf (x == 0) q)), some (.lst F2), some (.int k), some (.int j), some (.int x)] h1 = .ok (.int (if (x == 1) = true then 1 else 0)) h1 := by
      rw [ev_fn, ev_cons, ev_op2]
      show liftO h1 (fInt (R ++ h1) (.bl (x == 1))) = _
      rw [bi]; rfl
    unfold ZL.B_law_webs_1b_0b_2
    rw [ev_asg, ev_op2]
    show ((Res.ok (PV.lst F2) h1).bind _).go _ _ = _
    rw [ev_bind, ev_op2, pr, ev_bind, iq, ev_bind, mul_one, ev_lift, ev_bind, a2, ev_lift]
    rfl
  unfold ZL.B_law_webs_1b_0b ZL.B_law_webs_1b_0b_t1 ZL.B_law_webs_1b_0b_t2
  rw [ev_seq, s0, ev_nx, ev_seq, s1, ev_nx, ev_seq, s2, ev_nx]
  rfl
/-- pairs told up to the turn (j, k) -/
structure WebI (j k : Nat) (fs : List (Nat × Nat)) : Prop where
  nd : fs.Nodup
  lt : ∀ q ∈ fs, q.1 < q.2 ∧ (q.2 < k ∨ (q.2 = k ∧ q.1 < j))
theorem WebI.step {j k : Nat} {fs : List (Nat × Nat)} (h : WebI j k fs) (hj : j < k) (b : Bool) : WebI (j + 1) k (fs ++ if b = true then [(j, k)] else []) := by
  cases b with
  | false =>
    rw [if_neg (by simp), List.append_nil]
    exact ⟨h.nd, fun q hq => ⟨(h.lt q hq).1, (h.lt q hq).2.elim .inl fun z => .inr ⟨z.1, by omega⟩⟩⟩
  | true =>
    rw [if_pos rfl]
    refine ⟨List.nodup_append.mpr ⟨h.nd, by simp, fun a ha b hb e => ?_⟩, fun q hq => ?_⟩
    · have hb := List.mem_singleton.mp hb
      subst hb e
      have := (h.lt _ ha).2
      simp at this
    · rcases List.mem_append.mp hq with e | e
      · exact ⟨(h.lt q e).1, (h.lt q e).2.elim .inl fun z => .inr ⟨z.1, by omega⟩⟩
      · have e := List.mem_singleton.mp e
        subst e
        exact ⟨hj, .inr ⟨rfl, by simp⟩⟩
theorem WebI.next {k : Nat} {fs : List (Nat × Nat)} (h : WebI k k fs) : WebI 0 (k + 1) fs := ⟨h.nd, fun q hq => ⟨(h.lt q hq).1, .inl (by rcases (h.lt q hq).2 with e | ⟨e, _⟩ <;> omega)⟩⟩
theorem oneIf_map {b : Bool} {line : List Str} {q : Nat × Nat} : oneIf b (pv2 (prI line q)) = (if b = true then [q] else []).map fun q => pv2 (prI line q) := by cases b <;> rfl
def pvI (line : List Str) (fs : List (Nat × Nat)) : PV := .lst (fs.map fun q => pv2 (prI line q))
theorem intsP_succ (j n : Nat) : ((List.range' j (n + 1)).map fun (i : Nat) => PV.int i) = .int j :: (List.range' (j + 1) n).map fun (i : Nat) => PV.int i := by rw [List.range'_succ]; rfl
theorem web_inner {Φ : Calls} (hT : TakeS Φ) {R : Mem} {i k : Nat} {T : Option PV} {line : List Str} (hk : k < line.length) (hl : line.length ≤ 10) :
    ∀ (n j : Nat) (h : Mem) (m : Nat) (fs gs : List (Nat × Nat)) (a w : Option PV), j + n = k → Box h i m → m + n < 1000000000000 → fs.length ≤ 20 * k + j → gs.length ≤ 20 * k + j → WebI j k fs → WebI j k gs →
    ∃ (fs' gs' : List (Nat × Nat)) (a' w' : Option PV) (h' : Mem), forL (Z.gName 6) (ZL.B_law_webs_1b_0b Φ) R ((List.range' j n).map fun (i : Nat) => PV.int i) [some (.ref (R.length + i)), T, some (lstS line), some (pvI line fs), some (pvI line gs), some (.int k), a, w] h =
      .nx [some (.ref (R.length + i)), T, some (lstS line), some (pvI line fs'), some (pvI line gs'), some (.int k), a', w'] h' ∧ Chg h h' i ∧ Box h' i (m + n) ∧ fs'.length ≤ 20 * k + k ∧ gs'.length ≤ 20 * k + k ∧ WebI k k fs' ∧ WebI k k gs'
  | 0, j, h, m, fs, gs, a, w, e, b, _, lf, lg, f, g => by
    have e : j = k := e
    subst e
    exact ⟨fs, gs, a, w, h, rfl, ⟨rfl, fun _ _ => rfl⟩, b, lf, lg, f, g⟩
  | n + 1, j, h, m, fs, gs, a, w, e, b, hm, lf, lg, f, g => by
    obtain ⟨c, d, w', h1, e1, c1, b1⟩ := web_turn hT (R := R) (T := T) (w := w) (line := line) (F := fs.map fun q => pv2 (prI line q)) (F2 := gs.map fun q => pv2 (prI line q)) (j := j) (k := k) b (by omega) (by omega) hk (by rw [List.length_map]; omega) (by rw [List.length_map]; omega)
    have lx : ∀ c : Bool, (if c = true then [(j, k)] else []).length ≤ 1 := fun c => by cases c <;> simp
    obtain ⟨fs', gs', a', w2, h2, e2, c2, b2, l2, l3, f2, g2⟩ := web_inner hT (R := R) (i := i) (T := T) hk hl n (j + 1) h1 (m + 1) (fs ++ if c = true then [(j, k)] else []) (gs ++ if d = true then [(j, k)] else []) (some (.int j)) w' (by omega) b1 (by omega)
      (by rw [List.length_append]; have := lx c; omega) (by rw [List.length_append]; have := lx d; omega) (f.step (by omega) c) (g.step (by omega) d)
    refine ⟨fs', gs', a', w2, h2, ?_, c1.trans c2, by rw [show m + (n + 1) = m + 1 + n from by omega]; exact b2, l2, l3, f2, g2⟩
    rw [intsP_succ, forL]
    show (match ZL.B_law_webs_1b_0b Φ R [some (.ref (R.length + i)), T, some (lstS line), some (pvI line fs), some (pvI line gs), some (.int k), some (.int j), w] h with
      | .nx env2 h2 => forL (Z.gName 6) (ZL.B_law_webs_1b_0b Φ) R ((List.range' (j + 1) n).map fun (i : Nat) => PV.int i) env2 h2
      | .ct env2 h2 => forL (Z.gName 6) (ZL.B_law_webs_1b_0b Φ) R ((List.range' (j + 1) n).map fun (i : Nat) => PV.int i) env2 h2
      | .brk env2 h2 => .nx env2 h2
      | r => r) = _
    unfold pvI
    rw [e1, oneIf_map, oneIf_map, ← List.map_append, ← List.map_append]
    exact e2
end Z

end
section -- Z48
/-! Z48: the draws of a law: webs, as a whole. -/
namespace Z
open PySem PySem.Spec PyProof.Rows L2
theorem range_of {a : Ev} {R h h1 : Mem} {env : Envr} {n : Nat} (e : a R env h = .ok (.int (n : Int)) h1) (hn : n < 1000000) : iRange1 (cCons a cNil) R env h = .ok (.items ((List.range' 0 n).map fun (i : Nat) => PV.int i)) h1 := by
  have k : cCons a cNil R env h = .ok [.int (n : Int)] h1 := by rw [ev_cons, e]; rfl
  unfold iRange1
  rw [k, ev_bind, range_nat hn, ev_lift]
theorem forL_cons {g : EvG} {b : EvS} {R h h1 h2 : Mem} {env env1 env2 : Envr} {x : PV} {xs : List PV} (e1 : g R env h x = some (env1, h1)) (e2 : b R env1 h1 = .nx env2 h2) : forL g b R (x :: xs) env h = forL g b R xs env2 h2 := by
  rw [forL, e1]
  dsimp only
  rw [e2]
theorem web_outer {Φ : Calls} (hT : TakeS Φ) {R : Mem} {i : Nat} {T : Option PV} {line : List Str} (hl : line.length ≤ 10) :
    ∀ (n k : Nat) (h : Mem) (m : Nat) (fs gs : List (Nat × Nat)) (a b' w : Option PV), k + n = line.length → Box h i m → m + n * 20 < 1000000000000 → fs.length ≤ 20 * k → gs.length ≤ 20 * k → WebI 0 k fs → WebI 0 k gs →
    ∃ (fs' gs' : List (Nat × Nat)) (a' b2 w' : Option PV) (h' : Mem), forL (Z.gName 5) (ZL.B_law_webs_1b Φ) R ((List.range' k n).map fun (i : Nat) => PV.int i) [some (.ref (R.length + i)), T, some (lstS line), some (pvI line fs), some (pvI line gs), a, b', w] h =
      .nx [some (.ref (R.length + i)), T, some (lstS line), some (pvI line fs'), some (pvI line gs'), a', b2, w'] h' ∧ Chg h h' i ∧ Box h' i (m + n * 20) ∧ fs'.length ≤ 20 * line.length ∧ gs'.length ≤ 20 * line.length ∧ WebI 0 line.length fs' ∧ WebI 0 line.length gs'
  | 0, k, h, m, fs, gs, a, b', w, e, b, _, lf, lg, f, g => by
    have e : k = line.length := e
    subst e
    exact ⟨fs, gs, a, b', w, h, rfl, ⟨rfl, fun _ _ => rfl⟩, by simpa using b, lf, lg, f, g⟩
  | n + 1, k, h, m, fs, gs, a, b', w, e, b, hm, lf, lg, f, g => by
    obtain ⟨fs1, gs1, a1, w1, h1, e1, c1, b1, l1, l2, f1, g1⟩ := web_inner hT (R := R) (i := i) (T := T) (line := line) (k := k) (by omega) hl k 0 h m fs gs b' w (by omega) b (by omega) (by omega) (by omega) f g
    obtain ⟨fs2, gs2, a2, b2, w2, h2, e2, c2, bb, l3, l4, f2, g2⟩ := web_outer hT (R := R) (i := i) (T := T) hl n (k + 1) h1 (m + 20) fs1 gs1 (some (.int k)) a1 w1 (by omega) (b1.mono (by omega)) (by omega) (by omega) (by omega) f1.next g1.next
    refine ⟨fs2, gs2, a2, b2, w2, h2, ?_, c1.trans c2, bb.mono (by omega), l3, l4, f2, g2⟩
    have body : ZL.B_law_webs_1b Φ R [some (.ref (R.length + i)), T, some (lstS line), some (pvI line fs), some (pvI line gs), some (.int k), b', w] h = .nx [some (.ref (R.length + i)), T, some (lstS line), some (pvI line fs1), some (pvI line gs1), some (.int k), a1, w1] h1 := by
      unfold ZL.B_law_webs_1b ZL.B_law_webs_1b_0
      rw [ev_seq, ev_for (range_of (a := cVar 5) (n := k) (h1 := h) rfl (by omega)), e1]
      rfl
    rw [intsP_succ, forL_cons (env1 := [some (.ref (R.length + i)), T, some (lstS line), some (pvI line fs), some (pvI line gs), some (.int k), b', w]) (h1 := h) rfl body]
    exact e2
/-- pairs that go on along a line of the steps -/
structure WebD (tags line : List Str) (fs : List (Nat × Nat)) : Prop where
  pm : line.Perm tags
  wi : WebI 0 line.length fs
  le : fs.length ≤ 20 * line.length
theorem getD_inj {line : List Str} (hn : line.Nodup) {i j : Nat} (hi : i < line.length) (hj : j < line.length) (e : line.getD i "" = line.getD j "") : i = j := by
  rw [List.getD_eq_getElem?_getD, List.getD_eq_getElem?_getD, List.getElem?_eq_getElem hi, List.getElem?_eq_getElem hj] at e
  exact (List.getElem_inj hn).mp e
theorem getD_mem {line : List Str} {i : Nat} (hi : i < line.length) : line.getD i "" ∈ line := by
  rw [List.getD_eq_getElem?_getD, List.getElem?_eq_getElem hi]
  exact List.getElem_mem hi
theorem WebD.nodup {tags line : List Str} {fs : List (Nat × Nat)} (h : WebD tags line fs) (hn : tags.Nodup) : (fs.map (prI line)).Nodup := by
  have ln : line.Nodup := h.pm.nodup_iff.mpr hn
  refine List.Pairwise.map _ (fun a b hab => ?_) (List.Pairwise.and_mem.mp h.wi.nd)
  obtain ⟨ha, hb, hne⟩ := hab
  intro e
  have a1 := h.wi.lt a ha
  have b1 := h.wi.lt b hb
  have e1 := getD_inj ln (by omega) (by omega) (congrArg Prod.fst e)
  have e2 := getD_inj ln (by omega) (by omega) (congrArg Prod.snd e)
  exact hne (Prod.ext e1 e2)
theorem WebD.okp {tags line : List Str} {fs : List (Nat × Nat)} (h : WebD tags line fs) (hn : tags.Nodup) (nm : ∀ w ∈ tags, nameB w = true) : ∀ q ∈ fs.map (prI line), okPair q := by
  intro q hq
  obtain ⟨p, hp, rfl⟩ := List.mem_map.mp hq
  have a1 := h.wi.lt p hp
  have ln : line.Nodup := h.pm.nodup_iff.mpr hn
  refine ⟨nm _ (h.pm.mem_iff.mp (getD_mem (by omega))), nm _ (h.pm.mem_iff.mp (getD_mem (by omega))), fun e => ?_⟩
  have := getD_inj ln (by omega) (by omega) e
  omega
def readsOf (line : List Str) (fs : List (Nat × Nat)) : List (Str × Str) := isortA OP (fs.map (prI line))
theorem StepsD.nodup {tags : List Str} (h : StepsD tags) : tags.Nodup := sorted_nodup OS h.so
theorem webs_draw {Φ : Calls} (hT : TakeS Φ) (hP : PickS Φ) {R h : Mem} {i m : Nat} {tags : List Str} (sd : StepsD tags) (b : Box h i m) (hi : Ints h) (hm : m < 900000000) :
    ∃ (line : List Str) (fs gs : List (Nat × Nat)) (h' : Mem), finMut R h (ZL.B_law_webs Φ R (startE 8 [.ref (R.length + i), tupS tags]) h) = .ok (.tup [.tup ((readsOf line fs).map pv2), .tup ((readsOf line gs).map pv2)]) h' ∧ WebD tags line fs ∧ WebD tags line gs ∧ Chg h h' i ∧ Box h' i (m + 2000) := by
  have tl := sd.le
  obtain ⟨ys, rest, h1, e1, p1, l1, b1, c1⟩ := hP R h i m (tags.map .str) (tags.length : Int) b hi (by omega) (by rw [List.length_map]; omega) (areData_strs tags) (by omega) (by omega)
  rw [List.length_map, Int.toNat_natCast, Nat.min_self] at l1
  have r0 : rest = [] := by
    have := p1.length_eq
    rw [List.length_append, List.length_map, l1] at this
    exact List.eq_nil_of_length_eq_zero (by omega)
  subst r0
  rw [List.append_nil] at p1
  obtain ⟨line, e2, p2⟩ := perm_map_inv (g := unS) (fun _ => rfl) p1
  subst e2
  have ll : line.length = tags.length := p2.length_eq
  obtain ⟨fs, gs, a', b2, w', h2, e3, c3, b3, l3, l4, f3, g3⟩ := web_outer hT (R := R) (i := i) (T := some (tupS tags)) (line := line) (by omega) line.length 0 h1 (m + 1000) [] [] none none none (by omega) b1 (by omega) (Nat.zero_le _) (Nat.zero_le _) ⟨List.nodup_nil, fun q hq => by cases hq⟩ ⟨List.nodup_nil, fun q hq => by cases hq⟩
  refine ⟨line, fs, gs, h2, ?_, ⟨p2, f3, l3⟩, ⟨p2, g3, l4⟩, c1.trans c3, b3.mono (by omega)⟩
  rw [show startE 8 [.ref (R.length + i), tupS tags] = [some (.ref (R.length + i)), some (tupS tags), none, none, none, none, none, none] from rfl]
  have l0 : ∀ m, fLst m [] = some (.lst []) := fun m => if_pos (Nat.zero_le _)
  have li : ∀ m, fList m (tupS tags) = some (.lst (tags.map .str)) := fun m => rfl
  have ln : ∀ m, fLen m (tupS tags) = some (.int (tags.length : Int)) := fun m => by rw [show tupS tags = .tup (tags.map .str) from rfl, len_tup, List.length_map]
  have s0 : ZL.B_law_webs_0 Φ R [some (.ref (R.length + i)), some (tupS tags), none, none, none, none, none, none] h = .nx [some (.ref (R.length + i)), some (tupS tags), some (lstS line), some (pvI line []), some (pvI line []), none, none, none] h1 := by
    obtain ⟨T, hT'⟩ : ∃ T, T = tupS tags := ⟨_, rfl⟩
    obtain ⟨L, hL⟩ : ∃ L, L = PV.lst (tags.map .str) := ⟨_, rfl⟩
    have e1' : Φ "_law_pick" [.ref (R.length + i), L, .int (tags.length : Int)] R h = .ok (lstS line) h1 := by rw [hL]; exact e1
    rw [← hT'] at li ln ⊢
    rw [← hL] at li
    unfold ZL.B_law_webs_0 sPar3
    simp [li, ln, e1', l0, pvI]
  have sz : ∀ fs : List (Nat × Nat), fs.length ≤ 20 * line.length → ∀ m, fSorted m (pvI line fs) = some (.lst ((readsOf line fs).map pv2)) := fun fs hf m => by
    unfold pvI readsOf
    rw [show (fs.map fun q => pv2 (prI line q)) = (fs.map (prI line)).map pv2 from by rw [List.map_map]; rfl]
    exact sorted_pairs (by rw [List.length_map, sizeLine_val]; omega)
  have tu : ∀ m fs, fTuple m (.lst ((readsOf line fs).map pv2)) = some (.tup ((readsOf line fs).map pv2)) := fun m fs => rfl
  have s2 : ZL.B_law_webs_2 Φ R [some (.ref (R.length + i)), some (tupS tags), some (lstS line), some (pvI line fs), some (pvI line gs), a', b2, w'] h2 = .ret (.tup [.tup ((readsOf line fs).map pv2), .tup ((readsOf line gs).map pv2)]) h2 := by
    have q1 := sz fs l3
    have q2 := sz gs l4
    have t1 := fun m => tu m fs
    have t2 := fun m => tu m gs
    obtain ⟨A, hA⟩ : ∃ A, A = (readsOf line fs).map pv2 := ⟨_, rfl⟩
    obtain ⟨B, hB⟩ : ∃ B, B = (readsOf line gs).map pv2 := ⟨_, rfl⟩
    rw [← hA] at q1 t1
    rw [← hB] at q2 t2
    rw [← hA, ← hB]
    have tt : ∀ m, fTup m [.tup A, .tup B] = some (.tup [.tup A, .tup B]) := fun m => if_pos (by rw [sizeLine_val]; simp)
    unfold ZL.B_law_webs_2
    simp [q1, q2, t1, t2, tt]
  unfold ZL.B_law_webs ZL.B_law_webs_t1 ZL.B_law_webs_t2 ZL.B_law_webs_1
  have lL : cFn (one fLen) (cCons (cVar 2) cNil) R [some (.ref (R.length + i)), some (tupS tags), some (lstS line), some (pvI line []), some (pvI line []), none, none, none] h1 = .ok (.int (line.length : Int)) h1 := by
    have : ∀ m, fLen m (lstS line) = some (.int (line.length : Int)) := fun m => by rw [show lstS line = .lst (line.map .str) from rfl, len_lst, List.length_map]
    simp [this]
  rw [ev_seq, s0, ev_nx, ev_seq, ev_for (range_of lL (by omega)), e3, ev_nx, ev_seq, s2]
  have dt : ∀ fs, isData (.tup ((readsOf line fs).map pv2)) = true := fun fs => areData_map _ fun _ _ => rfl
  exact fin_same (c1.trans c3).1 (by show (isData (.tup ((readsOf line fs).map pv2)) && (isData (.tup ((readsOf line gs).map pv2)) && true)) = true; rw [dt, dt]; rfl)
end Z

end
section -- Z49
/-! Z49: rows of draws; six cases. -/
namespace Z
open PySem PySem.Spec PyProof.Rows L2
theorem compL_draw {α : Type} {vs : List Nat} {g : EvG} {e : Ev} {R : Mem} {env : Envr} {emb : α → PV} {P : PV → Prop} {i c B : Nat} : ∀ (xs : List α) (h : Mem) (m : Nat),
    (∀ x ∈ xs, ∀ (h : Mem) (m : Nat), Ints h → Box h i m → m < B → ∃ env1 y h', g R (wipeE env vs) h (emb x) = some (env1, h) ∧ e R env1 h = .ok y h' ∧ P y ∧ Chg h h' i ∧ Box h' i (m + c)) → Ints h → Box h i m → m + xs.length * c < B →
    ∃ ys h', compL vs g tYesE e R env (xs.map emb) h = .ok ys h' ∧ ys.length = xs.length ∧ (∀ y ∈ ys, P y) ∧ Chg h h' i ∧ Box h' i (m + xs.length * c)
  | [], h, m, _, _, b, _ => ⟨[], h, rfl, rfl, (fun y hy => by cases hy), ⟨rfl, fun _ _ => rfl⟩, by simpa using b⟩
  | x :: xs, h, m, hx, hi, b, hm => by
    rw [List.length_cons, Nat.succ_mul] at hm
    obtain ⟨env1, y, h1, e1, e2, p1, c1, b1⟩ := hx x (List.mem_cons_self ..) h m hi b (by omega)
    obtain ⟨ys, h2, e3, l3, p3, c3, b3⟩ := compL_draw xs h1 (m + c) (fun z hz => hx z (List.mem_cons_of_mem _ hz)) (hi.of_chg c1.1 b1 c1.2) b1 (by omega)
    refine ⟨y :: ys, h2, ?_, by simp [l3], ?_, c1.trans c3, ?_⟩
    · rw [List.map_cons]
      exact compL_cons (y := some y) (turnC_yes e1 e2) e3
    · intro z hz
      rcases List.mem_cons.mp hz with rfl | hz
      · exact p1
      · exact p3 z hz
    · rw [List.length_cons, Nat.succ_mul]
      exact b3.mono (by omega)
/-- what a case of a law promises -/
def CaseS (Φ : Calls) (R : Mem) : Prop := ∀ (h : Mem) (i m : Nat), Ints h → Box h i m → m < 800000000 → ∃ h', Φ "_law_case_right" [.ref (R.length + i)] R h = .ok (.bl true) h' ∧ Chg h h' i ∧ Box h' i (m + 1000000)
theorem all_bl {m : Mem} {ys : List PV} (h : ∀ y ∈ ys, y = PV.bl true) : fAll m (.lst ys) = some (.bl true) := by
  have e : ys = ys.map fun _ => PV.bl true := by
    have : ys.map id = ys.map fun _ => PV.bl true := List.map_congr_left fun y hy => h y hy
    rw [List.map_id] at this
    exact this
  rw [e, all_map (fun _ => true)]
  simp
theorem six_cases {Φ : Calls} {R h : Mem} {i : Nat} (hc : CaseS Φ R) (hi : Ints h) (b : Box h i 0) :
    ∃ h' m, finMut R h (sSeq (sRet (cFn (one fAll) (cCons (cLc [1] (iRange1 (cCons (cC (.int (6))) cNil)) (Z.gName 1) tYesE (cCall (Φ "_law_case_right") 1 [] (cCons (cVar 0) cNil))) cNil))) sPass R (startE 2 [.ref (R.length + i)]) h) = .ok (.bl true) h' ∧ Chg h h' i ∧ Box h' i m := by
  obtain ⟨ys, h', e, l, p, c, b'⟩ := compL_draw (vs := [1]) (g := Z.gName 1) (e := cCall (Φ "_law_case_right") 1 [] (cCons (cVar 0) cNil)) (R := R) (env := [some (.ref (R.length + i)), none]) (emb := fun (j : Nat) => PV.int j) (P := fun y => y = .bl true) (i := i) (c := 1000000) (B := 800000000) (List.range' 0 6) h 0 (fun x _ h m hi b hm => by
    obtain ⟨h', e, c, b'⟩ := hc h i m hi b hm
    refine ⟨[some (.ref (R.length + i)), some (.int x)], .bl true, h', rfl, ?_, rfl, c, b'⟩
    simp [e]) hi b (by simp)
  have it : iRange1 (cCons (cC (.int (6))) cNil) R [some (.ref (R.length + i)), none] h = .ok (.items ((List.range' 0 6).map fun (j : Nat) => PV.int j)) h := range_of (a := cC (.int 6)) (n := 6) rfl (by decide)
  have lc := lc_items it e (by rw [l, sizeLine_val]; simp)
  refine ⟨h', _, ?_, c, b'⟩
  rw [show startE 2 [.ref (R.length + i)] = [some (.ref (R.length + i)), none] from rfl]
  have run : sSeq (sRet (cFn (one fAll) (cCons (cLc [1] (iRange1 (cCons (cC (.int (6))) cNil)) (Z.gName 1) tYesE (cCall (Φ "_law_case_right") 1 [] (cCons (cVar 0) cNil))) cNil))) sPass R [some (.ref (R.length + i)), none] h = .ret (.bl true) h' := by
    rw [ev_seq, ev_sret, ev_fn, ev_cons, lc]
    have := fun m => all_bl (m := m) p
    simp [this]
  rw [run]
  exact fin_same c.1 rfl
end Z

end
section -- Z50
/-! Z50: lists in the place of tuples. -/
namespace Z
open PySem PySem.Spec PyProof.Rows L2
mutual
def listsP : PV → PV
  | .tup xs => .lst (listsPs xs)
  | .lst xs => .lst (listsPs xs)
  | p => p
def listsPs : List PV → List PV
  | [] => []
  | x :: xs => listsP x :: listsPs xs
end
theorem listsPs_map : ∀ xs : List PV, listsPs xs = xs.map listsP
  | [] => rfl
  | x :: xs => by rw [listsPs, listsPs_map xs]; rfl
def bLists (s : Str → Str → Option Bool) (t : Str → String → Option Bool) (Φ : Calls) : EvS := sSeq (sRet (cIf (cTruth (cFn (isiX s t) (cCons (cVar 0) (cCons (cFn fTup (cCons (cC (.ty "list")) (cCons (cC (.ty "tuple")) cNil))) cNil)))) (cLc [1] (iVal (cVar 0)) (Z.gName 1) tYesE (cCall (Φ "_law_lists") 1 [] (cCons (cVar 1) cNil))) (cVar 0))) sPass
mutual
theorem okS_data : ∀ p : PV, okS p = true → isData p = true
  | .non, _ => rfl
  | .bl _, _ => rfl
  | .int _, _ => rfl
  | .str _, _ => rfl
  | .tup xs, h => by rw [okS, Bool.and_eq_true] at h; exact okSs_data xs h.2
  | .lst xs, h => by rw [okS, Bool.and_eq_true] at h; exact okSs_data xs h.2
  | .dic _ _, h => by cases h
  | .ins _ _ _, h => by cases h
  | .exc _ _ _, h => by cases h
  | .ref _, h => by cases h
  | .fn _, h => by cases h
  | .cls _, h => by cases h
  | .ty _, h => by cases h
theorem okSs_data : ∀ ps : List PV, okSs ps = true → areData ps = true
  | [], _ => rfl
  | p :: ps, h => by rw [okSs, Bool.and_eq_true] at h; rw [areData, okS_data p h.1, okSs_data ps h.2]; rfl
end
mutual
theorem lists_data : ∀ p : PV, okS p = true → isData (listsP p) = true
  | .non, _ => rfl
  | .bl _, _ => rfl
  | .int _, _ => rfl
  | .str _, _ => rfl
  | .tup xs, h => by rw [okS, Bool.and_eq_true] at h; exact listss_data xs h.2
  | .lst xs, h => by rw [okS, Bool.and_eq_true] at h; exact listss_data xs h.2
  | .dic _ _, h => by cases h
  | .ins _ _ _, h => by cases h
  | .exc _ _ _, h => by cases h
  | .ref _, h => by cases h
  | .fn _, h => by cases h
  | .cls _, h => by cases h
  | .ty _, h => by cases h
theorem listss_data : ∀ ps : List PV, okSs ps = true → areData (listsPs ps) = true
  | [], _ => rfl
  | p :: ps, h => by rw [okSs, Bool.and_eq_true] at h; rw [listsPs, areData, lists_data p h.1, listss_data ps h.2]; rfl
end
theorem lists_ok {s : Str → Str → Option Bool} {t : Str → String → Option Bool} {Φs : Nat → Calls} (hS : ∀ d as R h, Φs (d + 1) "_law_lists" as R h = finPure R h (bLists s t (Φs d) (R ++ h) (startE 2 as) [])) :
    ∀ (d : Nat) (p : PV), okS p = true → dep p < d → ∀ R h, Φs d "_law_lists" [p] R h = .ok (listsP p) h
  | 0, p, _, hd, _, _ => absurd hd (Nat.not_lt_zero _)
  | d + 1, p, ho, hd, R, h => by
    rw [hS, show startE 2 [p] = [some p, none] from rfl]
    have key : bLists s t (Φs d) (R ++ h) [some p, none] [] = .ret (listsP p) [] := by
      have seqc : ∀ xs : List PV, IsSeq p xs → okSs xs = true → xs.length ≤ sizeLine → (∀ x ∈ xs, dep x < d) → listsP p = .lst (xs.map listsP) → (∀ m, isiX s t m [p, .tup [.ty "list", .ty "tuple"]] = some (.bl true)) → bLists s t (Φs d) (R ++ h) [some p, none] [] = .ret (listsP p) [] := by
        intro xs hp ox hz hx el i1
        have lc : cLc [1] (iVal (cVar 0)) (Z.gName 1) tYesE (cCall (Φs d "_law_lists") 1 [] (cCons (cVar 1) cNil)) (R ++ h) [some p, none] [] = .ok (.lst (xs.map listsP)) [] := by
          have cm := compL_map (vs := [1]) (g := Z.gName 1) (e := cCall (Φs d "_law_lists") 1 [] (cCons (cVar 1) cNil)) (R := R ++ h) (env := [some p, none]) (h := []) (emb := id) (f := listsP) xs fun x hx' => ⟨[some p, some x], rfl, by
            have := lists_ok hS d x (okSs_mem ox hx') (hx x hx') (R ++ h) []
            simp [this]⟩
          rw [List.map_id] at cm
          exact lc_items (hp.src rfl) cm (by rw [List.length_map]; exact hz)
        rw [el]
        obtain ⟨L, hL⟩ : ∃ L, L = xs.map listsP := ⟨_, rfl⟩
        rw [← hL] at lc ⊢
        unfold bLists
        simp [i1, fTup, lc, sizeLine]
      cases p with
      | non => rfl
      | bl b => rfl
      | int i => rfl
      | str x => rfl
      | tup xs =>
        rw [okS, Bool.and_eq_true] at ho
        exact seqc xs (.inl rfl) ho.2 (of_decide_eq_true ho.1) (fun x hx => by have := deps_mem hx; rw [dep] at hd; omega) (by rw [listsP, listsPs_map]) fun m => rfl
      | lst xs =>
        rw [okS, Bool.and_eq_true] at ho
        exact seqc xs (.inr rfl) ho.2 (of_decide_eq_true ho.1) (fun x hx => by have := deps_mem hx; rw [dep] at hd; omega) (by rw [listsP, listsPs_map]) fun m => rfl
      | _ => cases ho
    rw [key]
    exact fin_data (lists_data p ho)
theorem okSs_all {xs : List PV} (h : ∀ x ∈ xs, okS x = true) : okSs xs = true := by
  induction xs with
  | nil => rfl
  | cons x xs ih => rw [okSs, h x (List.mem_cons_self ..), ih fun y hy => h y (List.mem_cons_of_mem _ hy)]; rfl
theorem okS_tup {xs : List PV} (hl : xs.length ≤ sizeLine) (h : ∀ x ∈ xs, okS x = true) : okS (.tup xs) = true := by
  rw [okS, okSs_all h, decide_eq_true hl]; rfl
theorem okS_lst {xs : List PV} (hl : xs.length ≤ sizeLine) (h : ∀ x ∈ xs, okS x = true) : okS (.lst xs) = true := by
  rw [okS, okSs_all h, decide_eq_true hl]; rfl
theorem okS_strs {ws : List Str} (hl : ws.length ≤ sizeLine) : okS (tupS ws) = true := okS_tup (by rw [List.length_map]; exact hl) fun x hx => by
  obtain ⟨w, _, rfl⟩ := List.mem_map.mp hx
  rfl
theorem okS_pair (q : Str × Str) : okS (pv2 q) = true := okS_tup (by rw [sizeLine_val]; simp) fun x hx => by
  simp at hx
  rcases hx with rfl | rfl <;> rfl
theorem okS_pairs {qs : List (Str × Str)} (hl : qs.length ≤ sizeLine) : okS (.tup (qs.map pv2)) = true := okS_tup (by rw [List.length_map]; exact hl) fun x hx => by
  obtain ⟨w, _, rfl⟩ := List.mem_map.mp hx
  exact okS_pair w
theorem dep_strs (ws : List Str) : dep (tupS ws) ≤ 1 := by
  unfold tupS
  rw [dep]
  have : deps (ws.map PV.str) ≤ 0 := deps_map ws fun _ _ => Nat.le_refl _
  omega
theorem dep_pairs (qs : List (Str × Str)) : dep (.tup (qs.map pv2)) ≤ 2 := by
  rw [dep]
  have : deps (qs.map pv2) ≤ 1 := deps_map qs fun q _ => by simp [pv2, dep, deps]
  omega
end Z

end
section -- Z51
/-! Z51: try, plain; walks that stop. -/
namespace Z
open PySem PySem.Spec PyProof.Rows L2
section
variable {mt : Str → Option Bool} {i : Nat} {b s : EvS} {R h h1 : Mem} {env env1 : Envr}
theorem try_catch {c : Str} {ns : List Str} {vs : List PV} (e : b R env h = .exc (.own c) ns vs env1 h1) (m : mt c = some true) : sTryX mt i b s R env h = (s R (env1.set i (some (.exc c ns vs))) h1).gone i := by
  unfold sTryX; rw [e]; dsimp only; rw [m]
theorem try_pass {c : Str} {ns : List Str} {vs : List PV} (e : b R env h = .exc (.own c) ns vs env1 h1) (m : mt c = some false) : sTryX mt i b s R env h = .exc (.own c) ns vs env1 h1 := by
  unfold sTryX; rw [e]; dsimp only; rw [m]
theorem try_nx (e : b R env h = .nx env1 h1) : sTryX mt i b s R env h = .nx env1 h1 := by
  unfold sTryX; rw [e]
theorem try_ret {v : PV} (e : b R env h = .ret v h1) : sTryX mt i b s R env h = .ret v h1 := by
  unfold sTryX; rw [e]
theorem tryO_catch {c : Str} {ns : List Str} {vs : List PV} (e : b R env h = .exc (.own c) ns vs env1 h1) (m : mt c = some true) : sTryO mt b s R env h = (s R env1 h1).calm := by
  unfold sTryO; rw [e]; dsimp only; rw [m]
theorem tryO_nx (e : b R env h = .nx env1 h1) : sTryO mt b s R env h = .nx env1 h1 := by
  unfold sTryO; rw [e]
@[simp] theorem ev_goX {α : Type} {c : Xc} {ns : List Str} {vs : List PV} {k : α → Mem → SR} : (Res.exc c ns vs h : Res α).go env k = .exc c ns vs env h := rfl
@[simp] theorem ev_bindX {α β : Type} {c : Xc} {ns : List Str} {vs : List PV} {k : α → Mem → Res β} : (Res.exc c ns vs h : Res α).bind k = .exc c ns vs h := rfl
end
def goOn {S T : Type} (f : S → Except Nat T) : Except Nat S → Except Nat T
  | .ok s => f s
  | .error j => .error j
theorem runE_app {α S : Type} {step : S → α → Option S} : ∀ (as bs : List α) (k : Nat) (s : S), runE step (as ++ bs) k s = goOn (fun s' => runE step bs (k + as.length) s') (runE step as k s)
  | [], bs, k, s => rfl
  | a :: as, bs, k, s => by
    rw [List.cons_append, runE, runE]
    cases step s a with
    | none => rfl
    | some s' =>
      dsimp only
      rw [runE_app as bs (k + 1) s', List.length_cons, show k + 1 + as.length = k + (as.length + 1) from by omega]
/-- a piece that is wrong at its place, whatever stands ahead of it -/
theorem runE_bad {α S : Type} {step : S → α → Option S} {ws : List α} {s0 s1 : S} (h : runE step ws 0 s0 = .ok s1) {k : Nat} (hk : k < ws.length) {y : α} (hy : ∀ s, step s y = none) : runE step (ws.set k y) 0 s0 = .error k := by
  have e : ws = ws.take k ++ ws.drop k := (List.take_append_drop k ws).symm
  rw [e, runE_app] at h
  have l : (ws.take k).length = k := by rw [List.length_take]; omega
  rw [List.set_eq_take_append_cons_drop, if_pos hk, runE_app]
  cases er : runE step (ws.take k) 0 s0 with
  | error j => rw [er] at h; cases h
  | ok s' =>
    show runE step (y :: ws.drop (k + 1)) (0 + (ws.take k).length) s' = _
    rw [runE, hy, l, Nat.zero_add]
end Z

end
section -- K02
namespace K02
open PySem PySem.Spec PyProof.Rows L2 Z
def top (i : Nat) : Stmt := PySem.Challenge.pw_seatsahead_k02_wrong_texts.main.body.getD i (.Pass ⟨0, 0, 0, 0⟩)
/-- is_name -/
def f0 : Fn := ⟨"is_name", defArgs (top 7), ["value"], ["value", "letter"], defScope (top 7), defBody (top 7), [], .pure, [], []⟩
/-- is_rising -/
def f1 : Fn := ⟨"is_rising", defArgs (top 8), ["row"], ["row", "one", "other"], defScope (top 8), defBody (top 8), [], .pure, [], []⟩
/-- number_in -/
def f2 : Fn := ⟨"number_in", defArgs (top 9), ["word"], ["word", "sign"], defScope (top 9), defBody (top 9), [], .pure, [], []⟩
/-- pair_in -/
def f3 : Fn := ⟨"pair_in", defArgs (top 16), ["piece"], ["piece", "pair", "is_pair", "name"], defScope (top 16), defBody (top 16), [], .pure, [], []⟩
/-- steps_from -/
def f4 : Fn := ⟨"steps_from", defArgs (top 17), ["text"], ["text", "words", "place", "word"], defScope (top 17), defBody (top 17), [], .pure, [], []⟩
/-- pairs_from -/
def f5 : Fn := ⟨"pairs_from", defArgs (top 18), ["text"], ["text", "found", "place", "piece", "pair"], defScope (top 18), defBody (top 18), ["found"], .pure, [], []⟩
/-- sizes_from -/
def f6 : Fn := ⟨"sizes_from", defArgs (top 19), ["text"], ["text", "found", "place", "word", "number"], defScope (top 19), defBody (top 19), ["found"], .pure, [], []⟩
/-- run_from -/
def f7 : Fn := ⟨"run_from", defArgs (top 20), ["text"], ["text", "found", "place", "word"], defScope (top 20), defBody (top 20), ["found"], .pure, [], []⟩
/-- _law_box -/
def f8 : Fn := ⟨"_law_box", defArgs (top 22), ["_law_script", "_law_k"], ["_law_script", "_law_k", "_law_cell"], defScope (top 22), defBody (top 22), ["return"], .new, [], []⟩
/-- _law_take -/
def f9 : Fn := ⟨"_law_take", defArgs (top 23), ["_law_box_here", "_law_size_so"], ["_law_box_here", "_law_size_so", "_law_some", "_law_once", "_law_far", "_law_again"], defScope (top 23), defBody (top 23), [], .chg, [], []⟩
/-- _law_cells -/
def f10 : Fn := ⟨"_law_cells", defArgs (top 24), ["_law_script", "_law_top_so"], ["_law_script", "_law_top_so", "_law_cells_so", "_law_k", "_law_cell", "_law_at_so"], defScope (top 24), defBody (top 24), ["_law_cells_so"], .pure, [], []⟩
/-- _law_of -/
def f11 : Fn := ⟨"_law_of", defArgs (top 25), ["_law_box_here", "_law_goods_so"], ["_law_box_here", "_law_goods_so"], defScope (top 25), defBody (top 25), [], .chg, [], []⟩
/-- _law_pick -/
def f12 : Fn := ⟨"_law_pick", defArgs (top 26), ["_law_box_here", "_law_goods_so", "_law_count_so"], ["_law_box_here", "_law_goods_so", "_law_count_so", "_law_pool_so", "_law_found", "_law_turn"], defScope (top 26), defBody (top 26), ["_law_found", "_law_pool_so"], .chg, [], []⟩
/-- _law_same -/
def f13 : Fn := ⟨"_law_same", defArgs (top 27), ["_law_got", "_law_due"], ["_law_got", "_law_due", "_law_mine", "_law_its"], defScope (top 27), defBody (top 27), [], .pure, [], []⟩
/-- _law_steps -/
def f14 : Fn := ⟨"_law_steps", defArgs (top 28), ["_law_box_here", "_law_most_so"], ["_law_box_here", "_law_most_so", "_law_pools"], defScope (top 28), defBody (top 28), [], .chg, [], []⟩
/-- _law_webs -/
def f15 : Fn := ⟨"_law_webs", defArgs (top 29), ["_law_box_here", "_law_tags"], ["_law_box_here", "_law_tags", "_law_line_so", "_law_found", "_law_rest", "_law_k", "_law_j", "_law_way_so"], defScope (top 29), defBody (top 29), [], .chg, [], []⟩
/-- _law_heard -/
def f16 : Fn := ⟨"_law_heard", defArgs (top 30), ["_law_flat", "_law_sort_so"], ["_law_flat", "_law_sort_so", "_law_caught", "_law_told_so", "error_so"], defScope (top 30), defBody (top 30), [], .pure, [], []⟩
/-- _law_heard_right -/
def f17 : Fn := ⟨"_law_heard_right", defArgs (top 31), ["_law_wrong", "_law_sort_so"], ["_law_wrong", "_law_sort_so", "_law_got", "_law_flat", "_law_at_so"], defScope (top 31), defBody (top 31), [], .pure, [], []⟩
/-- _law_by_hand_right -/
def f18 : Fn := ⟨"_law_by_hand_right", defArgs (top 32), [], ["_law_wrong", "_law_got", "_law_k", "_law_due"], defScope (top 32), defBody (top 32), [], .pure, [], []⟩
/-- _law_bent_right -/
def f19 : Fn := ⟨"_law_bent_right", defArgs (top 33), ["_law_box_here", "_law_flat", "_law_cut_so", "_law_sort_so", "_law_ill_so"], ["_law_box_here", "_law_flat", "_law_cut_so", "_law_sort_so", "_law_ill_so", "_law_pieces", "_law_k"], defScope (top 33), defBody (top 33), ["_law_pieces"], .chg, [], []⟩
/-- _law_case_right -/
def f20 : Fn := ⟨"_law_case_right", defArgs (top 34), ["_law_box_here"], ["_law_box_here", "_law_tags", "_law_bits_so", "_law_words", "_law_one_so", "_law_two_so", "_law_signs", "_law_tag", "_law_fine"], defScope (top 34), defBody (top 34), [], .chg, [], []⟩
/-- _law_right -/
def f21 : Fn := ⟨"_law_right", defArgs (top 35), ["_law_box_here"], ["_law_box_here", "_law_turn"], defScope (top 35), defBody (top 35), [], .chg, [], []⟩
/-- law -/
def f22 : Fn := ⟨"law", defArgs (top 36), ["_law_script"], ["_law_script", "_law_cells_here", "_law_k"], defScope (top 36), defBody (top 36), [], .pure, [], []⟩
def mi_BadText : Stmt := (clsB (top 2)).getD 0 (.Pass ⟨0, 0, 0, 0⟩)
def e_BadText : Ex := ⟨"BadText", "piece", true, "BadText.__init__", defArgs mi_BadText, defScope mi_BadText, defBody mi_BadText⟩
theorem te_BadText : ExT e_BadText := ⟨⟨["self", "piece"], ⟨rfl, rfl, rfl, by decide +kernel, rfl, by decide +kernel, by decide +kernel⟩, .one _ _ _ _ rfl rfl, fun _ _ _ _ _ _ us hl => match us, hl with | [_, _], _ => rfl, fun _ _ _ _ _ _ _ _ _ => rfl⟩⟩
def G : Glob := ⟨([f0, f1, f2, f3, f4, f5, f6, f7, f8, f9, f10, f11, f12, f13, f14, f15, f16, f17, f18, f19, f20, f21, f22] : List Fn), [("LETTERS", .str "abcdefghijklmnopqrstuvwxyz"), ("DIGITS", .str "0123456789"), ("MOST_LETTERS", .int (8)), ("NOTHING", .str "-"), ("BLANK", .str " "), ("BETWEEN", .str "; "), ("PAIR", .int (2))], [("WORDS", [("+", .str "begin"), ("-", .str "end")])], ["ValueError", "abs", "all", "bool", "enumerate", "int", "isinstance", "len", "list", "max", "min", "range", "sorted", "str", "tuple", "zip"], [e_BadText], ["SeatError", "BadText"], ([("BadText", "SeatError", true), ("BadText", "BadText", true)] : List (Str × Str × Bool)), ([("BadText", "ValueError", true)] : List (Str × String × Bool))⟩
theorem t_f0 : FnT f0 := ⟨⟨rfl, rfl, rfl, by decide +kernel, rfl, by decide +kernel, by decide +kernel⟩, rfl, by decide, fun _ _ _ _ _ _ _ us hl => match us, hl with | [_], _ => rfl, fun h => absurd rfl h, (by
    intro _ ks hk kV doc pm an cdv ct us hl
    cases hk), fun h => absurd rfl h⟩
theorem t_f1 : FnT f1 := ⟨⟨rfl, rfl, rfl, by decide +kernel, rfl, by decide +kernel, by decide +kernel⟩, rfl, by decide, fun _ _ _ _ _ _ _ us hl => match us, hl with | [_], _ => rfl, fun h => absurd rfl h, (by
    intro _ ks hk kV doc pm an cdv ct us hl
    cases hk), fun h => absurd rfl h⟩
theorem t_f2 : FnT f2 := ⟨⟨rfl, rfl, rfl, by decide +kernel, rfl, by decide +kernel, by decide +kernel⟩, rfl, by decide, fun _ _ _ _ _ _ _ us hl => match us, hl with | [_], _ => rfl, fun h => absurd rfl h, (by
    intro _ ks hk kV doc pm an cdv ct us hl
    cases hk), fun h => absurd rfl h⟩
theorem t_f3 : FnT f3 := ⟨⟨rfl, rfl, rfl, by decide +kernel, rfl, by decide +kernel, by decide +kernel⟩, rfl, by decide, fun _ _ _ _ _ _ _ us hl => match us, hl with | [_], _ => rfl, fun h => absurd rfl h, (by
    intro _ ks hk kV doc pm an cdv ct us hl
    cases hk), fun h => absurd rfl h⟩
theorem t_f4 : FnT f4 := ⟨⟨rfl, rfl, rfl, by decide +kernel, rfl, by decide +kernel, by decide +kernel⟩, rfl, by decide, fun _ _ _ _ _ _ _ us hl => match us, hl with | [_], _ => rfl, fun h => absurd rfl h, (by
    intro _ ks hk kV doc pm an cdv ct us hl
    cases hk), fun h => absurd rfl h⟩
theorem t_f5 : FnT f5 := ⟨⟨rfl, rfl, rfl, by decide +kernel, rfl, by decide +kernel, by decide +kernel⟩, rfl, by decide, fun _ _ _ _ _ _ _ us hl => match us, hl with | [_], _ => rfl, fun h => absurd rfl h, (by
    intro _ ks hk kV doc pm an cdv ct us hl
    cases hk), fun h => absurd rfl h⟩
theorem t_f6 : FnT f6 := ⟨⟨rfl, rfl, rfl, by decide +kernel, rfl, by decide +kernel, by decide +kernel⟩, rfl, by decide, fun _ _ _ _ _ _ _ us hl => match us, hl with | [_], _ => rfl, fun h => absurd rfl h, (by
    intro _ ks hk kV doc pm an cdv ct us hl
    cases hk), fun h => absurd rfl h⟩
theorem t_f7 : FnT f7 := ⟨⟨rfl, rfl, rfl, by decide +kernel, rfl, by decide +kernel, by decide +kernel⟩, rfl, by decide, fun _ _ _ _ _ _ _ us hl => match us, hl with | [_], _ => rfl, fun h => absurd rfl h, (by
    intro _ ks hk kV doc pm an cdv ct us hl
    cases hk), fun h => absurd rfl h⟩
theorem t_f8 : FnT f8 := ⟨⟨rfl, rfl, rfl, by decide +kernel, rfl, by decide +kernel, by decide +kernel⟩, rfl, by decide, fun _ _ _ _ _ _ _ us hl => match us, hl with | [_, _], _ => rfl, fun h => absurd rfl h, (by
    intro _ ks hk kV doc pm an cdv ct us hl
    cases hk), fun h => absurd rfl h⟩
theorem t_f9 : FnT f9 := ⟨⟨rfl, rfl, rfl, by decide +kernel, rfl, by decide +kernel, by decide +kernel⟩, rfl, by decide, fun _ _ _ _ _ _ _ us hl => match us, hl with | [_, _], _ => rfl, fun h => absurd rfl h, (by
    intro _ ks hk kV doc pm an cdv ct us hl
    cases hk), fun h => absurd rfl h⟩
theorem t_f10 : FnT f10 := ⟨⟨rfl, rfl, rfl, by decide +kernel, rfl, by decide +kernel, by decide +kernel⟩, rfl, by decide, fun _ _ _ _ _ _ _ us hl => match us, hl with | [_, _], _ => rfl, fun h => absurd rfl h, (by
    intro _ ks hk kV doc pm an cdv ct us hl
    cases hk), fun h => absurd rfl h⟩
theorem t_f11 : FnT f11 := ⟨⟨rfl, rfl, rfl, by decide +kernel, rfl, by decide +kernel, by decide +kernel⟩, rfl, by decide, fun _ _ _ _ _ _ _ us hl => match us, hl with | [_, _], _ => rfl, fun h => absurd rfl h, (by
    intro _ ks hk kV doc pm an cdv ct us hl
    cases hk), fun h => absurd rfl h⟩
theorem t_f12 : FnT f12 := ⟨⟨rfl, rfl, rfl, by decide +kernel, rfl, by decide +kernel, by decide +kernel⟩, rfl, by decide, fun _ _ _ _ _ _ _ us hl => match us, hl with | [_, _, _], _ => rfl, fun h => absurd rfl h, (by
    intro _ ks hk kV doc pm an cdv ct us hl
    cases hk), fun h => absurd rfl h⟩
theorem t_f13 : FnT f13 := ⟨⟨rfl, rfl, rfl, by decide +kernel, rfl, by decide +kernel, by decide +kernel⟩, rfl, by decide, fun _ _ _ _ _ _ _ us hl => match us, hl with | [_, _], _ => rfl, fun h => absurd rfl h, (by
    intro _ ks hk kV doc pm an cdv ct us hl
    cases hk), fun h => absurd rfl h⟩
theorem t_f14 : FnT f14 := ⟨⟨rfl, rfl, rfl, by decide +kernel, rfl, by decide +kernel, by decide +kernel⟩, rfl, by decide, fun _ _ _ _ _ _ _ us hl => match us, hl with | [_, _], _ => rfl, fun h => absurd rfl h, (by
    intro _ ks hk kV doc pm an cdv ct us hl
    cases hk), fun h => absurd rfl h⟩
theorem t_f15 : FnT f15 := ⟨⟨rfl, rfl, rfl, by decide +kernel, rfl, by decide +kernel, by decide +kernel⟩, rfl, by decide, fun _ _ _ _ _ _ _ us hl => match us, hl with | [_, _], _ => rfl, fun h => absurd rfl h, (by
    intro _ ks hk kV doc pm an cdv ct us hl
    cases hk), fun h => absurd rfl h⟩
theorem t_f16 : FnT f16 := ⟨⟨rfl, rfl, rfl, by decide +kernel, rfl, by decide +kernel, by decide +kernel⟩, rfl, by decide, fun _ _ _ _ _ _ _ us hl => match us, hl with | [_, _], _ => rfl, fun h => absurd rfl h, (by
    intro _ ks hk kV doc pm an cdv ct us hl
    cases hk), fun h => absurd rfl h⟩
theorem t_f17 : FnT f17 := ⟨⟨rfl, rfl, rfl, by decide +kernel, rfl, by decide +kernel, by decide +kernel⟩, rfl, by decide, fun _ _ _ _ _ _ _ us hl => match us, hl with | [_, _], _ => rfl, fun h => absurd rfl h, (by
    intro _ ks hk kV doc pm an cdv ct us hl
    cases hk), fun h => absurd rfl h⟩
theorem t_f18 : FnT f18 := ⟨⟨rfl, rfl, rfl, by decide +kernel, rfl, by decide +kernel, by decide +kernel⟩, rfl, by decide, fun _ _ _ _ _ _ _ us hl => match us, hl with | [], _ => rfl, fun h => absurd rfl h, (by
    intro _ ks hk kV doc pm an cdv ct us hl
    cases hk), fun h => absurd rfl h⟩
theorem t_f19 : FnT f19 := ⟨⟨rfl, rfl, rfl, by decide +kernel, rfl, by decide +kernel, by decide +kernel⟩, rfl, by decide, fun _ _ _ _ _ _ _ us hl => match us, hl with | [_, _, _, _, _], _ => rfl, fun h => absurd rfl h, (by
    intro _ ks hk kV doc pm an cdv ct us hl
    cases hk), fun h => absurd rfl h⟩
theorem t_f20 : FnT f20 := ⟨⟨rfl, rfl, rfl, by decide +kernel, rfl, by decide +kernel, by decide +kernel⟩, rfl, by decide, fun _ _ _ _ _ _ _ us hl => match us, hl with | [_], _ => rfl, fun h => absurd rfl h, (by
    intro _ ks hk kV doc pm an cdv ct us hl
    cases hk), fun h => absurd rfl h⟩
theorem t_f21 : FnT f21 := ⟨⟨rfl, rfl, rfl, by decide +kernel, rfl, by decide +kernel, by decide +kernel⟩, rfl, by decide, fun _ _ _ _ _ _ _ us hl => match us, hl with | [_], _ => rfl, fun h => absurd rfl h, (by
    intro _ ks hk kV doc pm an cdv ct us hl
    cases hk), fun h => absurd rfl h⟩
theorem t_f22 : FnT f22 := ⟨⟨rfl, rfl, rfl, by decide +kernel, rfl, by decide +kernel, by decide +kernel⟩, rfl, by decide, fun _ _ _ _ _ _ _ us hl => match us, hl with | [_], _ => rfl, fun h => absurd rfl h, (by
    intro _ ks hk kV doc pm an cdv ct us hl
    cases hk), fun h => absurd rfl h⟩
theorem gt : GlobT G := by
  refine ⟨fun E hE => ?_, fun F hF => ?_, fun q hq => ?_, by decide +kernel⟩
  · have hE : E ∈ [e_BadText] := hE
    rcases List.mem_cons.mp hE with e | hE
    · subst e; exact te_BadText
    cases hE
  · have hF : F ∈ [f0, f1, f2, f3, f4, f5, f6, f7, f8, f9, f10, f11, f12, f13, f14, f15, f16, f17, f18, f19, f20, f21, f22] := hF
    rcases List.mem_cons.mp hF with e | hF
    · subst e; exact t_f0
    rcases List.mem_cons.mp hF with e | hF
    · subst e; exact t_f1
    rcases List.mem_cons.mp hF with e | hF
    · subst e; exact t_f2
    rcases List.mem_cons.mp hF with e | hF
    · subst e; exact t_f3
    rcases List.mem_cons.mp hF with e | hF
    · subst e; exact t_f4
    rcases List.mem_cons.mp hF with e | hF
    · subst e; exact t_f5
    rcases List.mem_cons.mp hF with e | hF
    · subst e; exact t_f6
    rcases List.mem_cons.mp hF with e | hF
    · subst e; exact t_f7
    rcases List.mem_cons.mp hF with e | hF
    · subst e; exact t_f8
    rcases List.mem_cons.mp hF with e | hF
    · subst e; exact t_f9
    rcases List.mem_cons.mp hF with e | hF
    · subst e; exact t_f10
    rcases List.mem_cons.mp hF with e | hF
    · subst e; exact t_f11
    rcases List.mem_cons.mp hF with e | hF
    · subst e; exact t_f12
    rcases List.mem_cons.mp hF with e | hF
    · subst e; exact t_f13
    rcases List.mem_cons.mp hF with e | hF
    · subst e; exact t_f14
    rcases List.mem_cons.mp hF with e | hF
    · subst e; exact t_f15
    rcases List.mem_cons.mp hF with e | hF
    · subst e; exact t_f16
    rcases List.mem_cons.mp hF with e | hF
    · subst e; exact t_f17
    rcases List.mem_cons.mp hF with e | hF
    · subst e; exact t_f18
    rcases List.mem_cons.mp hF with e | hF
    · subst e; exact t_f19
    rcases List.mem_cons.mp hF with e | hF
    · subst e; exact t_f20
    rcases List.mem_cons.mp hF with e | hF
    · subst e; exact t_f21
    rcases List.mem_cons.mp hF with e | hF
    · subst e; exact t_f22
    cases hF
  · have hq : q ∈ ([("LETTERS", .str "abcdefghijklmnopqrstuvwxyz"), ("DIGITS", .str "0123456789"), ("MOST_LETTERS", .int (8)), ("NOTHING", .str "-"), ("BLANK", .str " "), ("BETWEEN", .str "; "), ("PAIR", .int (2))] : List (Str × PV)) := hq
    rcases List.mem_cons.mp hq with e | hq
    · subst e; exact .inr ⟨_, rfl⟩
    rcases List.mem_cons.mp hq with e | hq
    · subst e; exact .inr ⟨_, rfl⟩
    rcases List.mem_cons.mp hq with e | hq
    · subst e; exact .inl ⟨_, rfl⟩
    rcases List.mem_cons.mp hq with e | hq
    · subst e; exact .inr ⟨_, rfl⟩
    rcases List.mem_cons.mp hq with e | hq
    · subst e; exact .inr ⟨_, rfl⟩
    rcases List.mem_cons.mp hq with e | hq
    · subst e; exact .inr ⟨_, rfl⟩
    rcases List.mem_cons.mp hq with e | hq
    · subst e; exact .inl ⟨_, rfl⟩
    cases hq
abbrev R : PySem.W.OpenRow := PySem.W.OpenLaw.row PySem.Challenge.rw_seatsahead_k02_wrong_texts
abbrev hk : PySem.W.Hook := hookZ 4 G
def ob (s : PySem.W.SharedT) : AlZ := obsZG 4 G (HandSHeadRun.getT s)
theorem ob_eq (s : PySem.W.SharedT) : ob s = hk.obs s.abs := obsZG_eq (HandSHeadRun.getT_eq s)
def oth : List Str := (["SeatError", "BadText", "LETTERS", "DIGITS", "MOST_LETTERS", "is_name", "is_rising", "number_in", "NOTHING", "BLANK", "BETWEEN", "WORDS", "PAIR", "pair_in", "steps_from", "pairs_from", "sizes_from", "run_from", "_law_box", "_law_take", "_law_cells", "_law_of", "_law_pick", "_law_same", "_law_steps", "_law_webs", "_law_heard", "_law_heard_right", "_law_by_hand_right", "_law_bent_right"] : List Str) ++ (["_law_case_right", "_law_right"] : List Str)
theorem run_f (w : World) : HandSHeadRun.RunEq R (PySem.W.view R.prog [36]) hk ob 4000 oth (w.withFollow "special-get-raises" false) := by
  intro os
  kernel_rfl
theorem run_t (w : World) : HandSHeadRun.RunEq R (PySem.W.view R.prog [36]) hk ob 4000 oth (w.withFollow "special-get-raises" true) := by
  intro os
  kernel_rfl
theorem run (w : World) : HandSHeadRun.RunEq R (PySem.W.view R.prog [36]) hk ob 4000 oth w := PySem.W.byRow2 "special-get-raises" (P := fun w => HandSHeadRun.RunEq R (PySem.W.view R.prog [36]) hk ob 4000 oth w) run_f run_t w
end K02

end
section -- K02b
namespace K02
open PySem PySem.Spec PyProof.Rows L2 Z
theorem r_is_name (d : Nat) (as : List PV) (R h : Mem) : runF G (d + 1) "is_name" as R h = finPure R h (ZP.B_is_name G (runF G d) (R ++ h) (startE 2 as) []) := by kernel_rfl
theorem r_is_rising (d : Nat) (as : List PV) (R h : Mem) : runF G (d + 1) "is_rising" as R h = finPure R h (ZP.B_is_rising G (runF G d) (R ++ h) (startE 3 as) []) := by kernel_rfl
theorem r_number_in (d : Nat) (as : List PV) (R h : Mem) : runF G (d + 1) "number_in" as R h = finPure R h (ZP.B_number_in G (runF G d) (R ++ h) (startE 2 as) []) := by kernel_rfl
theorem r_pair_in (d : Nat) (as : List PV) (R h : Mem) : runF G (d + 1) "pair_in" as R h = finPure R h (ZP.B_pair_in G (runF G d) (R ++ h) (startE 4 as) []) := by kernel_rfl
theorem r_steps_from (d : Nat) (as : List PV) (R h : Mem) : runF G (d + 1) "steps_from" as R h = finPure R h (ZP.B_steps_from G (runF G d) (R ++ h) (startE 4 as) []) := by kernel_rfl
theorem r_pairs_from (d : Nat) (as : List PV) (R h : Mem) : runF G (d + 1) "pairs_from" as R h = finPure R h (ZP.B_pairs_from G (runF G d) (R ++ h) (startE 5 as) []) := by kernel_rfl
theorem r_sizes_from (d : Nat) (as : List PV) (R h : Mem) : runF G (d + 1) "sizes_from" as R h = finPure R h (ZP.B_sizes_from G (runF G d) (R ++ h) (startE 5 as) []) := by kernel_rfl
theorem r_run_from (d : Nat) (as : List PV) (R h : Mem) : runF G (d + 1) "run_from" as R h = finPure R h (ZP.B_run_from G (runF G d) (R ++ h) (startE 4 as) []) := by kernel_rfl
def B_law_box_0 (Φ : Calls) : EvS := (sAsg (Z.gName 2) (cIf (cCmpT (fOrd .lt) (cVar 1) (cFn (one fLen) (cCons (cVar 0) cNil))) (cOp2 fIx (cVar 0) (cVar 1)) (cC (.int (0)))))
def B_law_box_1 (Φ : Calls) : EvS := (sRet (cNew (cCons (cOp2 fMul (cFn (one fAbs) (cCons (cVar 2) cNil)) (cFn (one fInt) (cCons (cOp2 (fOrd .ge) (cFn (one fAbs) (cCons (cVar 2) cNil)) (cOp2 fPow (cC (.int (10))) (cC (.int (18))))) cNil))) (cCons (cOp2 fAdd (cOp2 fAdd (cOp2 fMod (cFn (one fInt) (cCons (cVar 2) cNil)) (cC (.int (2305843009213693951)))) (cOp2 fMul (cC (.int (39373))) (cVar 1))) (cC (.int (91702)))) (cCons (cC (.int (0))) cNil)))))
def B_law_box_t1 (Φ : Calls) : EvS := sSeq (B_law_box_1 Φ) sPass
def B_law_box (Φ : Calls) : EvS := sSeq (B_law_box_0 Φ) (B_law_box_t1 Φ)
theorem r_law_box (d : Nat) (as : List PV) (R h : Mem) : runF G (d + 1) "_law_box" as R h = finNew R h (B_law_box (runF G d) R (startE 3 as) h) := by kernel_rfl
def B_law_take_0 (Φ : Calls) : EvS := (sIf (cCmpT (fOrd .gt) (cOp2 fIx (cVar 0) (cC (.int (0)))) (cC (.int (0)))) (sSeq (sAsg (Z.gName 2) (cOp2 fMod (cFn (one fInt) (cCons (cOp2 fIx (cVar 0) (cC (.int (0)))) cNil)) (cVar 1))) (sSeq (sAsg (gSubL (cVar 0) (cC (.int (0)))) (cOp2 fDiv (cOp2 fIx (cVar 0) (cC (.int (0)))) (cVar 1))) (sSeq (sRet (cVar 2)) sPass))) sPass)
def B_law_take_1 (Φ : Calls) : EvS := (sAsg (gSubL (cVar 0) (cC (.int (2)))) (cOp2 fAdd (cOp2 fIx (cVar 0) (cC (.int (2)))) (cC (.int (1)))))
def B_law_take_2 (Φ : Calls) : EvS := (sAsg (Z.gName 3) (cOp2 fMod (cFn (one fInt) (cCons (cOp2 fMul (cOp2 fAdd (cOp2 fIx (cVar 0) (cC (.int (1)))) (cOp2 fMul (cC (.int (48271))) (cOp2 fIx (cVar 0) (cC (.int (2)))))) (cOp2 fAdd (cC (.int (39373))) (cOp2 fIx (cVar 0) (cC (.int (2)))))) cNil)) (cC (.int (2147483647)))))
def B_law_take_3 (Φ : Calls) : EvS := (sAsg (Z.gName 4) (cOp2 fAdd (cOp2 fMod (cFn (one fInt) (cCons (cVar 3) cNil)) (cC (.int (40009)))) (cC (.int (7)))))
def B_law_take_4 (Φ : Calls) : EvS := (sAsg (Z.gName 5) (cOp2 fMod (cFn (one fInt) (cCons (cOp2 fMul (cOp2 fAdd (cOp2 fAdd (cVar 3) (cOp2 fIx (cVar 0) (cC (.int (2))))) (cOp2 fDiv (cOp2 fIx (cVar 0) (cC (.int (1)))) (cC (.int (1000003))))) (cVar 4)) cNil)) (cC (.int (2147483629)))))
def B_law_take_5 (Φ : Calls) : EvS := (sRet (cOp2 fMod (cFn (one fInt) (cCons (cOp2 fDiv (cOp2 fMod (cFn (one fInt) (cCons (cOp2 fAdd (cOp2 fMul (cVar 5) (cC (.int (48271)))) (cVar 3)) cNil)) (cC (.int (2147483587)))) (cC (.int (64)))) cNil)) (cVar 1)))
def B_law_take_t5 (Φ : Calls) : EvS := sSeq (B_law_take_5 Φ) sPass
def B_law_take_t4 (Φ : Calls) : EvS := sSeq (B_law_take_4 Φ) (B_law_take_t5 Φ)
def B_law_take_t3 (Φ : Calls) : EvS := sSeq (B_law_take_3 Φ) (B_law_take_t4 Φ)
def B_law_take_t2 (Φ : Calls) : EvS := sSeq (B_law_take_2 Φ) (B_law_take_t3 Φ)
def B_law_take_t1 (Φ : Calls) : EvS := sSeq (B_law_take_1 Φ) (B_law_take_t2 Φ)
def B_law_take (Φ : Calls) : EvS := sSeq (B_law_take_0 Φ) (B_law_take_t1 Φ)
theorem r_law_take (d : Nat) (as : List PV) (R h : Mem) : runF G (d + 1) "_law_take" as R h = finMut R h (B_law_take (runF G d) R (startE 6 as) h) := by kernel_rfl
def B_law_cells_0 (Φ : Calls) : EvS := (sAsg (Z.gName 2) (cOrV (cNew (aList (cCons (cSl (cVar 0) oNone (oSome (cVar 1))) cNil))) (cNew (cCons (cC (.int (0))) cNil))))
def B_law_cells_1b_0 (Φ : Calls) : EvS := (sAsg (Z.gName 5) (cOp2 fMod (cFn (one fInt) (cCons (cVar 3) cNil)) (cVar 1)))
def B_law_cells_1b_1 (Φ : Calls) : EvS := (sAsg (gSubL (cVar 2) (cVar 5)) (cOp2 fAdd (cOp2 fIx (cVar 2) (cVar 5)) (cOp2 fMul (cVar 4) (cOp2 fAdd (cVar 3) (cC (.int (2)))))))
def B_law_cells_1b_t1 (Φ : Calls) : EvS := sSeq (B_law_cells_1b_1 Φ) sPass
def B_law_cells_1b (Φ : Calls) : EvS := sSeq (B_law_cells_1b_0 Φ) (B_law_cells_1b_t1 Φ)
def B_law_cells_1 (Φ : Calls) : EvS := (sFor (iEnumE (cCons (cSl (cVar 0) (oSome (cVar 1)) (oSome (cC (.int (63))))) cNil)) (Z.gTup [(Z.gName 3), (Z.gName 4)]) (B_law_cells_1b Φ))
def B_law_cells_2 (Φ : Calls) : EvS := (sRet (cVar 2))
def B_law_cells_t2 (Φ : Calls) : EvS := sSeq (B_law_cells_2 Φ) sPass
def B_law_cells_t1 (Φ : Calls) : EvS := sSeq (B_law_cells_1 Φ) (B_law_cells_t2 Φ)
def B_law_cells (Φ : Calls) : EvS := sSeq (B_law_cells_0 Φ) (B_law_cells_t1 Φ)
theorem r_law_cells (d : Nat) (as : List PV) (R h : Mem) : runF G (d + 1) "_law_cells" as R h = finPure R h (B_law_cells (runF G d) (R ++ h) (startE 6 as) []) := by kernel_rfl
def B_law_of_0 (Φ : Calls) : EvS := (sRet (cOp2 fIx (cVar 1) (cCall (Φ "_law_take") 2 [] (cCons (cVar 0) (cCons (cFn (one fLen) (cCons (cVar 1) cNil)) cNil)))))
def B_law_of (Φ : Calls) : EvS := sSeq (B_law_of_0 Φ) sPass
theorem r_law_of (d : Nat) (as : List PV) (R h : Mem) : runF G (d + 1) "_law_of" as R h = finMut R h (B_law_of (runF G d) R (startE 2 as) h) := by kernel_rfl
def B_law_pick_0 (Φ : Calls) : EvS := (sPar2 3 4 (cCons (cNew (aList (cCons (cVar 1) cNil))) (cCons (cNew cNil) cNil)))
def B_law_pick_1b_0 (Φ : Calls) : EvS := (sExpr (cMut mAppend (cVar 4) (cCons (cMut mPopA (cVar 3) (cCons (cCall (Φ "_law_take") 2 [] (cCons (cVar 0) (cCons (cFn (one fLen) (cCons (cVar 3) cNil)) cNil))) cNil)) cNil)))
def B_law_pick_1b (Φ : Calls) : EvS := sSeq (B_law_pick_1b_0 Φ) sPass
def B_law_pick_1 (Φ : Calls) : EvS := (sFor (iRange1 (cCons (cFn fMin (cCons (cFn (one fInt) (cCons (cVar 2) cNil)) (cCons (cFn (one fLen) (cCons (cVar 3) cNil)) cNil))) cNil)) (Z.gName 5) (B_law_pick_1b Φ))
def B_law_pick_2 (Φ : Calls) : EvS := (sRet (cVar 4))
def B_law_pick_t2 (Φ : Calls) : EvS := sSeq (B_law_pick_2 Φ) sPass
def B_law_pick_t1 (Φ : Calls) : EvS := sSeq (B_law_pick_1 Φ) (B_law_pick_t2 Φ)
def B_law_pick (Φ : Calls) : EvS := sSeq (B_law_pick_0 Φ) (B_law_pick_t1 Φ)
theorem r_law_pick (d : Nat) (as : List PV) (R h : Mem) : runF G (d + 1) "_law_pick" as R h = finMut R h (B_law_pick (runF G d) R (startE 6 as) h) := by kernel_rfl
def B_law_same_0 (Φ : Calls) : EvS := (sIf (cTruth (cFn (isiX G.sub? G.subT?) (cCons (cVar 1) (cCons (cFn fTup (cCons (cC (.ty "list")) (cCons (cC (.ty "tuple")) cNil))) cNil)))) (sSeq (sIf (cCmpT fNe (cFn (isiX G.sub? G.subT?) (cCons (cVar 0) (cCons (cC (.ty "list")) cNil))) (cFn (isiX G.sub? G.subT?) (cCons (cVar 1) (cCons (cC (.ty "list")) cNil)))) (sSeq (sRet (cC (.bl false))) sPass) sPass) (sSeq (sIf (cCmpT fNe (cFn (isiX G.sub? G.subT?) (cCons (cVar 0) (cCons (cC (.ty "tuple")) cNil))) (cFn (isiX G.sub? G.subT?) (cCons (cVar 1) (cCons (cC (.ty "tuple")) cNil)))) (sSeq (sRet (cC (.bl false))) sPass) sPass) (sSeq (sRet (cAndV (cOp2 fEq (cFn (one fLen) (cCons (cVar 0) cNil)) (cFn (one fLen) (cCons (cVar 1) cNil))) (cFn (one fAll) (cCons (cLc [2, 3] (iZipE (cCons (cVar 0) (cCons (cVar 1) cNil))) (Z.gTup [(Z.gName 2), (Z.gName 3)]) tYesE (cCall (Φ "_law_same") 2 [] (cCons (cVar 2) (cCons (cVar 3) cNil)))) cNil)))) sPass))) sPass)
def B_law_same_1 (Φ : Calls) : EvS := (sIf (tOr2 (cCmpT fIs (cVar 1) (cC (.non))) (cTruth (cFn (isiX G.sub? G.subT?) (cCons (cVar 1) (cCons (cFn fTup (cCons (cC (.ty "bool")) (cCons (cC (.ty "str")) cNil))) cNil))))) (sSeq (sRet (cAndV (cOp2 fEq (cVar 0) (cVar 1)) (cAndV (cOp2 fEq (cFn (isiX G.sub? G.subT?) (cCons (cVar 0) (cCons (cC (.ty "bool")) cNil))) (cFn (isiX G.sub? G.subT?) (cCons (cVar 1) (cCons (cC (.ty "bool")) cNil)))) (cOp2 fEq (cOp2 fIs (cVar 0) (cC (.non))) (cOp2 fIs (cVar 1) (cC (.non))))))) sPass) sPass)
def B_law_same_2 (Φ : Calls) : EvS := (sRet (cAndV (cFn (isiX G.sub? G.subT?) (cCons (cVar 0) (cCons (cC (.ty "int")) cNil))) (cAndV (cNotV (cFn (isiX G.sub? G.subT?) (cCons (cVar 0) (cCons (cC (.ty "bool")) cNil)))) (cOp2 fEq (cVar 0) (cVar 1)))))
def B_law_same_t2 (Φ : Calls) : EvS := sSeq (B_law_same_2 Φ) sPass
def B_law_same_t1 (Φ : Calls) : EvS := sSeq (B_law_same_1 Φ) (B_law_same_t2 Φ)
def B_law_same (Φ : Calls) : EvS := sSeq (B_law_same_0 Φ) (B_law_same_t1 Φ)
theorem r_law_same (d : Nat) (as : List PV) (R h : Mem) : runF G (d + 1) "_law_same" as R h = finPure R h (B_law_same (runF G d) (R ++ h) (startE 4 as) []) := by kernel_rfl
def B_law_steps_0 (Φ : Calls) : EvS := (sAsg (Z.gName 2) (cFn fLst (cCons (cFn fLst (cCons (cC (.str "a")) (cCons (cC (.str "ab")) (cCons (cC (.str "b")) (cCons (cC (.str "c")) (cCons (cC (.str "x")) (cCons (cC (.str "y")) cNil))))))) (cCons (cFn fLst (cCons (cC (.str "begin")) (cCons (cC (.str "end")) (cCons (cC (.str "for")) (cCons (cC (.str "of")) (cCons (cC (.str "on")) (cCons (cC (.str "to")) cNil))))))) cNil))))
def B_law_steps_1 (Φ : Calls) : EvS := (sAsg (Z.gName 2) (cOp2 fAdd (cVar 2) (cFn fLst (cCons (cFn fLst (cCons (cC (.str "abcdefgh")) (cCons (cC (.str "abcdefgi")) (cCons (cC (.str "p")) (cCons (cC (.str "q")) (cCons (cC (.str "z")) (cCons (cC (.str "zz")) cNil))))))) cNil))))
def B_law_steps_2 (Φ : Calls) : EvS := (sRet (cFn (one fTuple) (cCons (cFn (one fSorted) (cCons (cCall (Φ "_law_pick") 3 [] (cCons (cVar 0) (cCons (cCall (Φ "_law_of") 2 [] (cCons (cVar 0) (cCons (cVar 2) cNil))) (cCons (cCall (Φ "_law_take") 2 [] (cCons (cVar 0) (cCons (cOp2 fAdd (cVar 1) (cC (.int (1)))) cNil))) cNil)))) cNil)) cNil)))
def B_law_steps_t2 (Φ : Calls) : EvS := sSeq (B_law_steps_2 Φ) sPass
def B_law_steps_t1 (Φ : Calls) : EvS := sSeq (B_law_steps_1 Φ) (B_law_steps_t2 Φ)
def B_law_steps (Φ : Calls) : EvS := sSeq (B_law_steps_0 Φ) (B_law_steps_t1 Φ)
theorem r_law_steps (d : Nat) (as : List PV) (R h : Mem) : runF G (d + 1) "_law_steps" as R h = finMut R h (B_law_steps (runF G d) R (startE 3 as) h) := by kernel_rfl
def B_law_webs_0 (Φ : Calls) : EvS := (sPar3 2 3 4 (cCons (cCall (Φ "_law_pick") 3 [] (cCons (cVar 0) (cCons (cFn (one fList) (cCons (cVar 1) cNil)) (cCons (cFn (one fLen) (cCons (cVar 1) cNil)) cNil)))) (cCons (cFn fLst cNil) (cCons (cFn fLst cNil) cNil))))
def B_law_webs_1b_0b_0 (Φ : Calls) : EvS := (sAsg (Z.gName 7) (cCall (Φ "_law_take") 2 [] (cCons (cVar 0) (cCons (cC (.int (4))) cNil))))
def B_law_webs_1b_0b_1 (Φ : Calls) : EvS := (sAsg (Z.gName 3) (cOp2 fAdd (cVar 3) (cOp2 fMul (cFn fLst (cCons (cFn fTup (cCons (cOp2 fIx (cVar 2) (cVar 6)) (cCons (cOp2 fIx (cVar 2) (cVar 5)) cNil))) cNil)) (cFn (one fInt) (cCons (cOp2 fEq (cVar 7) (cC (.int (0)))) cNil)))))
def B_law_webs_1b_0b_2 (Φ : Calls) : EvS := (sAsg (Z.gName 4) (cOp2 fAdd (cVar 4) (cOp2 fMul (cFn fLst (cCons (cFn fTup (cCons (cOp2 fIx (cVar 2) (cVar 6)) (cCons (cOp2 fIx (cVar 2) (cVar 5)) cNil))) cNil)) (cFn (one fInt) (cCons (cOp2 fEq (cVar 7) (cC (.int (1)))) cNil)))))
def B_law_webs_1b_0b_t2 (Φ : Calls) : EvS := sSeq (B_law_webs_1b_0b_2 Φ) sPass
def B_law_webs_1b_0b_t1 (Φ : Calls) : EvS := sSeq (B_law_webs_1b_0b_1 Φ) (B_law_webs_1b_0b_t2 Φ)
def B_law_webs_1b_0b (Φ : Calls) : EvS := sSeq (B_law_webs_1b_0b_0 Φ) (B_law_webs_1b_0b_t1 Φ)
def B_law_webs_1b_0 (Φ : Calls) : EvS := (sFor (iRange1 (cCons (cVar 5) cNil)) (Z.gName 6) (B_law_webs_1b_0b Φ))
def B_law_webs_1b (Φ : Calls) : EvS := sSeq (B_law_webs_1b_0 Φ) sPass
def B_law_webs_1 (Φ : Calls) : EvS := (sFor (iRange1 (cCons (cFn (one fLen) (cCons (cVar 2) cNil)) cNil)) (Z.gName 5) (B_law_webs_1b Φ))
def B_law_webs_2 (Φ : Calls) : EvS := (sRet (cFn fTup (cCons (cFn (one fTuple) (cCons (cFn (one fSorted) (cCons (cVar 3) cNil)) cNil)) (cCons (cFn (one fTuple) (cCons (cFn (one fSorted) (cCons (cVar 4) cNil)) cNil)) cNil))))
def B_law_webs_t2 (Φ : Calls) : EvS := sSeq (B_law_webs_2 Φ) sPass
def B_law_webs_t1 (Φ : Calls) : EvS := sSeq (B_law_webs_1 Φ) (B_law_webs_t2 Φ)
def B_law_webs (Φ : Calls) : EvS := sSeq (B_law_webs_0 Φ) (B_law_webs_t1 Φ)
theorem r_law_webs (d : Nat) (as : List PV) (R h : Mem) : runF G (d + 1) "_law_webs" as R h = finMut R h (B_law_webs (runF G d) R (startE 8 as) h) := by kernel_rfl
def B_law_heard_0 (Φ : Calls) : EvS := (sAsg (Z.gTup [(Z.gName 2), (Z.gName 3)]) (cFn fTup (cCons (cC (.non)) (cCons (cC (.non)) cNil))))
def B_law_heard_1 (Φ : Calls) : EvS := (sTryX (fun c => G.sub? c "BadText") 4 (sSeq (sAsg (Z.gName 3) (cCallV G.np Φ (cOp2 fIx (cFn fLst (cCons (cC (.fn "steps_from")) (cCons (cC (.fn "pairs_from")) (cCons (cC (.fn "sizes_from")) (cCons (cC (.fn "run_from")) cNil))))) (cVar 1)) (cCons (cVar 0) cNil))) sPass) (sSeq (sAsg (Z.gName 2) (cVar 4)) sPass))
def B_law_heard_2 (Φ : Calls) : EvS := (sRet (cIf (cCmpT fIs (cVar 2) (cC (.non))) (cVar 3) (cFn fLst (cCons (cAttr G.fldOf "piece" (cVar 2)) cNil))))
def B_law_heard_t2 (Φ : Calls) : EvS := sSeq (B_law_heard_2 Φ) sPass
def B_law_heard_t1 (Φ : Calls) : EvS := sSeq (B_law_heard_1 Φ) (B_law_heard_t2 Φ)
def B_law_heard (Φ : Calls) : EvS := sSeq (B_law_heard_0 Φ) (B_law_heard_t1 Φ)
theorem r_law_heard (d : Nat) (as : List PV) (R h : Mem) : runF G (d + 1) "_law_heard" as R h = finPure R h (B_law_heard (runF G d) (R ++ h) (startE 5 as) []) := by kernel_rfl
def B_law_heard_right_0 (Φ : Calls) : EvS := (sAsg (Z.gName 2) (cLc [3, 4] (iVal (cVar 0)) (Z.gTup [(Z.gName 3), (Z.gName 4)]) tYesE (cCall (Φ "_law_heard") 2 [] (cCons (cVar 3) (cCons (cVar 1) cNil)))))
def B_law_heard_right_1 (Φ : Calls) : EvS := (sRet (cCall (Φ "_law_same") 2 [] (cCons (cVar 2) (cCons (cLc [3, 4] (iVal (cVar 0)) (Z.gTup [(Z.gName 3), (Z.gName 4)]) tYesE (cFn fLst (cCons (cVar 4) cNil))) cNil))))
def B_law_heard_right_t1 (Φ : Calls) : EvS := sSeq (B_law_heard_right_1 Φ) sPass
def B_law_heard_right (Φ : Calls) : EvS := sSeq (B_law_heard_right_0 Φ) (B_law_heard_right_t1 Φ)
theorem r_law_heard_right (d : Nat) (as : List PV) (R h : Mem) : runF G (d + 1) "_law_heard_right" as R h = finPure R h (B_law_heard_right (runF G d) (R ++ h) (startE 5 as) []) := by kernel_rfl
def B_law_by_hand_right_0 (Φ : Calls) : EvS := (sAsg (Z.gName 0) (cFn fLst (cCons (cFn fTup (cCons (cC (.str "")) (cCons (cC (.int (0))) cNil))) (cCons (cFn fTup (cCons (cC (.str " ")) (cCons (cC (.int (0))) cNil))) (cCons (cFn fTup (cCons (cC (.str "--")) (cCons (cC (.int (0))) cNil))) (cCons (cFn fTup (cCons (cC (.str "- a")) (cCons (cC (.int (0))) cNil))) (cCons (cFn fTup (cCons (cC (.str "a -")) (cCons (cC (.int (1))) cNil))) cNil)))))))
def B_law_by_hand_right_1 (Φ : Calls) : EvS := (sAsg (Z.gName 0) (cOp2 fAdd (cVar 0) (cFn fLst (cCons (cFn fTup (cCons (cC (.str "a  b")) (cCons (cC (.int (1))) cNil))) (cCons (cFn fTup (cCons (cC (.str " a")) (cCons (cC (.int (0))) cNil))) (cCons (cFn fTup (cCons (cC (.str "a ")) (cCons (cC (.int (1))) cNil))) (cCons (cFn fTup (cCons (cC (.str "a,b")) (cCons (cC (.int (0))) cNil))) (cCons (cFn fTup (cCons (cC (.str "A")) (cCons (cC (.int (0))) cNil))) cNil))))))))
def B_law_by_hand_right_2 (Φ : Calls) : EvS := (sAsg (Z.gName 0) (cOp2 fAdd (cVar 0) (cFn fLst (cCons (cFn fTup (cCons (cC (.str "a B")) (cCons (cC (.int (1))) cNil))) (cCons (cFn fTup (cCons (cC (.str "a1")) (cCons (cC (.int (0))) cNil))) (cCons (cFn fTup (cCons (cC (.str "b a")) (cCons (cC (.int (1))) cNil))) (cCons (cFn fTup (cCons (cC (.str "a a")) (cCons (cC (.int (1))) cNil))) cNil)))))))
def B_law_by_hand_right_3 (Φ : Calls) : EvS := (sAsg (Z.gName 0) (cOp2 fAdd (cVar 0) (cFn fLst (cCons (cFn fTup (cCons (cC (.str "a b ab")) (cCons (cC (.int (2))) cNil))) (cCons (cFn fTup (cCons (cC (.str "a b abcdefghi")) (cCons (cC (.int (2))) cNil))) (cCons (cFn fTup (cCons (cC (.str "a; b")) (cCons (cC (.int (0))) cNil))) (cCons (cFn fTup (cCons (cC (.str "+a")) (cCons (cC (.int (0))) cNil))) cNil)))))))
def B_law_by_hand_right_4 (Φ : Calls) : EvS := (sIf (tNot1 (cTruth (cCall (Φ "_law_heard_right") 2 [] (cCons (cOp2 fAdd (cVar 0) (cFn fLst (cCons (cFn fTup (cCons (cC (.str "c a b")) (cCons (cC (.int (1))) cNil))) (cCons (cFn fTup (cCons (cC (.str "a c b d")) (cCons (cC (.int (2))) cNil))) (cCons (cFn fTup (cCons (cC (.str "ab a")) (cCons (cC (.int (1))) cNil))) cNil))))) (cCons (cC (.int (0))) cNil))))) (sSeq (sRet (cC (.bl false))) sPass) sPass)
def B_law_by_hand_right_5 (Φ : Calls) : EvS := (sAsg (Z.gName 0) (cFn fLst (cCons (cFn fTup (cCons (cC (.str "")) (cCons (cC (.int (0))) cNil))) (cCons (cFn fTup (cCons (cC (.str " ")) (cCons (cC (.int (0))) cNil))) (cCons (cFn fTup (cCons (cC (.str "a")) (cCons (cC (.int (0))) cNil))) (cCons (cFn fTup (cCons (cC (.str "a a")) (cCons (cC (.int (0))) cNil))) (cCons (cFn fTup (cCons (cC (.str "a b c")) (cCons (cC (.int (0))) cNil))) cNil)))))))
def B_law_by_hand_right_6 (Φ : Calls) : EvS := (sAsg (Z.gName 0) (cOp2 fAdd (cVar 0) (cFn fLst (cCons (cFn fTup (cCons (cC (.str "a  b")) (cCons (cC (.int (0))) cNil))) (cCons (cFn fTup (cCons (cC (.str " a b")) (cCons (cC (.int (0))) cNil))) (cCons (cFn fTup (cCons (cC (.str "a b ")) (cCons (cC (.int (0))) cNil))) (cCons (cFn fTup (cCons (cC (.str "A b")) (cCons (cC (.int (0))) cNil))) cNil)))))))
def B_law_by_hand_right_7 (Φ : Calls) : EvS := (sAsg (Z.gName 0) (cOp2 fAdd (cVar 0) (cFn fLst (cCons (cFn fTup (cCons (cC (.str "a 1")) (cCons (cC (.int (0))) cNil))) (cCons (cFn fTup (cCons (cC (.str "a b; a b")) (cCons (cC (.int (1))) cNil))) (cCons (cFn fTup (cCons (cC (.str "b c; a b")) (cCons (cC (.int (1))) cNil))) cNil))))))
def B_law_by_hand_right_8 (Φ : Calls) : EvS := (sAsg (Z.gName 0) (cOp2 fAdd (cVar 0) (cFn fLst (cCons (cFn fTup (cCons (cC (.str "a b; b c; b a")) (cCons (cC (.int (2))) cNil))) (cCons (cFn fTup (cCons (cC (.str "a b;b c")) (cCons (cC (.int (0))) cNil))) (cCons (cFn fTup (cCons (cC (.str "a b; ")) (cCons (cC (.int (1))) cNil))) cNil))))))
def B_law_by_hand_right_9 (Φ : Calls) : EvS := (sAsg (Z.gName 0) (cOp2 fAdd (cVar 0) (cFn fLst (cCons (cFn fTup (cCons (cC (.str "a b; -")) (cCons (cC (.int (1))) cNil))) (cCons (cFn fTup (cCons (cC (.str "-; a b")) (cCons (cC (.int (0))) cNil))) (cCons (cFn fTup (cCons (cC (.str "--")) (cCons (cC (.int (0))) cNil))) cNil))))))
def B_law_by_hand_right_10 (Φ : Calls) : EvS := (sAsg (Z.gName 0) (cOp2 fAdd (cVar 0) (cFn fLst (cCons (cFn fTup (cCons (cC (.str "a > b")) (cCons (cC (.int (0))) cNil))) (cCons (cFn fTup (cCons (cC (.str "a b, b c")) (cCons (cC (.int (0))) cNil))) (cCons (cFn fTup (cCons (cC (.str "abcdefghi a")) (cCons (cC (.int (0))) cNil))) cNil))))))
def B_law_by_hand_right_11 (Φ : Calls) : EvS := (sIf (tNot1 (cTruth (cCall (Φ "_law_heard_right") 2 [] (cCons (cOp2 fAdd (cVar 0) (cFn fLst (cCons (cFn fTup (cCons (cC (.str "a b; b c; b")) (cCons (cC (.int (2))) cNil))) (cCons (cFn fTup (cCons (cC (.str "a c; a b; b c")) (cCons (cC (.int (1))) cNil))) (cCons (cFn fTup (cCons (cC (.str "a b;; b c")) (cCons (cC (.int (0))) cNil))) cNil))))) (cCons (cC (.int (1))) cNil))))) (sSeq (sRet (cC (.bl false))) sPass) sPass)
def B_law_by_hand_right_12 (Φ : Calls) : EvS := (sAsg (Z.gName 0) (cFn fLst (cCons (cFn fTup (cCons (cC (.str "")) (cCons (cC (.int (0))) cNil))) (cCons (cFn fTup (cCons (cC (.str " ")) (cCons (cC (.int (0))) cNil))) (cCons (cFn fTup (cCons (cC (.str "--")) (cCons (cC (.int (0))) cNil))) (cCons (cFn fTup (cCons (cC (.str "- 0")) (cCons (cC (.int (0))) cNil))) (cCons (cFn fTup (cCons (cC (.str "0 -")) (cCons (cC (.int (1))) cNil))) cNil)))))))
def B_law_by_hand_right_13 (Φ : Calls) : EvS := (sAsg (Z.gName 0) (cOp2 fAdd (cVar 0) (cFn fLst (cCons (cFn fTup (cCons (cC (.str "0  1")) (cCons (cC (.int (1))) cNil))) (cCons (cFn fTup (cCons (cC (.str " 0")) (cCons (cC (.int (0))) cNil))) (cCons (cFn fTup (cCons (cC (.str "0 ")) (cCons (cC (.int (1))) cNil))) (cCons (cFn fTup (cCons (cC (.str "0,1")) (cCons (cC (.int (0))) cNil))) (cCons (cFn fTup (cCons (cC (.str "a")) (cCons (cC (.int (0))) cNil))) cNil))))))))
def B_law_by_hand_right_14 (Φ : Calls) : EvS := (sAsg (Z.gName 0) (cOp2 fAdd (cVar 0) (cFn fLst (cCons (cFn fTup (cCons (cC (.str "00")) (cCons (cC (.int (0))) cNil))) (cCons (cFn fTup (cCons (cC (.str "01")) (cCons (cC (.int (0))) cNil))) (cCons (cFn fTup (cCons (cC (.str "-1")) (cCons (cC (.int (0))) cNil))) (cCons (cFn fTup (cCons (cC (.str "+1")) (cCons (cC (.int (0))) cNil))) cNil)))))))
def B_law_by_hand_right_15 (Φ : Calls) : EvS := (sAsg (Z.gName 0) (cOp2 fAdd (cVar 0) (cFn fLst (cCons (cFn fTup (cCons (cC (.str "1.0")) (cCons (cC (.int (0))) cNil))) (cCons (cFn fTup (cCons (cC (.str "0 1 02")) (cCons (cC (.int (2))) cNil))) (cCons (cFn fTup (cCons (cC (.str "0; 1")) (cCons (cC (.int (0))) cNil))) (cCons (cFn fTup (cCons (cC (.str "1 a 2 b")) (cCons (cC (.int (1))) cNil))) cNil)))))))
def B_law_by_hand_right_16 (Φ : Calls) : EvS := (sIf (tNot1 (cTruth (cCall (Φ "_law_heard_right") 2 [] (cCons (cVar 0) (cCons (cC (.int (2))) cNil))))) (sSeq (sRet (cC (.bl false))) sPass) sPass)
def B_law_by_hand_right_17 (Φ : Calls) : EvS := (sAsg (Z.gName 0) (cFn fLst (cCons (cFn fTup (cCons (cC (.str "")) (cCons (cC (.int (0))) cNil))) (cCons (cFn fTup (cCons (cC (.str " ")) (cCons (cC (.int (0))) cNil))) (cCons (cFn fTup (cCons (cC (.str "--")) (cCons (cC (.int (0))) cNil))) (cCons (cFn fTup (cCons (cC (.str "+")) (cCons (cC (.int (0))) cNil))) (cCons (cFn fTup (cCons (cC (.str "- +a")) (cCons (cC (.int (0))) cNil))) cNil)))))))
def B_law_by_hand_right_18 (Φ : Calls) : EvS := (sAsg (Z.gName 0) (cOp2 fAdd (cVar 0) (cFn fLst (cCons (cFn fTup (cCons (cC (.str "+a -")) (cCons (cC (.int (1))) cNil))) (cCons (cFn fTup (cCons (cC (.str "a")) (cCons (cC (.int (0))) cNil))) (cCons (cFn fTup (cCons (cC (.str "+ a")) (cCons (cC (.int (0))) cNil))) (cCons (cFn fTup (cCons (cC (.str "++a")) (cCons (cC (.int (0))) cNil))) (cCons (cFn fTup (cCons (cC (.str "+A")) (cCons (cC (.int (0))) cNil))) cNil))))))))
def B_law_by_hand_right_19 (Φ : Calls) : EvS := (sAsg (Z.gName 0) (cOp2 fAdd (cVar 0) (cFn fLst (cCons (cFn fTup (cCons (cC (.str "+a  -a")) (cCons (cC (.int (1))) cNil))) (cCons (cFn fTup (cCons (cC (.str " +a")) (cCons (cC (.int (0))) cNil))) (cCons (cFn fTup (cCons (cC (.str "+a ")) (cCons (cC (.int (1))) cNil))) (cCons (cFn fTup (cCons (cC (.str "+a,-a")) (cCons (cC (.int (0))) cNil))) cNil)))))))
def B_law_by_hand_right_20 (Φ : Calls) : EvS := (sAsg (Z.gName 0) (cOp2 fAdd (cVar 0) (cFn fLst (cCons (cFn fTup (cCons (cC (.str "+a1")) (cCons (cC (.int (0))) cNil))) (cCons (cFn fTup (cCons (cC (.str "+a b")) (cCons (cC (.int (1))) cNil))) (cCons (cFn fTup (cCons (cC (.str "+abcdefghi")) (cCons (cC (.int (0))) cNil))) (cCons (cFn fTup (cCons (cC (.str "*a")) (cCons (cC (.int (0))) cNil))) cNil)))))))
def B_law_by_hand_right_21 (Φ : Calls) : EvS := (sIf (tNot1 (cTruth (cCall (Φ "_law_heard_right") 2 [] (cCons (cOp2 fAdd (cVar 0) (cFn fLst (cCons (cFn fTup (cCons (cC (.str "+a -a +")) (cCons (cC (.int (2))) cNil))) (cCons (cFn fTup (cCons (cC (.str "+a-a")) (cCons (cC (.int (0))) cNil))) (cCons (cFn fTup (cCons (cC (.str "+a; -a")) (cCons (cC (.int (0))) cNil))) cNil))))) (cCons (cC (.int (3))) cNil))))) (sSeq (sRet (cC (.bl false))) sPass) sPass)
def B_law_by_hand_right_22 (Φ : Calls) : EvS := (sAsg (Z.gName 1) (cOp2 fAdd (cLc [2] (iRange1 (cCons (cC (.int (4))) cNil)) (Z.gName 2) tYesE (cCall (Φ "_law_heard") 2 [] (cCons (cC (.str "-")) (cCons (cVar 2) cNil)))) (cFn fLst (cCons (cCall (Φ "_law_heard") 2 [] (cCons (cC (.str "begin end")) (cCons (cC (.int (0))) cNil))) (cCons (cCall (Φ "_law_heard") 2 [] (cCons (cC (.str "a b; b a")) (cCons (cC (.int (1))) cNil))) cNil)))))
def B_law_by_hand_right_23 (Φ : Calls) : EvS := (sAsg (Z.gName 1) (cOp2 fAdd (cVar 1) (cFn fLst (cCons (cCall (Φ "_law_heard") 2 [] (cCons (cC (.str "0 0 10")) (cCons (cC (.int (2))) cNil))) (cCons (cCall (Φ "_law_heard") 2 [] (cCons (cC (.str "-a -a")) (cCons (cC (.int (3))) cNil))) cNil)))))
def B_law_by_hand_right_24 (Φ : Calls) : EvS := (sAsg (Z.gName 3) (cFn fLst (cCons (cFn fTup cNil) (cCons (cFn fTup cNil) (cCons (cFn fTup cNil) (cCons (cFn fTup cNil) cNil))))))
def B_law_by_hand_right_25 (Φ : Calls) : EvS := (sAsg (Z.gName 3) (cOp2 fAdd (cVar 3) (cFn fLst (cCons (cFn fTup (cCons (cC (.str "begin")) (cCons (cC (.str "end")) cNil))) (cCons (cFn fTup (cCons (cFn fTup (cCons (cC (.str "a")) (cCons (cC (.str "b")) cNil))) (cCons (cFn fTup (cCons (cC (.str "b")) (cCons (cC (.str "a")) cNil))) cNil))) (cCons (cFn fTup (cCons (cC (.int (0))) (cCons (cC (.int (0))) (cCons (cC (.int (10))) cNil)))) (cCons (cFn fTup (cCons (cFn fTup (cCons (cC (.str "end")) (cCons (cC (.str "a")) cNil))) (cCons (cFn fTup (cCons (cC (.str "end")) (cCons (cC (.str "a")) cNil))) cNil))) cNil)))))))
def B_law_by_hand_right_26 (Φ : Calls) : EvS := (sRet (cCall (Φ "_law_same") 2 [] (cCons (cVar 1) (cCons (cVar 3) cNil))))
def B_law_by_hand_right_t26 (Φ : Calls) : EvS := sSeq (B_law_by_hand_right_26 Φ) sPass
def B_law_by_hand_right_t25 (Φ : Calls) : EvS := sSeq (B_law_by_hand_right_25 Φ) (B_law_by_hand_right_t26 Φ)
def B_law_by_hand_right_t24 (Φ : Calls) : EvS := sSeq (B_law_by_hand_right_24 Φ) (B_law_by_hand_right_t25 Φ)
def B_law_by_hand_right_t23 (Φ : Calls) : EvS := sSeq (B_law_by_hand_right_23 Φ) (B_law_by_hand_right_t24 Φ)
def B_law_by_hand_right_t22 (Φ : Calls) : EvS := sSeq (B_law_by_hand_right_22 Φ) (B_law_by_hand_right_t23 Φ)
def B_law_by_hand_right_t21 (Φ : Calls) : EvS := sSeq (B_law_by_hand_right_21 Φ) (B_law_by_hand_right_t22 Φ)
def B_law_by_hand_right_t20 (Φ : Calls) : EvS := sSeq (B_law_by_hand_right_20 Φ) (B_law_by_hand_right_t21 Φ)
def B_law_by_hand_right_t19 (Φ : Calls) : EvS := sSeq (B_law_by_hand_right_19 Φ) (B_law_by_hand_right_t20 Φ)
def B_law_by_hand_right_t18 (Φ : Calls) : EvS := sSeq (B_law_by_hand_right_18 Φ) (B_law_by_hand_right_t19 Φ)
def B_law_by_hand_right_t17 (Φ : Calls) : EvS := sSeq (B_law_by_hand_right_17 Φ) (B_law_by_hand_right_t18 Φ)
def B_law_by_hand_right_t16 (Φ : Calls) : EvS := sSeq (B_law_by_hand_right_16 Φ) (B_law_by_hand_right_t17 Φ)
def B_law_by_hand_right_t15 (Φ : Calls) : EvS := sSeq (B_law_by_hand_right_15 Φ) (B_law_by_hand_right_t16 Φ)
def B_law_by_hand_right_t14 (Φ : Calls) : EvS := sSeq (B_law_by_hand_right_14 Φ) (B_law_by_hand_right_t15 Φ)
def B_law_by_hand_right_t13 (Φ : Calls) : EvS := sSeq (B_law_by_hand_right_13 Φ) (B_law_by_hand_right_t14 Φ)
def B_law_by_hand_right_t12 (Φ : Calls) : EvS := sSeq (B_law_by_hand_right_12 Φ) (B_law_by_hand_right_t13 Φ)
def B_law_by_hand_right_t11 (Φ : Calls) : EvS := sSeq (B_law_by_hand_right_11 Φ) (B_law_by_hand_right_t12 Φ)
def B_law_by_hand_right_t10 (Φ : Calls) : EvS := sSeq (B_law_by_hand_right_10 Φ) (B_law_by_hand_right_t11 Φ)
def B_law_by_hand_right_t9 (Φ : Calls) : EvS := sSeq (B_law_by_hand_right_9 Φ) (B_law_by_hand_right_t10 Φ)
def B_law_by_hand_right_t8 (Φ : Calls) : EvS := sSeq (B_law_by_hand_right_8 Φ) (B_law_by_hand_right_t9 Φ)
def B_law_by_hand_right_t7 (Φ : Calls) : EvS := sSeq (B_law_by_hand_right_7 Φ) (B_law_by_hand_right_t8 Φ)
def B_law_by_hand_right_t6 (Φ : Calls) : EvS := sSeq (B_law_by_hand_right_6 Φ) (B_law_by_hand_right_t7 Φ)
def B_law_by_hand_right_t5 (Φ : Calls) : EvS := sSeq (B_law_by_hand_right_5 Φ) (B_law_by_hand_right_t6 Φ)
def B_law_by_hand_right_t4 (Φ : Calls) : EvS := sSeq (B_law_by_hand_right_4 Φ) (B_law_by_hand_right_t5 Φ)
def B_law_by_hand_right_t3 (Φ : Calls) : EvS := sSeq (B_law_by_hand_right_3 Φ) (B_law_by_hand_right_t4 Φ)
def B_law_by_hand_right_t2 (Φ : Calls) : EvS := sSeq (B_law_by_hand_right_2 Φ) (B_law_by_hand_right_t3 Φ)
def B_law_by_hand_right_t1 (Φ : Calls) : EvS := sSeq (B_law_by_hand_right_1 Φ) (B_law_by_hand_right_t2 Φ)
def B_law_by_hand_right (Φ : Calls) : EvS := sSeq (B_law_by_hand_right_0 Φ) (B_law_by_hand_right_t1 Φ)
theorem r_law_by_hand_right (d : Nat) (as : List PV) (R h : Mem) : runF G (d + 1) "_law_by_hand_right" as R h = finPure R h (B_law_by_hand_right (runF G d) (R ++ h) (startE 4 as) []) := by kernel_rfl
def B_law_bent_right_0 (Φ : Calls) : EvS := (sAsg (Z.gName 5) (cNew (aSplit (cVar 1) (cCons (cVar 2) cNil))))
def B_law_bent_right_1 (Φ : Calls) : EvS := (sAsg (Z.gName 6) (cCall (Φ "_law_take") 2 [] (cCons (cVar 0) (cCons (cFn (one fLen) (cCons (cVar 5) cNil)) cNil))))
def B_law_bent_right_2 (Φ : Calls) : EvS := (sAsg (gSubL (cVar 5) (cVar 6)) (cCall (Φ "_law_of") 2 [] (cCons (cVar 0) (cCons (cOp2 fAdd (cVar 4) (cFn fLst (cCons (cOp2 fAdd (cOp2 fIx (cVar 5) (cVar 6)) (cC (.str "_"))) (cCons (cOp2 fAdd (cC (.str "A")) (cOp2 fIx (cVar 5) (cVar 6))) (cCons (cC (.str "")) cNil))))) cNil))))
def B_law_bent_right_3 (Φ : Calls) : EvS := (sRet (cCall (Φ "_law_same") 2 [] (cCons (cCall (Φ "_law_heard") 2 [] (cCons (cStrM sJoin (cVar 2) (cCons (cVar 5) cNil)) (cCons (cVar 3) cNil))) (cCons (cFn fLst (cCons (cVar 6) cNil)) cNil))))
def B_law_bent_right_t3 (Φ : Calls) : EvS := sSeq (B_law_bent_right_3 Φ) sPass
def B_law_bent_right_t2 (Φ : Calls) : EvS := sSeq (B_law_bent_right_2 Φ) (B_law_bent_right_t3 Φ)
def B_law_bent_right_t1 (Φ : Calls) : EvS := sSeq (B_law_bent_right_1 Φ) (B_law_bent_right_t2 Φ)
def B_law_bent_right (Φ : Calls) : EvS := sSeq (B_law_bent_right_0 Φ) (B_law_bent_right_t1 Φ)
theorem r_law_bent_right (d : Nat) (as : List PV) (R h : Mem) : runF G (d + 1) "_law_bent_right" as R h = finMut R h (B_law_bent_right (runF G d) R (startE 7 as) h) := by kernel_rfl
def B_law_case_right_0 (Φ : Calls) : EvS := (sAsg (Z.gName 1) (cCall (Φ "_law_steps") 2 [] (cCons (cVar 0) (cCons (cC (.int (6))) cNil))))
def B_law_case_right_1 (Φ : Calls) : EvS := (sAsg (Z.gName 2) (cOp2 fIx (cCall (Φ "_law_webs") 2 [] (cCons (cVar 0) (cCons (cVar 1) cNil))) (cC (.int (0)))))
def B_law_case_right_2 (Φ : Calls) : EvS := (sIf (tOr2 (cCmpT fEq (cVar 1) (cFn fTup cNil)) (cCmpT fEq (cVar 2) (cFn fTup cNil))) (sSeq (sRet (cCall (Φ "_law_same") 2 [] (cCons (cFn fLst (cCons (cCall (Φ "_law_heard") 2 [] (cCons (cIf (cCmpT fNe (cVar 1) (cFn fTup cNil)) (cStrM sJoin (cC (.str " ")) (cCons (cVar 1) cNil)) (cC (.str "-"))) (cCons (cC (.int (0))) cNil))) cNil)) (cCons (cFn fLst (cCons (cVar 1) cNil)) cNil)))) sPass) sPass)
def B_law_case_right_3 (Φ : Calls) : EvS := (sAsg (Z.gName 3) (cStrM sJoin (cC (.str "; ")) (cCons (cLc [4, 5] (iVal (cVar 2)) (Z.gTup [(Z.gName 4), (Z.gName 5)]) tYesE (cOp2 fAdd (cOp2 fAdd (cVar 4) (cC (.str " "))) (cVar 5))) cNil)))
def B_law_case_right_4 (Φ : Calls) : EvS := (sAsg (Z.gName 6) (cStrM sJoin (cC (.str " ")) (cCons (cLc [7] (iVal (cVar 1)) (Z.gName 7) tYesE (cOp2 fAdd (cC (.str "+")) (cVar 7))) cNil)))
def B_law_case_right_5 (Φ : Calls) : EvS := (sAsg (Z.gName 8) (cFn fLst (cCons (cCall (Φ "_law_heard") 2 [] (cCons (cStrM sJoin (cC (.str " ")) (cCons (cVar 1) cNil)) (cCons (cC (.int (0))) cNil))) (cCons (cCall (Φ "_law_heard") 2 [] (cCons (cVar 3) (cCons (cC (.int (1))) cNil))) (cCons (cCall (Φ "_law_heard") 2 [] (cCons (cVar 6) (cCons (cC (.int (3))) cNil))) cNil)))))
def B_law_case_right_6 (Φ : Calls) : EvS := (sIf (tNot1 (cTruth (cCall (Φ "_law_same") 2 [] (cCons (cVar 8) (cCons (cFn fLst (cCons (cVar 1) (cCons (cVar 2) (cCons (cFn (one fTuple) (cCons (cLc [7] (iVal (cVar 1)) (Z.gName 7) tYesE (cFn fTup (cCons (cC (.str "begin")) (cCons (cVar 7) cNil)))) cNil)) cNil)))) cNil))))) (sSeq (sRet (cC (.bl false))) sPass) sPass)
def B_law_case_right_7 (Φ : Calls) : EvS := (sIf (tNot1 (cTruth (cCall (Φ "_law_bent_right") 5 [] (cCons (cVar 0) (cCons (cStrM sJoin (cC (.str " ")) (cCons (cVar 1) cNil)) (cCons (cC (.str " ")) (cCons (cC (.int (0))) (cCons (cFn fLst (cCons (cC (.str "--")) (cCons (cC (.str "1")) cNil))) cNil)))))))) (sSeq (sRet (cC (.bl false))) sPass) sPass)
def B_law_case_right_8 (Φ : Calls) : EvS := (sIf (tNot1 (cTruth (cCall (Φ "_law_bent_right") 5 [] (cCons (cVar 0) (cCons (cVar 3) (cCons (cC (.str "; ")) (cCons (cC (.int (1))) (cCons (cFn fLst (cCons (cC (.str "a")) (cCons (cC (.str "a a")) (cCons (cC (.str "a b c")) (cCons (cC (.str "a  b")) cNil))))) cNil)))))))) (sSeq (sRet (cC (.bl false))) sPass) sPass)
def B_law_case_right_9 (Φ : Calls) : EvS := (sRet (cCall (Φ "_law_bent_right") 5 [] (cCons (cVar 0) (cCons (cVar 6) (cCons (cC (.str " ")) (cCons (cC (.int (3))) (cCons (cFn fLst (cCons (cC (.str "a")) (cCons (cC (.str "+")) (cCons (cC (.str "-")) (cCons (cC (.str "+-a")) cNil))))) cNil)))))))
def B_law_case_right_t9 (Φ : Calls) : EvS := sSeq (B_law_case_right_9 Φ) sPass
def B_law_case_right_t8 (Φ : Calls) : EvS := sSeq (B_law_case_right_8 Φ) (B_law_case_right_t9 Φ)
def B_law_case_right_t7 (Φ : Calls) : EvS := sSeq (B_law_case_right_7 Φ) (B_law_case_right_t8 Φ)
def B_law_case_right_t6 (Φ : Calls) : EvS := sSeq (B_law_case_right_6 Φ) (B_law_case_right_t7 Φ)
def B_law_case_right_t5 (Φ : Calls) : EvS := sSeq (B_law_case_right_5 Φ) (B_law_case_right_t6 Φ)
def B_law_case_right_t4 (Φ : Calls) : EvS := sSeq (B_law_case_right_4 Φ) (B_law_case_right_t5 Φ)
def B_law_case_right_t3 (Φ : Calls) : EvS := sSeq (B_law_case_right_3 Φ) (B_law_case_right_t4 Φ)
def B_law_case_right_t2 (Φ : Calls) : EvS := sSeq (B_law_case_right_2 Φ) (B_law_case_right_t3 Φ)
def B_law_case_right_t1 (Φ : Calls) : EvS := sSeq (B_law_case_right_1 Φ) (B_law_case_right_t2 Φ)
def B_law_case_right (Φ : Calls) : EvS := sSeq (B_law_case_right_0 Φ) (B_law_case_right_t1 Φ)
theorem r_law_case_right (d : Nat) (as : List PV) (R h : Mem) : runF G (d + 1) "_law_case_right" as R h = finMut R h (B_law_case_right (runF G d) R (startE 9 as) h) := by kernel_rfl
def B_law_right_0 (Φ : Calls) : EvS := (sRet (cFn (one fAll) (cCons (cLc [1] (iRange1 (cCons (cC (.int (6))) cNil)) (Z.gName 1) tYesE (cCall (Φ "_law_case_right") 1 [] (cCons (cVar 0) cNil))) cNil)))
def B_law_right (Φ : Calls) : EvS := sSeq (B_law_right_0 Φ) sPass
theorem r_law_right (d : Nat) (as : List PV) (R h : Mem) : runF G (d + 1) "_law_right" as R h = finMut R h (B_law_right (runF G d) R (startE 2 as) h) := by kernel_rfl
def B_law_0 (Φ : Calls) : EvS := (sAsg (Z.gName 1) (cCall (Φ "_law_cells") 2 [] (cCons (cVar 0) (cCons (cC (.int (3))) cNil))))
def B_law_1 (Φ : Calls) : EvS := (sRet (cAndV (cCall0 (Φ "_law_by_hand_right") 0 []) (cFn (one fAll) (cCons (cLc [2] (iRange1 (cCons (cFn (one fLen) (cCons (cVar 1) cNil)) cNil)) (Z.gName 2) tYesE (cCall (Φ "_law_right") 1 [] (cCons (cCall (Φ "_law_box") 2 [] (cCons (cVar 1) (cCons (cVar 2) cNil))) cNil))) cNil))))
def B_law_t1 (Φ : Calls) : EvS := sSeq (B_law_1 Φ) sPass
def B_law (Φ : Calls) : EvS := sSeq (B_law_0 Φ) (B_law_t1 Φ)
theorem r_law (d : Nat) (as : List PV) (R h : Mem) : runF G (d + 1) "law" as R h = finPure R h (B_law (runF G d) (R ++ h) (startE 3 as) []) := by kernel_rfl
end K02

end
section -- K02c
namespace K02
open PySem PySem.Spec PyProof.Rows L2 Z
theorem takeIs (d : Nat) : TakeIs (runF G (d + 1)) := fun as R h => r_law_take d as R h
theorem ofS (d : Nat) : OfS (runF G (d + 2)) := fun R h i m xs b hm hx hl hd => by
  obtain ⟨x, h', e, q⟩ := of_ok (takeIs d) (R := R) b hm hx hl hd
  exact ⟨x, h', (r_law_of (d + 1) _ R h).trans e, q⟩
theorem takeS (d : Nat) : TakeS (runF G (d + 1)) := fun R h i m s b hm h1 h2 => by
  obtain ⟨x, h', e, q⟩ := take_ok (R := R) b hm h1 h2
  exact ⟨x, h', (r_law_take d _ R h).trans e, q⟩
theorem pickS (d : Nat) : PickS (runF G (d + 2)) := fun R h i m xs c b hi hm hl hd hc hc2 => by
  obtain ⟨ys, rest, h', e, q⟩ := pick_ok (takeIs d) (R := R) b hi hm hl hd hc hc2
  exact ⟨ys, rest, h', (r_law_pick (d + 1) _ R h).trans e, q⟩
theorem sameIs (d : Nat) (as : List PV) (R h : Mem) : runF G (d + 1) "_law_same" as R h = finPure R h (bSame G.sub? G.subT? (runF G d) (R ++ h) (startE 4 as) []) := r_law_same d as R h

theorem i_name : ZP.I_is_name G (runF G) := fun d as R h => r_is_name d as R h
theorem i_rising : ZP.I_is_rising G (runF G) := fun d as R h => r_is_rising d as R h
theorem i_pair : ZP.I_pair_in G (runF G) := fun d as R h => r_pair_in d as R h
theorem i_stepsF : ZP.I_steps_from G (runF G) := fun d as R h => r_steps_from d as R h
theorem i_pairsF : ZP.I_pairs_from G (runF G) := fun d as R h => r_pairs_from d as R h
theorem i_sizesF : ZP.I_sizes_from G (runF G) := fun d as R h => r_sizes_from d as R h
theorem i_runF : ZP.I_run_from G (runF G) := fun d as R h => r_run_from d as R h
theorem i_num : ZP.I_number_in G (runF G) := fun d as R h => r_number_in d as R h
def fnAt : Nat → Str
  | 0 => "steps_from"
  | 1 => "pairs_from"
  | 2 => "sizes_from"
  | _ => "run_from"
theorem fix (j : Nat) (hj : j < 4) (m : Mem) : fIx m (.lst [.fn "steps_from", .fn "pairs_from", .fn "sizes_from", .fn "run_from"]) (.int (j : Nat)) = some (.fn (fnAt j)) := by
  have : j = 0 ∨ j = 1 ∨ j = 2 ∨ j = 3 := by omega
  rcases this with rfl | rfl | rfl | rfl <;> rfl
theorem npAt (j : Nat) (hj : j < 4) : G.np (fnAt j) = some 1 := by
  have : j = 0 ∨ j = 1 ∨ j = 2 ∨ j = 3 := by omega
  rcases this with rfl | rfl | rfl | rfl <;> decide +kernel
theorem fnL (m : Mem) : fLst m [.fn "steps_from", .fn "pairs_from", .fn "sizes_from", .fn "run_from"] = some (.lst [.fn "steps_from", .fn "pairs_from", .fn "sizes_from", .fn "run_from"]) := if_pos (by rw [sizeLine_val]; decide)
theorem badSub : G.sub? "BadText" "BadText" = some true := by decide +kernel
theorem badFld : G.fldOf "BadText" = some "piece" := by decide +kernel
section
variable {d j : Nat} {R h : Mem} {x : Str} {v : PV} {k : Int}
theorem call_at (hj : j < 4) (M : Mem) (a2 a3 a4 : Option PV) : cCallV G.np (runF G d) (cOp2 fIx (cFn fLst (cCons (cC (.fn "steps_from")) (cCons (cC (.fn "pairs_from")) (cCons (cC (.fn "sizes_from")) (cCons (cC (.fn "run_from")) cNil))))) (cVar 1)) (cCons (cVar 0) cNil) M [some (.str x), some (.int j), a2, a3, a4] [] = runF G d (fnAt j) [.str x] M [] := by
  have e : cOp2 fIx (cFn fLst (cCons (cC (.fn "steps_from")) (cCons (cC (.fn "pairs_from")) (cCons (cC (.fn "sizes_from")) (cCons (cC (.fn "run_from")) cNil))))) (cVar 1) M [some (.str x), some (.int j), a2, a3, a4] [] = .ok (.fn (fnAt j)) [] := by
    simp [fnL, fix j hj]
  unfold cCallV
  rw [e, ev_bind]
  dsimp only
  rw [npAt j hj]
  rfl
theorem heard_ok (hj : j < 4) (e : runF G d (fnAt j) [.str x] (R ++ h) [] = .ok v []) (hd : isData v = true) : runF G (d + 1) "_law_heard" [.str x, .int j] R h = .ok v h := by
  rw [r_law_heard, show startE 5 [.str x, .int j] = [some (.str x), some (.int j), none, none, none] from rfl]
  have s0 : B_law_heard_0 (runF G d) (R ++ h) [some (.str x), some (.int j), none, none, none] [] = .nx [some (.str x), some (.int j), some .non, some .non, none] [] := by rfl
  have s1 : B_law_heard_1 (runF G d) (R ++ h) [some (.str x), some (.int j), some .non, some .non, none] [] = .nx [some (.str x), some (.int j), some .non, some v, none] [] := by
    unfold B_law_heard_1 sTryX
    rw [ev_seq, ev_asg, call_at hj, e]
    rfl
  unfold B_law_heard B_law_heard_t1 B_law_heard_t2
  rw [ev_seq, s0, ev_nx, ev_seq, s1, ev_nx]
  exact fin_data hd
theorem heard_bad (hj : j < 4) (e : runF G d (fnAt j) [.str x] (R ++ h) [] = .exc (.own "BadText") ["piece"] [.int k] []) : runF G (d + 1) "_law_heard" [.str x, .int j] R h = .ok (.lst [.int k]) h := by
  rw [r_law_heard, show startE 5 [.str x, .int j] = [some (.str x), some (.int j), none, none, none] from rfl]
  have s0 : B_law_heard_0 (runF G d) (R ++ h) [some (.str x), some (.int j), none, none, none] [] = .nx [some (.str x), some (.int j), some .non, some .non, none] [] := by rfl
  have s1 : B_law_heard_1 (runF G d) (R ++ h) [some (.str x), some (.int j), some .non, some .non, none] [] = .nx [some (.str x), some (.int j), some (.exc "BadText" ["piece"] [.int k]), some .non, none] [] := by
    unfold B_law_heard_1
    rw [try_catch (mt := fun c => G.sub? c "BadText") (c := "BadText") (ns := ["piece"]) (vs := [.int k]) (env1 := [some (.str x), some (.int j), some .non, some .non, none]) (h1 := []) ?_ badSub]
    · rfl
    · rw [ev_seq, ev_asg, call_at hj, e]; rfl
  have s2 : B_law_heard_2 (runF G d) (R ++ h) [some (.str x), some (.int j), some (.exc "BadText" ["piece"] [.int k]), some .non, none] [] = .ret (.lst [.int k]) [] := by
    have at' : cAttr G.fldOf "piece" (cVar 2) (R ++ h) [some (.str x), some (.int j), some (.exc "BadText" ["piece"] [.int k]), some .non, none] [] = .ok (.int k) [] := by
      show liftO [] (attrX G.fldOf "piece" (.exc "BadText" ["piece"] [.int k])) = _
      have : attrX G.fldOf "piece" (.exc "BadText" ["piece"] [.int k]) = some (.int k) := by
        unfold attrX
        dsimp only
        rw [badFld]
        rfl
      rw [this]; rfl
    have ls : ∀ m, fLst m [.int k] = some (.lst [.int k]) := fun m => if_pos (by rw [sizeLine_val]; simp)
    have nn : ∀ m, fIs m (.exc "BadText" ["piece"] [.int k]) .non = some (.bl false) := fun m => rfl
    unfold B_law_heard_2
    simp [nn, at', ls]
  unfold B_law_heard B_law_heard_t1 B_law_heard_t2
  rw [ev_seq, s0, ev_nx, ev_seq, s1, ev_nx, ev_seq, s2]
  exact fin_data rfl
end
end K02

end
section -- K02d
namespace K02
open PySem PySem.Spec PyProof.Rows L2 Z
/-- what is put in the place of a piece -/
def cands (ill : List Str) (w : Str) : List Str := ill ++ [w ++ "_", "A" ++ w, ""]
theorem len_app (a b : Str) : (a ++ b).length = a.length + b.length := by rw [TL.len_tl, TL.tl_append, List.length_append, ← TL.len_tl, ← TL.len_tl]
theorem add_str {m : Mem} {a b : Str} (h : a.length + b.length ≤ 1000) : fAdd m (.str a) (.str b) = some (.str (a ++ b)) := if_pos (by rw [sizeLine_val]; omega)
theorem bent_ok {d i m : Nat} {R h : Mem} {flat cut : Str} {ill ws : List Str} {j : Nat} (b : Box h i m) (hi : Ints h) (hm : m < 900000000) (hs : Txt.split flat cut = ws) (hc : (cut.length == 0) = false) (hf : flat.length + 2 ≤ sizeLine) (w0 : ws ≠ []) (wl : ws.length ≤ 200) (pl : ∀ w ∈ ws, w.length ≤ 100) (il : ∀ w ∈ ill, w.length ≤ 100) (ic : ill.length ≤ 100) (cl : cut.length ≤ 2)
    (hb : ∀ (k : Nat) (w y : Str), ws[k]? = some w → y ∈ cands ill w → ∀ R h, runF G (d + 4) "_law_heard" [.str (Txt.join cut (ws.set k y)), .int j] R h = .ok (.lst [.int k]) h) :
    ∃ h', runF G (d + 5) "_law_bent_right" [.ref (R.length + i), .str flat, .str cut, .int j, .lst (ill.map .str)] R h = .ok (.bl true) h' ∧ Chg h h' i ∧ Box h' i (m + 2) := by
  have il' : i < h.length := by obtain ⟨_, _, _, e, _⟩ := b; exact (List.getElem?_eq_some_iff.mp e).1
  have wp : 0 < ws.length := List.length_pos_iff.mpr w0
  obtain ⟨H1, hH1⟩ : ∃ H1 : Mem, H1 = h ++ [.lst (ws.map .str)] := ⟨_, rfl⟩
  have g1 : H1[h.length]? = some (.lst (ws.map .str)) := by rw [hH1, List.getElem?_append_right (Nat.le_refl _), Nat.sub_self]; rfl
  have b1 : Box H1 i m := by
    obtain ⟨b0, b1, b2, e, r⟩ := b
    exact ⟨b0, b1, b2, by rw [hH1, List.getElem?_append_left il']; exact e, r⟩
  obtain ⟨x, H2, e2, x0, x1, c2, b2⟩ := takeS (d + 3) R H1 i m (ws.length : Int) b1 (by omega) (by omega) (by omega)
  obtain ⟨k, rfl⟩ : ∃ k : Nat, x = (k : Int) := ⟨x.toNat, by omega⟩
  have hk : k < ws.length := by omega
  obtain ⟨w, hw⟩ : ∃ w, ws[k]? = some w := ⟨_, List.getElem?_eq_getElem hk⟩
  have ww := pl w (List.mem_of_getElem? hw)
  have g2 : H2[h.length]? = some (.lst (ws.map .str)) := by rw [c2.2 _ (by omega)]; exact g1
  obtain ⟨y, H3, e3, ym, c3, b3⟩ := ofS (d + 2) R H2 i (m + 1) ((cands ill w).map .str) b2 (by omega) (by simp [cands]) (by simp [cands]; omega) (areData_strs _)
  obtain ⟨z, hz, rfl⟩ := List.mem_map.mp ym
  have g3 : H3[h.length]? = some (.lst (ws.map .str)) := by rw [c3.2 _ (by omega)]; exact g2
  have l3 : H3.length = h.length + 1 := by rw [c3.1, c2.1, hH1]; simp
  obtain ⟨H4, hH4⟩ : ∃ H4 : Mem, H4 = H3.set h.length (.lst ((ws.set k z).map .str)) := ⟨_, rfl⟩
  have l4 : H4.length = h.length + 1 := by rw [hH4, List.length_set]; exact l3
  have g4 : H4[h.length]? = some (.lst ((ws.set k z).map .str)) := by rw [hH4, List.getElem?_set_self (by omega)]
  have zl : z.length ≤ 101 := by
    unfold cands at hz
    rcases List.mem_append.mp hz with e | e
    · have := il z e; omega
    · simp only [List.mem_cons, List.not_mem_nil, or_false] at e
      rcases e with rfl | rfl | rfl
      · rw [len_app]; have : ("_" : Str).length = 1 := by decide +kernel
        omega
      · rw [len_app]; have : ("A" : Str).length = 1 := by decide +kernel
        omega
      · have : ("" : Str).length = 0 := by decide +kernel
        omega
  have tk : (H4.take h.length).length = h.length := by rw [List.length_take, l4]; omega
  have tq : ∀ q, q < h.length → (H4.take h.length)[q]? = H3[q]? := fun q hq => by rw [List.getElem?_take, if_pos hq, hH4, List.getElem?_set_ne (by omega)]
  have oth : ∀ q, q ≠ i → (H4.take h.length)[q]? = h[q]? := fun q hq => by
    by_cases hlt : q < h.length
    · rw [tq q hlt, c3.2 q hq, c2.2 q hq, hH1, List.getElem?_append_left hlt]
    · rw [List.getElem?_eq_none (by omega), List.getElem?_eq_none (by omega)]
  have bx : Box (H4.take h.length) i (m + 2) := by
    obtain ⟨b0, b1, b2, e, r0, r1, r2, r3, r4⟩ := b3
    exact ⟨b0, b1, b2, by rw [tq i il']; exact e, r0, r1, r2, r3, by omega⟩
  have hi2 : Ints (H4.take h.length) := hi.of_chg tk bx oth
  refine ⟨H4.take h.length, ?_, ⟨tk, oth⟩, bx⟩
  rw [r_law_bent_right, show startE 7 [.ref (R.length + i), .str flat, .str cut, .int j, .lst (ill.map .str)] = [some (.ref (R.length + i)), some (.str flat), some (.str cut), some (.int j), some (.lst (ill.map .str)), none, none] from rfl]
  have s0 : B_law_bent_right_0 (runF G (d + 4)) R [some (.ref (R.length + i)), some (.str flat), some (.str cut), some (.int j), some (.lst (ill.map .str)), none, none] h = .nx [some (.ref (R.length + i)), some (.str flat), some (.str cut), some (.int j), some (.lst (ill.map .str)), some (.ref (R.length + h.length)), none] H1 := by
    have sp : aSplit (cVar 1) (cCons (cVar 2) cNil) R [some (.ref (R.length + i)), some (.str flat), some (.str cut), some (.int j), some (.lst (ill.map .str)), none, none] h = .ok (ws.map .str) h := by
      show (match sSplit (R ++ h) (.str flat) [.str cut] with
        | some (.lst ys) => Res.ok ys h
        | _ => .bad) = _
      rw [split_str hc hf, hs]
    unfold B_law_bent_right_0
    rw [ev_asg, ev_new, sp, ev_bind, if_pos (by rw [List.length_map, sizeLine_val]; omega), List.length_append, hH1]
    rfl
  have s1 : B_law_bent_right_1 (runF G (d + 4)) R [some (.ref (R.length + i)), some (.str flat), some (.str cut), some (.int j), some (.lst (ill.map .str)), some (.ref (R.length + h.length)), none] H1 = .nx [some (.ref (R.length + i)), some (.str flat), some (.str cut), some (.int j), some (.lst (ill.map .str)), some (.ref (R.length + h.length)), some (.int k)] H2 := by
    have ln := len_box (R := R) g1
    rw [List.length_map] at ln
    unfold B_law_bent_right_1
    simp [ln, e2]
  have s2 : B_law_bent_right_2 (runF G (d + 4)) R [some (.ref (R.length + i)), some (.str flat), some (.str cut), some (.int j), some (.lst (ill.map .str)), some (.ref (R.length + h.length)), some (.int k)] H2 = .nx [some (.ref (R.length + i)), some (.str flat), some (.str cut), some (.int j), some (.lst (ill.map .str)), some (.ref (R.length + h.length)), some (.int k)] H4 := by
    have ix : fIx (R ++ H2) (.ref (R.length + h.length)) (.int k) = some (.str w) := by
      rw [ix_box _ g2, atI_getD hk, List.getD_eq_getElem?_getD, hw]; rfl
    have lu : ("_" : Str).length = 1 := by decide +kernel
    have lA : ("A" : Str).length = 1 := by decide +kernel
    have u1 : ∀ m, fAdd m (.str w) (.str "_") = some (.str (w ++ "_")) := fun m => add_str (by omega)
    have u2 : ∀ m, fAdd m (.str "A") (.str w) = some (.str ("A" ++ w)) := fun m => add_str (by omega)
    have ls : ∀ m, fLst m [.str (w ++ "_"), .str ("A" ++ w), .str ""] = some (.lst [.str (w ++ "_"), .str ("A" ++ w), .str ""]) := fun m => if_pos (by rw [sizeLine_val]; simp)
    have al : ∀ m, fAdd m (.lst (ill.map .str)) (.lst [.str (w ++ "_"), .str ("A" ++ w), .str ""]) = some (.lst ((cands ill w).map .str)) := fun m => by
      rw [add_lst (by rw [List.length_map, sizeLine_val]; simp; omega)]
      unfold cands
      rw [List.map_append]; rfl
    obtain ⟨IL, hIL⟩ : ∃ IL, IL = PV.lst (ill.map .str) := ⟨_, rfl⟩
    obtain ⟨CL, hCL⟩ : ∃ CL, CL = PV.lst ((cands ill w).map .str) := ⟨_, rfl⟩
    rw [← hIL, ← hCL] at al
    rw [← hCL] at e3
    rw [← hIL]
    have gs : gSubL (cVar 5) (cVar 6) R [some (.ref (R.length + i)), some (.str flat), some (.str cut), some (.int j), some IL, some (.ref (R.length + h.length)), some (.int k)] H3 (.str z) = some ([some (.ref (R.length + i)), some (.str flat), some (.str cut), some (.int j), some IL, some (.ref (R.length + h.length)), some (.int k)], H4) := by
      have ixn : ixN (ws.map PV.str).length (k : Int) = some k := by
        unfold ixN
        rw [if_pos (by omega), if_pos (by rw [List.length_map]; omega)]
        rfl
      show (match (R ++ H3)[R.length + h.length]? with
        | some (.lst zs) => if R.length ≤ R.length + h.length then (match ixN zs.length (k : Int) with
          | some j' => some (([some (.ref (R.length + i)), some (.str flat), some (.str cut), some (.int j), some IL, some (.ref (R.length + h.length)), some (.int k)] : Envr), H3.set (R.length + h.length - R.length) (.lst (zs.set j' (.str z))))
          | none => none) else none
        | _ => none) = _
      rw [at_box, g3]
      dsimp only
      rw [if_pos (Nat.le_add_right _ _), ixn]
      dsimp only
      rw [Nat.add_sub_cancel_left, hH4, List.map_set]
    unfold B_law_bent_right_2
    simp [ix, u1, u2, ls, al, e3, gs]
  have s3 : B_law_bent_right_3 (runF G (d + 4)) R [some (.ref (R.length + i)), some (.str flat), some (.str cut), some (.int j), some (.lst (ill.map .str)), some (.ref (R.length + h.length)), some (.int k)] H4 = .ret (.bl true) H4 := by
    have jo : sJoin (R ++ H4) (.str cut) [.ref (R.length + h.length)] = some (.str (Txt.join cut (ws.set k z))) := by
      unfold sJoin
      dsimp only
      rw [seq_box g4]
      dsimp only
      rw [asStrs_map]
      dsimp only
      rw [if_pos]
      have hl : ∀ v ∈ ws.set k z, v.length ≤ 101 := fun v hv => by
        rcases List.mem_or_eq_of_mem_set hv with e | e
        · have := pl v e; omega
        · rw [e]; exact zl
      have := sum_le (f := fun w : Str => w.length) (ws.set k z) hl
      rw [List.length_set] at this ⊢
      have h2 : ws.length * cut.length ≤ 200 * 2 := Nat.mul_le_mul wl cl
      have h3 : ws.length * 101 ≤ 200 * 101 := Nat.mul_le_mul_right _ wl
      omega
    have hh := hb k w z hw hz R H4
    have ls : ∀ m, fLst m [.int k] = some (.lst [.int k]) := fun m => if_pos (by rw [sizeLine_val]; simp)
    have sm : runF G (d + 4) "_law_same" [.lst [.int k], .lst [.int k]] R H4 = .ok (.bl true) H4 := same_ok (fun d as R h => sameIs d as R h) (d + 4) _ (okS_lst (by rw [sizeLine_val]; simp) fun x hx => by rw [List.mem_singleton.mp hx]; rfl) (by show 1 < d + 4; omega) R H4
    obtain ⟨J, hJ⟩ : ∃ J, J = Txt.join cut (ws.set k z) := ⟨_, rfl⟩
    rw [← hJ] at jo hh
    unfold B_law_bent_right_3
    simp [jo, hh, ls, sm]
  unfold B_law_bent_right B_law_bent_right_t1 B_law_bent_right_t2 B_law_bent_right_t3
  rw [ev_seq, s0, ev_nx, ev_seq, s1, ev_nx, ev_seq, s2, ev_nx, ev_seq, s3]
  show finMut R h (.ret (.bl true) H4) = _
  unfold finMut
  dsimp only
  have tr : trimOk R h H4 = true := by
    unfold trimOk
    rw [hi2.closed]
    simp [l4]
  rw [if_pos tr]
  rfl
end K02

end
section -- K02e
namespace K02
open PySem PySem.Spec PyProof.Rows L2 Z
theorem not_name {w : Str} {c : Nat} (hc : c ∈ TL.tl w) (hl : lowB c = false) : nameB w = false := by
  cases h : nameB w with
  | false => rfl
  | true =>
    have := name_low h c hc
    unfold lowB at hl
    rw [Bool.and_eq_false_iff, decide_eq_false_iff_not, decide_eq_false_iff_not] at hl
    omega
theorem nmem_app {s : Nat} {a b : List Nat} (ha : s ∉ a) (hb : s ∉ b) : s ∉ a ++ b := fun h => (List.mem_append.mp h).elim ha hb
theorem nmem_cons {s c : Nat} {b : List Nat} (h : s ≠ c) (hb : s ∉ b) : s ∉ c :: b := fun z => (List.mem_cons.mp z).elim h hb
theorem nmem_nil {s : Nat} : s ∉ ([] : List Nat) := fun z => nomatch z
theorem set_ne {α : Type} {ws : List α} {k : Nat} {y : α} (h : 0 < ws.length) : ws.set k y ≠ [] := fun e => by
  have := congrArg List.length e
  rw [List.length_set] at this
  have : ws.length = 0 := this
  omega
theorem tl_us : TL.tl ("_" : Str) = [95] := by decide +kernel
theorem tl_A : TL.tl ("A" : Str) = [65] := by decide +kernel
theorem tl_e : TL.tl ("" : Str) = [] := by decide +kernel
theorem join_mem {s : Nat} {S p q : List Nat} {r : List (List Nat)} : s ∈ TL.joinL (s :: S) (p :: q :: r) := by
  show s ∈ p ++ (s :: S ++ TL.joinL (s :: S) (q :: r))
  simp
theorem cut_two' {sep : Str} {s : Nat} {S : List Nat} (ey : TL.tl sep = s :: S) (hk : sep.cps.all (· < 256) = true) (hs : s ≠ 45) {ws : List Str} (h0 : ws ≠ []) (hp : ∀ w ∈ ws, s ∉ TL.tl w) (h2 : 2 ≤ ws.length ∨ ∀ w ∈ ws, w ≠ "-") : cutAt (Txt.join sep ws) sep = ws := by
  unfold cutAt
  rw [if_neg, TL.split_join ey hk h0 hp]
  intro e
  match ws, h0 with
  | [w], _ =>
    rcases h2 with h2 | h2
    · simp at h2
    · exact h2 w (List.mem_singleton.mpr rfl) e
  | a :: b :: r, _ =>
    have e2 := congrArg TL.tl e
    rw [TL.join_eq, TL.tl_join, tl_minus, ey] at e2
    have : s ∈ [45] := by
      rw [← e2]
      exact join_mem
    exact hs (List.mem_singleton.mp this)
theorem set_mem {α : Type} {ws : List α} {k : Nat} {y v : α} (h : v ∈ ws.set k y) : v ∈ ws ∨ v = y := List.mem_or_eq_of_mem_set h
theorem join_short {sep : Str} {ws : List Str} {N B : Nat} (h : ∀ w ∈ ws, w.length ≤ B) (hl : ws.length ≤ N) (hb : N * (B + sep.length) ≤ 16777000) : (Txt.join sep ws).length + 2 ≤ sizeLine := by
  have h1 := joinT_len sep ws
  have := sum_le (f := fun w : Str => w.length) ws h
  have h2 : ws.length * (B + sep.length) ≤ N * (B + sep.length) := Nat.mul_le_mul_right _ hl
  rw [Nat.mul_add] at h2
  rw [sizeLine_val]
  omega
theorem cand_tl {ill : List Str} {w y : Str} (h : y ∈ cands ill w) : y ∈ ill ∨ TL.tl y = TL.tl w ++ [95] ∨ TL.tl y = 65 :: TL.tl w ∨ TL.tl y = [] := by
  unfold cands at h
  rcases List.mem_append.mp h with e | e
  · exact .inl e
  · simp only [List.mem_cons, List.not_mem_nil, or_false] at e
    rcases e with rfl | rfl | rfl
    · exact .inr (.inl (by rw [TL.tl_append, tl_us]))
    · exact .inr (.inr (.inl (by rw [TL.tl_append, tl_A]; rfl)))
    · exact .inr (.inr (.inr tl_e))
theorem cand_free {ill : List Str} {w y : Str} {s : Nat} (h : y ∈ cands ill w) (hi : ∀ v ∈ ill, s ∉ TL.tl v) (hw : s ∉ TL.tl w) (h1 : s ≠ 95) (h2 : s ≠ 65) : s ∉ TL.tl y := by
  rcases cand_tl h with e | e | e | e
  · exact hi y e
  · rw [e]; exact nmem_app hw (nmem_cons h1 nmem_nil)
  · rw [e]; exact nmem_cons h2 hw
  · rw [e]; exact nmem_nil
theorem cand_len {ill : List Str} {w y : Str} (h : y ∈ cands ill w) (hi : ∀ v ∈ ill, v.length ≤ 100) (hw : w.length ≤ 100) : y.length ≤ 101 := by
  rcases cand_tl h with e | e | e | e
  · have := hi y e; omega
  · rw [TL.len_tl, e, List.length_append, ← TL.len_tl]; simp; omega
  · rw [TL.len_tl, e, List.length_cons, ← TL.len_tl]; omega
  · rw [TL.len_tl, e]; simp
section
variable {d : Nat}
/-- STEPS with a wrong word -/
theorem bad0 {tags : List Str} (sd : StepsD tags) (t2 : 2 ≤ tags.length) (k : Nat) (w y : Str) (hw : tags[k]? = some w) (hy : y ∈ cands ["--", "1"] w) (R h : Mem) : runF G (d + 4) "_law_heard" [.str (Txt.join " " (tags.set k y)), .int (0 : Nat)] R h = .ok (.lst [.int k]) h := by
  have hk := (List.getElem?_eq_some_iff.mp hw).1
  have wm := List.mem_of_getElem? hw
  have il : ∀ v ∈ (["--", "1"] : List Str), 32 ∉ TL.tl v ∧ v.length ≤ 100 ∧ nameB v = false := by
    have : (["--", "1"] : List Str).all (fun v => decide (32 ∉ TL.tl v ∧ v.length ≤ 100 ∧ nameB v = false)) = true := by decide +kernel
    exact fun v hv => of_decide_eq_true (List.all_eq_true.mp this v hv)
  have yn : nameB y = false := by
    rcases cand_tl hy with e | e | e | e
    · exact (il y e).2.2
    · exact not_name (c := 95) (by rw [e]; simp) rfl
    · exact not_name (c := 65) (by rw [e]; simp) rfl
    · cases h : nameB y with
      | false => rfl
      | true => exact absurd e (name_ne h).1
  have yf := cand_free (s := 32) hy (fun v hv => (il v hv).1) (name_free (sd.nm w wm) (by decide)) (by decide) (by decide)
  have yl := cand_len hy (fun v hv => (il v hv).2.1) (by have := (name_len (sd.nm w wm)).2; omega)
  have ce : cutAt (Txt.join " " (tags.set k y)) " " = tags.set k y := cut_two' tl_blank (by decide +kernel) (by decide) (set_ne (by omega)) (fun v hv => by
    rcases set_mem hv with e | rfl
    · exact name_free (sd.nm v e) (by decide)
    · exact yf) (.inl (by rw [List.length_set]; exact t2))
  have xl : (Txt.join " " (tags.set k y)).length + 2 ≤ sizeLine := join_short (N := 6) (B := 101) (fun v hv => by
    rcases set_mem hv with e | rfl
    · have := (name_len (sd.nm v e)).2; omega
    · exact yl) (by rw [List.length_set]; exact sd.le) (by decide +kernel)
  refine heard_bad (d := d + 3) (j := 0) (by decide) ?_
  show runF G (d + 3) "steps_from" [.str (Txt.join " " (tags.set k y))] (R ++ h) [] = _
  rw [steps_from_ok (Φs := runF G) i_stepsF i_name i_rising xl, ce]
  obtain ⟨r, e⟩ := steps_run (k := 0) (p := none) sd.nm sd.so fun _ _ => rfl
  rw [runE_bad e hk fun s => by unfold stepW; rw [yn]; rfl]
  rfl
/-- pairs with a wrong one -/
theorem bad1 {bits : List (Str × Str)} (bo : ∀ q ∈ bits, okPair q) (bs : bits.Pairwise (fun a b => ltP a b = true)) (b0 : bits ≠ []) (bl : bits.length ≤ 120) (k : Nat) (w y : Str) (hw : (bits.map pairT)[k]? = some w) (hy : y ∈ cands ["a", "a a", "a b c", "a  b"] w) (R h : Mem) : runF G (d + 4) "_law_heard" [.str (Txt.join "; " ((bits.map pairT).set k y)), .int (1 : Nat)] R h = .ok (.lst [.int k]) h := by
  have hk := (List.getElem?_eq_some_iff.mp hw).1
  obtain ⟨q, hq, rfl⟩ := List.mem_map.mp (List.mem_of_getElem? hw)
  obtain ⟨n1, n2, n3⟩ := bo q hq
  have il : ∀ v ∈ (["a", "a a", "a b c", "a  b"] : List Str), 59 ∉ TL.tl v ∧ v.length ≤ 100 ∧ pairOf v = none ∧ v ≠ "-" := by
    have : (["a", "a a", "a b c", "a  b"] : List Str).all (fun v => decide (59 ∉ TL.tl v ∧ v.length ≤ 100 ∧ pairOf v = none ∧ v ≠ "-")) = true := by decide +kernel
    exact fun v hv => of_decide_eq_true (List.all_eq_true.mp this v hv)
  have pf : ∀ q : Str × Str, okPair q → 59 ∉ TL.tl (pairT q) := fun q ⟨h1, h2, _⟩ => by
    rw [pairT_tl]
    exact nmem_app (name_free h1 (by decide)) (nmem_cons (by decide) (name_free h2 (by decide)))
  have pl : ∀ q : Str × Str, okPair q → (pairT q).length ≤ 17 := fun q ⟨h1, h2, _⟩ => by
    rw [pairT_len]
    have a := name_len h1
    have b := name_len h2
    omega
  have yn : pairOf y = none ∧ y ≠ "-" := by
    rcases cand_tl hy with e | e | e | e
    · exact ⟨(il y e).2.2.1, (il y e).2.2.2⟩
    · refine ⟨?_, fun z => ?_⟩
      · have ey : y = Txt.join " " [q.1, q.2 ++ "_"] := by
          refine TL.ext_tl ?_
          rw [e, pairT_tl, TL.join_eq, TL.tl_join, tl_blank]
          show _ = TL.tl q.1 ++ ([32] ++ TL.tl (q.2 ++ "_"))
          rw [TL.tl_append, tl_us]; simp
        have sp : Txt.split y " " = [q.1, q.2 ++ "_"] := by
          rw [ey]
          refine TL.split_join tl_blank (by decide +kernel) (by simp) fun v hv => ?_
          simp only [List.mem_cons, List.not_mem_nil, or_false] at hv
          rcases hv with rfl | rfl
          · exact name_free n1 (by decide)
          · rw [TL.tl_append, tl_us]; exact nmem_app (name_free n2 (by decide)) (nmem_cons (by decide) nmem_nil)
        unfold pairOf
        rw [sp]
        refine if_neg fun z => ?_
        have : nameB (q.2 ++ "_") = false := not_name (c := 95) (by rw [TL.tl_append, tl_us]; simp) rfl
        rw [this] at z
        exact absurd z.2.1 (by simp)
      · rw [z, tl_minus] at e
        have e2 := congrArg List.length e
        rw [List.length_append, ← TL.len_tl, pairT_len] at e2
        have e3 : 1 = q.1.length + q.2.length + 1 + 1 := e2
        omega
    · refine ⟨?_, fun z => ?_⟩
      · have ey : y = Txt.join " " ["A" ++ q.1, q.2] := by
          refine TL.ext_tl ?_
          rw [e, pairT_tl, TL.join_eq, TL.tl_join, tl_blank]
          show _ = TL.tl ("A" ++ q.1) ++ ([32] ++ TL.tl q.2)
          rw [TL.tl_append, tl_A]; simp
        have sp : Txt.split y " " = ["A" ++ q.1, q.2] := by
          rw [ey]
          refine TL.split_join tl_blank (by decide +kernel) (by simp) fun v hv => ?_
          simp only [List.mem_cons, List.not_mem_nil, or_false] at hv
          rcases hv with rfl | rfl
          · rw [TL.tl_append, tl_A]; exact nmem_cons (by decide) (name_free n1 (by decide))
          · exact name_free n2 (by decide)
        unfold pairOf
        rw [sp]
        refine if_neg fun z => ?_
        have : nameB ("A" ++ q.1) = false := not_name (c := 65) (by rw [TL.tl_append, tl_A]; simp) rfl
        rw [this] at z
        exact absurd z.1 (by simp)
      · rw [z, tl_minus] at e
        injection e with e1 _
        cases e1
    · have ey : y = "" := TL.ext_tl (by rw [e, tl_e])
      subst ey
      decide +kernel
  have yf := cand_free (s := 59) hy (fun v hv => (il v hv).1) (pf q (bo q hq)) (by decide) (by decide)
  have yl := cand_len hy (fun v hv => (il v hv).2.1) (by have := pl q (bo q hq); omega)
  have ce : cutAt (Txt.join "; " ((bits.map pairT).set k y)) "; " = (bits.map pairT).set k y := cut_two' tl_semi (by decide +kernel) (by decide) (set_ne (by rw [List.length_map]; exact List.length_pos_iff.mpr b0)) (fun v hv => by
    rcases set_mem hv with e | rfl
    · obtain ⟨p, hp, rfl⟩ := List.mem_map.mp e
      exact pf p (bo p hp)
    · exact yf) (.inr fun v hv z => by
    rcases set_mem hv with e | rfl
    · obtain ⟨p, hp, rfl⟩ := List.mem_map.mp e
      have e2 := congrArg Str.length z
      rw [pairT_len] at e2
      have l1 := (name_len (bo p hp).1).1
      have l0 : ("-" : Str).length = 1 := by decide +kernel
      rw [l0] at e2
      omega
    · exact yn.2 z)
  have xl : (Txt.join "; " ((bits.map pairT).set k y)).length + 2 ≤ sizeLine := join_short (N := 120) (B := 101) (fun v hv => by
    rcases set_mem hv with e | rfl
    · obtain ⟨p, hp, rfl⟩ := List.mem_map.mp e
      have := pl p (bo p hp); omega
    · exact yl) (by rw [List.length_set, List.length_map]; exact bl) (by decide +kernel)
  refine heard_bad (d := d + 3) (j := 1) (by decide) ?_
  show runF G (d + 3) "pairs_from" [.str (Txt.join "; " ((bits.map pairT).set k y))] (R ++ h) [] = _
  rw [pairs_from_ok (Φs := runF G) i_pairsF i_pair i_name xl, ce, runE_bad (pairs_run bo bs) hk fun s => by unfold stepP; rw [yn.1]; rfl]
  rfl
/-- DEEDS with a wrong one -/
theorem bad3 {tags : List Str} (sd : StepsD tags) (t2 : 2 ≤ tags.length) (k : Nat) (w y : Str) (hw : ((tags.map fun t => (("begin", t) : Str × Str)).map deedT)[k]? = some w) (hy : y ∈ cands ["a", "+", "-", "+-a"] w) (R h : Mem) : runF G (d + 4) "_law_heard" [.str (Txt.join " " (((tags.map fun t => (("begin", t) : Str × Str)).map deedT).set k y)), .int (3 : Nat)] R h = .ok (.lst [.int k]) h := by
  obtain ⟨qs, hqs⟩ : ∃ qs, qs = tags.map fun t => (("begin", t) : Str × Str) := ⟨_, rfl⟩
  have ql : qs.length = tags.length := by rw [hqs, List.length_map]
  have qn : ∀ q ∈ qs, okDeed q ∧ q.1 = "begin" := fun q hq => by
    rw [hqs] at hq
    obtain ⟨t, ht, rfl⟩ := List.mem_map.mp hq
    exact ⟨⟨.inl rfl, sd.nm t ht⟩, rfl⟩
  rw [← hqs] at hw ⊢
  have hk := (List.getElem?_eq_some_iff.mp hw).1
  obtain ⟨q, hq, rfl⟩ := List.mem_map.mp (List.mem_of_getElem? hw)
  obtain ⟨dq, q1⟩ := qn q hq
  have td : ∀ q ∈ qs, TL.tl (deedT q) = 43 :: TL.tl q.2 := fun q hq => by rw [deedT_tl (qn q hq).1, if_pos (qn q hq).2]
  have il : ∀ v ∈ (["a", "+", "-", "+-a"] : List Str), 32 ∉ TL.tl v ∧ v.length ≤ 100 ∧ deedOf v = none := by
    have : (["a", "+", "-", "+-a"] : List Str).all (fun v => decide (32 ∉ TL.tl v ∧ v.length ≤ 100 ∧ deedOf v = none)) = true := by decide +kernel
    exact fun v hv => of_decide_eq_true (List.all_eq_true.mp this v hv)
  have df : ∀ q ∈ qs, 32 ∉ TL.tl (deedT q) := fun q hq => by
    rw [td q hq]
    exact nmem_cons (by decide) (name_free (qn q hq).1.2 (by decide))
  have dl : ∀ q ∈ qs, (deedT q).length ≤ 9 := fun q hq => by
    rw [TL.len_tl, td q hq, List.length_cons, ← TL.len_tl]
    have := (name_len (qn q hq).1.2).2
    omega
  have yn : deedOf y = none := by
    rcases cand_tl hy with e | e | e | e
    · exact (il y e).2.2
    · have tt : tailS y = q.2 ++ "_" := by
        refine TL.ext_tl ?_
        unfold tailS
        rw [e, td q hq, TL.tl_append, tl_us]; rfl
      have : nameB (tailS y) = false := by rw [tt]; exact not_name (c := 95) (by rw [TL.tl_append, tl_us]; simp) rfl
      unfold deedOf
      rw [this]
      simp
    · have hh : headS y = "A" := by
        refine TL.ext_tl ?_
        unfold headS
        rw [e, tl_A]; rfl
      have a1 : ¬ (("A" : Str) = "+") := by decide +kernel
      have a2 : ¬ (("A" : Str) = "-") := by decide +kernel
      unfold deedOf
      rw [hh, if_neg (fun z => a1 z.1), if_neg (fun z => a2 z.1)]
    · have ey : y = "" := TL.ext_tl (by rw [e, tl_e])
      subst ey
      decide +kernel
  have yf := cand_free (s := 32) hy (fun v hv => (il v hv).1) (df q hq) (by decide) (by decide)
  have yl := cand_len hy (fun v hv => (il v hv).2.1) (by have := dl q hq; omega)
  have ce : cutAt (Txt.join " " ((qs.map deedT).set k y)) " " = (qs.map deedT).set k y := cut_two' tl_blank (by decide +kernel) (by decide) (set_ne (by rw [List.length_map, ql]; omega)) (fun v hv => by
    rcases set_mem hv with e | rfl
    · obtain ⟨p, hp, rfl⟩ := List.mem_map.mp e
      exact df p hp
    · exact yf) (.inl (by rw [List.length_set, List.length_map, ql]; exact t2))
  have xl : (Txt.join " " ((qs.map deedT).set k y)).length + 2 ≤ sizeLine := join_short (N := 6) (B := 101) (fun v hv => by
    rcases set_mem hv with e | rfl
    · obtain ⟨p, hp, rfl⟩ := List.mem_map.mp e
      have := dl p hp; omega
    · exact yl) (by rw [List.length_set, List.length_map, ql]; exact sd.le) (by decide +kernel)
  refine heard_bad (d := d + 3) (j := 3) (by decide) ?_
  show runF G (d + 3) "run_from" [.str (Txt.join " " ((qs.map deedT).set k y))] (R ++ h) [] = _
  rw [run_from_ok (Φs := runF G) i_runF i_name xl, ce, runE_bad (deeds_run fun q hq => (qn q hq).1) hk fun s => by rw [yn]; rfl]
  rfl
end
end K02

end
section -- K02f
namespace K02
open PySem PySem.Spec PyProof.Rows L2 Z
theorem ne_tup {m : Mem} {xs : List PV} (hd : dep (.tup xs) ≤ 64) (hp : plain (.tup xs) = true) : fNe m (.tup xs) (.tup []) = some (.bl (!xs.isEmpty)) := by
  have e : fNe m (.tup xs) (.tup []) = (if dep (.tup xs) ≤ 64 ∨ dep (.tup []) ≤ 64 then some (.bl (!eqv (.tup xs) (.tup []))) else none) := by
    unfold fNe datum lstOf
    dsimp only
    rw [if_pos hp, if_pos (show plain (.tup []) = true from rfl)]
  rw [e, if_pos (.inl hd)]
  cases xs <;> rfl
theorem eq_tup {m : Mem} {xs : List PV} (hd : dep (.tup xs) ≤ 64) (hp : plain (.tup xs) = true) : fEq m (.tup xs) (.tup []) = some (.bl xs.isEmpty) := by
  have e : fEq m (.tup xs) (.tup []) = (if dep (.tup xs) ≤ 64 ∨ dep (.tup []) ≤ 64 then some (.bl (eqv (.tup xs) (.tup []))) else none) := by
    unfold fEq datum lstOf
    dsimp only
    rw [if_pos hp, if_pos (show plain (.tup []) = true from rfl)]
  rw [e, if_pos (.inl hd)]
  cases xs <;> rfl
theorem isE_map {α β : Type} (f : α → β) (xs : List α) : (xs.map f).isEmpty = xs.isEmpty := by cases xs <;> rfl
theorem plain_strs (ws : List Str) : plain (tupS ws) = true := plains_map ws fun _ _ => rfl
def bitsV (bits : List (Str × Str)) : PV := .tup (bits.map pv2)
theorem plain_pairs (qs : List (Str × Str)) : plain (bitsV qs) = true := plains_map qs fun _ _ => rfl
theorem tup0 (m : Mem) : fTup m [] = some (.tup []) := if_pos (Nat.zero_le _)
def deedsOf (tags : List Str) : List (Str × Str) := tags.map fun t => (("begin", t) : Str × Str)
section
variable {tags : List Str} {bits : List (Str × Str)} (sd : StepsD tags) (bo : ∀ q ∈ bits, okPair q) (bs : bits.Pairwise (fun a b => ltP a b = true)) (bl : bits.length ≤ 120) {d : Nat} {R h : Mem}
include sd
theorem room6 : roomOk " " tags := room_of (B := 8) (N := 6) (fun w hw => (name_len (sd.nm w hw)).2) sd.le (by decide +kernel)
theorem back0 : cutAt (textOf " " tags) " " = tags := steps_back sd.nm
theorem h0 : runF G (d + 4) "_law_heard" [.str (textOf " " tags), .int (0 : Nat)] R h = .ok (tupS tags) h := by
  refine heard_ok (d := d + 3) (j := 0) (by decide) ?_ (areData_strs tags)
  show runF G (d + 3) "steps_from" [.str (textOf " " tags)] (R ++ h) [] = _
  rw [steps_from_ok (Φs := runF G) i_stepsF i_name i_rising (text_len2 (B := 8) (N := 6) (fun w hw => (name_len (sd.nm w hw)).2) sd.le (by decide +kernel)), back0 sd]
  obtain ⟨r, e⟩ := steps_run (k := 0) (p := none) sd.nm sd.so fun _ _ => rfl
  rw [e]; rfl
omit sd
include bo bl
theorem pls : ∀ w ∈ bits.map pairT, w.length ≤ 17 := fun w hw => by
  obtain ⟨q, hq, rfl⟩ := List.mem_map.mp hw
  rw [pairT_len]
  have a := name_len (bo q hq).1
  have b := name_len (bo q hq).2.1
  omega
theorem room7 : roomOk "; " (bits.map pairT) := room_of (B := 17) (N := 120) (pls bo bl) (by rw [List.length_map]; exact bl) (by decide +kernel)
theorem len7 : (textOf "; " (bits.map pairT)).length + 2 ≤ sizeLine := text_len2 (B := 17) (N := 120) (pls bo bl) (by rw [List.length_map]; exact bl) (by decide +kernel)
include bs
theorem h1 : runF G (d + 4) "_law_heard" [.str (textOf "; " (bits.map pairT)), .int (1 : Nat)] R h = .ok (bitsV bits) h := by
  refine heard_ok (d := d + 3) (j := 1) (by decide) ?_ (areData_map _ fun _ _ => rfl)
  show runF G (d + 3) "pairs_from" [.str (textOf "; " (bits.map pairT))] (R ++ h) [] = _
  rw [pairs_from_ok (Φs := runF G) i_pairsF i_pair i_name (len7 bo bl), pairs_back bo, pairs_run bo bs]; rfl
omit bo bs bl
include sd
theorem dn : ∀ q ∈ deedsOf tags, okDeed q := fun q hq => by
  obtain ⟨t, ht, rfl⟩ := List.mem_map.mp hq
  exact ⟨.inl rfl, sd.nm t ht⟩
theorem dls : ∀ w ∈ (deedsOf tags).map deedT, w.length ≤ 9 := fun w hw => by
  obtain ⟨q, hq, rfl⟩ := List.mem_map.mp hw
  have := name_len (dn sd q hq).2
  rw [TL.len_tl, deedT_tl (dn sd q hq), List.length_cons, ← TL.len_tl]
  omega
theorem dlen : (deedsOf tags).length = tags.length := List.length_map ..
theorem room14 : roomOk " " ((deedsOf tags).map deedT) := room_of (B := 9) (N := 6) (dls sd) (by rw [List.length_map, dlen sd]; exact sd.le) (by decide +kernel)
theorem len14 : (textOf " " ((deedsOf tags).map deedT)).length + 2 ≤ sizeLine := text_len2 (B := 9) (N := 6) (dls sd) (by rw [List.length_map, dlen sd]; exact sd.le) (by decide +kernel)
theorem h3 : runF G (d + 4) "_law_heard" [.str (textOf " " ((deedsOf tags).map deedT)), .int (3 : Nat)] R h = .ok (bitsV (deedsOf tags)) h := by
  refine heard_ok (d := d + 3) (j := 3) (by decide) ?_ (areData_map _ fun _ _ => rfl)
  show runF G (d + 3) "run_from" [.str (textOf " " ((deedsOf tags).map deedT))] (R ++ h) [] = _
  rw [run_from_ok (Φs := runF G) i_runF i_name (len14 sd), deeds_back (dn sd), deeds_run (dn sd)]; rfl
end
end K02

end
section -- K02g
namespace K02
open PySem PySem.Spec PyProof.Rows L2 Z
theorem text_if {sep : Str} {ws : List Str} : (if (!ws.isEmpty) = true then Txt.join sep ws else "-") = textOf sep ws := by
  unfold textOf
  cases ws with
  | nil => rfl
  | cons w r => rfl
theorem text_ne {sep : Str} {ws : List Str} (h : ws ≠ []) : textOf sep ws = Txt.join sep ws := if_neg h
theorem L1 {m : Mem} {x : PV} : fLst m [x] = some (.lst [x]) := if_pos (by rw [sizeLine_val]; simp)
theorem L2' {m : Mem} {x y : PV} : fLst m [x, y] = some (.lst [x, y]) := if_pos (by rw [sizeLine_val]; simp)
theorem L3 {m : Mem} {x y z : PV} : fLst m [x, y, z] = some (.lst [x, y, z]) := if_pos (by rw [sizeLine_val]; simp)
theorem L4 {m : Mem} {x y z w : PV} : fLst m [x, y, z, w] = some (.lst [x, y, z, w]) := if_pos (by rw [sizeLine_val]; simp)
theorem two_tags {tags line : List Str} {fs : List (Nat × Nat)} (w : WebD tags line fs) (h : fs ≠ []) : 2 ≤ tags.length := by
  match fs, h, w with
  | q :: r, _, w =>
    have := w.wi.lt q (List.mem_cons_self ..)
    have := w.pm.length_eq
    omega
theorem case_ok (d : Nat) (R : Mem) : CaseS (runF G (d + 7)) R := by
  intro h i m hi b hm
  obtain ⟨tags, g1, e1, sd, _, c1, b1⟩ := steps_draw (takeS (d + 4)) (ofS (d + 3)) (pickS (d + 3)) (R := R) (most := 6) b hi (by omega) (by decide) (by decide)
  have i1 := hi.of_chg c1.1 b1 c1.2
  obtain ⟨line, fs, gs, g2, e2, w1, w2, c2, b2⟩ := webs_draw (takeS (d + 4)) (pickS (d + 3)) (R := R) sd b1 i1 (by omega)
  have i2 := i1.of_chg c2.1 b2 c2.2
  obtain ⟨bits, hbits⟩ : ∃ bits, bits = readsOf line fs := ⟨_, rfl⟩
  rw [← hbits] at e2
  have tl := sd.le
  have bo : ∀ q ∈ bits, okPair q := fun q hq => by
    rw [hbits] at hq
    exact w1.okp sd.nodup sd.nm q ((isortA_mem OP).mp hq)
  have bs : bits.Pairwise (fun a b => ltP a b = true) := by rw [hbits]; exact isortA_sorted OP (w1.nodup sd.nodup)
  have bll : bits.length = fs.length := by
    rw [hbits]
    unfold readsOf
    rw [(isortA_perm OP _).length_eq, List.length_map]
  have bl : bits.length ≤ 120 := by
    have := w1.le
    have := w1.pm.length_eq
    omega
  have c12 := c1.trans c2
  have e1' : runF G (d + 6) "_law_steps" [.ref (R.length + i), .int 6] R h = .ok (tupS tags) g1 := (r_law_steps (d + 5) _ R h).trans e1
  have e2' : runF G (d + 6) "_law_webs" [.ref (R.length + i), tupS tags] R g1 = .ok (.tup [bitsV bits, .tup ((readsOf line gs).map pv2)]) g2 := (r_law_webs (d + 5) _ R g1).trans e2
  have s0 : B_law_case_right_0 (runF G (d + 6)) R [some (.ref (R.length + i)), none, none, none, none, none, none, none, none] h = .nx [some (.ref (R.length + i)), some (tupS tags), none, none, none, none, none, none, none] g1 := by
    unfold B_law_case_right_0
    simp [e1']
  have s1 : B_law_case_right_1 (runF G (d + 6)) R [some (.ref (R.length + i)), some (tupS tags), none, none, none, none, none, none, none] g1 = .nx [some (.ref (R.length + i)), some (tupS tags), some (bitsV bits), none, none, none, none, none, none] g2 := by
    unfold B_law_case_right_1
    rw [ev_asg, ev_op2, ev_call]
    show (((runF G (d + 6) "_law_webs" [.ref (R.length + i), tupS tags] R g1).bind _)).go _ _ = _
    rw [e2']
    rfl
  have eqT : ∀ m, fEq m (tupS tags) (.tup []) = some (.bl tags.isEmpty) := fun m => by
    have := eq_tup (m := m) (xs := tags.map .str) (by have := dep_strs tags; unfold tupS at this; omega) (plain_strs tags)
    rw [isE_map] at this
    exact this
  have neT : ∀ m, fNe m (tupS tags) (.tup []) = some (.bl (!tags.isEmpty)) := fun m => by
    have := ne_tup (m := m) (xs := tags.map .str) (by have := dep_strs tags; unfold tupS at this; omega) (plain_strs tags)
    rw [isE_map] at this
    exact this
  have eqB : ∀ m, fEq m (bitsV bits) (.tup []) = some (.bl bits.isEmpty) := fun m => by
    have := eq_tup (m := m) (xs := bits.map pv2) (by have := dep_pairs bits; omega) (plain_pairs bits)
    rw [isE_map] at this
    exact this
  have joT : ∀ m, sJoin m (.str " ") [tupS tags] = some (.str (Txt.join " " tags)) := fun m => join_str (.inl rfl) (room6 sd)
  have H0 := fun R h => h0 sd (d := d + 2) (R := R) (h := h)
  have sm : ∀ v : PV, okS v = true → dep v ≤ 4 → ∀ h, runF G (d + 6) "_law_same" [v, v] R h = .ok (.bl true) h := fun v ov dv h => same_ok (fun d as R h => sameIs d as R h) (d + 6) v ov (by omega) R h
  have okT : okS (tupS tags) = true := okS_strs (by rw [sizeLine_val]; omega)
  rw [r_law_case_right, show startE 9 [.ref (R.length + i)] = [some (.ref (R.length + i)), none, none, none, none, none, none, none, none] from rfl]
  unfold B_law_case_right B_law_case_right_t1 B_law_case_right_t2
  rw [ev_seq, s0, ev_nx, ev_seq, s1, ev_nx, ev_seq]
  by_cases he : tags.isEmpty = true ∨ bits.isEmpty = true
  · refine ⟨g2, ?_, c12, b2.mono (by omega)⟩
    have s2 : B_law_case_right_2 (runF G (d + 6)) R [some (.ref (R.length + i)), some (tupS tags), some (bitsV bits), none, none, none, none, none, none] g2 = .ret (.bl true) g2 := by
      have tst : tOr2 (cCmpT fEq (cVar 1) (cFn fTup cNil)) (cCmpT fEq (cVar 2) (cFn fTup cNil)) R [some (.ref (R.length + i)), some (tupS tags), some (bitsV bits), none, none, none, none, none, none] g2 = .ok true g2 := by
        cases ht : tags.isEmpty with
        | true => simp [tup0, eqT, ht]
        | false =>
          have hb : bits.isEmpty = true := he.elim (fun z => by rw [ht] at z; cases z) id
          simp [tup0, eqT, ht, eqB, hb]
      have jo : cIf (cCmpT fNe (cVar 1) (cFn fTup cNil)) (cStrM sJoin (cC (.str " ")) (cCons (cVar 1) cNil)) (cC (.str "-")) R [some (.ref (R.length + i)), some (tupS tags), some (bitsV bits), none, none, none, none, none, none] g2 = .ok (.str (textOf " " tags)) g2 := by
        rw [← text_if]
        cases ht : tags.isEmpty with
        | true => simp [tup0, neT, ht]
        | false => simp [tup0, neT, ht, joT]
      have hh := H0 R g2
      have s9 := sm (.lst [tupS tags]) (okS_lst (by rw [sizeLine_val]; simp) fun x hx => by rw [List.mem_singleton.mp hx]; exact okT) (by rw [dep]; have := dep_strs tags; simp [deps]; omega) g2
      have hc : cCall (runF G (d + 6) "_law_heard") 2 [] (cCons (cIf (cCmpT fNe (cVar 1) (cFn fTup cNil)) (cStrM sJoin (cC (.str " ")) (cCons (cVar 1) cNil)) (cC (.str "-"))) (cCons (cC (.int 0)) cNil)) R [some (.ref (R.length + i)), some (tupS tags), some (bitsV bits), none, none, none, none, none, none] g2 = .ok (tupS tags) g2 := by
        rw [ev_call, ev_cons, jo, ev_bind, ev_cons]
        exact hh
      unfold B_law_case_right_2
      rw [ev_if, tst]
      show sSeq (sRet (cCall (runF G (d + 6) "_law_same") 2 [] (cCons (cFn fLst (cCons (cCall (runF G (d + 6) "_law_heard") 2 [] (cCons (cIf (cCmpT fNe (cVar 1) (cFn fTup cNil)) (cStrM sJoin (cC (.str " ")) (cCons (cVar 1) cNil)) (cC (.str "-"))) (cCons (cC (.int 0)) cNil))) cNil)) (cCons (cFn fLst (cCons (cVar 1) cNil)) cNil)))) sPass R [some (.ref (R.length + i)), some (tupS tags), some (bitsV bits), none, none, none, none, none, none] g2 = _
      rw [ev_seq, ev_sret, ev_call, ev_cons, ev_fn, ev_cons, hc]
      obtain ⟨T, hT⟩ : ∃ T, T = tupS tags := ⟨_, rfl⟩
      rw [← hT] at s9 ⊢
      simp [L1, s9]
    rw [s2]
    exact fin_same c12.1 rfl
  · have ht : tags.isEmpty = false := by cases z : tags.isEmpty with | false => rfl | true => exact absurd (.inl z) he
    have hb : bits.isEmpty = false := by cases z : bits.isEmpty with | false => rfl | true => exact absurd (.inr z) he
    have t0 : tags ≠ [] := fun z => by rw [z] at ht; cases ht
    have b0 : bits ≠ [] := fun z => by rw [z] at hb; cases hb
    have f0 : fs ≠ [] := fun z => b0 (List.eq_nil_of_length_eq_zero (by rw [bll, z]; rfl))
    have t2 := two_tags w1 f0
    have p0 : bits.map pairT ≠ [] := fun z => b0 (List.map_eq_nil_iff.mp z)
    have dd0 : (deedsOf tags).map deedT ≠ [] := fun z => t0 (List.map_eq_nil_iff.mp (List.map_eq_nil_iff.mp z))
    obtain ⟨x3, hx3⟩ : ∃ x, x = Txt.join "; " (bits.map pairT) := ⟨_, rfl⟩
    obtain ⟨x6, hx6⟩ : ∃ x, x = Txt.join " " ((deedsOf tags).map deedT) := ⟨_, rfl⟩
    obtain ⟨x1, hx1⟩ : ∃ x, x = Txt.join " " tags := ⟨_, rfl⟩
    have H1 := fun R h => h1 bo bs bl (d := d + 2) (R := R) (h := h)
    have H3 := fun R h => h3 sd (d := d + 2) (R := R) (h := h)
    rw [text_ne t0, ← hx1] at H0
    rw [text_ne p0, ← hx3] at H1
    rw [text_ne dd0, ← hx6] at H3
    rw [← hx1] at joT
    -- the draws of the three bent texts
    obtain ⟨g3, k3, c3, b3⟩ := bent_ok (d := d + 1) (R := R) (flat := x1) (cut := " ") (ill := ["--", "1"]) (ws := tags) (j := 0) b2 i2 (by omega) (by rw [hx1]; exact TL.split_join tl_blank (by decide +kernel) t0 fun w hw => name_free (sd.nm w hw) (by decide)) (by decide +kernel) (by rw [hx1]; exact join_short (N := 6) (B := 8) (fun w hw => (name_len (sd.nm w hw)).2) sd.le (by decide +kernel)) t0 (by omega) (fun w hw => by have := (name_len (sd.nm w hw)).2; omega) (by
      have : (["--", "1"] : List Str).all (fun v => decide (v.length ≤ 100)) = true := by decide +kernel
      exact fun v hv => of_decide_eq_true (List.all_eq_true.mp this v hv)) (by decide) (by decide +kernel) (fun k w y hw hy R h => bad0 sd t2 k w y hw hy R h)
    have i3 := i2.of_chg c3.1 b3 c3.2
    obtain ⟨g4, k4, c4, b4⟩ := bent_ok (d := d + 1) (R := R) (flat := x3) (cut := "; ") (ill := ["a", "a a", "a b c", "a  b"]) (ws := bits.map pairT) (j := 1) b3 i3 (by omega) (by
      rw [hx3]
      refine TL.split_join tl_semi (by decide +kernel) p0 fun w hw => ?_
      obtain ⟨q, hq, rfl⟩ := List.mem_map.mp hw
      rw [pairT_tl]
      exact nmem_app (name_free (bo q hq).1 (by decide)) (nmem_cons (by decide) (name_free (bo q hq).2.1 (by decide)))) (by decide +kernel) (by rw [hx3]; exact join_short (N := 120) (B := 17) (pls bo bl) (by rw [List.length_map]; exact bl) (by decide +kernel)) p0 (by rw [List.length_map]; omega) (fun w hw => by have := pls bo bl w hw; omega) (by
      have : (["a", "a a", "a b c", "a  b"] : List Str).all (fun v => decide (v.length ≤ 100)) = true := by decide +kernel
      exact fun v hv => of_decide_eq_true (List.all_eq_true.mp this v hv)) (by decide) (by decide +kernel) (fun k w y hw hy R h => bad1 bo bs b0 bl k w y hw hy R h)
    have i4 := i3.of_chg c4.1 b4 c4.2
    obtain ⟨g5, k5, c5, b5⟩ := bent_ok (d := d + 1) (R := R) (flat := x6) (cut := " ") (ill := ["a", "+", "-", "+-a"]) (ws := (deedsOf tags).map deedT) (j := 3) b4 i4 (by omega) (by
      rw [hx6]
      refine TL.split_join tl_blank (by decide +kernel) dd0 fun w hw => ?_
      obtain ⟨q, hq, rfl⟩ := List.mem_map.mp hw
      rw [deedT_tl (dn sd q hq)]
      exact nmem_cons (by split <;> decide) (name_free (dn sd q hq).2 (by decide))) (by decide +kernel) (by rw [hx6]; exact join_short (N := 6) (B := 9) (dls sd) (by rw [List.length_map, dlen sd]; exact sd.le) (by decide +kernel)) dd0 (by rw [List.length_map, dlen sd]; omega) (fun w hw => by have := dls sd w hw; omega) (by
      have : (["a", "+", "-", "+-a"] : List Str).all (fun v => decide (v.length ≤ 100)) = true := by decide +kernel
      exact fun v hv => of_decide_eq_true (List.all_eq_true.mp this v hv)) (by decide) (by decide +kernel) (fun k w y hw hy R h => bad3 sd t2 k w y hw hy R h)
    have cc := ((c12.trans c3).trans c4).trans c5
    refine ⟨g5, ?_, cc, b5.mono (by omega)⟩
    have jo3 : ∀ m, sJoin m (.str "; ") [.lst ((bits.map pairT).map .str)] = some (.str x3) := fun m => by rw [hx3]; exact join_str (.inr rfl) (room7 bo bl)
    have jo6 : ∀ m, sJoin m (.str " ") [.lst (((deedsOf tags).map deedT).map .str)] = some (.str x6) := fun m => by rw [hx6]; exact join_str (.inr rfl) (room14 sd)
    have s2 : B_law_case_right_2 (runF G (d + 6)) R [some (.ref (R.length + i)), some (tupS tags), some (bitsV bits), none, none, none, none, none, none] g2 = .nx [some (.ref (R.length + i)), some (tupS tags), some (bitsV bits), none, none, none, none, none, none] g2 := by
      unfold B_law_case_right_2
      obtain ⟨T, hT⟩ : ∃ T, T = tupS tags := ⟨_, rfl⟩
      obtain ⟨B, hB⟩ : ∃ B, B = bitsV bits := ⟨_, rfl⟩
      rw [← hT] at eqT ⊢
      rw [← hB] at eqB ⊢
      rw [ht] at eqT
      rw [hb] at eqB
      simp [tup0, eqT, eqB]
    have lc3 : cLc [4, 5] (iVal (cVar 2)) (Z.gTup [Z.gName 4, Z.gName 5]) tYesE (cOp2 fAdd (cOp2 fAdd (cVar 4) (cC (.str " "))) (cVar 5)) R [some (.ref (R.length + i)), some (tupS tags), some (bitsV bits), none, none, none, none, none, none] g2 = .ok (.lst ((bits.map pairT).map .str)) g2 := by
      rw [List.map_map]
      refine lc_items (xs := bits.map pv2) (h1 := g2) rfl (compL_map (emb := pv2) (f := PV.str ∘ pairT) _ fun q hq => ⟨[some (.ref (R.length + i)), some (tupS tags), some (bitsV bits), none, some (.str q.1), some (.str q.2), none, none, none], rfl, ?_⟩) (by rw [List.length_map]; rw [sizeLine_val]; omega)
      have l1 := (name_len (bo q hq).1).2
      have l2 := (name_len (bo q hq).2.1).2
      have lb : (" " : Str).length = 1 := by decide +kernel
      have u1 : ∀ m, fAdd m (.str q.1) (.str " ") = some (.str (q.1 ++ " ")) := fun m => add_str (by omega)
      have u2 : ∀ m, fAdd m (.str (q.1 ++ " ")) (.str q.2) = some (.str (q.1 ++ " " ++ q.2)) := fun m => add_str (by rw [len_app]; omega)
      have u3 : q.1 ++ " " ++ q.2 = pairT q := by
        refine TL.ext_tl ?_
        rw [pairT_tl, TL.tl_append, TL.tl_append, tl_blank]; simp
      simp [u1, u2]
      exact u3
    have s3 : B_law_case_right_3 (runF G (d + 6)) R [some (.ref (R.length + i)), some (tupS tags), some (bitsV bits), none, none, none, none, none, none] g2 = .nx [some (.ref (R.length + i)), some (tupS tags), some (bitsV bits), some (.str x3), none, none, none, none, none] g2 := by
      unfold B_law_case_right_3
      rw [ev_asg, ev_strM, ev_c, ev_bind, isStrV_str, if_pos rfl, ev_cons, lc3]
      obtain ⟨L, hL⟩ : ∃ L, L = PV.lst ((bits.map pairT).map .str) := ⟨_, rfl⟩
      rw [← hL] at jo3 ⊢
      simp [jo3]
    have lc6 : cLc [7] (iVal (cVar 1)) (Z.gName 7) tYesE (cOp2 fAdd (cC (.str "+")) (cVar 7)) R [some (.ref (R.length + i)), some (tupS tags), some (bitsV bits), some (.str x3), none, none, none, none, none] g2 = .ok (.lst (((deedsOf tags).map deedT).map .str)) g2 := by
      unfold deedsOf
      rw [List.map_map, List.map_map]
      refine lc_items (xs := tags.map .str) (h1 := g2) rfl (compL_map (emb := PV.str) (f := (PV.str ∘ deedT) ∘ fun t => (("begin", t) : Str × Str)) _ fun q hq => ⟨[some (.ref (R.length + i)), some (tupS tags), some (bitsV bits), some (.str x3), none, none, none, some (.str q), none], rfl, ?_⟩) (by rw [List.length_map]; rw [sizeLine_val]; omega)
      have l1 := (name_len (sd.nm q hq)).2
      have lb : ("+" : Str).length = 1 := by decide +kernel
      have u1 : ∀ m, fAdd m (.str "+") (.str q) = some (.str ("+" ++ q)) := fun m => add_str (by omega)
      have u3 : "+" ++ q = deedT ("begin", q) := by unfold deedT; rw [if_pos rfl]
      simp [u1]
      exact u3
    have s4 : B_law_case_right_4 (runF G (d + 6)) R [some (.ref (R.length + i)), some (tupS tags), some (bitsV bits), some (.str x3), none, none, none, none, none] g2 = .nx [some (.ref (R.length + i)), some (tupS tags), some (bitsV bits), some (.str x3), none, none, some (.str x6), none, none] g2 := by
      unfold B_law_case_right_4
      rw [ev_asg, ev_strM, ev_c, ev_bind, isStrV_str, if_pos rfl, ev_cons, lc6]
      obtain ⟨L, hL⟩ : ∃ L, L = PV.lst (((deedsOf tags).map deedT).map .str) := ⟨_, rfl⟩
      rw [← hL] at jo6 ⊢
      simp [jo6]
    have h00 := H0 R g2
    have h11 := H1 R g2
    have h33 := H3 R g2
    obtain ⟨T, hT⟩ : ∃ T, T = tupS tags := ⟨_, rfl⟩
    obtain ⟨B, hB⟩ : ∃ B, B = bitsV bits := ⟨_, rfl⟩
    obtain ⟨Dv, hD⟩ : ∃ D, D = bitsV (deedsOf tags) := ⟨_, rfl⟩
    have okB : okS B = true := by rw [hB]; exact okS_pairs (by rw [sizeLine_val]; omega)
    have okD : okS Dv = true := by rw [hD]; exact okS_pairs (by rw [dlen sd, sizeLine_val]; omega)
    have dB : dep B ≤ 2 := by rw [hB]; exact dep_pairs bits
    have dD : dep Dv ≤ 2 := by rw [hD]; exact dep_pairs _
    have dT : dep T ≤ 1 := by rw [hT]; exact dep_strs tags
    have sF := sm (.lst [T, B, Dv]) (okS_lst (by rw [sizeLine_val]; simp) fun x hx => by
      simp only [List.mem_cons, List.not_mem_nil, or_false] at hx
      rcases hx with rfl | rfl | rfl
      · rw [hT]; exact okT
      · exact okB
      · exact okD) (by
      rw [dep]
      have : deps [T, B, Dv] ≤ 2 := deps_le.mpr fun x hx => by
        simp only [List.mem_cons, List.not_mem_nil, or_false] at hx
        rcases hx with rfl | rfl | rfl <;> omega
      omega) g2
    have lcD : cLc [7] (iVal (cVar 1)) (Z.gName 7) tYesE (cFn fTup (cCons (cC (.str "begin")) (cCons (cVar 7) cNil))) R [some (.ref (R.length + i)), some T, some B, some (.str x3), none, none, some (.str x6), none, some (.lst [T, B, Dv])] g2 = .ok (.lst ((deedsOf tags).map pv2)) g2 := by
      unfold deedsOf
      rw [List.map_map]
      refine lc_items (xs := tags.map .str) (h1 := g2) (by rw [hT]; rfl) (compL_map (emb := PV.str) (f := pv2 ∘ fun t => (("begin", t) : Str × Str)) _ fun q hq => ⟨[some (.ref (R.length + i)), some T, some B, some (.str x3), none, none, some (.str x6), some (.str q), some (.lst [T, B, Dv])], rfl, ?_⟩) (by rw [List.length_map]; rw [sizeLine_val]; omega)
      have tp : ∀ m, fTup m [.str "begin", .str q] = some (pv2 ("begin", q)) := fun m => if_pos (by rw [sizeLine_val]; simp)
      simp [tp]
    have tD : ∀ m, fTuple m (.lst ((deedsOf tags).map pv2)) = some Dv := fun m => by rw [hD]; rfl
    rw [← hT] at h00 joT s2 s3 s4 ⊢
    rw [← hB] at h11 s2 s3 s4 ⊢
    rw [← hD] at h33
    have s5 : B_law_case_right_5 (runF G (d + 6)) R [some (.ref (R.length + i)), some T, some B, some (.str x3), none, none, some (.str x6), none, none] g2 = .nx [some (.ref (R.length + i)), some T, some B, some (.str x3), none, none, some (.str x6), none, some (.lst [T, B, Dv])] g2 := by
      have h00' : runF G (d + 6) "_law_heard" [.str x1, .int 0] R g2 = .ok T g2 := h00
      have h11' : runF G (d + 6) "_law_heard" [.str x3, .int 1] R g2 = .ok B g2 := h11
      have h33' : runF G (d + 6) "_law_heard" [.str x6, .int 3] R g2 = .ok Dv g2 := h33
      unfold B_law_case_right_5
      simp [joT, h00', h11', h33', L3]
    have s6 : B_law_case_right_6 (runF G (d + 6)) R [some (.ref (R.length + i)), some T, some B, some (.str x3), none, none, some (.str x6), none, some (.lst [T, B, Dv])] g2 = .nx [some (.ref (R.length + i)), some T, some B, some (.str x3), none, none, some (.str x6), none, some (.lst [T, B, Dv])] g2 := by
      obtain ⟨Q, hQ⟩ : ∃ Q, Q = PV.lst ((deedsOf tags).map pv2) := ⟨_, rfl⟩
      rw [← hQ] at lcD tD
      unfold B_law_case_right_6
      simp [lcD, tD, L3, sF]
    have k3' : runF G (d + 6) "_law_bent_right" [.ref (R.length + i), .str x1, .str " ", .int 0, .lst [.str "--", .str "1"]] R g2 = .ok (.bl true) g3 := k3
    have k4' : runF G (d + 6) "_law_bent_right" [.ref (R.length + i), .str x3, .str "; ", .int 1, .lst [.str "a", .str "a a", .str "a b c", .str "a  b"]] R g3 = .ok (.bl true) g4 := k4
    have k5' : runF G (d + 6) "_law_bent_right" [.ref (R.length + i), .str x6, .str " ", .int 3, .lst [.str "a", .str "+", .str "-", .str "+-a"]] R g4 = .ok (.bl true) g5 := k5
    have s7 : B_law_case_right_7 (runF G (d + 6)) R [some (.ref (R.length + i)), some T, some B, some (.str x3), none, none, some (.str x6), none, some (.lst [T, B, Dv])] g2 = .nx [some (.ref (R.length + i)), some T, some B, some (.str x3), none, none, some (.str x6), none, some (.lst [T, B, Dv])] g3 := by
      unfold B_law_case_right_7
      simp [joT, L2', k3']
    have s8 : B_law_case_right_8 (runF G (d + 6)) R [some (.ref (R.length + i)), some T, some B, some (.str x3), none, none, some (.str x6), none, some (.lst [T, B, Dv])] g3 = .nx [some (.ref (R.length + i)), some T, some B, some (.str x3), none, none, some (.str x6), none, some (.lst [T, B, Dv])] g4 := by
      unfold B_law_case_right_8
      simp [L4, k4']
    have s9 : B_law_case_right_9 (runF G (d + 6)) R [some (.ref (R.length + i)), some T, some B, some (.str x3), none, none, some (.str x6), none, some (.lst [T, B, Dv])] g4 = .ret (.bl true) g5 := by
      unfold B_law_case_right_9
      simp [L4, k5']
    unfold B_law_case_right_t3 B_law_case_right_t4 B_law_case_right_t5 B_law_case_right_t6 B_law_case_right_t7 B_law_case_right_t8 B_law_case_right_t9
    rw [s2, ev_nx, ev_seq, s3, ev_nx, ev_seq, s4, ev_nx, ev_seq, s5, ev_nx, ev_seq, s6, ev_nx, ev_seq, s7, ev_nx, ev_seq, s8, ev_nx, ev_seq, s9]
    exact fin_same cc.1 rfl
theorem right_ok (d : Nat) (R : Mem) : RightS (runF G (d + 8)) R := by
  intro h i hi b
  obtain ⟨h', m, e, c, b'⟩ := six_cases (case_ok d R) hi b
  exact ⟨h', m, (r_law_right (d + 7) _ R h).trans e, c, b'⟩
theorem by_hand (xs : List PV) : runF G 11 "_law_by_hand_right" [] [.frz xs] [] = .ok (.bl true) [] := by kernel_rfl
theorem main (ns : List Int) (hl : ns.length ≤ 63) : ∃ h, runF G 12 "law" [.ref 0] [.frz (ns.map PV.int)] [] = .ok (.bl true) h := by
  obtain ⟨cs, e1, l1, l2⟩ := cells_ok (R := [.frz (ns.map PV.int)]) (h := []) (ns := ns) rfl hl
  obtain ⟨h', e2⟩ := boxes_lc (c := 91702) (by decide) (by decide) (R := [.frz (ns.map PV.int)]) (h := []) (p := .ref 0) (cs := cs) (by omega) (fun o ho => by cases ho) (fun as R h => r_law_box 10 as R h) (right_ok 3 _)
  refine ⟨[], ?_⟩
  rw [r_law, show startE 3 [.ref 0] = [some (.ref 0), none, none] from rfl]
  have e1' : runF G 11 "_law_cells" [.ref 0, .int 3] [.frz (ns.map PV.int)] [] = .ok (.lst (cs.map PV.int)) [] := (r_law_cells 10 _ _ _).trans e1
  have s0 : B_law_0 (runF G 11) ([.frz (ns.map PV.int)] ++ []) [some (.ref 0), none, none] [] = .nx [some (.ref 0), some (.lst (cs.map PV.int)), none] [] := by
    unfold B_law_0
    simp [e1']
  have s1 : B_law_1 (runF G 11) ([.frz (ns.map PV.int)] ++ []) [some (.ref 0), some (.lst (cs.map PV.int)), none] [] = .ret (.bl true) h' := by
    have bh : cCall0 (runF G 11 "_law_by_hand_right") 0 [] [.frz (ns.map PV.int)] [some (.ref 0), some (.lst (cs.map PV.int)), none] [] = .ok (.bl true) [] := by
      unfold cCall0
      rw [if_pos (show ([] : List PV).length = 0 from rfl), by_hand]
    unfold B_law_1
    rw [List.append_nil, ev_sret, ev_andV, bh, ev_bind, ev_tbl, ev_andKt, ev_fn, ev_cons, e2]
    have al : ∀ m, fAll m (.lst (cs.map fun _ => PV.bl true)) = some (.bl true) := fun m => by
      have := all_map (m := m) (fun _ : Int => true) cs
      rw [this]; simp
    simp [al]
  unfold B_law B_law_t1
  rw [ev_seq, s0, ev_nx, ev_seq, s1]
  rfl
end K02

end
section -- K02z
open PySem PySem.W PySem.Calls PyProof.Rows
theorem PySem.Challenge.cw_seatsahead_k02_wrong_texts_holds : PySem.Challenge.rw_seatsahead_k02_wrong_texts.Holds := by
  w_on; o_law
  refine HandSHeadRun.head_any (r := OpenLaw.row PySem.Challenge.rw_seatsahead_k02_wrong_texts) (q := view (OpenLaw.row PySem.Challenge.rw_seatsahead_k02_wrong_texts).prog [36]) (H := K02.hk) (ob := K02.ob) (M := 4000) (loose := K02.oth) (d := HandSHeadRun.topDef (OpenLaw.row PySem.Challenge.rw_seatsahead_k02_wrong_texts).prog 36) (kwd := []) K02.ob_eq
    (by kernel_rfl) (fun s => by kernel_rfl) K02.run (by kernel_rfl) (by kernel_rfl) (by kernel_rfl) (by rfl) (by first | assumption | decide +kernel) (by decide +kernel) ⟨rfl, rfl, rfl, rfl, rfl, by decide +kernel⟩ ?hw ?hc
  case hw => w_witness2
  case hc =>
    exact Z.law_end (l := PySem.Challenge.rw_seatsahead_k02_wrong_texts) (n := 63) (d := 12) (m := 4) (G := K02.G) (F := K02.f22) (x := "_law_script") K02.gt rfl (by decide) (by kernel_rfl) ⟨rfl, by decide, by decide⟩ (by kernel_rfl) (by kernel_rfl) (by kernel_rfl) (by kernel_rfl) K02.main

end
