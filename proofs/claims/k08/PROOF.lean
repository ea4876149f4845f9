import PyProof.Rows.All
import Wide.All
import OpenK.AllK
import Wide.FinOn
import KE.KIsAll
import KE.KTryMore
import HandS.Base
import HandS.Call
import HandS.List
import HandS.Exc
import HandS.ExcIs
import HandS.TryMany
import HandS.ExcOwn
import KE.KStateDown
import HandS.ForMost
import HandS.WordsExc
import HandS.ExcInit
import HandS.ExcField
import HandS.IsInst
import HandS.Deep
import HandS.Flow
import HandS.More
import HandS.Wide
import HandS.Defaults
import HandS.Codes
import HandS.Head0
import HandS.Head1
import HandS.Head2
import HandS.HeadEnd
import HandS.HeadHook1
import HandS.HeadHook2
import PySem.Challenge.RW_earlysift_k08_what_a_sift_refuses
set_option Elab.async false
set_option linter.all false
set_option maxRecDepth 100000
set_option maxHeartbeats 0
set_option pp.maxSteps 600
/-! # A caught exception that is kept behind its suite: several clauses with names, the exception tracked from the suite's end on; isinstance of it. -/
namespace K8
open PySem PySem.Spec PySem.W PySem.Calls PyProof.Rows
section
variable {prog : Program} {w : World} {A : Around} {E : Value → Shared → Prop} {s : Shared} {K : Frag} {x D : Addr} {ox : Obj} {od : Option Obj}
theorem findObj_dataO {C : Addr} {name : Str} {a g : Value} (hc : (clsIn K C).isSome = true) (ha : findIn K (.ref C) name = some (some a)) (hg : specialIn K a "__get__" = some (some g)) (ht : takesIn K a = some true) : findObj K C od name = some (.bind g a) := by
  obtain ⟨cd, hc⟩ := Option.isSome_iff_exists.mp hc
  unfold findObj
  rw [hc, Option.bind_some, ha, Option.bind_some]
  simp [hg, ht]
/-- getattr(x, "__class__") of an exception whose dict may stand -/
theorem kin_classO {Q : Option Value → Shared → Prop} (hga : findIn K (.ref D) "__getattribute__" = some (some (.builtin "BaseException.__getattribute__"))) (hgt : findIn K (.ref D) "__getattr__" = some none) (hsub : subIn K (.ref D) (.type "BaseException") = some true)
    (hdct : hasDictIn K D = true) (ha : findIn K (.ref D) "__class__" = some (some (.builtin "object.__class__")))
    (hn : specialIn K (.builtin "object.__class__") "__get__" = some (some (.builtin "getset_descriptor.__get__"))) (htk : takesIn K (.builtin "object.__class__") = some true) (hm : mroIn K D (.type "object") = some true)
    (X : K.In s.heap) (I : PySem.W.InstAt s.heap x ox D od) (h : Q (some (.ref D)) { s with toks := s.toks + 1 }) : wpAny (model prog w) A (getAttr? (.ref x) "__class__") Q E s := by
  have hf : findObj K D od "__class__" = some (.bind (.builtin "getset_descriptor.__get__") (.builtin "object.__class__")) := findObj_dataO (by obtain ⟨cd, hc, _⟩ := any_some hdct; rw [hc]; rfl) ha hn htk
  obtain ⟨hp, g, d, t, os⟩ := s
  have L0 := I.type (M := model prog w)
  have L1 := looks_findIn (M := model prog w) X hga
  have L2 := looks_findIn (M := model prog w) X hgt
  have L3 := looks_find (M := model prog w) X I hf
  have sub : Looks (model prog w) hp (isInstance (.ref x) (.type "BaseException")) true := L0.andThen (looks_subIn X hsub)
  have hx0 : (false && onTheHeap (Value.builtin "BaseException.__getattribute__")) = false := rfl
  have hx2 : (Value.builtin "BaseException.__getattribute__" == Value.builtin "object.__getattribute__") = false := by decide +kernel
  have hx1 : (onTheHeap (Value.ref D) && Value.builtin "BaseException.__getattribute__" == Value.builtin "object.__getattribute__") = false := by rw [hx2]; rfl
  unfold getAttr? getAttrBy? getAttrBy
  refine wpAny_bind (wpAny_mkText (wpAny_bind (wpAny_attempt (wpAny_holding (wpAny_bind (L0.at (wpAny_bind (L1.at ?_))))))))
  show wpAny _ _ (if (onTheHeap (Value.ref D) && Value.builtin "BaseException.__getattribute__" == Value.builtin "object.__getattribute__") = true then _ else _) _ _ _
  rw [hx1, if_neg Bool.false_ne_true]
  unfold getAttrByItsOwn hookBefore
  refine wpAny_bind ?_
  rw [if_pos (show onTheHeap (Value.ref D) = true from rfl)]
  refine L2.at ?_
  refine wpAny_bind (wpAny_attempt (wpAny_holding ?_))
  unfold callGetattribute
  rw [hx0, if_neg Bool.false_ne_true]
  unfold boundAndCalled
  rw [PySem.F.excAttr_ValueError.ga.bind (.ref x)]
  refine wpAny_bind (wpAny_pure ?_)
  show wpAny _ _ (call (.builtin "BaseException.__getattribute__") [.ref x, .str "__class__" t]) _ _ _
  refine wpAny_call (codeAny_call_builtin PySem.F.excAttr_ValueError.ga.plain PySem.F.entry_bexc_ga ?_)
  refine @check_slot (model prog w) _ _ ⟨hp, g, d, t + 1, os⟩ "BaseException.__getattribute__" "BaseException" "__getattribute__" (.ref x) [.str "__class__" t] [] _ (by decide +kernel) (by decide +kernel) sub (PySem.F.args_bexc_ga (.ref x) (.str "__class__" t)) ?_
  unfold Builtin.«object.__getattribute__»
  refine wpAny_bind (wpAny_of_eq (a := ((Value.ref x : Value), [Value.str "__class__" t])) (by first | rfl | (simp only [slotArgs]; rfl)) ?_)
  refine wpAny_bind (wpAny_pure (wpAny_bind (L0.at (wpAny_bind (L3.at ?_)))))
  show wpAny _ _ (holding [Value.builtin "object.__class__"] (call (.builtin "getset_descriptor.__get__") [.builtin "object.__class__", .ref x, .ref D]) >>= ret) _ _ _
  refine wpAny_bind (wpAny_holding (wpAny_call (class_get (s := ⟨hp, g, d, t + 1, os⟩) (ox := ox) (od := od) X I hm ?_)))
  refine wpAny_pure ?_
  show wpAny _ _ (handedOut (.ref D)) _ _ _
  rw [handedOut_of (v := .ref D) rfl]
  first
    | exact wpAny_pure (wpAny_pure h)
    | exact wpAny_pure h
    | exact wpAny_pure (wpAny_bind (wpAny_pure (wpAny_pure h)))
theorem kitx_excO (hga : findIn K (.ref D) "__getattribute__" = some (some (.builtin "BaseException.__getattribute__"))) (hgt : findIn K (.ref D) "__getattr__" = some none) (hsub : subIn K (.ref D) (.type "BaseException") = some true) (hdct : hasDictIn K D = true) (ha : findIn K (.ref D) "__class__" = some (some (.builtin "object.__class__")))
    (hn : specialIn K (.builtin "object.__class__") "__get__" = some (some (.builtin "getset_descriptor.__get__"))) (htk : takesIn K (.builtin "object.__class__") = some true) (hm : mroIn K D (.type "object") = some true) :
    KitX K (.ref x) (.ref D) (fun h => PySem.W.InstAt h x ox D od) where
  ty := fun _ _ _ I => I.type
  it := fun _ _ X _ => by
    obtain ⟨cdD, hcD, _⟩ := any_some hdct
    unfold clsIn at hcD
    split at hcD
    · rename_i c' d' cd' sl' ho
      intro A' Q' E' s' k q
      unfold isType loadHead
      exact wpAny_bind (wpAny_loadPart (k _ _ (X _ _ ho)) (wpAny_pure q))
    · cases hcD
  ne := fun h tp dd its n sl X htp => by
    obtain ⟨cdD, hcD, _⟩ := any_some hdct
    refine Bool.eq_false_iff.mpr fun q => ?_
    have e : D = tp := Value.ref.inj (beq_iff_eq.mp q)
    subst e
    unfold clsIn at hcD
    split at hcD
    · rename_i c' d' cd' sl' ho
      have z := (X _ _ ho).symm.trans htp
      cases z
    · cases hcD
  ca := fun X I k => kin_classO hga hgt hsub hdct ha hn htk hm X I k
end
end K8

namespace K8
open PySem PySem.Spec PyProof.Rows L2
abbrev St := L2.St
/-- a caught exception of the class cls, its own dict at d (if it has one), kept at a -/
def ExV (cls : Value) (d : Option Addr) (a : Addr) : HO := .ext fun h => ∃ (oe : Obj) (vs : Array Value), h.get? a = some oe ∧ Zc cls d oe ∧ oe.data = .fields vs
theorem exV_ok {P : Program} {w : World} {H : Hp} {h : Heap} {a : Addr} {cls : Value} {d : Option Addr} {oe : Obj} {vs : Array Value} (e : h.get? a = some oe) (z : Zc cls d oe) (hd : oe.data = .fields vs) : ObjOk P w H h a (ExV cls d a) :=
  ⟨⟨oe, vs, e, z, hd⟩, ⟨oe, e⟩, fun _ _ ⟨o, v, q, r⟩ k => ⟨o, v, k o q, r⟩⟩
theorem exV_at {P : Program} {w : World} {H : Hp} {h : Heap} {a : Addr} {cls : Value} {d : Option Addr} (hok : HOk P w H h) (e : H a = some (ExV cls d a)) : ∃ (oe : Obj) (vs : Array Value), h.get? a = some oe ∧ Zc cls d oe ∧ oe.data = .fields vs := by
  have x : ObjOk P w H h a (.ext fun h => ∃ (oe : Obj) (vs : Array Value), h.get? a = some oe ∧ Zc cls d oe ∧ oe.data = .fields vs) := hok a _ e
  exact x.1
section
variable {X : Cx} {pins : List (Addr × Obj)} {σ : St} {H : Hp} {s : Shared}
/-- an object that is known and younger than the def's entry is tracked from now on -/
theorem Inv_track {a : Addr} {o : HO} (I : Inv X pins σ H s) (n0 : X.s_0.heap.get? a = none) (nL : a ≠ X.env.locals) (nC : ∀ x c, X.env.cells.lookup x = some c → c ≠ a) (nP : ∀ p ∈ X.pn ++ pins, p.1 ≠ a) (na : H a = none)
    (new : ObjOk X.prog X.w (upd H a o) s.heap a o) : Inv X pins σ (upd H a o) s := by
  have ne0 : ∀ b o, X.s_0.heap.get? b = some o → b ≠ a := fun b o e z => by
    rw [z, n0] at e
    cases e
  have neS : ∀ b u, H b = some u → b ≠ a := fun b u e z => by
    rw [z, na] at e
    cases e
  refine ⟨I.ok, I.os, I.bare, ⟨I.base.keep, I.base.slot, fun b u e n hx => ?_, I.base.there, fun b xs e => ?_, fun b u v e => ?_, fun b ps e => ?_⟩, I.loc, I.cell, ?_, fun x c e => ?_, fun p hp => ?_, fun b u e => ?_, I.len⟩
  · rw [upd_ne (ne0 b u e)]
    exact I.base.free b u e n hx
  · have q := I.base.tups b xs e
    rw [upd_ne (neS b _ q)]
    exact q
  · have q := I.base.frzs b u v e
    rw [upd_ne (neS b _ q)]
    exact q
  · obtain ⟨m, q⟩ := I.base.tbls b ps e
    exact ⟨m, by rw [upd_ne (neS b _ q)]; exact q⟩
  · rw [upd_ne (Ne.symm nL)]
    exact I.free
  · rw [upd_ne (nC x c e)]
    exact I.freeC x c e
  · obtain ⟨e, n, ne, nf, d⟩ := I.pin p hp
    exact ⟨e, by rw [upd_ne (nP p hp)]; exact n, ne, nf, d⟩
  · by_cases hb : b = a
    · subst hb
      rw [upd_same] at e
      cases e
      exact new
    · rw [upd_ne hb] at e
      exact (I.hok b u e).stay (fun _ _ _ q => q) (fun c q => by rw [upd_ne (neS c _ q)]; exact q) fun c xs q => by rw [upd_ne (neS c _ q)]; exact q
end
/-- behind a suite whose exception (at a) is kept -/
def endK (D : Ends) (i : Nat) (cls : Value) (d : Option Addr) (a : Addr) : Ends :=
  { nx := fun σ' H' => D.nx (σ'.set i none) (upd H' a (ExV cls d a)), rt := fun v H' => D.rt v (upd H' a (ExV cls d a)), bk := fun σ' H' => D.bk (σ'.set i none) (upd H' a (ExV cls d a)), ct := fun σ' H' => D.ct (σ'.set i none) (upd H' a (ExV cls d a)) }
/-- what the clauses 'except c as n' (slot i) wish of an exception of the body, one after the other; it is kept -/
def wKeep (K : PySem.W.Frag) (Wout : WX) (D : Ends) : List (Value × Nat × (Addr → Value → Option Addr → TS)) → WX
  | [] => Wout
  | (c, i, ts) :: r => fun cls d σ H => ∃ b, PySem.W.exmOne K cls c = some b ∧ (b = true → ∀ a, H a = none → ts a cls d (endK D i cls d a) (σ.set i (some (.ref a))) H) ∧ (b = false → wKeep K Wout D r cls d σ H)
inductive HdsK (X : Cx) : List ExceptHandler → List (Value × Nat × (Addr → Value → Option Addr → TS)) → Prop
  | nil : HdsK X [] []
  | cons {x n : Str} {c : Value} {i : Nat} {ts : Addr → Value → Option Addr → TS} {b₀ : Stmt} {suite : List Stmt} {np pos' : Pos} {hds : List ExceptHandler} {l : List (Value × Nat × (Addr → Value → Option Addr → TS))} (hi : X.N[i]? = some n) (hln : X.env.kindOf n = some .local) (hc : Names X x c)
      (hsu : ∀ (a : Addr) (oe : Obj) (cls : Value) (d : Option Addr) (pn : List (Addr × Obj)), Zc cls d oe → (∃ vs, oe.data = .fields vs) → PSs (X.suite a ((a, oe) :: pn)) (b₀ :: suite) (ts a cls d)) (r : HdsK X hds l) :
      HdsK X (.ExceptHandler (some (.Name x np)) (some n) (b₀ :: suite) pos' :: hds) ((c, i, ts) :: l)
section
variable {X : Cx} {body : List Stmt} {h₀ : ExceptHandler} {hds : List ExceptHandler} {l : List (Value × Nat × (Addr → Value → Option Addr → TS))} {pos : Pos} {tb : WX → TS} {Wout : WX}
theorem ps_try_keep (hx : X.ex = []) (hs : X.stack = X.env :: X.outer) (hf : X.env.frame = some X.env.locals) (hN : X.N.Nodup) (tk : Takes X Wout)
    (hb : ∀ (W : WX) (pn : List (Addr × Obj)) (xe : Value → Shared → Prop), Takes (X.tr pn xe) W → PassesOwn (model X.prog X.w) X.A X.env xe → PSs (X.tr pn xe) body (tb W))
    (hh : HdsK X (h₀ :: hds) l) : PS X (.Try body (h₀ :: hds) [] [] pos) (fun D σ H => tb (wKeep X.K Wout D l) D σ H) := by
  refine ⟨fun pins s σ H D I h => ?_⟩
  have ok := I.ok
  have hfr : X.A.frames = some (X.env :: X.outer) := by rw [ok.frames, hs]
  refine wpAny_Try_except ?_
  refine wpAny_mono ((hb (wKeep X.K Wout D l) (X.pn ++ pins) (fun e s₁ => wpAny (model X.prog X.w) X.A (noteFrame e X.env) (fun _ s₂ => wpAny (model X.prog X.w) X.A (setFlight e none) (fun _ s₃ =>
    wpAny (model X.prog X.w) X.A (handleBy e X.env (h₀ :: hds)) (SP X pins D) X.xe s₃) X.xe s₂) X.xe s₁) (fun u s' xx => ?_) PassesOwn.looking).run [] s σ H D (I.toTry _) h) (fun f s1 hsp => ?_) (fun e s1 he => he)
  · -- the catch
    obtain ⟨a, B, sI, pins', σ', H', cls, d, rfl, J', nb, up, sky, na, os, ag, w⟩ := xx
    have J : Inv X pins σ' H' sI := J'.ofTry ok
    have sky' : Sky B (X.env :: X.outer) a (Zc cls d) X.env.locals s'.heap := by rw [← hs]; exact sky
    show wpAny (model X.prog X.w) X.A (noteFrame (.ref a) X.env) _ _ _
    refine Sky.land Zc.steady hfr hf sky' fun h3 fl3 up3 => ?_
    have J3 : Inv X pins σ' H' { s' with heap := h3 } := J.landed nb fl3.1 (up.trans up3) os ag
    obtain ⟨oe3, vs3, he3, hz3, hd3⟩ := fl3.there
    have notFr : ∀ {h : Heap} {o : Obj} {vs : Array Value}, h.FunFrames B (X.env :: X.outer) → h.get? a = some o → o.data = .fields vs → a ∉ frs (X.env :: X.outer) := fun {h o vs} ff e dd hm => by
      obtain ⟨_, o', e', hnf⟩ := ff.mem hm
      rw [e] at e'; cases e'
      exact hnf _ dd
    have nfr := notFr fl3.2.2.1 he3 hd3
    have nL : a ≠ X.env.locals := fun z => nfr (List.mem_filterMap.mpr ⟨X.env, List.mem_cons_self, by rw [hf, z]⟩)
    have nF : a ∉ X.fs := fun hm => by
      obtain ⟨e, he, q⟩ := List.mem_filterMap.mp hm
      exact nfr (List.mem_filterMap.mpr ⟨e, List.mem_cons_of_mem _ he, q⟩)
    have Ba : B.get? a = none := fl3.2.1
    -- it is younger than the entry, and no pin
    have n0 : X.s_0.heap.get? a = none := by
      cases e : X.s_0.heap.get? a with
      | none => rfl
      | some o =>
        obtain ⟨o', q⟩ := J.base.there a o e (by rw [hx]; exact fun z => nomatch z)
        have z := nb a o' q (by rw [hs]; exact nfr)
        rw [Ba] at z
        cases z
    have nP : ∀ p ∈ X.pn ++ pins, p.1 ≠ a := fun p hp z => by
      obtain ⟨e, n, ne, nf, _⟩ := J.pin p hp
      have hm : p.1 ∉ frs X.stack := fun hm => by
        rcases List.mem_cons.mp (J.stkSub p.1 hm) with q | q
        · exact ne q
        · exact nf q
      have q := nb p.1 _ e hm
      rw [z, Ba] at q
      cases q
    have S3 := J3.suite he3 hd3 na nL nF
    have go : ∀ {hds' : List ExceptHandler} {l' : List (Value × Nat × (Addr → Value → Option Addr → TS))}, HdsK X hds' l' → wKeep X.K Wout D l' cls d σ' H' →
        wpAny (model X.prog X.w) X.A (handleBy (.ref a) X.env hds') (SP X pins D) X.xe { s' with heap := h3 } := by
      intro hds' l' hk
      induction hk with
      | nil =>
        intro w
        refine wpAny_handleBy_nil ?_
        obtain ⟨k1, k2, k3, oe, vs, T, oT, ts', he, hz, hd, h1, hr⟩ := id fl3
        unfold PySem.passOn
        refine wpAny_bind (wpAny_field he hd h1 ?_)
        rw [if_neg (show ¬ ((Value.ref T == Value.none) = true) from by simp)]
        have fin : wpAny (model X.prog X.w) X.A (setFlight (.ref a) X.env.frame) (fun _ s4 => wpAny (model X.prog X.w) X.A (throw (.ref a) : Sem Flow) (SP X pins D) X.xe s4) X.xe { s' with heap := h3 } := by
          rw [hf]
          refine HandSPX.setFlight_upZ fl3 fun h4 hh4 up4 => wpAny_throw (tk _ _ ?_)
          exact ⟨a, B, sI, pins, σ', H', cls, d, rfl, J, nb, (up.trans up3).trans up4, .inr (.inr (by rw [hs]; exact hh4)), na, os, ag, w⟩
        first
          | exact wpAny_bind (wpAny_pure (wpAny_bind fin))
          | exact wpAny_bind fin
      | @cons x n c i ts b₀ suite np pos' hds2 l2 hi hln hc hsu r ih =>
        intro w
        obtain ⟨b, hb1, hyes, hno⟩ := w
        have hloc : Loc X.env.scope n := .inl hln
        refine wpAny_handleBy_cons (codeAny_handlers_test ?_) (by intro q; cases q)
        have LT : PySem.W.Looks (model X.prog X.w) h3 (typeOf (.ref a)) cls := fun A Q E s k q => wpAny_typeOf_ref (k _ _ he3) (by rw [hz3.1]; exact q)
        have LM := PySem.W.exm_one (M := model X.prog X.w) (J3.kIn) LT hb1
        have test : ∀ {Q : Value → Shared → Prop} {E : Value → Shared → Prop}, Q c { s' with heap := h3 } → wpAny (model X.prog X.w) (X.A.mark (some (.ref a))) (eval (.Name x np) X.env) Q E { s' with heap := h3 } := fun {Q E} q => by
          obtain ⟨hg, hdbg, hm | ⟨hm, hv, hnn⟩⟩ := hc
          · exact ld_glob (X := X.suite a ((a, oe3) :: (X.pn ++ pins))) S3 hg hm q hdbg
          · exact ld_blt (X := X.suite a ((a, oe3) :: (X.pn ++ pins))) S3 hg hm hv q hnn hdbg
        refine test (LM.here ?_)
        cases b with
        | true =>
          refine codeAny_handlers_suite_as ?_
          refine HandSPX.lands_againZ fl3 fun h4 fl4 up4 => ?_
          have J4 : Inv X pins σ' H' { s' with heap := h4 } := J.landed nb fl4.1 ((up.trans up3).trans up4) os ag
          obtain ⟨oe4, vs4, he4, hz4, hd4⟩ := fl4.there
          have S4 := J4.suite he4 hd4 na nL nF
          refine store_ok (X := X.suite a ((a, oe4) :: (X.pn ++ pins))) (v := .ref a) S4 hN hi hloc rfl (fun s5 S5 => ?_) (.inr hln)
          refine wpAny_mono ((hsu a oe4 cls d (X.pn ++ pins) hz4 ⟨_, hd4⟩).run [] s5 _ H' _ S5 (hyes rfl a na)) (fun f s6 hsp => ?_) (fun _ _ z => False.elim z)
          have end_ : ∀ {σ6 : St} {H6 : Hp} {Q : Shared → Prop}, Inv (X.suite a ((a, oe4) :: (X.pn ++ pins))) [] σ6 H6 s6 → (∀ s7, Inv X pins (σ6.set i none) (upd H6 a (ExV cls d a)) s7 → Q s7) →
              wpAny (model X.prog X.w) X.A (do bindName X.env n .none; unbindBehindTheSuite X.env n pos') (fun _ s7 => Q s7) X.xe s6 := fun {σ6 H6 Q} S6 hq => by
            obtain ⟨e6, n6, _, _, nc6⟩ := S6.pin (a, oe4) (List.mem_append_left _ List.mem_cons_self)
            have J6 := S6.unsuite ok
            have nC : ∀ y c, X.env.cells.lookup y = some c → c ≠ a := fun y c e z => by
              obtain ⟨v, o, ho, hcd⟩ := J6.cell y c e
              have e6' : s6.heap.get? a = some oe4 := e6
              rw [z, e6'] at ho
              cases ho
              exact nc6 v hcd
            have T6 : Inv X pins σ6 (upd H6 a (ExV cls d a)) s6 := Inv_track J6 n0 nL nC nP n6 (exV_ok e6 hz4 hd4)
            exact gone_ok T6 hN hi hln hq
          cases f with
          | next =>
            obtain ⟨σ6, H6, S6, q6⟩ := hsp
            exact end_ S6 fun s7 J7 => ⟨_, _, J7, q6⟩
          | brk =>
            obtain ⟨σ6, H6, S6, q6⟩ := hsp
            exact end_ S6 fun s7 J7 => ⟨_, _, J7, q6⟩
          | cont =>
            obtain ⟨σ6, H6, S6, q6⟩ := hsp
            exact end_ S6 fun s7 J7 => ⟨_, _, J7, q6⟩
          | ret u =>
            obtain ⟨v6, σ6, H6, S6, r6, q6⟩ := hsp
            exact end_ S6 fun s7 J7 => ⟨_, _, _, J7, r6, q6⟩
        | false =>
          show wpAny _ X.A (handleBy (.ref a) X.env hds2) _ _ _
          exact ih (hno rfl)
    exact go hh w
  · cases f with
    | next =>
      obtain ⟨σ', H', J', q⟩ := hsp
      exact wpAny_execs_nil ⟨σ', H', J'.ofTry ok, q⟩
    | brk =>
      obtain ⟨σ', H', J', q⟩ := hsp
      exact ⟨σ', H', J'.ofTry ok, q⟩
    | cont =>
      obtain ⟨σ', H', J', q⟩ := hsp
      exact ⟨σ', H', J'.ofTry ok, q⟩
    | ret u =>
      obtain ⟨v, σ', H', J', r, q⟩ := hsp
      exact ⟨v, σ', H', J'.ofTry ok, r, q⟩
end
/-- isinstance(e, c), e a kept exception of the class at D -/
def rIsK (K : PySem.W.Frag) (D : Addr) : List V → Hp → VK → Prop := fun xs H Q => ∃ (a : Addr) (d : Option Addr) (c : V) (cv : Value) (b : Bool), xs = [.ref a, c] ∧ H a = some (ExV (.ref D) d a) ∧ (∀ dd, d = some dd → ∃ o, H dd = some o) ∧ (∀ u, RelV c u → u = cv) ∧ PySem.W.kitOne K (.ref D) cv = some b ∧ Q (.bl b) H
theorem call_isK {X : Cx} {D : Addr} (C : ExcC X.K D) : CallR X (.builtin "isinstance") (rIsK X.K D) := by
  intro pins s σ H xs us Q I r h
  obtain ⟨a, d, c, cv, b, rfl, ha, hdd, hcv, e, q⟩ := h
  cases r with
  | cons rx rr =>
    cases rr with
    | cons rt rr =>
      cases rr
      cases rx
      have ec := hcv _ rt
      subst ec
      obtain ⟨oe, vs, hget, hz, hv⟩ := exV_at I.hok ha
      obtain ⟨od, J⟩ : ∃ od, PySem.W.InstAt s.heap a oe D od := by
        obtain ⟨oc, od, oda, osl⟩ := oe
        obtain ⟨h1, h2⟩ := hz
        dsimp only at h1 h2 hv
        subst h1 h2 hv
        cases od with
        | none => exact ⟨none, hget, rfl, rfl, trivial⟩
        | some dd =>
          obtain ⟨o, ho⟩ := hdd dd rfl
          obtain ⟨u, hu⟩ : ∃ u, s.heap.get? dd = some u := by
            have hk := I.hok dd o ho
            have lt := hk.lt
            exact objOk_get hk
          exact ⟨some u, hget, rfl, rfl, hu⟩
      exact PySem.W.kia_one (kitx_excO C.hg C.hk C.hs C.hd C.ha C.hn C.ht C.hm) I.kIn J e (fun z => nomatch z) fun tk => ⟨.bl b, H, I.kept (t' := tk) fun _ _ z => z, rfl, q⟩
end K8
namespace K8
open PySem PySem.Spec PyProof.Rows L2
section
variable {X : Cx} {CX : CXT} {k : Nat} {f C : Addr} {fd : FuncData} {ps : List Str} {sp : Sp} {E : St → XK} {m : Str} {pos apos : Pos} {e o : Expr} {es : List Expr} {ta : TE} {t : TA}
/-- o.m(..): what is raised is wished for at the caller's slots -/
def tMethW (C : Addr) (m : Str) (sp : Sp) (E : St → XK) (ta : TE) (t : TA) : TE := fun σ H Q => ta σ H fun x H1 => ∃ a dx fs, x = .ref a ∧ H1 a = some (.ins C dx fs) ∧ fs.lookup m = none ∧
  t σ H1 fun vs H2 => sp (x :: vs) H2 Q (E σ)
theorem pe_methW {pl : Sem Bool} (he : PE X o ta) (c : Cls X.K C) (hm : Meth X.K C m f) (F : FnOk X.prog X.w X.K X.mg X.base CX k f fd ps sp) (hr : Room k X.A) (hb : Binds X.K fd ps []) (hx : ∀ σ, PassesAt CX X σ (E σ)) (ha : PA X (e :: es) t)
    (hst : starEach (e :: es) X.env = (false, eval e X.env) :: starEach es X.env := by rfl) (hpl : (backTo pos (starEach es X.env)).any (·.1) = false := by rfl)
    (ht : eval (.Call (.Attribute o m apos) (e :: es) [] pos) X.env = (do
      let ov ← eval o X.env
      standAt apos.atName
      let (f, first) ← holding [ov] (getMethod ov m pl)
      callWith pos f first (backTo pos (starEach (e :: es) X.env)) (backToKw pos (keywordEach [] X.env))) := by rfl) :
    PE X (.Call (.Attribute o m apos) (e :: es) [] pos) (tMethW C m sp E ta t) := by
  refine ⟨fun pins s σ H Q I h => ?_⟩
  refine PySem.W.methodCall_KW (pl := pl) (thn (he.run pins s σ H _ I h) fun u s1 ⟨x, H1, I1, rx, a, dx, fs, ex, ea, l, q⟩ => ?_) ht
  subst ex
  obtain rfl : u = Value.ref a := rx
  refine getmeth_ok I1 ea c hm l ?_
  refine PySem.W.callWith_K (first := [.ref a]) (h₀ := X.base) I.ok.mod.kin hm.kp (thn (ha.run pos pins s1 σ H1 _ I1 q) fun us s2 ⟨vs, H2, I2, r, q2⟩ => ⟨I2.kIn, ?_⟩) hst hpl
  exact run_fnS (us := .ref a :: us) (vs := .ref a :: vs) F hr hb (hx σ) I2 (.cons rfl r) q2
theorem pe_methW0 {pl : Sem Bool} (he : PE X o ta) (c : Cls X.K C) (hm : Meth X.K C m f) (F : FnOk X.prog X.w X.K X.mg X.base CX k f fd ps sp) (hr : Room k X.A) (hb : Binds X.K fd ps []) (hx : ∀ σ, PassesAt CX X σ (E σ))
    (ht : eval (.Call (.Attribute o m apos) [] [] pos) X.env = (do
      let ov ← eval o X.env
      standAt apos.atName
      let (f, first) ← holding [ov] (getMethod ov m pl)
      callWith pos f first (backTo pos (starEach [] X.env)) (backToKw pos (keywordEach [] X.env))) := by rfl) :
    PE X (.Call (.Attribute o m apos) [] [] pos) (tMethW C m sp E ta tNil) := by
  refine ⟨fun pins s σ H Q I h => ?_⟩
  refine PySem.W.methodCall_KW (pl := pl) (thn (he.run pins s σ H _ I h) fun u s1 ⟨x, H1, I1, rx, a, dx, fs, ex, ea, l, q⟩ => ?_) ht
  subst ex
  obtain rfl : u = Value.ref a := rx
  refine getmeth_ok I1 ea c hm l ?_
  exact PySem.W.callWith_K0 (first := [.ref a]) I1.kIn hm.kp (run_fnS (us := [.ref a]) (vs := [.ref a]) F hr hb (hx σ) I1 (.cons rfl .nil) q)
end
end K8
/-! # The text by places, the data of questions, heaps that grow. -/
namespace K8
open PySem PySem.Spec PyProof.Rows L2
/-! ### the text by places -/
def top (i : Nat) : Stmt := PySem.Challenge.pw_earlysift_k08_what_a_sift_refuses.main.body.getD i (.Pass ⟨0, 0, 0, 0⟩)
abbrev FnP (K : PySem.W.Frag) (x qual : Str) (st : Stmt) (f : Addr) (fd : FuncData) : Prop := FunD K x qual (defArgs st) (defBody st) (defScope st) [] [] f fd
/-- a def of the module under its name -/
structure Df (K : PySem.W.Frag) (mg : Str → Option Value) (x : Str) (st : Stmt) (ps : List Str) where
  f : Addr
  fd : FuncData
  F : FnP K x x st f fd
  m : mg x = some (.ref f)
  b : Binds K fd ps []
/-- a method of the class at C -/
structure Mf (K : PySem.W.Frag) (C : Addr) (x qual : Str) (st : Stmt) (ps : List Str) where
  f : Addr
  fd : FuncData
  F : FnP K x qual st f fd
  m : Meth K C x f
  b : Binds K fd ps []
section
variable {P : Program} {w : World} {K : PySem.W.Frag} {mg : Str → Option Value} {base : Heap}
/-- THE RULE for a def that raises nothing -/
theorem ok0 {x qual : Str} {st : Stmt} {f : Addr} {fd : FuncData} {N ps : List Str} {k : Nat} {sp : Sp} (F : FnP K x qual st f fd) (S : FnScope N ps (defScope st)) (len : ∀ vs H Q E, sp vs H Q E → vs.length = ps.length)
    (hbody : ∀ (cdv : Value) (A : Around) (outer : List Env) (s : Shared) (H : Hp) (vs : List V) (Q : VK) (E : XK), Room k (A.deeper (envOfC qual (defScope st) s.heap.objs.size f cdv)) → sp vs H Q E →
      ∃ t, PSs (cxOf CX0 P w K mg base N qual (defScope st) f cdv A outer s H E).nox (defBody st) t ∧ t { nx := fun _ H' => Q .non H', rt := Q } (start N vs) H) : FnOk P w K mg base CX0 (k + 1) f fd ps sp :=
  F.ok S len fun cdv A outer s H vs Q E hr h => by
    obtain ⟨t, h1, h2⟩ := hbody cdv A outer s H vs Q E hr h
    exact ⟨t, h1.nox, h2⟩
/-- .. for a def that may raise -/
theorem okX {x qual : Str} {st : Stmt} {f : Addr} {fd : FuncData} {N ps : List Str} {k : Nat} {sp : Sp} (F : FnP K x qual st f fd) (S : FnScope N ps (defScope st)) (len : ∀ vs H Q E, sp vs H Q E → vs.length = ps.length)
    (hbody : ∀ (cdv : Value) (A : Around) (outer : List Env) (s : Shared) (H : Hp) (vs : List V) (Q : VK) (E : XK), Room k (A.deeper (envOfC qual (defScope st) s.heap.objs.size f cdv)) → sp vs H Q E →
      ∃ t, PSs (cxOf (L2.CX P w) P w K mg base N qual (defScope st) f cdv A outer s H E) (defBody st) t ∧ t { nx := fun _ H' => Q .non H', rt := Q } (start N vs) H) : FnOk P w K mg base (L2.CX P w) (k + 1) f fd ps sp :=
  F.ok S len hbody
/-- one promise for a choice of promises -/
theorem FnOk_any {ι : Type} {CX : CXT} {k : Nat} {f : Addr} {fd : FuncData} {ps : List Str} {sp : ι → Sp} (i0 : ∀ vs H Q E, (∃ i, sp i vs H Q E) → vs.length = ps.length) (h : ∀ i, FnOk P w K mg base CX k f fd ps (sp i)) : FnOk P w K mg base CX k f fd ps (fun vs H Q E => ∃ i, sp i vs H Q E) :=
  ⟨i0, fun A outer s H args us vs Q E hr he hb hv hs => by
    obtain ⟨i, hi⟩ := hs
    exact (h i).run A outer s H args us vs Q E hr he hb hv hi⟩
end
/-- two defs' scopes -/
theorem hu65 {A : Around} {k : Nat} (hr : Room k A) : A.units + 65 < cLine := by have := hr.un; omega
theorem hu64 {A : Around} {k : Nat} (hr : Room k A) : A.units + 64 < cLine := by have := hr.un; omega

/-! ### data of questions: wishes of a depth, steps -/
abbrev OkS := { s : Str // PyData.strOk s = true }
/-- lists of some length -/
abbrev BL (α : Type) := { l : List α // l.length ≤ 3 }
inductive WF (α : Type) where
  | any | text (s : OkS) | has (l : BL (OkS × OkS × α)) | both (l : BL α) | one (l : BL α)
def W : Nat → Type
  | 0 => Empty
  | n + 1 => WF (W n)
/-- a step: way, name, wish -/
abbrev Sp1 (α : Type) := OkS × OkS × α
def dStep {α : Type} (f : α → PyData) (s : Sp1 α) : PyData := .tuple [.str s.1.1, .str s.2.1.1, f s.2.2]
def dWF {α : Type} (f : α → PyData) : WF α → PyData
  | .any => .tuple [.str "any"]
  | .text s => .tuple [.str "text", .str s.1]
  | .has l => .tuple [.str "has", .list (l.1.map (dStep f))]
  | .both l => .tuple [.str "both", .list (l.1.map f)]
  | .one l => .tuple [.str "one", .list (l.1.map f)]
def dW : (n : Nat) → W n → PyData
  | 0 => fun e => Empty.elim e
  | n + 1 => fun w => dWF (dW n) w
def dQ (n : Nat) (l : List (Sp1 (W n))) : PyData := .list (l.map (dStep (dW n)))
theorem dW_succ (n : Nat) (w : W (n + 1)) : dW (n + 1) w = dWF (dW n) w := rfl

theorem layAll_map {α : Type} {f : α → PyData} : ∀ {l : List α}, (∀ x ∈ l, (f x).canLay0 = true) → PyData.canLayAll0 (l.map f) = true
  | [], _ => by simp [PyData.canLayAll0]
  | x :: r, h => by
    have ih := layAll_map (f := f) (l := r) fun y hy => h y (List.mem_cons_of_mem _ hy)
    simp only [List.map_cons, PyData.canLayAll0, h x List.mem_cons_self, ih, Bool.and_self]
theorem depAll_map {α : Type} {f : α → PyData} {m : Nat} : ∀ {l : List α}, (∀ x ∈ l, (f x).depth ≤ m) → PyData.depthAll (l.map f) ≤ m
  | [], _ => by simp [PyData.depthAll]
  | x :: r, h => by
    have ih := depAll_map (f := f) (l := r) fun y hy => h y (List.mem_cons_of_mem _ hy)
    have h1 := h x List.mem_cons_self
    simp only [List.map_cons, PyData.depthAll]
    omega
theorem layAll_of : ∀ {l : List PyData}, (∀ x ∈ l, x.canLay0 = true) → PyData.canLayAll0 l = true
  | [], _ => by simp [PyData.canLayAll0]
  | x :: r, h => by
    have ih := layAll_of (l := r) fun y hy => h y (List.mem_cons_of_mem _ hy)
    simp only [PyData.canLayAll0, h x List.mem_cons_self, ih, Bool.and_self]
theorem depAll_of {m : Nat} : ∀ {l : List PyData}, (∀ x ∈ l, x.depth ≤ m) → PyData.depthAll l ≤ m
  | [], _ => by simp [PyData.depthAll]
  | x :: r, h => by
    have ih := depAll_of (l := r) fun y hy => h y (List.mem_cons_of_mem _ hy)
    have h1 := h x List.mem_cons_self
    simp only [PyData.depthAll]
    omega
theorem okStr (s : String) (h : PyData.strOk (Str.ofString s) = true := by decide +kernel) : (PyData.str (Str.ofString s)).canLay0 = true := by
  simp only [PyData.canLay0]
  exact h
theorem lay_str (s : OkS) : (PyData.str s.1).canLay0 = true := by
  simp only [PyData.canLay0]
  exact s.2
theorem dStep_lay {α : Type} {f : α → PyData} (h : ∀ x, (f x).canLay0 = true) (s : Sp1 α) : (dStep f s).canLay0 = true := by
  simp only [dStep, PyData.canLay0, PyData.canLayAll0, s.1.2, s.2.1.2, h, Bool.and_self]
theorem ok_any : PyData.strOk ("any" : Str) = true := by decide +kernel
theorem ok_text : PyData.strOk ("text" : Str) = true := by decide +kernel
theorem ok_has : PyData.strOk ("has" : Str) = true := by decide +kernel
theorem ok_both : PyData.strOk ("both" : Str) = true := by decide +kernel
theorem ok_one : PyData.strOk ("one" : Str) = true := by decide +kernel
theorem dWF_lay {α : Type} {f : α → PyData} (h : ∀ x, (f x).canLay0 = true) (w : WF α) : (dWF f w).canLay0 = true := by
  cases w with
  | any => simp only [dWF, PyData.canLay0, PyData.canLayAll0, ok_any, Bool.and_self]
  | text s => simp only [dWF, PyData.canLay0, PyData.canLayAll0, ok_text, s.2, Bool.and_self]
  | has l => simp only [dWF, PyData.canLay0, PyData.canLayAll0, ok_has, layAll_map (l := l.1) (f := dStep f) (fun x _ => dStep_lay h x), Bool.and_self]
  | both l => simp only [dWF, PyData.canLay0, PyData.canLayAll0, ok_both, layAll_map (l := l.1) (f := f) (fun x _ => h x), Bool.and_self]
  | one l => simp only [dWF, PyData.canLay0, PyData.canLayAll0, ok_one, layAll_map (l := l.1) (f := f) (fun x _ => h x), Bool.and_self]
theorem dW_lay : ∀ (n : Nat) (w : W n), (dW n w).canLay0 = true
  | 0, e => Empty.elim e
  | n + 1, w => dWF_lay (dW_lay n) w
theorem dStep_dep {α : Type} {f : α → PyData} {m : Nat} (h : ∀ x, (f x).depth ≤ m) (s : Sp1 α) : (dStep f s).depth ≤ m + 1 := by
  have := h s.2.2
  simp only [dStep, PyData.depth, PyData.depthAll]
  omega
theorem dWF_dep {α : Type} {f : α → PyData} {m : Nat} (h : ∀ x, (f x).depth ≤ m) (w : WF α) : (dWF f w).depth ≤ m + 3 := by
  cases w with
  | any => simp only [dWF, PyData.depth, PyData.depthAll]; omega
  | text s => simp only [dWF, PyData.depth, PyData.depthAll]; omega
  | has l =>
    have := depAll_map (l := l.1) (f := dStep f) (m := m + 1) (fun x _ => dStep_dep h x)
    simp only [dWF, PyData.depth, PyData.depthAll]; omega
  | both l =>
    have := depAll_map (l := l.1) (f := f) (m := m) (fun x _ => h x)
    simp only [dWF, PyData.depth, PyData.depthAll]; omega
  | one l =>
    have := depAll_map (l := l.1) (f := f) (m := m) (fun x _ => h x)
    simp only [dWF, PyData.depth, PyData.depthAll]; omega
theorem dW_dep : ∀ (n : Nat) (w : W n), (dW n w).depth ≤ 3 * n
  | 0, e => Empty.elim e
  | n + 1, w => by
    have := dWF_dep (dW_dep n) w
    rw [dW_succ]
    omega
theorem dQ_lay (n : Nat) (l : List (Sp1 (W n))) : (dQ n l).canLay0 = true := by
  simp only [dQ, PyData.canLay0]
  exact layAll_map fun x _ => dStep_lay (dW_lay n) x
theorem dQ_dep (n : Nat) (l : List (Sp1 (W n))) : (dQ n l).depth ≤ 3 * n + 2 := by
  have := depAll_map (l := l) (f := dStep (dW n)) (m := 3 * n + 1) (fun x _ => dStep_dep (dW_dep n) x)
  simp only [dQ, PyData.depth]
  omega
theorem shaped_of {d : PyData} (h1 : d.canLay0 = true) (h2 : d.depth ≤ 64) : SeqAt.shaped d = true := by
  show (d.canLay0 && decide (d.depth ≤ 64)) = true
  rw [Bool.and_eq_true]
  exact ⟨h1, decide_eq_true h2⟩
/-- a row of steps that a question or a wish in it speaks of -/
def IsTail (d : PyData) : Prop := ∃ (n : Nat) (l : List (Sp1 (W n))), n ≤ 4 ∧ l ≠ [] ∧ l.length ≤ 100 ∧ d = dQ n l
theorem IsTail.lay {d : PyData} (h : IsTail d) : d.canLay0 = true := by
  obtain ⟨n, l, _, _, _, rfl⟩ := h
  exact dQ_lay n l
theorem IsTail.dep {d : PyData} (h : IsTail d) : d.depth ≤ 14 := by
  obtain ⟨n, l, hn, _, _, rfl⟩ := h
  have := dQ_dep n l
  omega
theorem tails_shaped {ds : List PyData} (h : ∀ d ∈ ds, IsTail d) : SeqAt.shaped (.list ds) = true := by
  refine shaped_of ?_ ?_
  · simp only [PyData.canLay0]
    exact layAll_of fun x hx => (h x hx).lay
  · have := depAll_of (m := 14) fun x hx => (h x hx).dep
    simp only [PyData.depth]
    omega

/-! ### data in heaps -/
theorem SqT_same {K : PySem.W.Frag} {H H' : Hp} {a : Addr} {xs : List V} (e : Same H H') (h : SqT K H a xs) : SqT K H' a xs := by
  rcases h with (h | ⟨o, h⟩) | h
  · exact .inl (.inl (e _ _ h))
  · exact .inl (.inr ⟨o, e _ _ h⟩)
  · exact .inr h
section
variable {K : PySem.W.Frag} {F H : Hp}
mutual
theorem dp_mono (e : Same F H) : ∀ (d : PyData) (v : V), Dp K F v d → Dp K H v d
  | .none, _, h => by cases h; exact .non
  | .bool b, _, h => by cases h; exact .bl b
  | .int i, _, h => by cases h; exact .int i
  | .str x, _, h => by cases h; exact .str x
  | .list ds, _, h => by
    cases h with
    | lst hs ha => exact .lst (e.seq hs) (dpAll_mono e ds _ ha)
  | .tuple ds, _, h => by
    cases h with
    | tup hs ha => exact .tup (SqT_same e hs) (dpAll_mono e ds _ ha)
  | .dict _, _, h => by cases h
theorem dpAll_mono (e : Same F H) : ∀ (ds : List PyData) (vs : List V), DpAll K F vs ds → DpAll K H vs ds
  | [], _, h => by cases h; exact .nil
  | d :: ds, _, h => by
    cases h with
    | cons h1 h2 => exact .cons (dp_mono e d _ h1) (dpAll_mono e ds _ h2)
end
theorem _root_.L2.Dp.up {v : V} {d : PyData} (h : Dp K F v d) (e : Same F H) : Dp K H v d := dp_mono e d v h
theorem _root_.L2.DpAll.up {vs : List V} {ds : List PyData} (h : DpAll K F vs ds) (e : Same F H) : DpAll K H vs ds := dpAll_mono e ds vs h
theorem dp_list {v : V} {ds : List PyData} (h : Dp K H v (.list ds)) : ∃ a xs, v = .ref a ∧ SqL K H a xs ∧ DpAll K H xs ds := by
  cases h with
  | lst hs ha => exact ⟨_, _, rfl, hs, ha⟩
theorem dp_tup {v : V} {ds : List PyData} (h : Dp K H v (.tuple ds)) : ∃ a xs, v = .ref a ∧ SqT K H a xs ∧ DpAll K H xs ds := by
  cases h with
  | tup hs ha => exact ⟨_, _, rfl, hs, ha⟩
theorem dp_str {v : V} {s : Str} (h : Dp K H v (.str s)) : v = .str s := by cases h; rfl
theorem dp_int {v : V} {i : Int} (h : Dp K H v (.int i)) : v = .int i := by cases h; rfl
theorem dpAll_len : ∀ {vs : List V} {ds : List PyData}, DpAll K H vs ds → vs.length = ds.length
  | _, _, .nil => rfl
  | _, _, .cons _ h => by rw [List.length_cons, List.length_cons, dpAll_len h]
theorem dpAll_at : ∀ {vs : List V} {ds : List PyData} {i : Nat} {v : V}, DpAll K H vs ds → vs[i]? = some v → ∃ d, ds[i]? = some d ∧ Dp K H v d
  | _, _, _, _, .nil, e => by simp at e
  | _, _, 0, _, .cons h _, e => by
    simp at e
    subst e
    exact ⟨_, rfl, h⟩
  | _, _, i + 1, v, .cons _ t, e => by
    obtain ⟨d, h1, h2⟩ := dpAll_at (i := i) (v := v) t (by simpa using e)
    exact ⟨d, by simpa using h1, h2⟩
theorem dpAll_ix : ∀ {vs : List V} {ds : List PyData} {i : Nat} {d : PyData}, DpAll K H vs ds → ds[i]? = some d → ∃ v, vs[i]? = some v ∧ Dp K H v d
  | _, _, _, _, .nil, e => by simp at e
  | _, _, 0, _, .cons h _, e => by
    simp at e
    subst e
    exact ⟨_, rfl, h⟩
  | _, _, i + 1, d, .cons _ t, e => by
    obtain ⟨v, h1, h2⟩ := dpAll_ix (i := i) (d := d) t (by simpa using e)
    exact ⟨v, by simpa using h1, h2⟩
theorem dpAll_app : ∀ {vs us : List V} {ds es : List PyData}, DpAll K H vs ds → DpAll K H us es → DpAll K H (vs ++ us) (ds ++ es)
  | _, _, _, _, .nil, h => h
  | _, _, _, _, .cons h t, g => .cons h (dpAll_app t g)
theorem dpAll_one {v : V} {d : PyData} (h : Dp K H v d) : DpAll K H [v] [d] := .cons h .nil
theorem dpAll_drop : ∀ {vs : List V} {ds : List PyData} (n : Nat), DpAll K H vs ds → DpAll K H (vs.drop n) (ds.drop n)
  | _, _, 0, h => h
  | _, _, _ + 1, .nil => .nil
  | _, _, n + 1, .cons _ t => dpAll_drop n t
theorem dpAll_take : ∀ {vs : List V} {ds : List PyData} (n : Nat), DpAll K H vs ds → DpAll K H (vs.take n) (ds.take n)
  | _, _, 0, _ => .nil
  | _, _, _ + 1, .nil => .nil
  | _, _, n + 1, .cons h t => .cons h (dpAll_take n t)
theorem dpAll_1 {vs : List V} {d : PyData} (h : DpAll K H vs [d]) : ∃ v, vs = [v] ∧ Dp K H v d := by
  cases h with
  | cons h t => cases t; exact ⟨_, rfl, h⟩
theorem dpAll_2 {vs : List V} {d e : PyData} (h : DpAll K H vs [d, e]) : ∃ v u, vs = [v, u] ∧ Dp K H v d ∧ Dp K H u e := by
  cases h with
  | cons h t =>
    obtain ⟨u, rfl, hu⟩ := dpAll_1 t
    exact ⟨_, _, rfl, h, hu⟩
theorem dpAll_3 {vs : List V} {d e f : PyData} (h : DpAll K H vs [d, e, f]) : ∃ v u z, vs = [v, u, z] ∧ Dp K H v d ∧ Dp K H u e ∧ Dp K H z f := by
  cases h with
  | cons h t =>
    obtain ⟨u, z, rfl, hu, hz⟩ := dpAll_2 t
    exact ⟨_, _, _, rfl, h, hu, hz⟩
theorem dpAll_ints : ∀ ns : List Int, DpAll K H (ns.map V.int) (ns.map PyData.int)
  | [] => .nil
  | n :: ns => .cons (.int n) (dpAll_ints ns)
theorem dpAll_strs : ∀ ns : List Str, DpAll K H (ns.map V.str) (ns.map PyData.str)
  | [] => .nil
  | n :: ns => .cons (.str n) (dpAll_strs ns)
theorem dpAll_bls : ∀ ns : List Bool, DpAll K H (ns.map V.bl) (ns.map PyData.bool)
  | [] => .nil
  | n :: ns => .cons (.bl n) (dpAll_bls ns)
/-- a step's tuple -/
theorem dp_step {α : Type} {f : α → PyData} {s : Sp1 α} {v : V} (h : Dp K H v (dStep f s)) : ∃ (a : Addr) (u : V), v = .ref a ∧ SqT K H a [.str s.1.1, .str s.2.1.1, u] ∧ Dp K H u (f s.2.2) := by
  obtain ⟨a, xs, rfl, hs, ha⟩ := dp_tup h
  obtain ⟨x, y, u, rfl, hx, hy, hu⟩ := dpAll_3 ha
  rw [dp_str hx, dp_str hy] at hs
  exact ⟨a, u, rfl, hs, hu⟩
/-- the wish's tuple, by its form -/
theorem dp_t1 {t : Str} {v : V} (h : Dp K H v (.tuple [.str t])) : ∃ a, v = .ref a ∧ SqT K H a [.str t] := by
  obtain ⟨a, xs, rfl, hs, ha⟩ := dp_tup h
  obtain ⟨x, rfl, hx⟩ := dpAll_1 ha
  rw [dp_str hx] at hs
  exact ⟨a, rfl, hs⟩
theorem dp_t2 {t s : Str} {v : V} (h : Dp K H v (.tuple [.str t, .str s])) : ∃ a, v = .ref a ∧ SqT K H a [.str t, .str s] := by
  obtain ⟨a, xs, rfl, hs, ha⟩ := dp_tup h
  obtain ⟨x, y, rfl, hx, hy⟩ := dpAll_2 ha
  rw [dp_str hx, dp_str hy] at hs
  exact ⟨a, rfl, hs⟩
theorem dp_pair {t : Str} {ds : List PyData} {v : V} (h : Dp K H v (.tuple [.str t, .list ds])) : ∃ (a b : Addr) (xs : List V), v = .ref a ∧ SqT K H a [.str t, .ref b] ∧ SqL K H b xs ∧ DpAll K H xs ds := by
  obtain ⟨a, xs, rfl, hs, ha⟩ := dp_tup h
  obtain ⟨x, y, rfl, hx, hy⟩ := dpAll_2 ha
  obtain ⟨b, ys, rfl, hb, hys⟩ := dp_list hy
  rw [dp_str hx] at hs
  exact ⟨a, b, ys, rfl, hs, hb, hys⟩
end

/-! ### heaps that grow: F the frozen part of H; what M names may change, all else of H stays; what is frozen behind was frozen or is new -/
structure Grow (M : Addr → Prop) (F H F' H' : Hp) : Prop where
  sub : Same F F'
  inn : Same F' H'
  old : ∀ b o, ¬ M b → H b = some o → H' b = some o
  fre : ∀ b o, F' b = some o → F b = some o ∨ H b = none
  mm : ∀ b, M b → F' b = none
def M0 : Addr → Prop := fun _ => False
section
variable {M : Addr → Prop} {F H F' H' F2 H2 : Hp} {l : Addr} {o : HO}
theorem Grow.refl (h : Same F H) (hm : ∀ b, M b → F b = none) : Grow M F H F H := ⟨Same.refl _, h, fun _ _ _ e => e, fun _ _ e => .inl e, hm⟩
theorem Grow.refl0 (h : Same F H) : Grow M0 F H F H := .refl h fun _ z => z.elim
theorem Grow.same (g : Grow M0 F H F' H') : Same H H' := fun b o e => g.old b o (fun z => z) e
theorem Grow.trans (a : Grow M F H F' H') (b : Grow M F' H' F2 H2) : Grow M F H F2 H2 where
  sub := a.sub.trans b.sub
  inn := b.inn
  old := fun c o n e => b.old c o n (a.old c o n e)
  fre := fun c o e => by
    rcases b.fre c o e with q | q
    · exact a.fre c o q
    · right
      cases z : H c with
      | none => rfl
      | some u =>
        have nm : ¬ M c := fun m => by
          rw [b.mm c m] at e
          cases e
        rw [a.old c u nm z] at q
        cases q
  mm := b.mm
/-- without M's leave -/
theorem Grow.weak (a : Grow M0 F H F' H') (hm : ∀ b, M b → F b = none ∧ H b ≠ none) : Grow M F H F' H' := ⟨a.sub, a.inn, fun b o _ e => a.old b o (fun z => z) e, a.fre, fun b m => by
  cases e : F' b with
  | none => rfl
  | some o =>
    rcases a.fre b o e with q | q
    · rw [(hm b m).1] at q
      cases q
    · exact absurd q (hm b m).2⟩
/-- an object of our own (new since H), not frozen, is laid or changed -/
theorem Grow.put (g : Grow M F H F' H') (hl : H l = none) (hf : F' l = none) : Grow M F H F' (upd H' l o) where
  sub := g.sub
  inn := fun b u e => by
    rw [upd_ne (ne_of_none e hf)]
    exact g.inn b u e
  old := fun b u n e => by
    rw [upd_ne (ne_of_none e hl)]
    exact g.old b u n e
  fre := g.fre
  mm := g.mm
/-- what M names is changed -/
theorem Grow.putM (g : Grow M F H F' H') (hm : M l) : Grow M F H F' (upd H' l o) where
  sub := g.sub
  inn := fun b u e => by
    rw [upd_ne (ne_of_none e (g.mm l hm))]
    exact g.inn b u e
  old := fun b u n e => by
    rw [upd_ne (fun z => n (by rw [z]; exact hm))]
    exact g.old b u n e
  fre := g.fre
  mm := g.mm
theorem Grow.hl (g : Grow M F H F' H') (hm : ¬ M l) (h : H' l = none) : H l = none := by
  cases e : H l with
  | none => rfl
  | some u =>
    rw [g.old l u hm e] at h
    cases h
theorem Grow.fl (g : Grow M F H F' H') (h : H' l = none) : F' l = none := by
  cases e : F' l with
  | none => rfl
  | some u =>
    rw [g.inn l u e] at h
    cases h
/-- frozen behind: stays unfrozen what stood and was not frozen -/
theorem Grow.keepF (g : Grow M F H F' H') (hf : F l = none) (hl : H l ≠ none) : F' l = none := by
  cases e : F' l with
  | none => rfl
  | some u =>
    rcases g.fre l u e with q | q
    · rw [hf] at q
      cases q
    · exact absurd q hl
/-- a new object is laid, not frozen -/
theorem Grow.new (g : Grow M F H F' H') (hm : ¬ M l) (h : H' l = none) : Grow M F H F' (upd H' l o) := g.put (g.hl hm h) (g.fl h)
/-- an object of our own is frozen -/
theorem Grow.frz (g : Grow M F H F' H') (hm : ¬ M l) (hl : H l = none) (h : H' l = some o) : Grow M F H (upd F' l o) H' where
  sub := fun b u e => by
    by_cases hb : b = l
    · subst hb
      have q := g.inn _ _ (g.sub _ _ e)
      rw [h] at q
      rw [upd_same, q]
    · rw [upd_ne hb]
      exact g.sub b u e
  inn := fun b u e => by
    by_cases hb : b = l
    · subst hb
      rw [upd_same] at e
      cases e
      exact h
    · rw [upd_ne hb] at e
      exact g.inn b u e
  old := g.old
  fre := fun b u e => by
    by_cases hb : b = l
    · rw [hb]
      exact .inr hl
    · rw [upd_ne hb] at e
      exact g.fre b u e
  mm := fun b m => by
    rw [upd_ne (fun z => hm (by rw [← z]; exact m))]
    exact g.mm b m
/-- a new object is laid and frozen -/
theorem Grow.newF (g : Grow M F H F' H') (hm : ¬ M l) (h : H' l = none) : Grow M F H (upd F' l o) (upd H' l o) := (g.new hm h).frz hm (g.hl hm h) upd_same
/-- behind a step that kept everything -/
theorem Grow.step (g : Grow M F H F' H') (e : Same H' H2) : Grow M F H F' H2 := ⟨g.sub, g.inn.trans e, fun b u n q => e _ _ (g.old b u n q), g.fre, g.mm⟩
theorem same_new {H : Hp} {p : Addr} {o : HO} (h : H p = none) : Same H (upd H p o) := fun b u e => by
  rw [upd_ne (ne_of_none e h)]
  exact e
theorem same_put {H H' : Hp} {p : Addr} {o : HO} (s : Same H H') (h : H p = none) : Same H (upd H' p o) := fun b u e => by
  rw [upd_ne (ne_of_none e h)]
  exact s b u e
end
end K8
/-! # The defs of the text by places, their scopes; what the top has written. Printed by gen_t.py. -/
namespace K8
open PySem PySem.Spec PyProof.Rows L2
abbrev s_tails_of : Stmt := top 3
abbrev N_tails_of : List Str := ["steps", "found", "k"]
theorem sc_tails_of : FnScope N_tails_of ["steps"] (defScope s_tails_of) := ⟨rfl, rfl, rfl, by decide +kernel, rfl, by decide +kernel, by decide +kernel⟩
abbrev s_tails_in : Stmt := top 4
abbrev N_tails_in : List Str := ["wish", "found", "one"]
theorem sc_tails_in : FnScope N_tails_in ["wish"] (defScope s_tails_in) := ⟨rfl, rfl, rfl, by decide +kernel, rfl, by decide +kernel, by decide +kernel⟩
abbrev s_holds_now : Stmt := top 5
abbrev N_holds_now : List Str := ["part", "wish", "one"]
theorem sc_holds_now : FnScope N_holds_now ["part", "wish"] (defScope s_holds_now) := ⟨rfl, rfl, rfl, by decide +kernel, rfl, by decide +kernel, by decide +kernel⟩
abbrev s_can_be : Stmt := top 6
abbrev N_can_be : List Str := ["wish", "step", "one"]
theorem sc_can_be : FnScope N_can_be ["wish"] (defScope s_can_be) := ⟨rfl, rfl, rfl, by decide +kernel, rfl, by decide +kernel, by decide +kernel⟩
abbrev s_may_hold : Stmt := top 7
abbrev N_may_hold : List Str := ["part", "wish"]
theorem sc_may_hold : FnScope N_may_hold ["part", "wish"] (defScope s_may_hold) := ⟨rfl, rfl, rfl, by decide +kernel, rfl, by decide +kernel, by decide +kernel⟩
abbrev s_is_called : Stmt := top 8
abbrev N_is_called : List Str := ["part", "name"]
theorem sc_is_called : FnScope N_is_called ["part", "name"] (defScope s_is_called) := ⟨rfl, rfl, rfl, by decide +kernel, rfl, by decide +kernel, by decide +kernel⟩
abbrev s_lay : Stmt := top 9
abbrev N_lay : List Str := ["part", "tail"]
theorem sc_lay : FnScope N_lay ["part", "tail"] (defScope s_lay) := ⟨rfl, rfl, rfl, by decide +kernel, rfl, by decide +kernel, by decide +kernel⟩
abbrev s_refresh : Stmt := top 10
abbrev N_refresh : List Str := ["part", "tails", "tail", "way", "name", "wish", "rest", "around"]
theorem sc_refresh : FnScope N_refresh ["part", "tails"] (defScope s_refresh) := ⟨rfl, rfl, rfl, by decide +kernel, rfl, by decide +kernel, by decide +kernel⟩
abbrev s_refresh_all : Stmt := top 11
abbrev N_refresh_all : List Str := ["part", "tails"]
theorem sc_refresh_all : FnScope N_refresh_all ["part", "tails"] (defScope s_refresh_all) := ⟨rfl, rfl, rfl, by decide +kernel, rfl, by decide +kernel, by decide +kernel⟩
abbrev s_suits : Stmt := top 13
abbrev N_suits : List Str := ["part", "step", "hoping"]
theorem sc_suits : FnScope N_suits ["part", "step", "hoping"] (defScope s_suits) := ⟨rfl, rfl, rfl, by decide +kernel, rfl, by decide +kernel, by decide +kernel⟩
abbrev s_ahead_of : Stmt := top 14
abbrev N_ahead_of : List Str := ["part", "reached", "k", "step", "around"]
theorem sc_ahead_of : FnScope N_ahead_of ["part", "reached", "k", "step"] (defScope s_ahead_of) := ⟨rfl, rfl, rfl, by decide +kernel, rfl, by decide +kernel, by decide +kernel⟩
abbrev s_reached_by : Stmt := top 15
abbrev N_reached_by : List Str := ["parts", "question", "hoping", "reached", "part", "found", "k", "step"]
theorem sc_reached_by : FnScope N_reached_by ["parts", "question", "hoping"] (defScope s_reached_by) := ⟨rfl, rfl, rfl, by decide +kernel, rfl, by decide +kernel, by decide +kernel⟩
abbrev s_ends_of : Stmt := top 16
abbrev N_ends_of : List Str := ["parts", "question", "hoping", "reached", "last", "part"]
theorem sc_ends_of : FnScope N_ends_of ["parts", "question", "hoping"] (defScope s_ends_of) := ⟨rfl, rfl, rfl, by decide +kernel, rfl, by decide +kernel, by decide +kernel⟩
abbrev s_shortest_of : Stmt := top 19
abbrev N_shortest_of : List Str := ["part", "signs"]
theorem sc_shortest_of : FnScope N_shortest_of ["part"] (defScope s_shortest_of) := ⟨rfl, rfl, rfl, by decide +kernel, rfl, by decide +kernel, by decide +kernel⟩
abbrev s_can_come : Stmt := top 31
abbrev N_can_come : List Str := ["sign", "begun", "depth"]
theorem sc_can_come : FnScope N_can_come ["sign", "begun", "depth"] (defScope s_can_come) := ⟨rfl, rfl, rfl, by decide +kernel, rfl, by decide +kernel, by decide +kernel⟩
abbrev s_copy_steps : Stmt := top 34
abbrev N_copy_steps : List Str := ["steps", "way", "name", "wish"]
theorem sc_copy_steps : FnScope N_copy_steps ["steps"] (defScope s_copy_steps) := ⟨rfl, rfl, rfl, by decide +kernel, rfl, by decide +kernel, by decide +kernel⟩
abbrev s_copy_wish : Stmt := top 35
abbrev N_copy_wish : List Str := ["wish", "one"]
theorem sc_copy_wish : FnScope N_copy_wish ["wish"] (defScope s_copy_wish) := ⟨rfl, rfl, rfl, by decide +kernel, rfl, by decide +kernel, by decide +kernel⟩
abbrev s_l_cell_at : Stmt := top 37
abbrev N_l_cell_at : List Str := ["_law_script", "_law_k"]
theorem sc_l_cell_at : FnScope N_l_cell_at ["_law_script", "_law_k"] (defScope s_l_cell_at) := ⟨rfl, rfl, rfl, by decide +kernel, rfl, by decide +kernel, by decide +kernel⟩
abbrev s_l_whole : Stmt := top 38
abbrev N_l_whole : List Str := ["_law_found"]
theorem sc_l_whole : FnScope N_l_whole ["_law_found"] (defScope s_l_whole) := ⟨rfl, rfl, rfl, by decide +kernel, rfl, by decide +kernel, by decide +kernel⟩
abbrev s_l_mix : Stmt := top 39
abbrev N_l_mix : List Str := ["_law_cell", "_law_turn", "_law_number"]
theorem sc_l_mix : FnScope N_l_mix ["_law_cell", "_law_turn"] (defScope s_l_mix) := ⟨rfl, rfl, rfl, by decide +kernel, rfl, by decide +kernel, by decide +kernel⟩
abbrev s_l_only : Stmt := top 40
abbrev N_l_only : List Str := ["_law_error", "_law_which", "_law_found", "_law_due", "_law_k"]
theorem sc_l_only : FnScope N_l_only ["_law_error", "_law_which"] (defScope s_l_only) := ⟨rfl, rfl, rfl, by decide +kernel, rfl, by decide +kernel, by decide +kernel⟩
abbrev s_l_cells : Stmt := top 41
abbrev N_l_cells : List Str := ["_law_script", "_law_turn", "_law_most", "_law_cells_here", "_law_found", "_law_cell", "_law_lefts", "_law_k", "_law_at", "_law_number", "_law_other"]
theorem sc_l_cells : FnScope N_l_cells ["_law_script", "_law_turn", "_law_most"] (defScope s_l_cells) := ⟨rfl, rfl, rfl, by decide +kernel, rfl, by decide +kernel, by decide +kernel⟩
abbrev s_l_names : Stmt := top 42
abbrev N_l_names : List Str := ["_law_script", "_law_number", "_law_stem", "_law_at", "_law_letter"]
theorem sc_l_names : FnScope N_l_names ["_law_script"] (defScope s_l_names) := ⟨rfl, rfl, rfl, by decide +kernel, rfl, by decide +kernel, by decide +kernel⟩
abbrev s_l_signs : Stmt := top 43
abbrev N_l_signs : List Str := ["_law_cells_here", "_law_some", "_law_texts", "_law_signs_here", "_law_depth_here", "_law_lean", "_law_k", "_law_cell", "_law_number", "_law_kind"]
theorem sc_l_signs : FnScope N_l_signs ["_law_cells_here", "_law_some"] (defScope s_l_signs) := ⟨rfl, rfl, rfl, by decide +kernel, rfl, by decide +kernel, by decide +kernel⟩
abbrev s_l_nodes : Stmt := top 44
abbrev N_l_nodes : List Str := ["_law_signs_here", "_law_nodes_here", "_law_here", "_law_sign"]
theorem sc_l_nodes : FnScope N_l_nodes ["_law_signs_here"] (defScope s_l_nodes) := ⟨rfl, rfl, rfl, by decide +kernel, rfl, by decide +kernel, by decide +kernel⟩
abbrev s_l_depth : Stmt := top 45
abbrev N_l_depth : List Str := ["_law_signs_here", "_law_sign"]
theorem sc_l_depth : FnScope N_l_depth ["_law_signs_here"] (defScope s_l_depth) := ⟨rfl, rfl, rfl, by decide +kernel, rfl, by decide +kernel, by decide +kernel⟩
abbrev s_l_pop : Stmt := top 46
abbrev N_l_pop : List Str := ["_law_draws"]
theorem sc_l_pop : FnScope N_l_pop ["_law_draws"] (defScope s_l_pop) := ⟨rfl, rfl, rfl, by decide +kernel, rfl, by decide +kernel, by decide +kernel⟩
abbrev s_l_wish : Stmt := top 47
abbrev N_l_wish : List Str := ["_law_draws", "_law_deep", "_law_some", "_law_number", "_law_kind", "_law_k"]
theorem sc_l_wish : FnScope N_l_wish ["_law_draws", "_law_deep", "_law_some"] (defScope s_l_wish) := ⟨rfl, rfl, rfl, by decide +kernel, rfl, by decide +kernel, by decide +kernel⟩
abbrev s_l_steps : Stmt := top 48
abbrev N_l_steps : List Str := ["_law_draws", "_law_deep", "_law_some", "_law_steps_here", "_law_k", "_law_number", "_law_name"]
theorem sc_l_steps : FnScope N_l_steps ["_law_draws", "_law_deep", "_law_some"] (defScope s_l_steps) := ⟨rfl, rfl, rfl, by decide +kernel, rfl, by decide +kernel, by decide +kernel⟩
abbrev s_l_refused : Stmt := top 49
abbrev N_l_refused : List Str := ["_law_sift", "_law_sign", "_law_many", "_law_kept", "_law_place", "_law_before", "e"]
theorem sc_l_refused : FnScope N_l_refused ["_law_sift", "_law_sign", "_law_many"] (defScope s_l_refused) := ⟨rfl, rfl, rfl, by decide +kernel, rfl, by decide +kernel, by decide +kernel⟩
abbrev s_l_late : Stmt := top 50
abbrev N_l_late : List Str := ["_law_sift", "_law_kept", "e"]
theorem sc_l_late : FnScope N_l_late ["_law_sift"] (defScope s_l_late) := ⟨rfl, rfl, rfl, by decide +kernel, rfl, by decide +kernel, by decide +kernel⟩
abbrev s_l_no_part : Stmt := top 51
abbrev N_l_no_part : List Str := ["_law_sift", "_law_number", "_law_kept", "e"]
theorem sc_l_no_part : FnScope N_l_no_part ["_law_sift", "_law_number"] (defScope s_l_no_part) := ⟨rfl, rfl, rfl, by decide +kernel, rfl, by decide +kernel, by decide +kernel⟩
abbrev s_law : Stmt := top 52
abbrev N_law : List Str := ["_law_script", "_law_some", "_law_draws", "_law_sift", "_law_far", "_law_signs_here", "_law_k", "_law_number", "_law_many", "_law_sign"]
theorem sc_law : FnScope N_law ["_law_script"] (defScope s_law) := ⟨rfl, rfl, rfl, by decide +kernel, rfl, by decide +kernel, by decide +kernel⟩
abbrev s_S_depth : Stmt := inClass (top 33) 1
abbrev N_S_depth : List Str := ["self", "depth", "part"]
theorem sc_S_depth : FnScope N_S_depth ["self"] (defScope s_S_depth) := ⟨rfl, rfl, rfl, by decide +kernel, rfl, by decide +kernel, by decide +kernel⟩
abbrev s_S_take : Stmt := inClass (top 33) 2
abbrev N_S_take : List Str := ["self", "sign", "found", "part"]
theorem sc_S_take : FnScope N_S_take ["self", "sign"] (defScope s_S_take) := ⟨rfl, rfl, rfl, by decide +kernel, rfl, by decide +kernel, by decide +kernel⟩
abbrev s_S_told : Stmt := inClass (top 33) 3
abbrev N_S_told : List Str := ["self"]
theorem sc_S_told : FnScope N_S_told ["self"] (defScope s_S_told) := ⟨rfl, rfl, rfl, by decide +kernel, rfl, by decide +kernel, by decide +kernel⟩
abbrev s_S_waiting : Stmt := inClass (top 33) 4
abbrev N_S_waiting : List Str := ["self", "part"]
theorem sc_S_waiting : FnScope N_S_waiting ["self"] (defScope s_S_waiting) := ⟨rfl, rfl, rfl, by decide +kernel, rfl, by decide +kernel, by decide +kernel⟩
abbrev s_S_is_over : Stmt := inClass (top 33) 5
abbrev N_S_is_over : List Str := ["self"]
theorem sc_S_is_over : FnScope N_S_is_over ["self"] (defScope s_S_is_over) := ⟨rfl, rfl, rfl, by decide +kernel, rfl, by decide +kernel, by decide +kernel⟩
abbrev s_S_shortest : Stmt := inClass (top 33) 6
abbrev N_S_shortest : List Str := ["self"]
theorem sc_S_shortest : FnScope N_S_shortest ["self"] (defScope s_S_shortest) := ⟨rfl, rfl, rfl, by decide +kernel, rfl, by decide +kernel, by decide +kernel⟩
abbrev s_S_ending : Stmt := inClass (top 33) 7
abbrev N_S_ending : List Str := ["self", "number"]
theorem sc_S_ending : FnScope N_S_ending ["self", "number"] (defScope s_S_ending) := ⟨rfl, rfl, rfl, by decide +kernel, rfl, by decide +kernel, by decide +kernel⟩
abbrev s_I_Part : Stmt := inClass (top 2) 0
theorem sc_I_Part : FnScope ["self", "number", "name", "around"] ["self", "number", "name", "around"] (defScope s_I_Part) := ⟨rfl, rfl, rfl, by decide +kernel, rfl, by decide +kernel, by decide +kernel⟩
abbrev s_I_Sift : Stmt := inClass (top 33) 0
theorem sc_I_Sift : FnScope ["self", "question"] ["self", "question"] (defScope s_I_Sift) := ⟨rfl, rfl, rfl, by decide +kernel, rfl, by decide +kernel, by decide +kernel⟩
abbrev s_I_NoSign : Stmt := inClass (top 25) 0
theorem sc_I_NoSign : FnScope ["self", "at"] ["self", "at"] (defScope s_I_NoSign) := ⟨rfl, rfl, rfl, by decide +kernel, rfl, by decide +kernel, by decide +kernel⟩
/-- an __init__ as it stands -/
structure If (K : PySem.W.Frag) (C : Addr) (qual : Str) (st : Stmt) (ps : List Str) where
  f : Addr
  fd : FuncData
  F : FnP K "__init__" qual st f fd
  M : Mk K C f
  b : Binds K fd ps []
/-- what the top has written -/
structure Tx (K : PySem.W.Frag) (mg : Str → Option Value) where
  tails_of : Df K mg "tails_of" s_tails_of ["steps"]
  tails_in : Df K mg "tails_in" s_tails_in ["wish"]
  holds_now : Df K mg "holds_now" s_holds_now ["part", "wish"]
  can_be : Df K mg "can_be" s_can_be ["wish"]
  may_hold : Df K mg "may_hold" s_may_hold ["part", "wish"]
  is_called : Df K mg "is_called" s_is_called ["part", "name"]
  lay : Df K mg "lay" s_lay ["part", "tail"]
  refresh : Df K mg "refresh" s_refresh ["part", "tails"]
  refresh_all : Df K mg "refresh_all" s_refresh_all ["part", "tails"]
  suits : Df K mg "suits" s_suits ["part", "step", "hoping"]
  ahead_of : Df K mg "ahead_of" s_ahead_of ["part", "reached", "k", "step"]
  reached_by : Df K mg "reached_by" s_reached_by ["parts", "question", "hoping"]
  ends_of : Df K mg "ends_of" s_ends_of ["parts", "question", "hoping"]
  shortest_of : Df K mg "shortest_of" s_shortest_of ["part"]
  can_come : Df K mg "can_come" s_can_come ["sign", "begun", "depth"]
  copy_steps : Df K mg "copy_steps" s_copy_steps ["steps"]
  copy_wish : Df K mg "copy_wish" s_copy_wish ["wish"]
  l_cell_at : Df K mg "_law_cell_at" s_l_cell_at ["_law_script", "_law_k"]
  l_whole : Df K mg "_law_whole" s_l_whole ["_law_found"]
  l_mix : Df K mg "_law_mix" s_l_mix ["_law_cell", "_law_turn"]
  l_only : Df K mg "_law_only" s_l_only ["_law_error", "_law_which"]
  l_cells : Df K mg "_law_cells" s_l_cells ["_law_script", "_law_turn", "_law_most"]
  l_names : Df K mg "_law_names" s_l_names ["_law_script"]
  l_signs : Df K mg "_law_signs" s_l_signs ["_law_cells_here", "_law_some"]
  l_nodes : Df K mg "_law_nodes" s_l_nodes ["_law_signs_here"]
  l_depth : Df K mg "_law_depth" s_l_depth ["_law_signs_here"]
  l_pop : Df K mg "_law_pop" s_l_pop ["_law_draws"]
  l_wish : Df K mg "_law_wish" s_l_wish ["_law_draws", "_law_deep", "_law_some"]
  l_steps : Df K mg "_law_steps" s_l_steps ["_law_draws", "_law_deep", "_law_some"]
  l_refused : Df K mg "_law_refused" s_l_refused ["_law_sift", "_law_sign", "_law_many"]
  l_late : Df K mg "_law_late" s_l_late ["_law_sift"]
  l_no_part : Df K mg "_law_no_part" s_l_no_part ["_law_sift", "_law_number"]
  CP : Addr
  CS : Addr
  clP : Cls K CP
  clS : Cls K CS
  gP : mg "Part" = some (.ref CP)
  gS : mg "Sift" = some (.ref CS)
  nP_number : NoAttr K CP "number"
  nP_name : NoAttr K CP "name"
  nP_around : NoAttr K CP "around"
  nP_is_open : NoAttr K CP "is_open"
  nP_is_told : NoAttr K CP "is_told"
  nP_texts : NoAttr K CP "texts"
  nP_met : NoAttr K CP "met"
  nS_question : NoAttr K CS "question"
  nS_tails : NoAttr K CS "tails"
  nS_parts : NoAttr K CS "parts"
  nS_here : NoAttr K CS "here"
  nS_many : NoAttr K CS "many"
  nS_answered : NoAttr K CS "answered"
  S_depth : Mf K CS "depth" "Sift.depth" s_S_depth ["self"]
  S_take : Mf K CS "take" "Sift.take" s_S_take ["self", "sign"]
  S_told : Mf K CS "told" "Sift.told" s_S_told ["self"]
  S_waiting : Mf K CS "waiting" "Sift.waiting" s_S_waiting ["self"]
  S_is_over : Mf K CS "is_over" "Sift.is_over" s_S_is_over ["self"]
  S_shortest : Mf K CS "shortest" "Sift.shortest" s_S_shortest ["self"]
  S_ending : Mf K CS "ending" "Sift.ending" s_S_ending ["self", "number"]
  I_Part : If K CP "Part.__init__" s_I_Part ["self", "number", "name", "around"]
  I_Sift : If K CS "Sift.__init__" s_I_Sift ["self", "question"]
  z_len : mg "len" = none
  z_range : mg "range" = none
  z_all : mg "all" = none
  z_any : mg "any" = none
  z_enumerate : mg "enumerate" = none
  z_sorted : mg "sorted" = none
  z_isinstance : mg "isinstance" = none
  z_int : mg "int" = none
  z_bool : mg "bool" = none
  z_ValueError : mg "ValueError" = none
  SE : Addr
  exc : Nat → Addr
  gSE : mg "SiftError" = some (.ref SE)
  gNS : mg "NoSign" = some (.ref (exc 0))
  gNT : mg "NoText" = some (.ref (exc 1))
  gNP : mg "NoPart" = some (.ref (exc 2))
  gTK : mg "Taken" = some (.ref (exc 3))
  gLT : mg "Late" = some (.ref (exc 4))
  nsF : Addr
  nsD : FuncData
  nsFn : FnP K "__init__" "NoSign.__init__" s_I_NoSign nsF nsD
  nsB : Binds K nsD ["self", "at"] []
  nsO : OexC K (exc 0)
  nsI : PySem.W.findIn K (.ref (exc 0)) "__init__" = some (some (.ref nsF))
  nsT : PySem.W.typeIn K (.ref nsF) = some (.type "function")
  nsA : PySem.W.findIn K (.ref (exc 0)) "at" = some none
  nsX : XfC K (exc 0)
  xNP : PySem.W.excIn K (exc 2) He.veBase "ValueError.__new__" = true ∧ PySem.W.keepIn K (.ref (exc 2)) = true ∧ PySem.W.subIn K (.ref (exc 2)) (.type "BaseException") = some true ∧ PySem.W.typeIn K (.ref (exc 2)) = some (.type "type")
  xLT : PySem.W.excIn K (exc 4) He.veBase "ValueError.__new__" = true ∧ PySem.W.keepIn K (.ref (exc 4)) = true ∧ PySem.W.subIn K (.ref (exc 4)) (.type "BaseException") = some true ∧ PySem.W.typeIn K (.ref (exc 4)) = some (.type "type")
  mNS : PySem.W.exmOne K (.ref (exc 0)) (.ref (exc 0)) = some true
  mNP : PySem.W.exmOne K (.ref (exc 2)) (.ref SE) = some true
  mLT : PySem.W.exmOne K (.ref (exc 4)) (.ref SE) = some true
  ecC : ∀ i, (i = 0 ∨ i = 2 ∨ i = 4) → ExcC K (exc i)
  kit : ∀ i, (i = 0 ∨ i = 2 ∨ i = 4) → ∀ j, j < 5 → PySem.W.kitOne K (.ref (exc i)) (.ref (exc j)) = some (decide (i = j))
  kitV : ∀ i, (i = 0 ∨ i = 2 ∨ i = 4) → PySem.W.kitOne K (.ref (exc i)) (.type "ValueError") = some true
  kitS : ∀ i, (i = 0 ∨ i = 2 ∨ i = 4) → PySem.W.kitOne K (.ref (exc i)) (.ref SE) = some true
end K8
/-! # Small defs -/
namespace K8
open PySem PySem.Spec PyProof.Rows L2
section
variable {P : Program} {w : World} {K : PySem.W.Frag} {mg : Str → Option Value} {base : Heap}
/-! ### can_come -/
def canM (t : Str) (b : Bool) (d : Int) : Bool := if decide (V.str t = V.str "open") = true then (decide (0 < d) || !b) else decide (0 < d)
def spCanCome (K : PySem.W.Frag) : Sp := fun vs H Q _ => ∃ (a : Addr) (t : Str) (r : List V) (b : Bool) (d : Int), vs = [.ref a, .bl b, .int d] ∧ SqT K H a (.str t :: r) ∧ Q (.bl (canM t b d)) H
theorem ok_can_come (T : Tx K mg) : FnOk P w K mg base CX0 1 T.can_come.f T.can_come.fd ["sign", "begun", "depth"] (spCanCome K) := by
  refine ok0 T.can_come.F sc_can_come (fun vs H Q E h => ?_) (fun cdv A outer s H vs Q E hr h => ?_)
  · obtain ⟨a, t, r, b, d, rfl, _⟩ := h
    rfl
  · obtain ⟨a, t, r, b, d, rfl, hs, k⟩ := h
    refine ⟨_, pss_cons (ps_if (pt_cmpR op_eq (pe_ix ix_tup (pv 0) pe_int (fun _ _ => rfl)) pe_str (nomark _)) (pss_one (ps_ret (pe_or (pe_cmpR op_gt (pv 2) pe_int (nomark _)) (pe_one (pe_not (pv 1)))))) pss_nil)
      (pss_one (ps_ret (pe_cmpR op_gt (pv 2) pe_int (nomark _)))), ?_⟩
    refine ⟨_, rfl, _, _, _, _, rfl, rfl, hs, atI_nat (j := 0) rfl, rfl, _, rfl, ?_⟩
    unfold canM at k
    cases e : decide (V.str t = V.str "open") with
    | true =>
      rw [e, if_pos rfl] at k
      refine iteT ⟨_, rfl, _, _, rfl, rfl, _, rfl, ?_⟩
      cases e2 : decide (0 < d) with
      | true =>
        rw [e2, Bool.true_or] at k
        exact iteT k
      | false =>
        rw [e2, Bool.false_or] at k
        exact iteF ⟨_, rfl, _, rfl, k⟩
    | false =>
      rw [e, if_neg Bool.false_ne_true] at k
      exact iteF ⟨_, rfl, _, _, rfl, rfl, k⟩
/-! ### is_called -/
def calledM (n m : Str) : Bool := decide (V.str m = V.str "*") || decide (V.str n = V.str m)
def spIsCalled (C : Addr) : Sp := fun vs H Q _ => ∃ (a dx : Addr) (fs : List (Str × V)) (n m : Str), vs = [.ref a, .str m] ∧ H a = some (.ins C dx fs) ∧ fs.lookup ("name" : Str) = some (V.str n) ∧ Q (.bl (calledM n m)) H
theorem ok_is_called (T : Tx K mg) : FnOk P w K mg base CX0 1 T.is_called.f T.is_called.fd ["part", "name"] (spIsCalled T.CP) := by
  refine ok0 T.is_called.F sc_is_called (fun vs H Q E h => ?_) (fun cdv A outer s H vs Q E hr h => ?_)
  · obtain ⟨a, dx, fs, n, m, rfl, _⟩ := h
    rfl
  · obtain ⟨a, dx, fs, n, m, rfl, ha, hn, k⟩ := h
    refine ⟨_, pss_one (ps_ret (pe_or (pe_cmpR op_eq (pv 1) pe_str (nomark _)) (pe_one (pe_cmpR op_eq (pe_fld (pv 0) rfl) (pv 1) (nomark _))))), ?_⟩
    refine ⟨_, rfl, rfl, _, rfl, ?_⟩
    unfold calledM at k
    cases e : decide (V.str m = V.str "*") with
    | true =>
      rw [e, Bool.true_or] at k
      exact iteT k
    | false =>
      rw [e, Bool.false_or] at k
      exact iteF ⟨_, rfl, a, _, dx, _, _, rfl, ha, T.clP, T.nP_name, hn, _, rfl, rfl, k⟩
/-! ### _law_mix -/
def spMix : Sp := fun vs H Q _ => ∃ c t : Int, vs = [.int c, .int t] ∧ 0 ≤ t ∧ t ≤ 100000 ∧ ∀ n : Int, 0 ≤ n → n < 2147483629 → Q (.int n) H
theorem ok_mix (T : Tx K mg) : FnOk P w K mg base CX0 1 T.l_mix.f T.l_mix.fd ["_law_cell", "_law_turn"] spMix := by
  refine ok0 T.l_mix.F sc_l_mix (fun vs H Q E h => ?_) (fun cdv A outer s H vs Q E hr h => ?_)
  · obtain ⟨c, t, rfl, _⟩ := h
    rfl
  · obtain ⟨c, t, rfl, h0, h1, k⟩ := h
    refine ⟨_, pss_cons (ps_set (i := 2) sc_l_mix.nd rfl (.inl rfl) (pe_op op_mod (pe_op op_mul (pe_op op_add (pe_op op_add (pe_op op_mod (pv 0) pe_int) (pe_op op_mul (pe_op op_mul (pv 1) (pv 1)) pe_int)) pe_int) pe_int) pe_int))
      (pss_one (ps_ret (pe_op op_mod (pe_op op_add (pe_op op_mul (pv 2) (pv 2)) (pe_op op_mul pe_int (pv 1))) pe_int))), ?_⟩
    have ht : -(2 ^ 64) < t ∧ t < 2 ^ 64 := by omega
    have m1 := Int.emod_nonneg c (show (2147483647 : Int) ≠ 0 by decide)
    refine ⟨_, rfl, _, _, rfl, rfl, (by show (0 : Int) < 2147483647; decide), _, rfl, _, rfl, _, _, rfl, rfl, .inl ht, _, _, rfl, rfl, .inr (by decide), _, _, rfl, rfl, _, _, rfl, rfl, _, _, rfl, rfl, .inr (by decide), _, _, rfl, rfl, (by show (0 : Int) < 2147483647; decide), ?_⟩
    generalize hn : ((c % 2147483647 + t * t * 7919 + 104729) * 48271) % 2147483647 = n
    have n0 : 0 ≤ n := by rw [← hn]; exact Int.emod_nonneg _ (by decide)
    have n1 : n < 2147483647 := by rw [← hn]; exact Int.emod_lt_of_pos _ (by decide)
    refine ⟨_, rfl, _, rfl, _, _, rfl, rfl, .inl (by omega), _, rfl, _, _, rfl, rfl, .inl (by decide), _, _, rfl, rfl, _, _, rfl, rfl, (by show (0 : Int) < 2147483629; decide), ?_⟩
    exact k _ (Int.emod_nonneg _ (by decide)) (Int.emod_lt_of_pos _ (by decide))
/-! ### _law_cell_at: some number -/
def spCellAt (K : PySem.W.Frag) : Sp := fun vs H Q _ => ∃ (a : Addr) (ns : List Int) (i : Nat), vs = [.ref a, .int (i : Int)] ∧ SqL K H a (ns.map V.int) ∧ ∀ n : Int, Q (.int n) H
theorem ok_cell_at (T : Tx K mg) : FnOk P w K mg base CX0 1 T.l_cell_at.f T.l_cell_at.fd ["_law_script", "_law_k"] (spCellAt K) := by
  refine ok0 T.l_cell_at.F sc_l_cell_at (fun vs H Q E h => ?_) (fun cdv A outer s H vs Q E hr h => ?_)
  · obtain ⟨a, ns, i, rfl, _⟩ := h
    rfl
  · obtain ⟨a, ns, i, rfl, hs, k⟩ := h
    refine ⟨_, pss_cons (ps_if (pt_cmpR op_lt (pv 1) (pe_callB call_len_seq (by rfl) T.z_len PySem.boot_len (pa_cons (pv 0) pa_nil)) (nomark _)) (pss_one (ps_ret (pe_ix ix_list (pv 0) (pv 1) (fun _ _ => rfl)))) pss_nil) (pss_one (ps_ret pe_int)), ?_⟩
    refine ⟨_, rfl, _, rfl, a, _, rfl, .inl hs, _, _, rfl, rfl, _, rfl, ?_⟩
    refine ite2 (fun c => ?_) (fun c => k 0)
    have hi : i < ns.length := by
      have := of_decide_eq_true c
      rw [List.length_map] at this
      omega
    exact ⟨_, rfl, _, rfl, a, _, _, _, rfl, rfl, hs, atI_nat (v := V.int ns[i]) (by rw [List.getElem?_map, List.getElem?_eq_getElem hi]; rfl), k _⟩
/-! ### _law_pop -/
def spPop : Sp := fun vs H Q _ => ∃ (a : Addr) (ns : List Int), vs = [.ref a] ∧ H a = some (.lst (ns.map V.int)) ∧ ∀ (n : Int) (ms : List Int) (H' : Hp), (∀ b o, b ≠ a → H b = some o → H' b = some o) → H' a = some (.lst (ms.map V.int)) → ms.length ≤ ns.length → Q (.int n) H'
theorem shaped_ints (ns : List Int) : SeqAt.shaped (.list (ns.map PyData.int)) = true := by
  refine shaped_of ?_ ?_
  · simp only [PyData.canLay0]
    exact layAll_map fun x _ => by simp only [PyData.canLay0]
  · have := depAll_map (l := ns) (f := PyData.int) (m := 0) (fun x _ => by simp only [PyData.depth]; omega)
    simp only [PyData.depth]
    omega
theorem shaped_nil : SeqAt.shaped (.list []) = true := by decide +kernel
theorem ok_pop (T : Tx K mg) : FnOk P w K mg base CX0 1 T.l_pop.f T.l_pop.fd ["_law_draws"] spPop := by
  refine ok0 T.l_pop.F sc_l_pop (fun vs H Q E h => ?_) (fun cdv A outer s H vs Q E hr h => ?_)
  · obtain ⟨a, ns, rfl, _⟩ := h
    rfl
  · obtain ⟨a, ns, rfl, ha, k⟩ := h
    refine ⟨_, pss_cons (ps_if (pt_cmpR (op_eqD (hu64 hr)) (pv 0) (pe_lst pa_nil) (nomark _)) (pss_one (ps_ret pe_int)) pss_nil) (pss_one (ps_ret (pe_bm0 PySem.F.plainAttrs_list PySem.F.slot_list_pop PySem.F.type_list_pop mt_pop (pv 0)))), ?_⟩
    refine ⟨_, rfl, Nat.zero_le _, fun p hp => ?_⟩
    have npa : a ≠ p := ne_of_none ha hp
    refine ⟨_, _, .lst (SqL.of (by rw [upd_ne npa]; exact ha)) (dpAll_ints ns), .lst (SqL.of upd_same) .nil, shaped_ints ns, shaped_nil, _, rfl, ?_⟩
    cases ns with
    | nil =>
      refine iteT (k 0 [] _ (fun b o _ e => ?_) (by rw [upd_ne npa]; exact ha) (Nat.le_refl _))
      rw [upd_ne (ne_of_none e hp)]
      exact e
    | cons n r =>
      refine iteF ⟨_, rfl, .inl ⟨rfl, _, SqL.of (by rw [upd_ne npa]; exact ha)⟩, a, _, V.int ((n :: r).getLast (by simp)), rfl, rfl, (by rw [upd_ne npa]; exact ha), ?_, ?_⟩
      · rw [List.length_map, List.getElem?_map, List.getLast_eq_getElem, List.getElem?_eq_getElem (by simp)]
        rfl
      · refine k _ ((n :: r).dropLast) _ (fun b o hb e => ?_) (by rw [upd_same, List.map_dropLast]) (by simp)
        rw [upd_ne hb, upd_ne (ne_of_none e hp)]
        exact e
end
end K8
/-! # Wishes asked of a part -/
namespace K8
open PySem PySem.Spec PyProof.Rows L2
/-! ### the mirrors -/
def cWF {α : Type} (r : α → Bool) : WF α → Bool
  | .any => true
  | .text _ => true
  | .has l => (l.1.map fun s => r s.2.2).all id
  | .both l => (l.1.map r).all id
  | .one l => (l.1.map r).any id
def cW : (n : Nat) → W n → Bool
  | 0 => fun e => Empty.elim e
  | n + 1 => fun w => cWF (cW n) w
def hWF {α : Type} (tx : List Str) (mt : List PyData) (d : α → PyData) (r : α → Bool) : WF α → Bool
  | .any => true
  | .text s => inV (.str s.1) (tx.map V.str)
  | .has l => mt.any fun z => PyData.eqv z (.list (l.1.map (dStep d)))
  | .both l => (l.1.map r).all id
  | .one l => (l.1.map r).any id
def hW (tx : List Str) (mt : List PyData) : (n : Nat) → W n → Bool
  | 0 => fun e => Empty.elim e
  | n + 1 => fun w => hWF tx mt (dW n) (hW tx mt n) w
def mayM (op : Bool) (tx : List Str) (mt : List PyData) (n : Nat) (w : W n) : Bool := if op = true then cW n w else hW tx mt n w
def suitM (nm : Str) (op : Bool) (tx : List Str) (mt : List PyData) (hop : Bool) (n : Nat) (s : Sp1 (W n)) : Bool :=
  if (!calledM nm s.2.1.1) = true then false else if hop = true then mayM op tx mt n s.2.2 else hW tx mt n s.2.2
/-! ### a comprehension over a list that makes a known list -/
theorem lc_map {K : PySem.W.Frag} {a : Addr} {xs : List V} {ix : Nat} {te : TE} {vs : List Nat} {σ : St} {H1 : Hp} {D : Addr} {Qd : Hp → Prop} (ys : List V) (hlen : ys.length = xs.length) (hz : xs.length < sizeLine) (hS : SqL K H1 a xs) (hD : H1 D = none)
    (turn : ∀ (i : Nat) (x y : V) (H : Hp) (k : V → Hp → Prop), xs[i]? = some x → ys[i]? = some y → Same H1 H → (∀ H4, Same H H4 → k y H4) → wipe ((wipe σ vs).set ix (some x)) vs = wipe σ vs ∧ te ((wipe σ vs).set ix (some x)) H k)
    (fin : ∀ H', Same H1 H' → H' D = some (.lst ys) → Qd H') :
    ∃ W : Nat → Nat → Hp → Prop, (∃ m, W 0 m (upd H1 D (.lst []))) ∧ ∀ i m H, W i m H →
      ((Itl K a).stop i H ∧ Qd H) ∨ ((Itl K a).go i H ∧ ∃ Nx : Hp → Prop, (∀ H', Nx H' → ∃ m', m' < m ∧ W (i + 1) m' H') ∧ ∀ x H', (Itl K a).yld i H x H' → gName ix x (wipe σ vs) H' fun σ2 H2 => wipe σ2 vs = wipe σ vs ∧ tYes σ2 H2 fun b H3 =>
        if b = true then te σ2 H3 fun y H4 => ∃ acc, H4 D = some (.lst acc) ∧ acc.length < sizeLine ∧ Nx (upd H4 D (.lst (acc ++ [y]))) else Nx H3) := by
  refine lc_list (K := K) (a := a) (xs := xs) (fun i H => Same H1 H ∧ H D = some (.lst (ys.take i))) ⟨same_new hD, upd_same⟩ (fun i H _ q => q.1.seq hS) (fun i x H hx q => ?_) (fun H q => fin H q.1 ?_)
  · have hi : i < xs.length := (List.getElem?_eq_some_iff.mp hx).1
    have hy : ys[i]? = some ys[i] := List.getElem?_eq_getElem (by omega)
    obtain ⟨e, t⟩ := turn i x _ H (fun y H4 => ∃ acc, H4 D = some (.lst acc) ∧ acc.length < sizeLine ∧ (fun H => Same H1 H ∧ H D = some (.lst (ys.take (i + 1)))) (upd H4 D (.lst (acc ++ [y])))) hx hy q.1 fun H4 s4 => by
      refine ⟨ys.take i, s4 _ _ q.2, ?_, same_put (q.1.trans s4) hD, ?_⟩
      · have h2 : (ys.take i).length ≤ i := by rw [List.length_take]; omega
        omega
      · rw [upd_same, List.take_add_one, hy]
        rfl
    refine ⟨e, ?_⟩
    exact t
  · rw [q.2, ← hlen, List.take_length]
theorem bl_sz {α : Type} (l : BL α) {xs : List V} {f : α → PyData} (e : xs.length = (l.1.map f).length) : xs.length < sizeLine := by
  have := l.2
  rw [e, List.length_map, sizeLine_eq]
  omega
theorem flat_strs (tx : List Str) : (tx.map V.str).all flatV = true := by
  rw [List.all_map]
  exact List.all_eq_true.mpr fun _ _ => rfl
section
variable {P : Program} {w : World} {K : PySem.W.Frag} {mg : Str → Option Value} {base : Heap}
/-! ### can_be -/
def spCan (K : PySem.W.Frag) (n : Nat) : Sp := fun vs H Q _ => ∃ (v : V) (w : W n), vs = [v] ∧ Dp K H v (dW n w) ∧ ∀ H', Same H H' → Q (.bl (cW n w)) H'
theorem ok_can_be (T : Tx K mg) : ∀ n : Nat, FnOk P w K mg base CX0 n T.can_be.f T.can_be.fd ["wish"] (spCan K n)
  | 0 => ⟨fun _ _ _ _ ⟨_, e, _⟩ => Empty.elim e, fun _ _ _ _ _ _ _ _ _ _ _ _ _ ⟨_, e, _⟩ => Empty.elim e⟩
  | n + 1 => by
    have G := ok_can_be T n
    refine ok0 T.can_be.F sc_can_be (fun vs H Q E h => ?_) (fun cdv A outer s H vs Q E hr h => ?_)
    · obtain ⟨v, w, rfl, _⟩ := h
      rfl
    · obtain ⟨v, w, rfl, hd, k⟩ := h
      refine ⟨_, pss_cons (ps_if (pt_cmpR op_eq (pe_ix ix_tup (pv 0) pe_int (fun _ _ => rfl)) pe_str (nomark _))
          (pss_one (ps_ret (pe_callB (cr_all rfl) (by rfl) T.z_all (by decide +kernel) (pa_cons (pe_lc (own := [("step", 1)]) (g := gName 1) (tt := tYes) rfl sc_can_be.nd (pi_list (pe_ix ix_tup (pv 0) pe_int (fun _ _ => rfl)))
            (blkOk_by (N := N_can_be) (sc := defScope s_can_be) (by decide +kernel)) (fun _ _ _ _ _ => pg_name (i := 1) sc_can_be.nd rfl (Or.inl rfl)) (fun _ _ _ _ _ => pts_nil)
            (fun _ _ _ _ _ => pe_call G hr rfl T.can_be.m T.can_be.F.kp T.can_be.b .nil pass0 (pa_cons (pe_ix (r := rIxT K) ix_tup (pv 1) pe_int (fun _ _ => rfl)) pa_nil))) pa_nil)))) pss_nil)
        (pss_cons (ps_if (pt_cmpR op_eq (pe_ix ix_tup (pv 0) pe_int (fun _ _ => rfl)) pe_str (nomark _))
          (pss_one (ps_ret (pe_callB (cr_all rfl) (by rfl) T.z_all (by decide +kernel) (pa_cons (pe_lc (own := [("one", 2)]) (g := gName 2) (tt := tYes) rfl sc_can_be.nd (pi_list (pe_ix ix_tup (pv 0) pe_int (fun _ _ => rfl)))
            (blkOk_by (N := N_can_be) (sc := defScope s_can_be) (by decide +kernel)) (fun _ _ _ _ _ => pg_name (i := 2) sc_can_be.nd rfl (Or.inl rfl)) (fun _ _ _ _ _ => pts_nil)
            (fun _ _ _ _ _ => pe_call G hr rfl T.can_be.m T.can_be.F.kp T.can_be.b .nil pass0 (pa_cons (pv 2) pa_nil))) pa_nil)))) pss_nil)
        (pss_cons (ps_if (pt_cmpR op_eq (pe_ix ix_tup (pv 0) pe_int (fun _ _ => rfl)) pe_str (nomark _))
          (pss_one (ps_ret (pe_callB (cr_any rfl) (by rfl) T.z_any (by decide +kernel) (pa_cons (pe_lc (own := [("one", 2)]) (g := gName 2) (tt := tYes) rfl sc_can_be.nd (pi_list (pe_ix ix_tup (pv 0) pe_int (fun _ _ => rfl)))
            (blkOk_by (N := N_can_be) (sc := defScope s_can_be) (by decide +kernel)) (fun _ _ _ _ _ => pg_name (i := 2) sc_can_be.nd rfl (Or.inl rfl)) (fun _ _ _ _ _ => pts_nil)
            (fun _ _ _ _ _ => pe_call G hr rfl T.can_be.m T.can_be.F.kp T.can_be.b .nil pass0 (pa_cons (pv 2) pa_nil))) pa_nil)))) pss_nil)
        (pss_one (ps_ret pe_bl)))), ?_⟩
      have eq_ : ∀ {a b : Str} {A B : Prop}, decide (a = b) = true → A → (if decide (V.str a = V.str b) = true then A else B) := fun {a b A B} e h => by
        rw [dec_str, beq_iff_eq.mpr (of_decide_eq_true e)]
        exact iteT h
      have ne_ : ∀ {a b : Str} {A B : Prop}, decide (a = b) = false → B → (if decide (V.str a = V.str b) = true then A else B) := fun {a b A B} e h => by
        rw [dec_str, beq_eq_false_iff_ne.mpr (of_decide_eq_false e)]
        exact iteF h
      cases w with
      | any =>
        obtain ⟨a, rfl, hs⟩ := dp_t1 hd
        refine ⟨_, rfl, _, _, _, _, rfl, rfl, hs, atI_nat (j := 0) rfl, rfl, _, rfl, ne_ (by decide +kernel) ?_⟩
        refine ⟨_, rfl, _, _, _, _, rfl, rfl, hs, atI_nat (j := 0) rfl, rfl, _, rfl, ne_ (by decide +kernel) ?_⟩
        refine ⟨_, rfl, _, _, _, _, rfl, rfl, hs, atI_nat (j := 0) rfl, rfl, _, rfl, ne_ (by decide +kernel) ?_⟩
        exact k _ (Same.refl _)
      | text z =>
        obtain ⟨a, rfl, hs⟩ := dp_t2 hd
        refine ⟨_, rfl, _, _, _, _, rfl, rfl, hs, atI_nat (j := 0) rfl, rfl, _, rfl, ne_ (by decide +kernel) ?_⟩
        refine ⟨_, rfl, _, _, _, _, rfl, rfl, hs, atI_nat (j := 0) rfl, rfl, _, rfl, ne_ (by decide +kernel) ?_⟩
        refine ⟨_, rfl, _, _, _, _, rfl, rfl, hs, atI_nat (j := 0) rfl, rfl, _, rfl, ne_ (by decide +kernel) ?_⟩
        exact k _ (Same.refl _)
      | has l =>
        obtain ⟨a, b, xs, rfl, hs, hb, hx⟩ := dp_pair hd
        refine ⟨_, rfl, _, _, _, _, rfl, rfl, hs, atI_nat (j := 0) rfl, rfl, _, rfl, eq_ (by decide +kernel) ?_⟩
        have e1 := dpAll_len hx
        refine ⟨_, rfl, _, _, _, _, rfl, rfl, hs, atI_nat (j := 1) rfl, b, rfl, ⟨_, hb⟩, fun D hD => ?_⟩
        refine lc_map (K := K) (a := b) (xs := xs) ((l.1.map fun s => cW n s.2.2).map V.bl) (by rw [e1]; simp) (bl_sz l e1) hb hD (fun i x y H' kk hx' hy' sm ky => ?_) (fun H' sm hD' => ?_)
        · obtain ⟨d, hd', hdx⟩ := dpAll_at hx hx'
          rw [List.getElem?_map] at hd'
          obtain ⟨st, hst, rfl⟩ := Option.map_eq_some_iff.mp hd'
          obtain ⟨c, u, rfl, hc, hu⟩ := dp_step hdx
          refine ⟨rfl, ⟨_, rfl, _, _, _, _, rfl, rfl, SqT_same sm hc, atI_nat (j := 2) rfl, _, st.2.2, rfl, hu.up sm, fun H4 s4 => ?_⟩⟩
          have ey : y = V.bl (cW n st.2.2) := by
            rw [List.getElem?_map, List.getElem?_map, hst] at hy'
            exact (Option.some.inj hy').symm
          rw [← ey]
          exact ky H4 s4
        · exact ⟨D, _, rfl, SqL.of hD', k _ sm⟩
      | both l =>
        obtain ⟨a, b, xs, rfl, hs, hb, hx⟩ := dp_pair hd
        refine ⟨_, rfl, _, _, _, _, rfl, rfl, hs, atI_nat (j := 0) rfl, rfl, _, rfl, ne_ (by decide +kernel) ?_⟩
        refine ⟨_, rfl, _, _, _, _, rfl, rfl, hs, atI_nat (j := 0) rfl, rfl, _, rfl, eq_ (by decide +kernel) ?_⟩
        have e1 := dpAll_len hx
        refine ⟨_, rfl, _, _, _, _, rfl, rfl, hs, atI_nat (j := 1) rfl, b, rfl, ⟨_, hb⟩, fun D hD => ?_⟩
        refine lc_map (K := K) (a := b) (xs := xs) ((l.1.map (cW n)).map V.bl) (by rw [e1]; simp) (bl_sz l e1) hb hD (fun i x y H' kk hx' hy' sm ky => ?_) (fun H' sm hD' => ?_)
        · obtain ⟨d, hd', hdx⟩ := dpAll_at hx hx'
          rw [List.getElem?_map] at hd'
          obtain ⟨st, hst, rfl⟩ := Option.map_eq_some_iff.mp hd'
          refine ⟨rfl, ⟨_, rfl, _, st, rfl, hdx.up sm, fun H4 s4 => ?_⟩⟩
          have ey : y = V.bl (cW n st) := by
            rw [List.getElem?_map, List.getElem?_map, hst] at hy'
            exact (Option.some.inj hy').symm
          rw [← ey]
          exact ky H4 s4
        · exact ⟨D, _, rfl, SqL.of hD', k _ sm⟩
      | one l =>
        obtain ⟨a, b, xs, rfl, hs, hb, hx⟩ := dp_pair hd
        refine ⟨_, rfl, _, _, _, _, rfl, rfl, hs, atI_nat (j := 0) rfl, rfl, _, rfl, ne_ (by decide +kernel) ?_⟩
        refine ⟨_, rfl, _, _, _, _, rfl, rfl, hs, atI_nat (j := 0) rfl, rfl, _, rfl, ne_ (by decide +kernel) ?_⟩
        refine ⟨_, rfl, _, _, _, _, rfl, rfl, hs, atI_nat (j := 0) rfl, rfl, _, rfl, eq_ (by decide +kernel) ?_⟩
        have e1 := dpAll_len hx
        refine ⟨_, rfl, _, _, _, _, rfl, rfl, hs, atI_nat (j := 1) rfl, b, rfl, ⟨_, hb⟩, fun D hD => ?_⟩
        refine lc_map (K := K) (a := b) (xs := xs) ((l.1.map (cW n)).map V.bl) (by rw [e1]; simp) (bl_sz l e1) hb hD (fun i x y H' kk hx' hy' sm ky => ?_) (fun H' sm hD' => ?_)
        · obtain ⟨d, hd', hdx⟩ := dpAll_at hx hx'
          rw [List.getElem?_map] at hd'
          obtain ⟨st, hst, rfl⟩ := Option.map_eq_some_iff.mp hd'
          refine ⟨rfl, ⟨_, rfl, _, st, rfl, hdx.up sm, fun H4 s4 => ?_⟩⟩
          have ey : y = V.bl (cW n st) := by
            rw [List.getElem?_map, List.getElem?_map, hst] at hy'
            exact (Option.some.inj hy').symm
          rw [← ey]
          exact ky H4 s4
        · exact ⟨D, _, rfl, SqL.of hD', k _ sm⟩
end
end K8
/-! # Wishes asked of a part, 2 -/
namespace K8
open PySem PySem.Spec PyProof.Rows L2
theorem strT {a b : Str} {A B : Prop} (e : decide (a = b) = true) (h : A) : (if decide (V.str a = V.str b) = true then A else B) := by
  rw [dec_str, beq_iff_eq.mpr (of_decide_eq_true e)]
  exact iteT h
theorem strF {a b : Str} {A B : Prop} (e : decide (a = b) = false) (h : B) : (if decide (V.str a = V.str b) = true then A else B) := by
  rw [dec_str, beq_eq_false_iff_ne.mpr (of_decide_eq_false e)]
  exact iteF h
/-- what is to be seen of a part -/
def PartV (K : PySem.W.Frag) (C : Addr) (H : Hp) (a : Addr) (nm : Str) (op : Bool) (tx : List Str) (mt : List PyData) : Prop :=
  ∃ (dx pt pm : Addr) (fs : List (Str × V)) (mv : List V), H a = some (.ins C dx fs) ∧ fs.lookup ("name" : Str) = some (V.str nm) ∧ fs.lookup ("is_open" : Str) = some (V.bl op) ∧ fs.lookup ("texts" : Str) = some (V.ref pt) ∧ fs.lookup ("met" : Str) = some (V.ref pm) ∧
    H pt = some (.lst (tx.map V.str)) ∧ H pm = some (.lst mv) ∧ DpAll K H mv mt ∧ ∀ d ∈ mt, IsTail d
theorem PartV.up {K : PySem.W.Frag} {C : Addr} {H H' : Hp} {a : Addr} {nm : Str} {op : Bool} {tx : List Str} {mt : List PyData} (h : PartV K C H a nm op tx mt) (e : Same H H') : PartV K C H' a nm op tx mt := by
  obtain ⟨dx, pt, pm, fs, mv, h1, h2, h3, h4, h5, h6, h7, h8, h9⟩ := h
  exact ⟨dx, pt, pm, fs, mv, e _ _ h1, h2, h3, h4, h5, e _ _ h6, e _ _ h7, h8.up e, h9⟩
theorem wish_shaped {n : Nat} (hn : n ≤ 4) (l : List (Sp1 (W n))) : SeqAt.shaped (.list (l.map (dStep (dW n)))) = true := by
  have h1 := dQ_lay n l
  have h2 := dQ_dep n l
  exact shaped_of h1 (by show (dQ n l).depth ≤ 64; omega)
section
variable {P : Program} {w : World} {K : PySem.W.Frag} {mg : Str → Option Value} {base : Heap}
/-! ### holds_now -/
def spHolds (K : PySem.W.Frag) (C : Addr) (n : Nat) : Sp := fun vs H Q _ => ∃ (a : Addr) (v : V) (w : W n) (nm : Str) (op : Bool) (tx : List Str) (mt : List PyData), vs = [.ref a, v] ∧ PartV K C H a nm op tx mt ∧ Dp K H v (dW n w) ∧ ∀ H', Same H H' → Q (.bl (hW tx mt n w)) H'
theorem ok_holds_now (T : Tx K mg) : ∀ n : Nat, n ≤ 5 → FnOk P w K mg base CX0 n T.holds_now.f T.holds_now.fd ["part", "wish"] (spHolds K T.CP n)
  | 0, _ => ⟨fun _ _ _ _ ⟨_, _, e, _⟩ => Empty.elim e, fun _ _ _ _ _ _ _ _ _ _ _ _ _ ⟨_, _, e, _⟩ => Empty.elim e⟩
  | n + 1, hn => by
    have G := ok_holds_now T n (by omega)
    refine ok0 T.holds_now.F sc_holds_now (fun vs H Q E h => ?_) (fun cdv A outer s H vs Q E hr h => ?_)
    · obtain ⟨a, v, w, nm, op, tx, mt, rfl, _⟩ := h
      rfl
    · obtain ⟨a, v, w, nm, op, tx, mt, rfl, pa, hd, k⟩ := h
      obtain ⟨dx, pt, pm, fs, mv, h1, h2, h3, h4, h5, h6, h7, h8, h9⟩ := id pa
      refine ⟨_, pss_cons (ps_if (pt_cmpR op_eq (pe_ix ix_tup (pv 1) pe_int (fun _ _ => rfl)) pe_str (nomark _)) (pss_one (ps_ret pe_bl)) pss_nil)
        (pss_cons (ps_if (pt_cmpR op_eq (pe_ix ix_tup (pv 1) pe_int (fun _ _ => rfl)) pe_str (nomark _)) (pss_one (ps_ret (pe_cmpR op_in_seq (pe_ix ix_tup (pv 1) pe_int (fun _ _ => rfl)) (pe_fld (pv 0) rfl) (by rfl)))) pss_nil)
        (pss_cons (ps_if (pt_cmpR op_eq (pe_ix ix_tup (pv 1) pe_int (fun _ _ => rfl)) pe_str (nomark _)) (pss_one (ps_ret (pe_cmpR (op_inD (hu65 hr)) (pe_ix ix_tup (pv 1) pe_int (fun _ _ => rfl)) (pe_fld (pv 0) rfl) (by rfl)))) pss_nil)
        (pss_cons (ps_if (pt_cmpR op_eq (pe_ix ix_tup (pv 1) pe_int (fun _ _ => rfl)) pe_str (nomark _))
          (pss_one (ps_ret (pe_callB (cr_all rfl) (by rfl) T.z_all (by decide +kernel) (pa_cons (pe_lc (own := [("one", 2)]) (g := gName 2) (tt := tYes) rfl sc_holds_now.nd (pi_list (pe_ix ix_tup (pv 1) pe_int (fun _ _ => rfl)))
            (blkOk_by (N := N_holds_now) (sc := defScope s_holds_now) (by decide +kernel)) (fun _ _ _ _ _ => pg_name (i := 2) sc_holds_now.nd rfl (Or.inl rfl)) (fun _ _ _ _ _ => pts_nil)
            (fun _ _ _ _ _ => pe_call G hr rfl T.holds_now.m T.holds_now.F.kp T.holds_now.b .nil pass0 (pa_cons (pv 0) (pa_cons (pv 2) pa_nil)))) pa_nil)))) pss_nil)
        (pss_one (ps_ret (pe_callB (cr_any rfl) (by rfl) T.z_any (by decide +kernel) (pa_cons (pe_lc (own := [("one", 2)]) (g := gName 2) (tt := tYes) rfl sc_holds_now.nd (pi_list (pe_ix ix_tup (pv 1) pe_int (fun _ _ => rfl)))
            (blkOk_by (N := N_holds_now) (sc := defScope s_holds_now) (by decide +kernel)) (fun _ _ _ _ _ => pg_name (i := 2) sc_holds_now.nd rfl (Or.inl rfl)) (fun _ _ _ _ _ => pts_nil)
            (fun _ _ _ _ _ => pe_call G hr rfl T.holds_now.m T.holds_now.F.kp T.holds_now.b .nil pass0 (pa_cons (pv 0) (pa_cons (pv 2) pa_nil)))) pa_nil))))))), ?_⟩
      cases w with
      | any =>
        obtain ⟨c, rfl, hs⟩ := dp_t1 hd
        refine ⟨_, rfl, _, _, _, _, rfl, rfl, hs, atI_nat (j := 0) rfl, rfl, _, rfl, strT (by decide +kernel) ?_⟩
        exact k _ (Same.refl _)
      | text z =>
        obtain ⟨c, rfl, hs⟩ := dp_t2 hd
        refine ⟨_, rfl, _, _, _, _, rfl, rfl, hs, atI_nat (j := 0) rfl, rfl, _, rfl, strF (by decide +kernel) ?_⟩
        refine ⟨_, rfl, _, _, _, _, rfl, rfl, hs, atI_nat (j := 0) rfl, rfl, _, rfl, strT (by decide +kernel) ?_⟩
        refine ⟨_, rfl, _, _, _, _, rfl, rfl, hs, atI_nat (j := 1) rfl, _, rfl, a, _, dx, _, _, rfl, h1, T.clP, T.nP_texts, h4, pt, _, rfl, .inl (SqL.of h6), rfl, flat_strs tx, ?_⟩
        exact k _ (Same.refl _)
      | has l =>
        obtain ⟨c, b, xs, rfl, hs, hb, hx⟩ := dp_pair hd
        refine ⟨_, rfl, _, _, _, _, rfl, rfl, hs, atI_nat (j := 0) rfl, rfl, _, rfl, strF (by decide +kernel) ?_⟩
        refine ⟨_, rfl, _, _, _, _, rfl, rfl, hs, atI_nat (j := 0) rfl, rfl, _, rfl, strF (by decide +kernel) ?_⟩
        refine ⟨_, rfl, _, _, _, _, rfl, rfl, hs, atI_nat (j := 0) rfl, rfl, _, rfl, strT (by decide +kernel) ?_⟩
        refine ⟨_, rfl, _, _, _, _, rfl, rfl, hs, atI_nat (j := 1) rfl, _, rfl, a, _, dx, _, _, rfl, h1, T.clP, T.nP_met, h5, _, _, .lst hb hx, .lst (SqL.of h7) h8, wish_shaped (by omega) l.1, tails_shaped h9, ?_⟩
        exact k _ (Same.refl _)
      | both l =>
        obtain ⟨c, b, xs, rfl, hs, hb, hx⟩ := dp_pair hd
        refine ⟨_, rfl, _, _, _, _, rfl, rfl, hs, atI_nat (j := 0) rfl, rfl, _, rfl, strF (by decide +kernel) ?_⟩
        refine ⟨_, rfl, _, _, _, _, rfl, rfl, hs, atI_nat (j := 0) rfl, rfl, _, rfl, strF (by decide +kernel) ?_⟩
        refine ⟨_, rfl, _, _, _, _, rfl, rfl, hs, atI_nat (j := 0) rfl, rfl, _, rfl, strF (by decide +kernel) ?_⟩
        refine ⟨_, rfl, _, _, _, _, rfl, rfl, hs, atI_nat (j := 0) rfl, rfl, _, rfl, strT (by decide +kernel) ?_⟩
        have e1 := dpAll_len hx
        refine ⟨_, rfl, _, _, _, _, rfl, rfl, hs, atI_nat (j := 1) rfl, b, rfl, ⟨_, hb⟩, fun D hD => ?_⟩
        refine lc_map (K := K) (a := b) (xs := xs) ((l.1.map (hW tx mt n)).map V.bl) (by rw [e1]; simp) (bl_sz l e1) hb hD (fun i x y H' kk hx' hy' sm ky => ?_) (fun H' sm hD' => ?_)
        · obtain ⟨d, hd', hdx⟩ := dpAll_at hx hx'
          rw [List.getElem?_map] at hd'
          obtain ⟨st, hst, rfl⟩ := Option.map_eq_some_iff.mp hd'
          refine ⟨rfl, ⟨_, rfl, _, rfl, a, _, st, nm, op, tx, mt, rfl, pa.up sm, hdx.up sm, fun H4 s4 => ?_⟩⟩
          have ey : y = V.bl (hW tx mt n st) := by
            rw [List.getElem?_map, List.getElem?_map, hst] at hy'
            exact (Option.some.inj hy').symm
          rw [← ey]
          exact ky H4 s4
        · exact ⟨D, _, rfl, SqL.of hD', k _ sm⟩
      | one l =>
        obtain ⟨c, b, xs, rfl, hs, hb, hx⟩ := dp_pair hd
        refine ⟨_, rfl, _, _, _, _, rfl, rfl, hs, atI_nat (j := 0) rfl, rfl, _, rfl, strF (by decide +kernel) ?_⟩
        refine ⟨_, rfl, _, _, _, _, rfl, rfl, hs, atI_nat (j := 0) rfl, rfl, _, rfl, strF (by decide +kernel) ?_⟩
        refine ⟨_, rfl, _, _, _, _, rfl, rfl, hs, atI_nat (j := 0) rfl, rfl, _, rfl, strF (by decide +kernel) ?_⟩
        refine ⟨_, rfl, _, _, _, _, rfl, rfl, hs, atI_nat (j := 0) rfl, rfl, _, rfl, strF (by decide +kernel) ?_⟩
        have e1 := dpAll_len hx
        refine ⟨_, rfl, _, _, _, _, rfl, rfl, hs, atI_nat (j := 1) rfl, b, rfl, ⟨_, hb⟩, fun D hD => ?_⟩
        refine lc_map (K := K) (a := b) (xs := xs) ((l.1.map (hW tx mt n)).map V.bl) (by rw [e1]; simp) (bl_sz l e1) hb hD (fun i x y H' kk hx' hy' sm ky => ?_) (fun H' sm hD' => ?_)
        · obtain ⟨d, hd', hdx⟩ := dpAll_at hx hx'
          rw [List.getElem?_map] at hd'
          obtain ⟨st, hst, rfl⟩ := Option.map_eq_some_iff.mp hd'
          refine ⟨rfl, ⟨_, rfl, _, rfl, a, _, st, nm, op, tx, mt, rfl, pa.up sm, hdx.up sm, fun H4 s4 => ?_⟩⟩
          have ey : y = V.bl (hW tx mt n st) := by
            rw [List.getElem?_map, List.getElem?_map, hst] at hy'
            exact (Option.some.inj hy').symm
          rw [← ey]
          exact ky H4 s4
        · exact ⟨D, _, rfl, SqL.of hD', k _ sm⟩
/-! ### may_hold, suits -/
def spMay (K : PySem.W.Frag) (C : Addr) (n : Nat) : Sp := fun vs H Q _ => ∃ (a : Addr) (v : V) (w : W n) (nm : Str) (op : Bool) (tx : List Str) (mt : List PyData), vs = [.ref a, v] ∧ PartV K C H a nm op tx mt ∧ Dp K H v (dW n w) ∧ ∀ H', Same H H' → Q (.bl (mayM op tx mt n w)) H'
theorem ok_may_hold (T : Tx K mg) {n : Nat} (hn : n ≤ 5) : FnOk P w K mg base CX0 (n + 1) T.may_hold.f T.may_hold.fd ["part", "wish"] (spMay K T.CP n) := by
  refine ok0 T.may_hold.F sc_may_hold (fun vs H Q E h => ?_) (fun cdv A outer s H vs Q E hr h => ?_)
  · obtain ⟨a, v, w, nm, op, tx, mt, rfl, _⟩ := h
    rfl
  · obtain ⟨a, v, w, nm, op, tx, mt, rfl, pa, hd, k⟩ := h
    obtain ⟨dx, pt, pm, fs, mv, h1, h2, h3, h4, h5, h6, h7, h8, h9⟩ := id pa
    refine ⟨_, pss_cons (ps_if (pt_val (pe_fld (pv 0) rfl)) (pss_one (ps_ret (pe_call (ok_can_be T n) hr rfl T.can_be.m T.can_be.F.kp T.can_be.b .nil pass0 (pa_cons (pv 1) pa_nil)))) pss_nil)
      (pss_one (ps_ret (pe_call (ok_holds_now T n hn) hr rfl T.holds_now.m T.holds_now.F.kp T.holds_now.b .nil pass0 (pa_cons (pv 0) (pa_cons (pv 1) pa_nil))))), ?_⟩
    refine ⟨_, rfl, a, _, dx, _, _, rfl, h1, T.clP, T.nP_is_open, h3, _, rfl, ?_⟩
    cases op with
    | true => exact iteT ⟨_, rfl, _, w, rfl, hd, k⟩
    | false => exact iteF ⟨_, rfl, _, rfl, a, _, w, nm, _, tx, mt, rfl, pa, hd, k⟩
def spSuits (K : PySem.W.Frag) (C : Addr) (n : Nat) : Sp := fun vs H Q _ => ∃ (a : Addr) (v : V) (st : Sp1 (W n)) (hop : Bool) (nm : Str) (op : Bool) (tx : List Str) (mt : List PyData), vs = [.ref a, v, .bl hop] ∧ PartV K C H a nm op tx mt ∧ Dp K H v (dStep (dW n) st) ∧ ∀ H', Same H H' → Q (.bl (suitM nm op tx mt hop n st)) H'
theorem ok_suits (T : Tx K mg) {n : Nat} (hn : n ≤ 5) : FnOk P w K mg base CX0 (n + 2) T.suits.f T.suits.fd ["part", "step", "hoping"] (spSuits K T.CP n) := by
  have GC : FnOk P w K mg base CX0 1 T.is_called.f T.is_called.fd ["part", "name"] (spIsCalled T.CP) := ok_is_called T
  have GM : FnOk P w K mg base CX0 (n + 1) T.may_hold.f T.may_hold.fd ["part", "wish"] (spMay K T.CP n) := ok_may_hold T hn
  have GH : FnOk P w K mg base CX0 n T.holds_now.f T.holds_now.fd ["part", "wish"] (spHolds K T.CP n) := ok_holds_now T n hn
  refine ok0 T.suits.F sc_suits (fun vs H Q E h => ?_) (fun cdv A outer s H vs Q E hr h => ?_)
  · obtain ⟨a, v, st, hop, nm, op, tx, mt, rfl, _⟩ := h
    rfl
  · obtain ⟨a, v, st, hop, nm, op, tx, mt, rfl, pa, hd, k⟩ := h
    obtain ⟨dx, pt, pm, fs, mv, h1, h2, h3, h4, h5, h6, h7, h8, h9⟩ := id pa
    obtain ⟨c, u, rfl, hs, hu⟩ := dp_step hd
    refine ⟨_, pss_cons (ps_if (pt_not (pt_val (pe_call GC (hr.mono (by omega)) rfl T.is_called.m T.is_called.F.kp T.is_called.b .nil pass0 (pa_cons (pv 0) (pa_cons (pe_ix ix_tup (pv 1) pe_int (fun _ _ => rfl)) pa_nil))))) (pss_one (ps_ret pe_bl)) pss_nil)
      (pss_cons (ps_if (pt_val (pv 2)) (pss_one (ps_ret (pe_call GM hr rfl T.may_hold.m T.may_hold.F.kp T.may_hold.b .nil pass0 (pa_cons (pv 0) (pa_cons (pe_ix ix_tup (pv 1) pe_int (fun _ _ => rfl)) pa_nil))))) pss_nil)
      (pss_one (ps_ret (pe_call GH (hr.mono (by omega)) rfl T.holds_now.m T.holds_now.F.kp T.holds_now.b .nil pass0 (pa_cons (pv 0) (pa_cons (pe_ix ix_tup (pv 1) pe_int (fun _ _ => rfl)) pa_nil)))))), ?_⟩
    refine ⟨_, rfl, _, rfl, _, _, _, _, rfl, rfl, hs, atI_nat (j := 1) rfl, a, dx, fs, nm, _, rfl, h1, h2, _, rfl, ?_⟩
    have k' := k
    unfold suitM at k'
    show (if (!calledM nm st.2.1.1) = true then _ else _)
    cases e : (!calledM nm st.2.1.1) with
    | true =>
      rw [e] at k'
      exact iteT (k' _ (Same.refl _))
    | false =>
      rw [e] at k'
      refine iteF ⟨_, rfl, _, rfl, ?_⟩
      cases hop with
      | true => exact iteT ⟨_, rfl, _, rfl, _, _, _, _, rfl, rfl, hs, atI_nat (j := 2) rfl, a, _, st.2.2, nm, op, tx, mt, rfl, pa, hu, k'⟩
      | false => exact iteF ⟨_, rfl, _, rfl, _, _, _, _, rfl, rfl, hs, atI_nat (j := 2) rfl, a, _, st.2.2, nm, op, tx, mt, rfl, pa, hu, k'⟩
end
end K8
/-! # The parts of a sift; chains -/
namespace K8
open PySem PySem.Spec PyProof.Rows L2
/-! ### for a, b in enumerate(list) -/
theorem for_enum {K : PySem.W.Frag} {a : Addr} {xs : List V} {g : TG} {tb : TS} {D : Ends} {σ : St} {H : Hp} (Pv : Nat → St → Hp → Prop) (h0 : Pv 0 σ H) (hl : ∀ i σ H, i ≤ xs.length → Pv i σ H → SqL K H a xs)
    (hs : ∀ i x σ H T, xs[i]? = some x → Pv i σ H → H T = none → g (.ref T) σ (upd H T (.tup [.int (i : Nat), x])) fun σ2 H2 => tb { D with nx := Pv (i + 1), ct := Pv (i + 1), bk := D.nx } σ2 H2) (hd : ∀ σ H, Pv xs.length σ H → D.nx σ H) :
    ∃ W : Nat → Nat → St → Hp → Prop, (∃ m, W 0 m σ H) ∧ ∀ i m σ H, W i m σ H →
      ((Ite K a).stop i H ∧ D.nx σ H) ∨ ((Ite K a).go i H ∧ ∃ N : St → Hp → Prop, (∀ σ' H', N σ' H' → ∃ m', m' < m ∧ W (i + 1) m' σ' H') ∧ ∀ x H', (Ite K a).yld i H x H' → g x σ H' fun σ2 H2 => tb { D with nx := N, ct := N, bk := D.nx } σ2 H2) := by
  refine ⟨fun i m σ H => m = xs.length - i ∧ i ≤ xs.length ∧ Pv i σ H, ⟨xs.length, by simp, Nat.zero_le _, h0⟩, ?_⟩
  rintro i m σ H ⟨rfl, hi, p⟩
  have q := hl i σ H hi p
  by_cases hlt : i < xs.length
  · refine .inr ⟨⟨xs, xs[i], q, by simp [hlt]⟩, Pv (i + 1), fun σ' H' p' => ⟨xs.length - (i + 1), by omega, rfl, hlt, p'⟩, fun x H' y => ?_⟩
    obtain ⟨T, z, e, hT, eH, y⟩ := y
    subst e eH
    exact hs i z σ _ T (y xs q) p hT
  · have e : i = xs.length := by omega
    subst e
    exact .inl ⟨⟨xs, q, Nat.le_refl _⟩, hd σ H p⟩
/-! ### the parts -/
structure Pt where
  nm : Str
  par : Option Nat
  op : Bool
  tx : List Str
  mt : List PyData
def aroV (pa : List Addr) : Option Nat → V
  | none => .non
  | some j => .ref (pa.getD j 0)
/-- a part in the heap: its number, the one around it -/
def PartN (K : PySem.W.Frag) (C : Addr) (H : Hp) (pa : List Addr) (i : Nat) (p : Pt) : Prop :=
  ∃ (dx pt pm : Addr) (fs : List (Str × V)) (mv : List V), H (pa.getD i 0) = some (.ins C dx fs) ∧ fs.lookup ("number" : Str) = some (V.int (i : Int)) ∧ fs.lookup ("around" : Str) = some (aroV pa p.par) ∧
    fs.lookup ("name" : Str) = some (V.str p.nm) ∧ fs.lookup ("is_open" : Str) = some (V.bl p.op) ∧ fs.lookup ("texts" : Str) = some (V.ref pt) ∧ fs.lookup ("met" : Str) = some (V.ref pm) ∧
    H pt = some (.lst (p.tx.map V.str)) ∧ H pm = some (.lst mv) ∧ DpAll K H mv p.mt ∧ ∀ d ∈ p.mt, IsTail d
theorem PartN.v {K : PySem.W.Frag} {C : Addr} {H : Hp} {pa : List Addr} {i : Nat} {p : Pt} (h : PartN K C H pa i p) : PartV K C H (pa.getD i 0) p.nm p.op p.tx p.mt := by
  obtain ⟨dx, pt, pm, fs, mv, h1, _, _, h2, h3, h4, h5, h6, h7, h8, h9⟩ := h
  exact ⟨dx, pt, pm, fs, mv, h1, h2, h3, h4, h5, h6, h7, h8, h9⟩
theorem PartN.up {K : PySem.W.Frag} {C : Addr} {H H' : Hp} {pa : List Addr} {i : Nat} {p : Pt} (h : PartN K C H pa i p) (e : Same H H') : PartN K C H' pa i p := by
  obtain ⟨dx, pt, pm, fs, mv, h1, a, b, h2, h3, h4, h5, h6, h7, h8, h9⟩ := h
  exact ⟨dx, pt, pm, fs, mv, e _ _ h1, a, b, h2, h3, h4, h5, e _ _ h6, e _ _ h7, h8.up e, h9⟩
/-- the parts of a sift -/
structure PsV (K : PySem.W.Frag) (C : Addr) (H : Hp) (lp : Addr) (pa : List Addr) (ps : List Pt) : Prop where
  lst : H lp = some (.lst (pa.map V.ref))
  len : pa.length = ps.length
  small : ps.length ≤ 100
  at_ : ∀ (i : Nat) (p : Pt), ps[i]? = some p → PartN K C H pa i p
  wf : ∀ (i : Nat) (p : Pt) (j : Nat), ps[i]? = some p → p.par = some j → j < i
theorem PsV.up {K : PySem.W.Frag} {C : Addr} {H H' : Hp} {lp : Addr} {pa : List Addr} {ps : List Pt} (h : PsV K C H lp pa ps) (e : Same H H') : PsV K C H' lp pa ps :=
  ⟨e _ _ h.lst, h.len, h.small, fun i p q => (h.at_ i p q).up e, h.wf⟩
/-- the part ahead -/
def parM (ps : List Pt) (i : Nat) : Option Nat := (ps[i]?).bind (·.par)
theorem PsV.part {K : PySem.W.Frag} {C : Addr} {H : Hp} {lp : Addr} {pa : List Addr} {ps : List Pt} (h : PsV K C H lp pa ps) {i : Nat} (hi : i < ps.length) : ∃ p, ps[i]? = some p ∧ PartN K C H pa i p ∧ parM ps i = p.par := by
  have e : ps[i]? = some ps[i] := List.getElem?_eq_getElem hi
  exact ⟨_, e, h.at_ i _ e, by unfold parM; rw [e]; rfl⟩
theorem PsV.parLt {K : PySem.W.Frag} {C : Addr} {H : Hp} {lp : Addr} {pa : List Addr} {ps : List Pt} (h : PsV K C H lp pa ps) {i j : Nat} (e : parM ps i = some j) : j < i := by
  unfold parM at e
  cases q : ps[i]? with
  | none =>
    rw [q] at e
    cases e
  | some p =>
    rw [q] at e
    exact h.wf i p j q e
/-! ### rows of numbers -/
def rowV (l : List Nat) : List V := l.map fun k : Nat => V.int (k : Int)
def rowD (l : List Nat) : PyData := .list (l.map fun k : Nat => PyData.int (k : Int))
def RchV (K : PySem.W.Frag) (H : Hp) (r : Addr) (R : List (List Nat)) : Prop := ∃ rs, H r = some (.lst rs) ∧ DpAll K H rs (R.map rowD)
theorem RchV.up {K : PySem.W.Frag} {H H' : Hp} {r : Addr} {R : List (List Nat)} (h : RchV K H r R) (e : Same H H') : RchV K H' r R := by
  obtain ⟨rs, h1, h2⟩ := h
  exact ⟨rs, e _ _ h1, h2.up e⟩
theorem ints_inv {K : PySem.W.Frag} {H : Hp} : ∀ {l : List Nat} {xs : List V}, DpAll K H xs (l.map fun k : Nat => PyData.int (k : Int)) → xs = rowV l
  | [], xs, h => by
    cases h
    rfl
  | k :: l, xs, h => by
    have h' : DpAll K H xs (PyData.int (k : Int) :: l.map fun k : Nat => PyData.int (k : Int)) := h
    cases h' with
    | cons a b =>
      rw [dp_int a, ints_inv b]
      rfl
theorem rowV_dp {K : PySem.W.Frag} {H : Hp} : ∀ l : List Nat, DpAll K H (rowV l) (l.map fun k : Nat => PyData.int (k : Int))
  | [] => .nil
  | k :: l => .cons (.int k) (rowV_dp l)
theorem RchV.at_ {K : PySem.W.Frag} {H : Hp} {r : Addr} {R : List (List Nat)} (h : RchV K H r R) {j : Nat} (hj : j < R.length) : ∃ rs b, H r = some (.lst rs) ∧ atI rs (j : Int) = some (V.ref b) ∧ SqL K H b (rowV (R.getD j [])) := by
  obtain ⟨rs, h1, h2⟩ := h
  have e : (R.map rowD)[j]? = some (rowD R[j]) := by rw [List.getElem?_map, List.getElem?_eq_getElem hj]; rfl
  obtain ⟨v, hv, hd⟩ := dpAll_ix h2 e
  obtain ⟨b, xs, rfl, hs, ha⟩ := dp_list hd
  refine ⟨rs, b, h1, atI_nat hv, ?_⟩
  have ex := ints_inv ha
  subst ex
  rw [List.getD_eq_getElem?_getD, List.getElem?_eq_getElem hj]
  exact hs
theorem flat_row (l : List Nat) : (rowV l).all flatV = true := by
  unfold rowV
  rw [List.all_map]
  exact List.all_eq_true.mpr fun _ _ => rfl
def hasK (R : List (List Nat)) (j : Nat) (z : Int) : Bool := inV (.int z) (rowV (R.getD j []))
def upM (R : List (List Nat)) (z : Int) (ps : List Pt) : Nat → Option Nat → Bool
  | 0, _ => false
  | _ + 1, none => false
  | f + 1, some j => hasK R j z || upM R z ps f (parM ps j)
def aheadM (R : List (List Nat)) (ps : List Pt) (i k : Nat) (way : Str) : Bool :=
  if decide (V.int (k : Int) = V.int 0) = true then (decide (V.str way = V.str "inner") || decide (parM ps i = none))
  else if decide (V.str way = V.str "own") = true then (match parM ps i with
    | none => false
    | some j => hasK R j ((k : Int) - 1))
  else upM R ((k : Int) - 1) ps i (parM ps i)
theorem upM_none (R : List (List Nat)) (z : Int) (ps : List Pt) : ∀ f, upM R z ps f none = false
  | 0 => rfl
  | _ + 1 => rfl
theorem aro_non (pa : List Addr) (o : Option Nat) : decide (aroV pa o = V.non) = decide (o = none) := by
  cases o with
  | none => rfl
  | some j => simp [aroV]
section
variable {P : Program} {w : World} {K : PySem.W.Frag} {mg : Str → Option Value} {base : Heap}
def spAhead (K : PySem.W.Frag) (C : Addr) : Sp := fun vs H Q _ => ∃ (lp r : Addr) (pa : List Addr) (ps : List Pt) (R : List (List Nat)) (i k : Nat) (a : Addr) (way nm : Str) (u : V), vs = [.ref (pa.getD i 0), .ref r, .int (k : Int), .ref a] ∧
  PsV K C H lp pa ps ∧ RchV K H r R ∧ i < ps.length ∧ i ≤ R.length ∧ SqT K H a [.str way, .str nm, u] ∧ Q (.bl (aheadM R ps i k way)) H
theorem ok_ahead_of (T : Tx K mg) : FnOk P w K mg base CX0 1 T.ahead_of.f T.ahead_of.fd ["part", "reached", "k", "step"] (spAhead K T.CP) := by
  refine ok0 T.ahead_of.F sc_ahead_of (fun vs H Q E h => ?_) (fun cdv A outer s H vs Q E hr h => ?_)
  · obtain ⟨lp, r, pa, ps, R, i, k, a, way, nm, u, rfl, _⟩ := h
    rfl
  · obtain ⟨lp, r, pa, ps, R, i, k, a, way, nm, u, rfl, hP, hR, hi, hiR, hs, kk⟩ := h
    obtain ⟨p, hp, ⟨dx, pt, pm, fs, mv, h1, h2, h3, _⟩, hpar⟩ := hP.part hi
    refine ⟨_, pss_cons (ps_if (pt_cmpR op_eq (pv 2) pe_int (nomark _)) (pss_one (ps_ret (pe_or (pe_cmpR op_eq (pe_ix ix_tup (pv 3) pe_int (fun _ _ => rfl)) pe_str (nomark _)) (pe_one (pe_cmpR op_isN (pe_fld (pv 0) rfl) pe_non (nomark _)))))) pss_nil)
      (pss_cons (ps_set (i := 4) sc_ahead_of.nd rfl (.inl rfl) (pe_fld (pv 0) rfl))
      (pss_cons (ps_if (pt_cmpR op_eq (pe_ix ix_tup (pv 3) pe_int (fun _ _ => rfl)) pe_str (nomark _)) (pss_one (ps_ret (pe_and (pe_cmpR op_notN (pv 4) pe_non (nomark _)) (pe_one (pe_cmpR op_in_seq (pe_op op_sub (pv 2) pe_int) (pe_ix ix_list (pv 1) (pe_fld (pv 4) rfl) (fun _ _ => rfl)) (by rfl)))))) pss_nil)
      (pss_cons (ps_while PassesOwn.never (pt_cmpR op_notN (pv 4) pe_non (nomark _)) (pss_cons (ps_if (pt_cmpR op_in_seq (pe_op op_sub (pv 2) pe_int) (pe_ix ix_list (pv 1) (pe_fld (pv 4) rfl) (fun _ _ => rfl)) (by rfl)) (pss_one (ps_ret pe_bl)) pss_nil)
        (pss_one (ps_set (i := 4) sc_ahead_of.nd rfl (.inl rfl) (pe_fld (pv 4) rfl)))))
      (pss_one (ps_ret pe_bl))))), ?_⟩
    unfold aheadM at kk
    refine ⟨_, rfl, rfl, _, rfl, ?_⟩
    cases e0 : decide (V.int (k : Int) = V.int 0) with
    | true =>
      rw [e0, if_pos rfl] at kk
      refine iteT ⟨_, rfl, _, _, _, _, rfl, rfl, hs, atI_nat (j := 0) rfl, rfl, _, rfl, ?_⟩
      cases e1 : decide (V.str way = V.str "inner") with
      | true =>
        rw [e1, Bool.true_or] at kk
        exact iteT kk
      | false =>
        rw [e1, Bool.false_or, hpar] at kk
        refine iteF ⟨_, rfl, _, T.CP, dx, _, _, rfl, h1, T.clP, T.nP_around, h3, rfl, ?_⟩
        rw [aro_non]
        exact kk
    | false =>
      rw [e0, if_neg Bool.false_ne_true, hpar] at kk
      refine iteF ⟨_, rfl, _, T.CP, dx, _, _, rfl, h1, T.clP, T.nP_around, h3, ?_⟩
      refine ⟨_, rfl, _, _, _, _, rfl, rfl, hs, atI_nat (j := 0) rfl, rfl, _, rfl, ?_⟩
      -- a part that may be looked up
      have look : ∀ {j : Nat}, j < i → ∃ dx fs, H (pa.getD j 0) = some (.ins T.CP dx fs) ∧ fs.lookup ("number" : Str) = some (V.int (j : Int)) ∧ fs.lookup ("around" : Str) = some (aroV pa (parM ps j)) := fun {j} hj => by
        obtain ⟨p', _, ⟨dx', _, _, fs', _, g1, g2, g3, _⟩, hq⟩ := hP.part (i := j) (by omega)
        exact ⟨dx', fs', g1, g2, by rw [hq]; exact g3⟩
      cases e2 : decide (V.str way = V.str "own") with
      | true =>
        rw [e2, if_pos rfl] at kk
        refine iteT ⟨_, rfl, rfl, _, rfl, ?_⟩
        cases ep : p.par with
        | none =>
          rw [ep] at kk
          exact kk
        | some j =>
          rw [ep] at kk
          obtain ⟨dx', fs', g1, g2, g3⟩ := look (hP.wf i p j hp ep)
          obtain ⟨rs, b, r1, r2, r3⟩ := hR.at_ (j := j) (by have := hP.wf i p j hp ep; omega)
          refine ⟨_, rfl, _, _, rfl, rfl, _, rfl, _, rfl, _, T.CP, dx', _, _, rfl, g1, T.clP, T.nP_number, g2, r, _, _, _, rfl, rfl, SqL.of r1, r2, b, _, rfl, .inl r3, rfl, flat_row _, ?_⟩
          exact kk
      | false =>
        rw [e2, if_neg Bool.false_ne_true] at kk
        refine iteF ?_
        -- while around is not None
        refine ⟨fun m σ H' => H' = H ∧ ∃ cur : Option Nat, σ = [some (.ref (pa.getD i 0)), some (.ref r), some (.int (k : Int)), some (.ref a), some (aroV pa cur)] ∧ upM R ((k : Int) - 1) ps m cur = upM R ((k : Int) - 1) ps i p.par ∧ (∀ j, cur = some j → j < m) ∧ m ≤ i,
          ⟨i, rfl, p.par, rfl, rfl, fun j e => hP.wf i p j hp e, Nat.le_refl _⟩, ?_⟩
        rintro m σ H' ⟨rfl, cur, rfl, hm, hlt, hmi⟩
        refine ⟨_, rfl, rfl, _, rfl, ?_⟩
        cases cur with
        | none =>
          rw [upM_none] at hm
          rw [← hm] at kk
          exact kk
        | some j =>
          have hj := hlt j rfl
          obtain ⟨f, rfl⟩ : ∃ f, m = f + 1 := ⟨m - 1, by omega⟩
          obtain ⟨dx', fs', g1, g2, g3⟩ := look (j := j) (by omega)
          obtain ⟨rs, b, r1, r2, r3⟩ := hR.at_ (j := j) (by omega)
          have hm' : (hasK R j ((k : Int) - 1) || upM R ((k : Int) - 1) ps f (parM ps j)) = upM R ((k : Int) - 1) ps i p.par := hm
          refine ⟨fun σ' H'' => H'' = H' ∧ ∃ cur : Option Nat, σ' = [some (.ref (pa.getD i 0)), some (.ref r), some (.int (k : Int)), some (.ref a), some (aroV pa cur)] ∧ upM R ((k : Int) - 1) ps f cur = upM R ((k : Int) - 1) ps i p.par ∧ (∀ j, cur = some j → j < f),
            fun σ' H'' ⟨e, c, e2, e3, e4⟩ => ⟨f, by omega, e, c, e2, e3, e4, by omega⟩, ?_⟩
          refine ⟨_, rfl, _, _, rfl, rfl, _, rfl, _, rfl, _, T.CP, dx', _, _, rfl, g1, T.clP, T.nP_number, g2, r, _, _, _, rfl, rfl, SqL.of r1, r2, b, _, rfl, .inl r3, rfl, flat_row _, _, rfl, ?_⟩
          show (if inV (V.int ((k : Int) - 1)) (rowV (R.getD j [])) = true then _ else _)
          cases eh : inV (V.int ((k : Int) - 1)) (rowV (R.getD j [])) with
          | true =>
            have e5 : hasK R j ((k : Int) - 1) = true := eh
            rw [e5, Bool.true_or] at hm'
            rw [← hm'] at kk
            exact iteT kk
          | false =>
            have e5 : hasK R j ((k : Int) - 1) = false := eh
            rw [e5, Bool.false_or] at hm'
            refine iteF ⟨_, rfl, _, T.CP, dx', _, _, rfl, g1, T.clP, T.nP_around, g3, ?_⟩
            exact ⟨rfl, parM ps j, rfl, hm', fun j' e => by have := hP.parLt e; omega⟩
end
end K8
/-! # reached_by, ends_of -/
namespace K8
open PySem PySem.Spec PyProof.Rows L2
/-- a question's steps -/
abbrev Q4 := List (Sp1 (W 4))
def stepOk (ps : List Pt) (q : Q4) (hop : Bool) (R : List (List Nat)) (i k : Nat) : Bool := match ps[i]?, q[k]? with
  | some p, some st => suitM p.nm p.op p.tx p.mt hop 4 st && aheadM R ps i k st.1.1
  | _, _ => false
def foundM (ps : List Pt) (q : Q4) (hop : Bool) (R : List (List Nat)) (i : Nat) : List Nat := (List.range q.length).filter (stepOk ps q hop R i)
def reachM (ps : List Pt) (q : Q4) (hop : Bool) : Nat → List (List Nat)
  | 0 => []
  | i + 1 => reachM ps q hop i ++ [foundM ps q hop (reachM ps q hop i) i]
theorem reachM_len (ps : List Pt) (q : Q4) (hop : Bool) : ∀ i, (reachM ps q hop i).length = i
  | 0 => rfl
  | i + 1 => by
    show (reachM ps q hop i ++ [_]).length = i + 1
    rw [List.length_append, reachM_len ps q hop i]
    rfl
def endsM (ps : List Pt) (q : Q4) (hop : Bool) : List Nat := (List.range ps.length).filter fun i => hasK (reachM ps q hop ps.length) i ((q.length : Int) - 1)
/-- a comprehension with a test over a list -/
theorem lc_filt {K : PySem.W.Frag} {a : Addr} {xs : List V} {ix : Nat} {tt : TT} {te : TE} {vs : List Nat} {σ : St} {H1 : Hp} {D : Addr} {Qd : Hp → Prop} (p : Nat → Bool) (y : Nat → V) (hz : xs.length < sizeLine) (hS : SqL K H1 a xs) (hD : H1 D = none)
    (turn : ∀ (i : Nat) (x : V) (H : Hp) (kb : Bool → Hp → Prop), xs[i]? = some x → Same H1 H → (∀ H4, Same H H4 → kb (p i) H4) → wipe ((wipe σ vs).set ix (some x)) vs = wipe σ vs ∧ tt ((wipe σ vs).set ix (some x)) H kb)
    (elem : ∀ (i : Nat) (x : V) (H : Hp) (k : V → Hp → Prop), xs[i]? = some x → Same H1 H → (∀ H4, Same H H4 → k (y i) H4) → te ((wipe σ vs).set ix (some x)) H k)
    (fin : ∀ H', Same H1 H' → H' D = some (.lst (((List.range xs.length).filter p).map y)) → Qd H') :
    ∃ W : Nat → Nat → Hp → Prop, (∃ m, W 0 m (upd H1 D (.lst []))) ∧ ∀ i m H, W i m H →
      ((Itl K a).stop i H ∧ Qd H) ∨ ((Itl K a).go i H ∧ ∃ Nx : Hp → Prop, (∀ H', Nx H' → ∃ m', m' < m ∧ W (i + 1) m' H') ∧ ∀ x H', (Itl K a).yld i H x H' → gName ix x (wipe σ vs) H' fun σ2 H2 => wipe σ2 vs = wipe σ vs ∧ tt σ2 H2 fun b H3 =>
        if b = true then te σ2 H3 fun y H4 => ∃ acc, H4 D = some (.lst acc) ∧ acc.length < sizeLine ∧ Nx (upd H4 D (.lst (acc ++ [y]))) else Nx H3) := by
  refine lc_list (K := K) (a := a) (xs := xs) (fun i H => Same H1 H ∧ H D = some (.lst (((List.range i).filter p).map y))) ⟨same_new hD, upd_same⟩ (fun i H _ q => q.1.seq hS) (fun i x H hx q => ?_) (fun H q => fin H q.1 q.2)
  have hi : i < xs.length := (List.getElem?_eq_some_iff.mp hx).1
  refine turn i x H _ hx q.1 fun H4 s4 => ?_
  have sm := q.1.trans s4
  cases e : p i with
  | true =>
    refine iteT (elem i x H4 _ hx sm fun H5 s5 => ⟨_, s5 _ _ (s4 _ _ q.2), ?_, same_put (sm.trans s5) hD, ?_⟩)
    · have := List.length_filter_le p (List.range i)
      rw [List.length_range] at this
      rw [List.length_map]
      omega
    · rw [upd_same, List.range_succ, List.filter_append, List.map_append, List.filter_cons, if_pos e]
      rfl
  | false =>
    refine iteF ⟨sm, ?_⟩
    rw [s4 _ _ q.2, List.range_succ, List.filter_append, List.filter_cons, if_neg (by rw [e]; exact Bool.false_ne_true)]
    simp
section
variable {P : Program} {w : World} {K : PySem.W.Frag} {mg : Str → Option Value} {base : Heap}
def spReached (K : PySem.W.Frag) (C : Addr) : Sp := fun vs H Q _ => ∃ (lp lq : Addr) (pa : List Addr) (ps : List Pt) (qs : List V) (q : Q4) (hop : Bool), vs = [.ref lp, .ref lq, .bl hop] ∧ PsV K C H lp pa ps ∧ SqL K H lq qs ∧ DpAll K H qs (q.map (dStep (dW 4))) ∧ q.length ≤ 100 ∧
  ∀ (H' : Hp) (r : Addr), Same H H' → H r = none → RchV K H' r (reachM ps q hop ps.length) → Q (.ref r) H'
theorem ok_reached_by (T : Tx K mg) : FnOk P w K mg base CX0 7 T.reached_by.f T.reached_by.fd ["parts", "question", "hoping"] (spReached K T.CP) := by
  have GS : FnOk P w K mg base CX0 6 T.suits.f T.suits.fd ["part", "step", "hoping"] (spSuits K T.CP 4) := ok_suits T (by decide)
  have GA : FnOk P w K mg base CX0 1 T.ahead_of.f T.ahead_of.fd ["part", "reached", "k", "step"] (spAhead K T.CP) := ok_ahead_of T
  refine ok0 T.reached_by.F sc_reached_by (fun vs H Q E h => ?_) (fun cdv A outer s H vs Q E hr h => ?_)
  · obtain ⟨lp, lq, pa, ps, qs, q, hop, rfl, _⟩ := h
    rfl
  · obtain ⟨lp, lq, pa, ps, qs, q, hop, rfl, hP, hq, hd, hl, k⟩ := h
    have nd := sc_reached_by.nd
    refine ⟨_, pss_cons (ps_set (i := 3) nd rfl (.inl rfl) (pe_lst pa_nil))
      (pss_cons (ps_for PassesOwn.never rfl (pi_list (pv 0)) (pg_name (i := 4) nd rfl (.inl rfl))
        (pss_cons (ps_set (i := 5) nd rfl (.inl rfl) (pe_lst pa_nil))
        (pss_cons (ps_for PassesOwn.never rfl (pi_enum (by rfl) T.z_enumerate (pa_cons (pv 1) pa_nil)) (pg_tup rfl (pgs_cons (pg_name (i := 6) nd rfl (.inl rfl)) (pgs_cons (pg_name (i := 7) nd rfl (.inl rfl)) pgs_nil)))
          (pss_one (ps_if (PW.pt (pw_and (pt_val (pe_call GS hr rfl T.suits.m T.suits.F.kp T.suits.b .nil pass0 (pa_cons (pv 4) (pa_cons (pv 7) (pa_cons (pv 2) pa_nil)))))
              (pw_and1 (pt_val (pe_call GA (hr.mono (by decide)) rfl T.ahead_of.m T.ahead_of.F.kp T.ahead_of.b .nil pass0 (pa_cons (pv 4) (pa_cons (pv 3) (pa_cons (pv 6) (pa_cons (pv 7) pa_nil)))))))))
            (pss_one (ps_expr (pe_bm PySem.F.plainAttrs_list PySem.F.slot_list_append PySem.F.type_list_append mt_append (pv 5) (pa_cons (pv 6) pa_nil)))) pss_nil)))
        (pss_one (ps_expr (pe_bm PySem.F.plainAttrs_list PySem.F.slot_list_append PySem.F.type_list_append mt_append (pv 3) (pa_cons (pv 5) pa_nil)))))))
      (pss_one (ps_ret (pv 3)))), ?_⟩
    refine ⟨Nat.zero_le _, fun r hr0 => ?_⟩
    have g0 : Grow M0 H H H (upd H r (.lst [])) := (Grow.refl0 (Same.refl H)).new (fun z => z) hr0
    refine ⟨_, rfl, lp, rfl, ⟨_, SqL.of (g0.same _ _ hP.lst)⟩, for_list (K := K) (a := lp) (xs := pa.map V.ref)
      (fun i σ H' => ∃ (F' : Hp) (rs : List V) (v4 v5 v6 v7 : Option V), σ = [some (.ref lp), some (.ref lq), some (.bl hop), some (.ref r), v4, v5, v6, v7] ∧ Grow M0 H H F' H' ∧ F' r = none ∧ H' r = some (.lst rs) ∧ DpAll K F' rs ((reachM ps q hop i).map rowD))
      ⟨H, [], none, none, none, none, rfl, g0, hr0, upd_same, .nil⟩ (fun i σ H' _ ⟨F', rs, _, _, _, _, _, g, _⟩ => SqL.of (g.same _ _ hP.lst)) ?_ ?_⟩
    · rintro i x σ H' hx ⟨F', rs, v4, v5, v6, v7, rfl, g, fr, hrs, hd'⟩
      have hi : i < pa.length := by
        have := (List.getElem?_eq_some_iff.mp hx).1
        rwa [List.length_map] at this
      have ex : x = V.ref (pa.getD i 0) := by
        rw [List.getElem?_map, List.getElem?_eq_getElem hi] at hx
        rw [List.getD_eq_getElem?_getD, List.getElem?_eq_getElem hi]
        exact (Option.some.inj hx).symm
      subst ex
      have hi' : i < ps.length := by rw [← hP.len]; exact hi
      obtain ⟨p, hp, hN, hpar⟩ := hP.part hi'
      refine ⟨Nat.zero_le _, fun f hf => ?_⟩
      have nrf : r ≠ f := ne_of_none hrs hf
      have Hf := g.hl (fun z => z) hf
      have Ff := g.fl hf
      have g1 : Grow M0 H H F' (upd H' f (.lst [])) := g.new (fun z => z) hf
      refine ⟨_, rfl, lq, qs, rfl, g1.same.seq hq, for_enum (K := K) (a := lq) (xs := qs)
        (fun m σ H'' => ∃ (v6 v7 : Option V), σ = [some (.ref lp), some (.ref lq), some (.bl hop), some (.ref r), some (.ref (pa.getD i 0)), some (.ref f), v6, v7] ∧ Grow M0 H H F' H'' ∧ H'' r = some (.lst rs) ∧ H'' f = some (.lst (rowV ((List.range m).filter (stepOk ps q hop (reachM ps q hop i) i)))))
        ⟨_, _, rfl, g1, by rw [upd_ne nrf]; exact hrs, upd_same⟩ (fun m σ H'' _ ⟨_, _, _, g, _⟩ => g.same.seq hq) ?_ ?_⟩
      · rintro m x σ H'' U hxm ⟨v6, v7, rfl, g2, hr2, hf2⟩ hU
        obtain ⟨d, hdm, hdx⟩ := dpAll_at hd hxm
        rw [List.getElem?_map] at hdm
        obtain ⟨st, hst, rfl⟩ := Option.map_eq_some_iff.mp hdm
        obtain ⟨c, u, rfl, hc, hu⟩ := dp_step hdx
        have g3 : Grow M0 H H F' (upd H'' U (.tup [.int (m : Nat), .ref c])) := g2.new (fun z => z) hU
        have s3 := g3.same
        refine ⟨U, _, rfl, SqT.of upd_same, rfl, _, _, rfl, _, _, rfl, rfl, ?_⟩
        refine ⟨_, rfl, _, rfl, _, rfl, _, _, st, hop, p.nm, p.op, p.tx, p.mt, rfl, (hN.v.up s3), hdx.up s3, fun H4 s4 => ⟨_, rfl, ?_⟩⟩
        have s5 : Same H H4 := s3.trans s4
        have g4 : Grow M0 H H F' H4 := g3.step s4
        have hr4 : H4 r = some (.lst rs) := s4 _ _ (by rw [upd_ne (ne_of_none hr2 hU)]; exact hr2)
        have hf4 : H4 f = some (.lst (rowV ((List.range m).filter (stepOk ps q hop (reachM ps q hop i) i)))) := s4 _ _ (by rw [upd_ne (ne_of_none hf2 hU)]; exact hf2)
        have hm : m < qs.length := (List.getElem?_eq_some_iff.mp hxm).1
        have hlq := dpAll_len hd
        rw [List.length_map] at hlq
        have eok : stepOk ps q hop (reachM ps q hop i) i m = (suitM p.nm p.op p.tx p.mt hop 4 st && aheadM (reachM ps q hop i) ps i m st.1.1) := by
          unfold stepOk
          rw [hp, hst]
        show (if suitM p.nm p.op p.tx p.mt hop 4 st = true then _ else _)
        cases e1 : suitM p.nm p.op p.tx p.mt hop 4 st with
        | false =>
          rw [e1, Bool.false_and] at eok
          refine iteF (iteF ?_)
          refine ⟨_, _, rfl, g4, hr4, ?_⟩
          rw [hf4, List.range_succ, List.filter_append, List.filter_cons, if_neg (by rw [eok]; exact Bool.false_ne_true)]
          simp
        | true =>
          rw [e1, Bool.true_and] at eok
          refine iteT ⟨_, rfl, _, rfl, _, rfl, _, rfl, lp, r, pa, ps, reachM ps q hop i, i, m, c, st.1.1, st.2.1.1, u, rfl, hP.up s5, ⟨rs, hr4, hd'.up g4.inn⟩, hi', by rw [reachM_len]; exact Nat.le_refl _, SqT_same s5 hc, _, rfl, ?_⟩
          cases e2 : aheadM (reachM ps q hop i) ps i m st.1.1 with
          | false =>
            rw [e2] at eok
            refine iteF ⟨_, _, rfl, g4, hr4, ?_⟩
            rw [hf4, List.range_succ, List.filter_append, List.filter_cons, if_neg (by rw [eok]; exact Bool.false_ne_true)]
            simp
          | true =>
            rw [e2] at eok
            refine iteT ⟨_, rfl, .inl ⟨rfl, _, SqL.of hf4⟩, _, rfl, f, _, _, rfl, rfl, hf4, ?_, ?_⟩
            · have := List.length_filter_le (stepOk ps q hop (reachM ps q hop i) i) (List.range m)
              rw [List.length_range] at this
              unfold rowV
              rw [List.length_map, sizeLine_eq]
              omega
            · refine ⟨_, _, rfl, g4.put Hf Ff, by rw [upd_ne nrf]; exact hr4, ?_⟩
              rw [upd_same, List.range_succ, List.filter_append, List.filter_cons, if_pos eok]
              unfold rowV
              rw [List.map_append]
              rfl
      · rintro σ H'' ⟨v6, v7, rfl, g2, hr2, hf2⟩
        have hlr := dpAll_len hd'
        rw [List.length_map, reachM_len] at hlr
        have hsm := hP.small
        refine ⟨_, rfl, .inl ⟨rfl, _, SqL.of hr2⟩, _, rfl, r, _, _, rfl, rfl, hr2, by rw [sizeLine_eq]; omega, ?_⟩
        have g3 := g2.frz (fun z => z) Hf hf2
        have Fr' : (upd F' f (.lst (rowV ((List.range qs.length).filter (stepOk ps q hop (reachM ps q hop i) i))))) r = none := by
          rw [upd_ne nrf]
          exact fr
        refine ⟨_, rs ++ [V.ref f], _, _, _, _, rfl, g3.put hr0 Fr', Fr', upd_same, ?_⟩
        have hlq := dpAll_len hd
        rw [List.length_map] at hlq
        show DpAll K _ (rs ++ [V.ref f]) ((reachM ps q hop i ++ [foundM ps q hop (reachM ps q hop i) i]).map rowD)
        rw [List.map_append]
        refine dpAll_app (hd'.up (same_new Ff)) (dpAll_one ?_)
        unfold foundM
        rw [← hlq]
        exact .lst (SqL.of upd_same) (rowV_dp _)
    · rintro σ H' ⟨F', rs, v4, v5, v6, v7, rfl, g, fr, hrs, hd'⟩
      rw [List.length_map, hP.len] at hd'
      exact ⟨_, rfl, k _ _ g.same hr0 ⟨rs, hrs, hd'.up g.inn⟩⟩
def spEnds (K : PySem.W.Frag) (C : Addr) : Sp := fun vs H Q _ => ∃ (lp lq : Addr) (pa : List Addr) (ps : List Pt) (qs : List V) (q : Q4) (hop : Bool), vs = [.ref lp, .ref lq, .bl hop] ∧ PsV K C H lp pa ps ∧ SqL K H lq qs ∧ DpAll K H qs (q.map (dStep (dW 4))) ∧ q.length ≤ 100 ∧
  ∀ (H' : Hp) (D : Addr), Same H H' → H D = none → H' D = some (.lst ((endsM ps q hop).map fun i => V.ref (pa.getD i 0))) → Q (.ref D) H'
theorem ok_ends_of (T : Tx K mg) : FnOk P w K mg base CX0 8 T.ends_of.f T.ends_of.fd ["parts", "question", "hoping"] (spEnds K T.CP) := by
  have GR : FnOk P w K mg base CX0 7 T.reached_by.f T.reached_by.fd ["parts", "question", "hoping"] (spReached K T.CP) := ok_reached_by T
  refine ok0 T.ends_of.F sc_ends_of (fun vs H Q E h => ?_) (fun cdv A outer s H vs Q E hr h => ?_)
  · obtain ⟨lp, lq, pa, ps, qs, q, hop, rfl, _⟩ := h
    rfl
  · obtain ⟨lp, lq, pa, ps, qs, q, hop, rfl, hP, hq, hd, hl, k⟩ := h
    have nd := sc_ends_of.nd
    refine ⟨_, pss_cons (ps_set (i := 3) nd rfl (.inr rfl) (pe_call GR hr rfl T.reached_by.m T.reached_by.F.kp T.reached_by.b .nil pass0 (pa_cons (pv 0) (pa_cons (pv 1) (pa_cons (pv 2) pa_nil)))))
      (pss_cons (ps_set (i := 4) nd rfl (.inr rfl) (pe_op op_sub (pe_callB call_len_seq (by rfl) T.z_len PySem.boot_len (pa_cons (pv 1) pa_nil)) pe_int))
      (pss_one (ps_ret (pe_lc (own := [("part", 5)]) (g := gName 5) (tt := tTest (tOp (rIn K false) (tVar 4) (tOp (rIxL K) (tVar 3) (tFld K (tVar 5) "number")))) (te := tVar 5) rfl nd (pi_list (pv 0))
        (blkOk_by (N := N_ends_of) (sc := defScope s_ends_of) (by decide +kernel)) (fun _ _ _ _ _ => pg_name (i := 5) nd rfl (Or.inl rfl))
        (fun _ _ _ _ _ => pts_one (pt_cmpR op_in_seq (pv 4) (pe_ix ix_list (pv 3) (pe_fld (pv 5) rfl) (fun _ _ => rfl)) (by rfl))) (fun _ _ _ _ _ => pv 5))))), ?_⟩
    have hlq := dpAll_len hd
    rw [List.length_map] at hlq
    refine ⟨_, rfl, _, rfl, _, rfl, lp, lq, pa, ps, qs, q, hop, rfl, hP, hq, hd, hl, fun H1 r s1 hr0 hR => ?_⟩
    refine ⟨_, rfl, lq, qs, rfl, .inl (s1.seq hq), _, _, rfl, rfl, ?_⟩
    have hP1 := hP.up s1
    refine ⟨_, rfl, lp, rfl, ⟨_, SqL.of hP1.lst⟩, fun D hD => ?_⟩
    have hsm := hP.small
    have xat : ∀ {i : Nat} {x : V}, (pa.map V.ref)[i]? = some x → i < ps.length ∧ x = V.ref (pa.getD i 0) := fun {i x} hx => by
      have hi : i < pa.length := by
        have := (List.getElem?_eq_some_iff.mp hx).1
        rwa [List.length_map] at this
      refine ⟨by rw [← hP.len]; exact hi, ?_⟩
      rw [List.getElem?_map, List.getElem?_eq_getElem hi] at hx
      rw [List.getD_eq_getElem?_getD, List.getElem?_eq_getElem hi]
      exact (Option.some.inj hx).symm
    refine lc_filt (K := K) (a := lp) (xs := pa.map V.ref) (fun i => hasK (reachM ps q hop ps.length) i ((q.length : Int) - 1)) (fun i => V.ref (pa.getD i 0)) (by rw [List.length_map, hP.len, sizeLine_eq]; omega) (SqL.of hP1.lst) hD
      (fun i x H' kb hx sm kk => ?_) (fun i x H' kk hx sm k2 => ?_) (fun H' sm hD' => ?_)
    · obtain ⟨hi, rfl⟩ := xat hx
      obtain ⟨p, hp, ⟨dx, pt, pm, fs, mv, h1, h2, _⟩, hpar⟩ := (hP1.up sm).part hi
      obtain ⟨rs, b, r1, r2, r3⟩ := (hR.up sm).at_ (j := i) (by rw [reachM_len]; exact hi)
      refine ⟨rfl, _, rfl, _, rfl, _, rfl, _, T.CP, dx, _, _, rfl, h1, T.clP, T.nP_number, h2, r, _, _, _, rfl, rfl, SqL.of r1, r2, b, _, rfl, .inl r3, rfl, flat_row _, _, rfl, ?_⟩
      have e := kk H' (Same.refl _)
      show kb (inV (V.int ((qs.length : Int) - 1)) (rowV ((reachM ps q hop ps.length).getD i []))) H'
      rw [hlq]
      exact e
    · obtain ⟨hi, rfl⟩ := xat hx
      exact ⟨_, rfl, k2 H' (Same.refl _)⟩
    · refine k _ D (s1.trans sm) (s1.free hD) ?_
      rw [hD', List.length_map, hP.len]
      rfl
end
end K8
/-! # Questions copied -/
namespace K8
open PySem PySem.Spec PyProof.Rows L2
theorem tup_le (n : Nat) (h : n ≤ 100) : n ≤ sizeLine := by rw [sizeLine_eq]; omega
section
variable {P : Program} {w : World} {K : PySem.W.Frag} {mg : Str → Option Value} {base : Heap}
def spCopyS (K : PySem.W.Frag) (n : Nat) : Sp := fun vs H Q _ => ∃ (F : Hp) (v : V) (l : List (Sp1 (W n))), vs = [v] ∧ Same F H ∧ Dp K F v (dQ n l) ∧ l.length ≤ 100 ∧ ∀ (F' H' : Hp) (v' : V), Grow M0 F H F' H' → Dp K F' v' (dQ n l) → Q v' H'
def spCopyW (K : PySem.W.Frag) (n : Nat) : Sp := fun vs H Q _ => ∃ (F : Hp) (v : V) (w : W n), vs = [v] ∧ Same F H ∧ Dp K F v (dW n w) ∧ ∀ (F' H' : Hp) (v' : V), Grow M0 F H F' H' → Dp K F' v' (dW n w) → Q v' H'
theorem ok_copy_steps (T : Tx K mg) {n k : Nat} (G : FnOk P w K mg base CX0 k T.copy_wish.f T.copy_wish.fd ["wish"] (spCopyW K n)) : FnOk P w K mg base CX0 (k + 1) T.copy_steps.f T.copy_steps.fd ["steps"] (spCopyS K n) := by
  refine ok0 T.copy_steps.F sc_copy_steps (fun vs H Q E h => ?_) (fun cdv A outer s H vs Q E hr h => ?_)
  · obtain ⟨F, v, l, rfl, _⟩ := h
    rfl
  · obtain ⟨F, v, l, rfl, sF, hd, hl, k⟩ := h
    have nd := sc_copy_steps.nd
    obtain ⟨a, xs, rfl, hs, hx⟩ := dp_list hd
    refine ⟨_, pss_one (ps_ret (pe_lc (own := [("way", 1), ("name", 2), ("wish", 3)]) (g := gTup K 3 (gCons (gName 1) (gCons (gName 2) (gCons (gName 3) gNil)))) (tt := tYes) (te := tTup (tCons (tVar 1) (tCons (tVar 2) (tCons (tCall (spCopyW K n) [] E0 (tCons (tVar 3) tNil)) tNil)))) rfl nd (pi_list (pv 0))
        (blkOk_by (N := N_copy_steps) (sc := defScope s_copy_steps) (by decide +kernel)) (fun _ _ _ _ _ => pg_tup rfl (pgs_cons (pg_name (i := 1) nd rfl (Or.inl rfl)) (pgs_cons (pg_name (i := 2) nd rfl (Or.inl rfl)) (pgs_cons (pg_name (i := 3) nd rfl (Or.inl rfl)) pgs_nil))))
        (fun _ _ _ _ _ => pts_nil) (fun _ _ _ _ _ => pe_tup (pa_cons (pv 1) (pa_cons (pv 2) (pa_cons (pe_call G hr rfl T.copy_wish.m T.copy_wish.F.kp T.copy_wish.b .nil pass0 (pa_cons (pv 3) pa_nil)) pa_nil)))))), ?_⟩
    refine ⟨_, rfl, a, rfl, ⟨_, sF.seq hs⟩, fun D hD => ?_⟩
    have FD : F D = none := sF.free hD
    have e1 := dpAll_len hx
    rw [List.length_map] at e1
    refine lc_list (K := K) (a := a) (xs := xs) (fun i H' => ∃ (F' : Hp) (vs : List V), Grow M0 F H F' H' ∧ F' D = none ∧ H' D = some (.lst vs) ∧ DpAll K F' vs ((l.take i).map (dStep (dW n))))
      ⟨F, [], (Grow.refl0 sF).put hD FD, FD, upd_same, .nil⟩ (fun i H' _ ⟨_, _, g, _⟩ => g.same.seq (sF.seq hs)) (fun i x H' hxi ⟨F', us, g, fD, hD', hus⟩ => ?_) (fun H' ⟨F', us, g, fD, hD', hus⟩ => ?_)
    · obtain ⟨d, hdi, hdx⟩ := dpAll_at hx hxi
      rw [List.getElem?_map] at hdi
      obtain ⟨st, hst, rfl⟩ := Option.map_eq_some_iff.mp hdi
      obtain ⟨c, u, rfl, hc, hu⟩ := dp_step hdx
      have s' : Same F H' := g.sub.trans g.inn
      refine ⟨c, _, rfl, SqT_same s' hc, rfl, _, _, rfl, _, _, rfl, _, _, rfl, rfl, rfl, ?_⟩
      refine ⟨_, rfl, _, rfl, _, rfl, F', u, st.2.2, rfl, g.inn, hu.up g.sub, fun F2 H2 v2 g2 hd2 => ⟨tup_le 3 (by decide), fun p hp => ?_⟩⟩
      have D2 : H2 D = some (.lst us) := g2.same _ _ hD'
      have npD : D ≠ p := ne_of_none D2 hp
      have F2D : F2 D = none := g2.keepF fD (by rw [hD']; exact fun z => nomatch z)
      have F2p := g2.fl hp
      have g3 := (g.trans g2).newF (o := .tup [.str st.1.1, .str st.2.1.1, v2]) (fun z => z) hp
      have lus := dpAll_len hus
      have hlt : (l.take i).length ≤ l.length := by rw [List.length_take]; omega
      refine ⟨us, by rw [upd_ne npD]; exact D2, by rw [lus, List.length_map, sizeLine_eq]; omega, _, us ++ [V.ref p], g3.put hD (by rw [upd_ne npD]; exact F2D), by rw [upd_ne npD]; exact F2D, upd_same, ?_⟩
      rw [List.take_add_one, hst]
      show DpAll K _ (us ++ [V.ref p]) ((l.take i ++ [st]).map (dStep (dW n)))
      rw [List.map_append]
      exact dpAll_app ((hus.up g2.sub).up (same_new F2p)) (dpAll_one (.tup (SqT.of upd_same) (.cons (.str _) (.cons (.str _) (dpAll_one (hd2.up (same_new F2p)))))))
    · refine k _ H' _ (g.frz (fun z => z) hD hD') (.lst (SqL.of upd_same) ?_)
      rw [e1, List.take_length] at hus
      exact hus.up (same_new fD)
theorem ok_copy_wish (T : Tx K mg) : ∀ n : Nat, FnOk P w K mg base CX0 (2 * n) T.copy_wish.f T.copy_wish.fd ["wish"] (spCopyW K n)
  | 0 => ⟨fun _ _ _ _ ⟨_, _, e, _⟩ => Empty.elim e, fun _ _ _ _ _ _ _ _ _ _ _ _ _ ⟨_, _, e, _⟩ => Empty.elim e⟩
  | n + 1 => by
    have G := ok_copy_wish T n
    have GS := ok_copy_steps T G
    have nd := sc_copy_wish.nd
    refine ok0 (k := 2 * n + 1) T.copy_wish.F sc_copy_wish (fun vs H Q E h => ?_) (fun cdv A outer s H vs Q E hr h => ?_)
    · obtain ⟨F, v, w, rfl, _⟩ := h
      rfl
    · obtain ⟨F, v, w, rfl, sF, hd, k⟩ := h
      refine ⟨_, pss_cons (ps_if (pt_cmpR op_eq (pe_ix ix_tup (pv 0) pe_int (fun _ _ => rfl)) pe_str (nomark _)) (pss_one (ps_ret (pe_tup (pa_cons pe_str (pa_cons (pe_call GS hr rfl T.copy_steps.m T.copy_steps.F.kp T.copy_steps.b .nil pass0 (pa_cons (pe_ix ix_tup (pv 0) pe_int (fun _ _ => rfl)) pa_nil)) pa_nil))))) pss_nil)
        (pss_cons (ps_if (PW.pt (pw_or (pt_cmpR op_eq (pe_ix ix_tup (pv 0) pe_int (fun _ _ => rfl)) pe_str (nomark _)) (pw_or1 (pt_cmpR op_eq (pe_ix ix_tup (pv 0) pe_int (fun _ _ => rfl)) pe_str (nomark _)))))
          (pss_one (ps_ret (pe_tup (pa_cons (pe_ix ix_tup (pv 0) pe_int (fun _ _ => rfl)) (pa_cons (pe_lc (own := [("one", 1)]) (g := gName 1) (tt := tYes) rfl nd (pi_list (pe_ix ix_tup (pv 0) pe_int (fun _ _ => rfl)))
            (blkOk_by (N := N_copy_wish) (sc := defScope s_copy_wish) (by decide +kernel)) (fun _ _ _ _ _ => pg_name (i := 1) nd rfl (Or.inl rfl)) (fun _ _ _ _ _ => pts_nil)
            (fun _ _ _ _ _ => pe_call G (hr.mono (by omega)) rfl T.copy_wish.m T.copy_wish.F.kp T.copy_wish.b .nil pass0 (pa_cons (pv 1) pa_nil))) pa_nil))))) pss_nil)
        (pss_one (ps_ret (pv 0)))), ?_⟩
      have comp : ∀ {t : Str} {l : BL (W n)} {a b : Addr} {xs : List V}, SqT K F a [.str t, .ref b] → SqL K F b xs → DpAll K F xs (l.1.map (dW n)) → (∀ (F' H' : Hp) (v' : V), Grow M0 F H F' H' → Dp K F' v' (.tuple [.str t, .list (l.1.map (dW n))]) → Q v' H') →
          (tTup (tCons (tOp (rIxT K) (tVar 0) (tC (.int 0))) (tCons (tLc (iList K (tOp (rIxT K) (tVar 0) (tC (.int 1)))) (gName 1) tYes (tCall (spCopyW K n) [] E0 (tCons (tVar 1) tNil)) [1]) tNil))) (start N_copy_wish [V.ref a]) H Q := by
        intro t l a b xs hs hb hx k
        refine ⟨_, rfl, _, _, _, _, rfl, rfl, SqT_same sF hs, atI_nat (j := 0) rfl, _, rfl, _, _, _, _, rfl, rfl, SqT_same sF hs, atI_nat (j := 1) rfl, b, rfl, ⟨_, sF.seq hb⟩, fun D hD => ?_⟩
        have FD : F D = none := sF.free hD
        have e1 := dpAll_len hx
        rw [List.length_map] at e1
        have hl := l.2
        refine lc_list (K := K) (a := b) (xs := xs) (fun i H' => ∃ (F' : Hp) (vs : List V), Grow M0 F H F' H' ∧ F' D = none ∧ H' D = some (.lst vs) ∧ DpAll K F' vs ((l.1.take i).map (dW n)))
          ⟨F, [], (Grow.refl0 sF).put hD FD, FD, upd_same, .nil⟩ (fun i H' _ ⟨_, _, g, _⟩ => g.same.seq (sF.seq hb)) (fun i x H' hxi ⟨F', us, g, fD, hD', hus⟩ => ?_) (fun H' ⟨F', us, g, fD, hD', hus⟩ => ?_)
        · obtain ⟨d, hdi, hdx⟩ := dpAll_at hx hxi
          rw [List.getElem?_map] at hdi
          obtain ⟨st, hst, rfl⟩ := Option.map_eq_some_iff.mp hdi
          refine ⟨rfl, ⟨_, rfl, F', x, st, rfl, g.inn, hdx.up g.sub, fun F2 H2 v2 g2 hd2 => ?_⟩⟩
          have D2 : H2 D = some (.lst us) := g2.same _ _ hD'
          have F2D : F2 D = none := g2.keepF fD (by rw [hD']; exact fun z => nomatch z)
          have lus := dpAll_len hus
          have hlt : (l.1.take i).length ≤ l.1.length := by rw [List.length_take]; omega
          refine ⟨us, D2, by rw [lus, List.length_map, sizeLine_eq]; omega, F2, us ++ [v2], (g.trans g2).put hD F2D, F2D, upd_same, ?_⟩
          rw [List.take_add_one, hst]
          show DpAll K _ (us ++ [v2]) ((l.1.take i ++ [st]).map (dW n))
          rw [List.map_append]
          exact dpAll_app (hus.up g2.sub) (dpAll_one hd2)
        · rw [e1, List.take_length] at hus
          refine ⟨tup_le 2 (by decide), fun p hp => ?_⟩
          have g2 := g.frz (fun z => z) hD hD'
          have npD : D ≠ p := ne_of_none hD' hp
          have F2p := g2.fl hp
          refine k _ _ _ (g2.newF (fun z => z) hp) (.tup (SqT.of upd_same) (.cons (.str _) (dpAll_one (.lst (SqL.of (by rw [upd_ne npD]; exact upd_same)) ?_))))
          exact (hus.up (same_new fD)).up (same_new F2p)
      cases w with
      | any =>
        obtain ⟨a, rfl, hs⟩ := dp_t1 hd
        refine ⟨_, rfl, _, _, _, _, rfl, rfl, SqT_same sF hs, atI_nat (j := 0) rfl, rfl, _, rfl, strF (by decide +kernel) ?_⟩
        refine ⟨_, rfl, _, _, _, _, rfl, rfl, SqT_same sF hs, atI_nat (j := 0) rfl, rfl, _, rfl, strF (by decide +kernel) ?_⟩
        refine ⟨_, rfl, _, _, _, _, rfl, rfl, SqT_same sF hs, atI_nat (j := 0) rfl, rfl, _, rfl, strF (by decide +kernel) ?_⟩
        exact ⟨_, rfl, k _ _ _ (Grow.refl0 sF) hd⟩
      | text z =>
        obtain ⟨a, rfl, hs⟩ := dp_t2 hd
        refine ⟨_, rfl, _, _, _, _, rfl, rfl, SqT_same sF hs, atI_nat (j := 0) rfl, rfl, _, rfl, strF (by decide +kernel) ?_⟩
        refine ⟨_, rfl, _, _, _, _, rfl, rfl, SqT_same sF hs, atI_nat (j := 0) rfl, rfl, _, rfl, strF (by decide +kernel) ?_⟩
        refine ⟨_, rfl, _, _, _, _, rfl, rfl, SqT_same sF hs, atI_nat (j := 0) rfl, rfl, _, rfl, strF (by decide +kernel) ?_⟩
        exact ⟨_, rfl, k _ _ _ (Grow.refl0 sF) hd⟩
      | has l =>
        obtain ⟨a, b, xs, rfl, hs, hb, hx⟩ := dp_pair hd
        refine ⟨_, rfl, _, _, _, _, rfl, rfl, SqT_same sF hs, atI_nat (j := 0) rfl, rfl, _, rfl, strT (by decide +kernel) ?_⟩
        refine ⟨_, rfl, _, _, _, _, rfl, rfl, SqT_same sF hs, atI_nat (j := 1) rfl, F, V.ref b, l.1, rfl, sF, .lst hb hx, by have := l.2; omega, fun F2 H2 v2 g2 hd2 => ⟨tup_le 2 (by decide), fun p hp => ?_⟩⟩
        exact k _ _ _ (g2.newF (fun z => z) hp) (.tup (SqT.of upd_same) (.cons (.str _) (dpAll_one (hd2.up (same_new (g2.fl hp))))))
      | both l =>
        obtain ⟨a, b, xs, rfl, hs, hb, hx⟩ := dp_pair hd
        refine ⟨_, rfl, _, _, _, _, rfl, rfl, SqT_same sF hs, atI_nat (j := 0) rfl, rfl, _, rfl, strF (by decide +kernel) ?_⟩
        refine ⟨_, rfl, _, _, _, _, rfl, rfl, SqT_same sF hs, atI_nat (j := 0) rfl, rfl, _, rfl, strT (by decide +kernel) ?_⟩
        exact comp hs hb hx k
      | one l =>
        obtain ⟨a, b, xs, rfl, hs, hb, hx⟩ := dp_pair hd
        refine ⟨_, rfl, _, _, _, _, rfl, rfl, SqT_same sF hs, atI_nat (j := 0) rfl, rfl, _, rfl, strF (by decide +kernel) ?_⟩
        refine ⟨_, rfl, _, _, _, _, rfl, rfl, SqT_same sF hs, atI_nat (j := 0) rfl, rfl, _, rfl, strF (by decide +kernel) ?_⟩
        refine ⟨_, rfl, _, _, _, _, rfl, rfl, SqT_same sF hs, atI_nat (j := 0) rfl, rfl, _, rfl, strT (by decide +kernel) ?_⟩
        exact comp hs hb hx k
end
end K8
/-! # All rows of steps that a question speaks of -/
namespace K8
open PySem PySem.Spec PyProof.Rows L2
def bi : Nat → Nat
  | 0 => 0
  | n + 1 => 3 * (1 + bi n)
theorem bi_le {n : Nat} (h : n ≤ 4) : bi n ≤ 120 := by
  have : n = 0 ∨ n = 1 ∨ n = 2 ∨ n = 3 ∨ n = 4 := by omega
  rcases this with rfl | rfl | rfl | rfl | rfl <;> decide
theorem cutV_drop (xs : List V) (i : Nat) : cutV xs (some (i : Int)) none = xs.drop i := by
  unfold cutV
  rw [HT.sIx_nat, HT.sIx_none]
  by_cases h : i ≤ xs.length
  · rw [Nat.min_eq_left h]
    exact List.take_of_length_le (by rw [List.length_drop]; omega)
  · rw [Nat.min_eq_right (by omega), Nat.sub_self, List.take_zero, List.drop_eq_nil_of_le (by omega)]
section
variable {P : Program} {w : World} {K : PySem.W.Frag} {mg : Str → Option Value} {base : Heap}
/-- what comes back: a new list, not frozen, of rows of steps -/
def TailsBack (K : PySem.W.Frag) (F H : Hp) (m : Nat) (Q : VK) : Prop := ∀ (F' H' : Hp) (p : Addr) (vs : List V) (ds : List PyData), Grow M0 F H F' H' → H p = none → F' p = none → H' p = some (.lst vs) → DpAll K F' vs ds → (∀ d ∈ ds, IsTail d) → ds.length ≤ m → Q (.ref p) H'
def spTailsOf (K : PySem.W.Frag) (n : Nat) : Sp := fun vs H Q _ => ∃ (F : Hp) (v : V) (l : List (Sp1 (W n))), vs = [v] ∧ Same F H ∧ Dp K F v (dQ n l) ∧ l.length ≤ 3 ∧ TailsBack K F H (l.length * (1 + bi n)) Q
def spTailsIn (K : PySem.W.Frag) (n : Nat) : Sp := fun vs H Q _ => ∃ (F : Hp) (v : V) (w : W n), vs = [v] ∧ Same F H ∧ Dp K F v (dW n w) ∧ TailsBack K F H (bi n) Q
theorem ok_tails_of (T : Tx K mg) {n k : Nat} (hn : n ≤ 4) (G : FnOk P w K mg base CX0 k T.tails_in.f T.tails_in.fd ["wish"] (spTailsIn K n)) : FnOk P w K mg base CX0 (k + 1) T.tails_of.f T.tails_of.fd ["steps"] (spTailsOf K n) := by
  refine ok0 T.tails_of.F sc_tails_of (fun vs H Q E h => ?_) (fun cdv A outer s H vs Q E hr h => ?_)
  · obtain ⟨F, v, l, rfl, _⟩ := h
    rfl
  · obtain ⟨F, v, l, rfl, sF, hd, hl, k⟩ := h
    have nd := sc_tails_of.nd
    have hb := bi_le hn
    obtain ⟨a, xs, rfl, hs, hx⟩ := dp_list hd
    have e1 := dpAll_len hx
    rw [List.length_map] at e1
    refine ⟨_, pss_cons (ps_set (i := 1) nd rfl (.inl rfl) (pe_lst pa_nil))
      (pss_cons (ps_for PassesOwn.never rfl (pi_range1 rfl T.z_range (pa_cons (pe_callB call_len_seq (by rfl) T.z_len PySem.boot_len (pa_cons (pv 0) pa_nil)) pa_nil)) (pg_name (i := 2) nd rfl (.inl rfl))
        (pss_cons (ps_expr (pe_bm PySem.F.plainAttrs_list PySem.F.slot_list_append PySem.F.type_list_append mt_append (pv 1) (pa_cons (pe_slice sl_list (pv 0) (po_some (pv 2)) po_none) pa_nil)))
        (pss_one (ps_expr (pe_bm PySem.F.plainAttrs_list PySem.F.slot_list_extend PySem.F.type_list_extend mt_extend (pv 1) (pa_cons (pe_call G hr rfl T.tails_in.m T.tails_in.F.kp T.tails_in.b .nil pass0 (pa_cons (pe_ix ix_tup (pe_ix ix_list (pv 0) (pv 2) (fun _ _ => rfl)) pe_int (fun _ _ => rfl)) pa_nil)) pa_nil))))))
      (pss_one (ps_ret (pv 1)))), ?_⟩
    refine ⟨Nat.zero_le _, fun f hf => ?_⟩
    have Ff : F f = none := sF.free hf
    refine ⟨_, rfl, a, xs, rfl, .inl ((same_new hf).seq (sF.seq hs)), (xs.length : Int), rfl, by omega, by omega, for_range (lo := 0) (n := xs.length)
      (fun i σ H' => ∃ (F' : Hp) (vs : List V) (ds : List PyData) (v2 : Option V), σ = [some (.ref a), some (.ref f), v2] ∧ Grow M0 F H F' H' ∧ F' f = none ∧ H' f = some (.lst vs) ∧ DpAll K F' vs ds ∧ (∀ d ∈ ds, IsTail d) ∧ ds.length ≤ i * (1 + bi n))
      ⟨F, [], [], none, rfl, (Grow.refl0 sF).put hf Ff, Ff, upd_same, .nil, fun _ z => (nomatch z), by simp⟩ ?_ ?_⟩
    · rintro i σ H' hi ⟨F', vs, ds, v2, rfl, g, ff, hv, hvs, ht, hlen⟩
      have ei : (0 : Int) + (i : Int) = (i : Int) := by omega
      rw [ei]
      have sH : Same F H' := g.sub.trans g.inn
      have hm : i * (1 + bi n) ≤ 3 * 121 := Nat.mul_le_mul (by omega) (by omega)
      have hm2 : (i + 1) * (1 + bi n) = i * (1 + bi n) + (1 + bi n) := Nat.succ_mul _ _
      have lv := dpAll_len hvs
      -- found.append(steps[k:])
      refine ⟨_, rfl, .inl ⟨rfl, _, SqL.of hv⟩, _, rfl, _, rfl, _, rfl, a, xs, rfl, sH.seq hs, fun p hp => ?_⟩
      have npf : f ≠ p := ne_of_none hv hp
      have F'p := g.fl hp
      have g1 := g.newF (o := .lst (cutV xs (some (i : Int)) none)) (fun z => z) hp
      refine ⟨f, vs, _, rfl, rfl, by rw [upd_ne npf]; exact hv, by rw [sizeLine_eq]; omega, ?_⟩
      have ff1 : (upd F' p (.lst (cutV xs (some (i : Int)) none))) f = none := by rw [upd_ne npf]; exact ff
      have g2 := g1.put (o := .lst (vs ++ [V.ref p])) hf ff1
      have hix : i < l.length := by omega
      obtain ⟨x, hx1, hx2⟩ := dpAll_ix (i := i) (d := dStep (dW n) l[i]) hx (by rw [List.getElem?_map, List.getElem?_eq_getElem hix]; rfl)
      obtain ⟨c, u, rfl, hc, hu⟩ := dp_step hx2
      have s2 : Same F (upd (upd H' p (.lst (cutV xs (some (i : Int)) none))) f (.lst (vs ++ [V.ref p]))) := g2.sub.trans g2.inn
      have hds1 : DpAll K (upd F' p (.lst (cutV xs (some (i : Int)) none))) (vs ++ [V.ref p]) (ds ++ [dQ n (l.drop i)]) := by
        refine dpAll_app (hvs.up (same_new F'p)) (dpAll_one ?_)
        rw [cutV_drop] at *
        refine .lst (SqL.of upd_same) ?_
        rw [List.map_drop]
        exact dpAll_drop i (hx.up (g.sub.trans (same_new F'p)))
      have ht1 : ∀ d ∈ ds ++ [dQ n (l.drop i)], IsTail d := fun d hm => by
        rcases List.mem_append.mp hm with z | z
        · exact ht d z
        · rw [List.mem_singleton.mp z]
          exact ⟨n, l.drop i, hn, fun e => by have := congrArg List.length e; rw [List.length_drop, List.length_nil] at this; omega, by rw [List.length_drop]; omega, rfl⟩
      -- found.extend(tails_in(steps[k][2]))
      refine ⟨_, rfl, .inl ⟨rfl, _, SqL.of upd_same⟩, _, rfl, _, rfl, a, xs, _, _, rfl, rfl, s2.seq hs, atI_nat hx1, _, _, _, _, rfl, rfl, SqT_same s2 hc, atI_nat (j := 2) rfl, _, u, l[i].2.2, rfl, g2.inn, hu.up g2.sub, ?_⟩
      intro F3 H3 r us es g3 hr0 Fr hus hues hte hle
      have f3 : H3 f = some (.lst (vs ++ [V.ref p])) := g3.same _ _ upd_same
      have nfr : f ≠ r := ne_of_none upd_same hr0
      have le := dpAll_len hues
      have F3f : F3 f = none := g3.keepF ff1 (by rw [upd_same]; exact fun z => nomatch z)
      refine ⟨f, r, _, _, rfl, rfl, f3, hus, by rw [List.length_append, List.length_singleton, sizeLine_eq]; omega, ?_⟩
      refine ⟨F3, _, _, _, rfl, (g2.trans g3).put hf F3f, F3f, upd_same, dpAll_app (hds1.up g3.sub) hues, fun d hm => ?_, ?_⟩
      · rcases List.mem_append.mp hm with z | z
        · exact ht1 d z
        · exact hte d z
      · rw [List.length_append, List.length_append, List.length_singleton]
        omega
    · rintro σ H' ⟨F', vs, ds, v2, rfl, g, ff, hv, hvs, ht, hlen⟩
      exact ⟨_, rfl, k F' H' f vs ds g hf ff hv hvs ht (by rw [← e1]; exact hlen)⟩
theorem ok_tails_in (T : Tx K mg) : ∀ n : Nat, n ≤ 4 → FnOk P w K mg base CX0 (2 * n) T.tails_in.f T.tails_in.fd ["wish"] (spTailsIn K n)
  | 0, _ => ⟨fun _ _ _ _ ⟨_, _, e, _⟩ => Empty.elim e, fun _ _ _ _ _ _ _ _ _ _ _ _ _ ⟨_, _, e, _⟩ => Empty.elim e⟩
  | n + 1, hn => by
    have G := ok_tails_in T n (by omega)
    have GS := ok_tails_of T (by omega) G
    have nd := sc_tails_in.nd
    have hb := bi_le (n := n) (by omega)
    have hbs : bi (n + 1) = 3 * (1 + bi n) := rfl
    refine ok0 (k := 2 * n + 1) T.tails_in.F sc_tails_in (fun vs H Q E h => ?_) (fun cdv A outer s H vs Q E hr h => ?_)
    · obtain ⟨F, v, w, rfl, _⟩ := h
      rfl
    · obtain ⟨F, v, w, rfl, sF, hd, k⟩ := h
      refine ⟨_, pss_cons (ps_if (pt_cmpR op_eq (pe_ix ix_tup (pv 0) pe_int (fun _ _ => rfl)) pe_str (nomark _)) (pss_one (ps_ret (pe_call GS hr rfl T.tails_of.m T.tails_of.F.kp T.tails_of.b .nil pass0 (pa_cons (pe_ix ix_tup (pv 0) pe_int (fun _ _ => rfl)) pa_nil)))) pss_nil)
        (pss_cons (ps_set (i := 1) nd rfl (.inl rfl) (pe_lst pa_nil))
        (pss_cons (ps_if (PW.pt (pw_or (pt_cmpR op_eq (pe_ix ix_tup (pv 0) pe_int (fun _ _ => rfl)) pe_str (nomark _)) (pw_or1 (pt_cmpR op_eq (pe_ix ix_tup (pv 0) pe_int (fun _ _ => rfl)) pe_str (nomark _)))))
          (pss_one (ps_for PassesOwn.never rfl (pi_list (pe_ix ix_tup (pv 0) pe_int (fun _ _ => rfl))) (pg_name (i := 2) nd rfl (.inl rfl))
            (pss_one (ps_expr (pe_bm PySem.F.plainAttrs_list PySem.F.slot_list_extend PySem.F.type_list_extend mt_extend (pv 1) (pa_cons (pe_call G (hr.mono (by omega)) rfl T.tails_in.m T.tails_in.F.kp T.tails_in.b .nil pass0 (pa_cons (pv 2) pa_nil)) pa_nil)))))) pss_nil)
        (pss_one (ps_ret (pv 1))))), ?_⟩
      -- the loop over a list of wishes
      have loop : ∀ {t : Str} {l : BL (W n)} {a b f : Addr} {xs : List V}, SqT K F a [.str t, .ref b] → SqL K F b xs → DpAll K F xs (l.1.map (dW n)) → H f = none →
          tFor (iList K (tOp (rIxT K) (tVar 0) (tC (.int 1)))) (gName 2) (tDrop (tBM K "list" rExtend (tVar 1) (tCons (tCall (spTailsIn K n) [] E0 (tCons (tVar 2) tNil)) tNil)))
            { nx := fun σ' H' => tRet (tVar 1) { nx := fun _ H' => Q .non H', rt := Q } σ' H', rt := Q } [some (V.ref a), some (V.ref f), none] (upd H f (.lst [])) := by
        intro t l a b f xs hs hb' hx hf
        have Ff : F f = none := sF.free hf
        have e1 := dpAll_len hx
        rw [List.length_map] at e1
        have hl := l.2
        have sf : Same F (upd H f (.lst [])) := sF.trans (same_new hf)
        refine ⟨_, rfl, _, _, _, _, rfl, rfl, SqT_same sf hs, atI_nat (j := 1) rfl, b, rfl, ⟨_, sf.seq hb'⟩, for_list (K := K) (a := b) (xs := xs)
          (fun i σ H' => ∃ (F' : Hp) (vs : List V) (ds : List PyData) (v2 : Option V), σ = [some (.ref a), some (.ref f), v2] ∧ Grow M0 F H F' H' ∧ F' f = none ∧ H' f = some (.lst vs) ∧ DpAll K F' vs ds ∧ (∀ d ∈ ds, IsTail d) ∧ ds.length ≤ i * bi n)
          ⟨F, [], [], none, rfl, (Grow.refl0 sF).put hf Ff, Ff, upd_same, .nil, fun _ z => (nomatch z), by simp⟩ (fun i σ H' _ ⟨_, _, _, _, _, g, _⟩ => g.same.seq (sF.seq hb')) ?_ ?_⟩
        · rintro i x σ H' hxi ⟨F', vs, ds, v2, rfl, g, ff, hv, hvs, ht, hlen⟩
          obtain ⟨d, hdi, hdx⟩ := dpAll_at hx hxi
          rw [List.getElem?_map] at hdi
          obtain ⟨st, hst, rfl⟩ := Option.map_eq_some_iff.mp hdi
          have hi : i < xs.length := (List.getElem?_eq_some_iff.mp hxi).1
          have hm : i * bi n ≤ 3 * 120 := Nat.mul_le_mul (by omega) (by omega)
          have hm2 : (i + 1) * bi n = i * bi n + bi n := Nat.succ_mul _ _
          have lv := dpAll_len hvs
          refine ⟨_, rfl, .inl ⟨rfl, _, SqL.of hv⟩, _, rfl, F', x, st, rfl, g.inn, hdx.up g.sub, ?_⟩
          intro F3 H3 r us es g3 hr0 Fr hus hues hte hle
          have f3 : H3 f = some (.lst vs) := g3.same _ _ hv
          have le := dpAll_len hues
          have F3f : F3 f = none := g3.keepF ff (by rw [hv]; exact fun z => nomatch z)
          refine ⟨f, r, _, _, rfl, rfl, f3, hus, by rw [sizeLine_eq]; omega, ?_⟩
          refine ⟨F3, _, _, _, rfl, (g.trans g3).put hf F3f, F3f, upd_same, dpAll_app (hvs.up g3.sub) hues, fun d hm => ?_, ?_⟩
          · rcases List.mem_append.mp hm with z | z
            · exact ht d z
            · exact hte d z
          · rw [List.length_append]
            omega
        · rintro σ H' ⟨F', vs, ds, v2, rfl, g, ff, hv, hvs, ht, hlen⟩
          have : xs.length * bi n ≤ 3 * bi n := Nat.mul_le_mul (by omega) (Nat.le_refl _)
          exact ⟨_, rfl, k F' H' f vs ds g hf ff hv hvs ht (by omega)⟩
      have nothing : ∀ {f : Addr}, H f = none → Q (.ref f) (upd H f (.lst [])) := fun {f} hf =>
        k F _ f [] [] ((Grow.refl0 sF).put hf (sF.free hf)) hf (sF.free hf) upd_same .nil (fun _ z => (nomatch z)) (Nat.zero_le _)
      have s1 : ∀ {f : Addr}, H f = none → Same F (upd H f (.lst [])) := fun {f} hf => sF.trans (same_new hf)
      cases w with
      | any =>
        obtain ⟨a, rfl, hs⟩ := dp_t1 hd
        refine ⟨_, rfl, _, _, _, _, rfl, rfl, SqT_same sF hs, atI_nat (j := 0) rfl, rfl, _, rfl, strF (by decide +kernel) ⟨Nat.zero_le _, fun f hf => ?_⟩⟩
        refine ⟨_, rfl, _, _, _, _, rfl, rfl, SqT_same (s1 hf) hs, atI_nat (j := 0) rfl, rfl, _, rfl, strF (by decide +kernel) ?_⟩
        refine ⟨_, rfl, _, _, _, _, rfl, rfl, SqT_same (s1 hf) hs, atI_nat (j := 0) rfl, rfl, _, rfl, strF (by decide +kernel) ?_⟩
        exact ⟨_, rfl, nothing hf⟩
      | text z =>
        obtain ⟨a, rfl, hs⟩ := dp_t2 hd
        refine ⟨_, rfl, _, _, _, _, rfl, rfl, SqT_same sF hs, atI_nat (j := 0) rfl, rfl, _, rfl, strF (by decide +kernel) ⟨Nat.zero_le _, fun f hf => ?_⟩⟩
        refine ⟨_, rfl, _, _, _, _, rfl, rfl, SqT_same (s1 hf) hs, atI_nat (j := 0) rfl, rfl, _, rfl, strF (by decide +kernel) ?_⟩
        refine ⟨_, rfl, _, _, _, _, rfl, rfl, SqT_same (s1 hf) hs, atI_nat (j := 0) rfl, rfl, _, rfl, strF (by decide +kernel) ?_⟩
        exact ⟨_, rfl, nothing hf⟩
      | has l =>
        obtain ⟨a, b, xs, rfl, hs, hb', hx⟩ := dp_pair hd
        have hl := l.2
        refine ⟨_, rfl, _, _, _, _, rfl, rfl, SqT_same sF hs, atI_nat (j := 0) rfl, rfl, _, rfl, strT (by decide +kernel) ?_⟩
        refine ⟨_, rfl, _, _, _, _, rfl, rfl, SqT_same sF hs, atI_nat (j := 1) rfl, F, V.ref b, l.1, rfl, sF, .lst hb' hx, hl, ?_⟩
        intro F' H' p vs ds g hp Fp hv hvs ht hlen
        have : l.1.length * (1 + bi n) ≤ 3 * (1 + bi n) := Nat.mul_le_mul hl (Nat.le_refl _)
        exact k F' H' p vs ds g hp Fp hv hvs ht (by omega)
      | both l =>
        obtain ⟨a, b, xs, rfl, hs, hb', hx⟩ := dp_pair hd
        refine ⟨_, rfl, _, _, _, _, rfl, rfl, SqT_same sF hs, atI_nat (j := 0) rfl, rfl, _, rfl, strF (by decide +kernel) ⟨Nat.zero_le _, fun f hf => ?_⟩⟩
        refine ⟨_, rfl, _, _, _, _, rfl, rfl, SqT_same (s1 hf) hs, atI_nat (j := 0) rfl, rfl, _, rfl, strT (by decide +kernel) ?_⟩
        exact loop hs hb' hx hf
      | one l =>
        obtain ⟨a, b, xs, rfl, hs, hb', hx⟩ := dp_pair hd
        refine ⟨_, rfl, _, _, _, _, rfl, rfl, SqT_same sF hs, atI_nat (j := 0) rfl, rfl, _, rfl, strF (by decide +kernel) ⟨Nat.zero_le _, fun f hf => ?_⟩⟩
        refine ⟨_, rfl, _, _, _, _, rfl, rfl, SqT_same (s1 hf) hs, atI_nat (j := 0) rfl, rfl, _, rfl, strF (by decide +kernel) ?_⟩
        refine ⟨_, rfl, _, _, _, _, rfl, rfl, SqT_same (s1 hf) hs, atI_nat (j := 0) rfl, rfl, _, rfl, strT (by decide +kernel) ?_⟩
        exact loop hs hb' hx hf
end
end K8
/-! # A sift in the heap: its objects by their roles -/
namespace K8
open PySem PySem.Spec PyProof.Rows L2
/-! ### attributes as written lists -/
theorem putF_new {f : Str} {v : V} : ∀ {fs : List (Str × V)}, f ∉ fs.map (·.1) → putF f v fs = fs ++ [(f, v)]
  | [], _ => rfl
  | (g, x) :: r, h => by
    have h1 : ¬ g = f := fun e => h (by rw [List.map_cons]; exact List.mem_cons.mpr (.inl e.symm))
    show (if g = f then (g, v) :: r else (g, x) :: putF f v r) = _
    rw [if_neg h1, putF_new fun m => h (by rw [List.map_cons]; exact List.mem_cons_of_mem _ m)]
    rfl
theorem putF_at {f : Str} {v x : V} {r : List (Str × V)} : ∀ {l : List (Str × V)}, f ∉ l.map (·.1) → putF f v (l ++ (f, x) :: r) = l ++ (f, v) :: r
  | [], _ => by
    show (if f = f then (f, v) :: r else _) = _
    rw [if_pos rfl]
    rfl
  | (g, y) :: l, h => by
    have h1 : ¬ g = f := fun e => h (by rw [List.map_cons]; exact List.mem_cons.mpr (.inl e.symm))
    show (if g = f then (g, v) :: (l ++ (f, x) :: r) else (g, y) :: putF f v (l ++ (f, x) :: r)) = _
    rw [if_neg h1, putF_at fun m => h (by rw [List.map_cons]; exact List.mem_cons_of_mem _ m)]
    rfl
theorem look_at {f : Str} {x : V} {r : List (Str × V)} : ∀ {l : List (Str × V)}, f ∉ l.map (·.1) → (l ++ (f, x) :: r).lookup f = some x
  | [], _ => by
    show List.lookup f ((f, x) :: r) = _
    rw [List.lookup_cons, beq_self_eq_true]
  | (g, y) :: l, h => by
    have h1 : (f == g) = false := beq_eq_false_iff_ne.mpr fun e => h (by rw [List.map_cons]; exact List.mem_cons.mpr (.inl e))
    show List.lookup f ((g, y) :: (l ++ (f, x) :: r)) = _
    rw [List.lookup_cons, h1]
    exact look_at fun m => h (by rw [List.map_cons]; exact List.mem_cons_of_mem _ m)
theorem look_no {f : Str} {ks : List Str} : ∀ {fs : List (Str × V)}, fs.map (·.1) = ks → f ∉ ks → fs.lookup f = none
  | [], _, _ => rfl
  | (g, y) :: l, e, h => by
    subst e
    have h1 : (f == g) = false := beq_eq_false_iff_ne.mpr fun e => h (by rw [List.map_cons]; exact List.mem_cons.mpr (.inl e))
    rw [List.lookup_cons, h1]
    exact look_no rfl fun m => h (by rw [List.map_cons]; exact List.mem_cons_of_mem _ m)
/-! ### the state -/
inductive Rl where
  | sift | parts | dict | part (i : Nat) | txt (i : Nat) | met (i : Nat)
  deriving DecidableEq
structure SS where
  ad : Rl → Addr
  dx : Rl → Addr
  q : Q4
  aq : Addr
  atl : Addr
  tl : List PyData
  n : Nat
  ps : Nat → Pt
  mv : Nat → List V
  here : Option Nat
  many : Nat
  ans : List Nat
def SS.pref (S : SS) : Option Nat → V
  | none => .non
  | some j => .ref (S.ad (.part j))
def sfs (aq atl lp : Addr) (hv : V) (m : Int) (da : Addr) : List (Str × V) := [("question", .ref aq), ("tails", .ref atl), ("parts", .ref lp), ("here", hv), ("many", .int m), ("answered", .ref da)]
def pfs (i : Int) (nm : Str) (av : V) (op : Bool) (lt lm : Addr) : List (Str × V) := [("number", .int i), ("name", .str nm), ("around", av), ("is_open", .bl op), ("is_told", .bl false), ("texts", .ref lt), ("met", .ref lm)]
section
variable {aq atl lp : Addr} {hv hv' : V} {m m' : Int} {da : Addr}
theorem sfs_question : (sfs aq atl lp hv m da).lookup ("question" : Str) = some (V.ref aq) := look_at (l := []) (by decide +kernel)
theorem sfs_tails : (sfs aq atl lp hv m da).lookup ("tails" : Str) = some (V.ref atl) := look_at (l := [("question", .ref aq)]) (by show ("tails" : Str) ∉ [("question" : Str)]; decide +kernel)
theorem sfs_parts : (sfs aq atl lp hv m da).lookup ("parts" : Str) = some (V.ref lp) := look_at (l := [("question", .ref aq), ("tails", .ref atl)]) (by show ("parts" : Str) ∉ [("question" : Str), "tails"]; decide +kernel)
theorem sfs_here : (sfs aq atl lp hv m da).lookup ("here" : Str) = some hv := look_at (l := [("question", .ref aq), ("tails", .ref atl), ("parts", .ref lp)]) (by show ("here" : Str) ∉ [("question" : Str), "tails", "parts"]; decide +kernel)
theorem sfs_many : (sfs aq atl lp hv m da).lookup ("many" : Str) = some (V.int m) := look_at (l := [("question", .ref aq), ("tails", .ref atl), ("parts", .ref lp), ("here", hv)]) (by show ("many" : Str) ∉ [("question" : Str), "tails", "parts", "here"]; decide +kernel)
theorem sfs_answered : (sfs aq atl lp hv m da).lookup ("answered" : Str) = some (V.ref da) := look_at (l := [("question", .ref aq), ("tails", .ref atl), ("parts", .ref lp), ("here", hv), ("many", .int m)]) (by show ("answered" : Str) ∉ [("question" : Str), "tails", "parts", "here", "many"]; decide +kernel)
theorem sfs_no {f : Str} (h : f ∉ [("question" : Str), "tails", "parts", "here", "many", "answered"]) : (sfs aq atl lp hv m da).lookup f = none := look_no rfl h
theorem sfs_put_here : putF "here" hv' (sfs aq atl lp hv m da) = sfs aq atl lp hv' m da := putF_at (l := [("question", .ref aq), ("tails", .ref atl), ("parts", .ref lp)]) (by show ("here" : Str) ∉ [("question" : Str), "tails", "parts"]; decide +kernel)
theorem sfs_put_many : putF "many" (.int m') (sfs aq atl lp hv m da) = sfs aq atl lp hv m' da := putF_at (l := [("question", .ref aq), ("tails", .ref atl), ("parts", .ref lp), ("here", hv)]) (by show ("many" : Str) ∉ [("question" : Str), "tails", "parts", "here"]; decide +kernel)
variable {i : Int} {nm : Str} {av : V} {op op' : Bool} {lt lm : Addr}
theorem pfs_number : (pfs i nm av op lt lm).lookup ("number" : Str) = some (V.int i) := look_at (l := []) (by decide +kernel)
theorem pfs_name : (pfs i nm av op lt lm).lookup ("name" : Str) = some (V.str nm) := look_at (l := [("number", .int i)]) (by show ("name" : Str) ∉ [("number" : Str)]; decide +kernel)
theorem pfs_around : (pfs i nm av op lt lm).lookup ("around" : Str) = some av := look_at (l := [("number", .int i), ("name", .str nm)]) (by show ("around" : Str) ∉ [("number" : Str), "name"]; decide +kernel)
theorem pfs_is_open : (pfs i nm av op lt lm).lookup ("is_open" : Str) = some (V.bl op) := look_at (l := [("number", .int i), ("name", .str nm), ("around", av)]) (by show ("is_open" : Str) ∉ [("number" : Str), "name", "around"]; decide +kernel)
theorem pfs_texts : (pfs i nm av op lt lm).lookup ("texts" : Str) = some (V.ref lt) := look_at (l := [("number", .int i), ("name", .str nm), ("around", av), ("is_open", .bl op), ("is_told", .bl false)]) (by show ("texts" : Str) ∉ [("number" : Str), "name", "around", "is_open", "is_told"]; decide +kernel)
theorem pfs_met : (pfs i nm av op lt lm).lookup ("met" : Str) = some (V.ref lm) := look_at (l := [("number", .int i), ("name", .str nm), ("around", av), ("is_open", .bl op), ("is_told", .bl false), ("texts", .ref lt)]) (by show ("met" : Str) ∉ [("number" : Str), "name", "around", "is_open", "is_told", "texts"]; decide +kernel)
theorem pfs_put_open : putF "is_open" (.bl op') (pfs i nm av op lt lm) = pfs i nm av op' lt lm := putF_at (l := [("number", .int i), ("name", .str nm), ("around", av)]) (by show ("is_open" : Str) ∉ [("number" : Str), "name", "around"]; decide +kernel)
end
def SS.pa (S : SS) : List Addr := (List.range S.n).map fun i => S.ad (.part i)
def SS.psL (S : SS) : List Pt := (List.range S.n).map S.ps
def SS.obj (CP CS : Addr) (S : SS) : Rl → Option HO
  | .sift => some (.ins CS (S.dx .sift) (sfs S.aq S.atl (S.ad .parts) (S.pref S.here) (S.many : Int) (S.ad .dict)))
  | .parts => some (.lst (S.pa.map V.ref))
  | .dict => some (.dK (S.ans.map fun i : Nat => ((Sum.inl (i : Int) : Key), V.bl true)))
  | .part i => if i < S.n then some (.ins CP (S.dx (.part i)) (pfs (i : Int) (S.ps i).nm (S.pref (S.ps i).par) (S.ps i).op (S.ad (.txt i)) (S.ad (.met i)))) else none
  | .txt i => if i < S.n then some (.lst ((S.ps i).tx.map V.str)) else none
  | .met i => if i < S.n then some (.lst (S.mv i)) else none
/-- the objects of S in the heap H, whose frozen part is F -/
structure Mem (CP CS : Addr) (F H : Hp) (S : SS) : Prop where
  same : Same F H
  own : ∀ r o, S.obj CP CS r = some o → H (S.ad r) = some o
  fr : ∀ r o, S.obj CP CS r = some o → F (S.ad r) = none
  inj : ∀ r r' o o', S.obj CP CS r = some o → S.obj CP CS r' = some o' → S.ad r = S.ad r' → r = r'
/-- what is true of S's data -/
structure Wf (K : PySem.W.Frag) (F : Hp) (S : SS) : Prop where
  qd : ∃ qs, SqL K F S.aq qs ∧ DpAll K F qs (S.q.map (dStep (dW 4)))
  qn : S.q ≠ []
  ql : S.q.length ≤ 3
  td : ∃ ts, SqL K F S.atl ts ∧ DpAll K F ts S.tl
  tt : ∀ d ∈ S.tl, IsTail d
  tn : S.tl.length ≤ 363
  md : ∀ i, i < S.n → DpAll K F (S.mv i) (S.ps i).mt ∧ ∀ d ∈ (S.ps i).mt, IsTail d
  wf : ∀ i j, i < S.n → (S.ps i).par = some j → j < i
  hw : ∀ j, S.here = some j → j < S.n
  nd : S.ans.Nodup
  al : ∀ i ∈ S.ans, i < S.n
  sm : S.n ≤ 21
/-- S as it lies in the heap H, whose frozen part is F -/
structure SiftAt (K : PySem.W.Frag) (CP CS : Addr) (F H : Hp) (S : SS) : Prop where
  m : Mem CP CS F H S
  w : Wf K F S
section
variable {K : PySem.W.Frag} {CP CS : Addr} {F F' H H' : Hp} {S S' : SS}
theorem Wf.up (h : Wf K F S) (e : Same F F') : Wf K F' S :=
  { h with qd := let ⟨qs, a, b⟩ := h.qd; ⟨qs, e.seq a, b.up e⟩, td := let ⟨qs, a, b⟩ := h.td; ⟨qs, e.seq a, b.up e⟩, md := fun i hi => ⟨(h.md i hi).1.up e, (h.md i hi).2⟩ }
theorem Mem.up (h : Mem CP CS F H S) (e : Same H H') : Mem CP CS F H' S :=
  { h with same := h.same.trans e, own := fun r o q => e _ _ (h.own r o q) }
theorem SiftAt.up (h : SiftAt K CP CS F H S) (e : Same H H') : SiftAt K CP CS F H' S := ⟨h.m.up e, h.w⟩
theorem SiftAt.refr (h : SiftAt K CP CS F H S) (e : Same F F') (i : Same F' H) (hn : ∀ r o, S.obj CP CS r = some o → F' (S.ad r) = none) : SiftAt K CP CS F' H S :=
  ⟨{ h.m with same := i, fr := hn }, h.w.up e⟩
/-- a new object is frozen too -/
theorem SiftAt.frz {l : Addr} {o : HO} (h : SiftAt K CP CS F H S) (hl : H l = none) : SiftAt K CP CS (upd F l o) (upd H l o) S := by
  have fl : F l = none := h.m.same.free hl
  refine (h.up (same_new hl)).refr (same_new fl) (fun b u e => ?_) fun r u q => ?_
  · by_cases hb : b = l
    · subst hb
      rw [upd_same] at e ⊢
      exact e
    · rw [upd_ne hb] at e ⊢
      exact h.m.same b u e
  · rw [upd_ne (ne_of_none (h.m.own r u q) hl)]
    exact h.m.fr r u q
/-- .. by the heap behind a step that kept everything -/
theorem SiftAt.frz2 {l : Addr} {o : HO} (h : SiftAt K CP CS F H S) (e : Same H H') (hl : H l = none) (ho : H' l = some o) : SiftAt K CP CS (upd F l o) H' S := by
  have fl : F l = none := h.m.same.free hl
  refine (h.up e).refr (same_new fl) (fun b u q => ?_) fun r u q => ?_
  · by_cases hb : b = l
    · subst hb
      rw [upd_same] at q
      rw [ho]
      exact q
    · rw [upd_ne hb] at q
      exact e _ _ (h.m.same b u q)
  · rw [upd_ne (ne_of_none (h.m.own r u q) hl)]
    exact h.m.fr r u q
/-- what may grow beside: Grow's frozen part -/
theorem SiftAt.grow (h : SiftAt K CP CS F H S) (g : Grow M0 F H F' H') : SiftAt K CP CS F' H' S :=
  (h.up g.same).refr g.sub g.inn fun r o q => g.keepF (h.m.fr r o q) (by rw [h.m.own r o q]; exact fun z => nomatch z)
/-- one role's object is changed -/
theorem Mem.put (h : Mem CP CS F H S) {r : Rl} {o o' : HO} (hr : S.obj CP CS r = some o) (ea : S'.ad = S.ad) (hne : ∀ r', r' ≠ r → S'.obj CP CS r' = S.obj CP CS r') (he : S'.obj CP CS r = some o') : Mem CP CS F (upd H (S.ad r) o') S' := by
  have old : ∀ r1 x, S'.obj CP CS r1 = some x → ∃ y, S.obj CP CS r1 = some y := fun r1 x q => by
    by_cases hb : r1 = r
    · exact ⟨o, by rw [hb]; exact hr⟩
    · exact ⟨x, by rw [← hne r1 hb]; exact q⟩
  refine ⟨fun b u e => ?_, fun r1 x q => ?_, fun r1 x q => ?_, fun r1 r2 x y q1 q2 e => ?_⟩
  · rw [upd_ne (ne_of_none e (h.fr r o hr))]
    exact h.same b u e
  · rw [ea]
    by_cases hb : r1 = r
    · subst hb
      rw [he] at q
      cases q
      exact upd_same
    · rw [hne r1 hb] at q
      rw [upd_ne (fun e => hb (h.inj r1 r x o q hr e))]
      exact h.own r1 x q
  · obtain ⟨y, hy⟩ := old r1 x q
    rw [ea]
    exact h.fr r1 y hy
  · obtain ⟨x', hx⟩ := old r1 x q1
    obtain ⟨y', hy⟩ := old r2 y q2
    rw [ea] at e
    exact h.inj r1 r2 x' y' hx hy e
theorem pa_get {i : Nat} (h : i < S.n) : S.pa.getD i 0 = S.ad (.part i) := by
  unfold SS.pa
  rw [List.getD_eq_getElem?_getD, List.getElem?_map, List.getElem?_range h]
  rfl
theorem psL_get {i : Nat} {p : Pt} (h : S.psL[i]? = some p) : i < S.n ∧ p = S.ps i := by
  unfold SS.psL at h
  by_cases hi : i < S.n
  · rw [List.getElem?_map, List.getElem?_range hi] at h
    exact ⟨hi, (Option.some.inj h).symm⟩
  · rw [List.getElem?_map, List.getElem?_eq_none (by rw [List.length_range]; omega)] at h
    cases h
theorem pa_len : S.pa.length = S.n := by unfold SS.pa; rw [List.length_map, List.length_range]
theorem psL_len : S.psL.length = S.n := by unfold SS.psL; rw [List.length_map, List.length_range]
theorem aro_pref {o : Option Nat} (h : ∀ j, o = some j → j < S.n) : aroV S.pa o = S.pref o := by
  cases o with
  | none => rfl
  | some j => exact congrArg V.ref (pa_get (h j rfl))
theorem obj_part {i : Nat} (h : i < S.n) : S.obj CP CS (.part i) = some (.ins CP (S.dx (.part i)) (pfs (i : Int) (S.ps i).nm (S.pref (S.ps i).par) (S.ps i).op (S.ad (.txt i)) (S.ad (.met i)))) := if_pos h
theorem obj_txt {i : Nat} (h : i < S.n) : S.obj CP CS (.txt i) = some (.lst ((S.ps i).tx.map V.str)) := if_pos h
theorem obj_met {i : Nat} (h : i < S.n) : S.obj CP CS (.met i) = some (.lst (S.mv i)) := if_pos h
theorem SiftAt.psv (h : SiftAt K CP CS F H S) : PsV K CP H (S.ad .parts) S.pa S.psL where
  lst := h.m.own .parts _ rfl
  len := by rw [pa_len, psL_len]
  small := by rw [psL_len]; have := h.w.sm; omega
  at_ := fun i p e => by
    obtain ⟨hi, rfl⟩ := psL_get e
    have hm := h.w.md i hi
    refine ⟨S.dx (.part i), S.ad (.txt i), S.ad (.met i), pfs (i : Int) (S.ps i).nm (S.pref (S.ps i).par) (S.ps i).op (S.ad (.txt i)) (S.ad (.met i)), S.mv i, ?_, pfs_number, ?_, pfs_name, pfs_is_open, pfs_texts, pfs_met, h.m.own _ _ (obj_txt hi), h.m.own _ _ (obj_met hi), hm.1.up h.m.same, hm.2⟩
    · rw [pa_get hi]
      exact h.m.own _ _ (obj_part hi)
    · rw [aro_pref fun j e => by have := h.w.wf i j hi e; omega]
      exact pfs_around
  wf := fun i p j e1 e2 => by
    obtain ⟨hi, rfl⟩ := psL_get e1
    exact h.w.wf i j hi e2
/-! ### met grows -/
def SS.wm (S : SS) (mt : Nat → List PyData) (mv : Nat → List V) : SS := { S with ps := fun i => { S.ps i with mt := mt i }, mv := mv }
theorem wm_wm (a b : Nat → List PyData) (c d : Nat → List V) : (S.wm a c).wm b d = S.wm b d := rfl
theorem wm_obj {mt : Nat → List PyData} {mv : Nat → List V} {r : Rl} (h : ∀ i, r ≠ .met i) : (S.wm mt mv).obj CP CS r = S.obj CP CS r := by
  cases r with
  | met i => exact absurd rfl (h i)
  | _ => rfl
/-- a row is laid upon a part -/
theorem SiftAt.lay (h : SiftAt K CP CS F H S) {j : Nat} {v : V} {d : PyData} (hj : j < S.n) (hv : Dp K F v d) (hd : IsTail d) :
    SiftAt K CP CS F (upd H (S.ad (.met j)) (.lst (S.mv j ++ [v]))) (S.wm (fun i => if i = j then (S.ps j).mt ++ [d] else (S.ps i).mt) (fun i => if i = j then S.mv j ++ [v] else S.mv i)) := by
  refine ⟨h.m.put (obj_met hj) rfl (fun r' hr => ?_) ?_, { h.w with md := fun i hi => ?_ }⟩
  · cases r' with
    | met i =>
      have hij : ¬ i = j := fun e => hr (by rw [e])
      show (if i < S.n then some (HO.lst (if i = j then S.mv j ++ [v] else S.mv i)) else none) = (if i < S.n then some (HO.lst (S.mv i)) else none)
      rw [if_neg hij]
    | _ => rfl
  · show (if j < S.n then some (HO.lst (if j = j then S.mv j ++ [v] else S.mv j)) else none) = _
    rw [if_pos hj, if_pos rfl]
  · obtain ⟨h1, h2⟩ := h.w.md i hi
    show DpAll K F (if i = j then S.mv j ++ [v] else S.mv i) (if i = j then (S.ps j).mt ++ [d] else (S.ps i).mt) ∧ ∀ x ∈ (if i = j then (S.ps j).mt ++ [d] else (S.ps i).mt), IsTail x
    by_cases e : i = j
    · subst e
      rw [if_pos rfl, if_pos rfl]
      refine ⟨dpAll_app h1 (dpAll_one hv), fun x hx => ?_⟩
      rcases List.mem_append.mp hx with z | z
      · exact h2 x z
      · rw [List.mem_singleton.mp z]
        exact hd
    · rw [if_neg e, if_neg e]
      exact ⟨h1, h2⟩
end
end K8
/-! # Rows laid upon parts -/
namespace K8
open PySem PySem.Spec PyProof.Rows L2
/-- a test whose answer is not asked for: what both answers share -/
theorem pt_any {X : Cx} {e : Expr} {tc : TT} (h : PT X e tc) : PT X e (fun σ H Q => ∃ R : Hp → Prop, tc σ H (fun _ H1 => R H1) ∧ ∀ b H1, R H1 → Q b H1) :=
  ⟨fun pins s σ H Q I ⟨R, h1, h2⟩ => wpAny_mono (h.run pins s σ H _ I h1) (fun b s' ⟨H', I', r⟩ => ⟨H', I', h2 b H' r⟩) (fun _ _ z => z)⟩
/-- two statements, with a word of what is between them -/
theorem pss_mid {X : Cx} {st : Stmt} {rest : List Stmt} {t u : TS} (h1 : PS X st t) (h2 : PSs X rest u) : PSs X (st :: rest) (fun D σ H => ∃ R : St → Hp → Prop, t { D with nx := R } σ H ∧ ∀ σ' H', R σ' H' → u D σ' H') := by
  refine ⟨fun pins s σ H D I ⟨R, h, hR⟩ => ?_⟩
  refine wpAny_execs_cons (wpAny_mono (h1.run pins s σ H { D with nx := R } I h) (fun f s1 q => ?_) fun _ _ z => z)
  cases f with
  | next =>
    obtain ⟨σ', H', I', q⟩ := q
    exact h2.run pins s1 σ' H' D I' (hR _ _ q)
  | ret v => exact q
  | brk => exact q
  | cont => exact q
section
variable {P : Program} {w : World} {K : PySem.W.Frag} {mg : Str → Option Value} {base : Heap}
theorem FnOk_up {CX : CXT} {k k' : Nat} {f : Addr} {fd : FuncData} {ps : List Str} {sp : Sp} (h : FnOk P w K mg base CX k f fd ps sp) (le : k ≤ k') : FnOk P w K mg base CX k' f fd ps sp :=
  ⟨h.len, fun A outer s H args us vs Q E hr he hb hv hs => h.run A outer s H args us vs Q E (hr.mono le) he hb hv hs⟩
def spHoldsAny (K : PySem.W.Frag) (C : Addr) : Sp := fun vs H Q E => ∃ i : { n : Nat // n ≤ 5 }, spHolds K C i.1 vs H Q E
theorem ok_holds_any (T : Tx K mg) : FnOk P w K mg base CX0 5 T.holds_now.f T.holds_now.fd ["part", "wish"] (spHoldsAny K T.CP) :=
  FnOk_any (sp := fun i : { n : Nat // n ≤ 5 } => spHolds K T.CP i.1) (fun vs H Q E ⟨i, a, v, w, nm, op, tx, mt, e, _⟩ => by subst e; rfl) fun i => FnOk_up (ok_holds_now T i.1 i.2) i.2
theorem IsTail.shp {d : PyData} (h : IsTail d) : SeqAt.shaped d = true := shaped_of h.lay (by have := h.dep; omega)
def spLay (K : PySem.W.Frag) (CP CS : Addr) : Sp := fun vs H Q _ => ∃ (F : Hp) (S : SS) (j : Nat) (v : V) (d : PyData), vs = [.ref (S.ad (.part j)), v] ∧ SiftAt K CP CS F H S ∧ j < S.n ∧ Dp K F v d ∧ IsTail d ∧ (S.mv j).length < sizeLine ∧
  ∀ (H' : Hp) (mt : Nat → List PyData) (mv : Nat → List V), SiftAt K CP CS F H' (S.wm mt mv) → (∀ i, (mv i).length ≤ (S.mv i).length + 1) → Q .non H'
theorem ok_lay (T : Tx K mg) : FnOk P w K mg base CX0 1 T.lay.f T.lay.fd ["part", "tail"] (spLay K T.CP T.CS) := by
  refine ok0 T.lay.F sc_lay (fun vs H Q E h => ?_) (fun cdv A outer s H vs Q E hr h => ?_)
  · obtain ⟨F, S, j, v, d, rfl, _⟩ := h
    rfl
  · obtain ⟨F, S, j, v, d, rfl, hS, hj, hd, ht, hz, k⟩ := h
    have h1 := hS.m.own (.part j) _ (obj_part hj)
    have h2 := hS.m.own (.met j) _ (obj_met hj)
    obtain ⟨m1, m2⟩ := hS.w.md j hj
    refine ⟨_, pss_one (ps_if (pt_cmpR (op_notInD (hu65 hr)) (pv 1) (pe_fld (pv 0) rfl) (by rfl)) (pss_one (ps_expr (pe_bm PySem.F.plainAttrs_list PySem.F.slot_list_append PySem.F.type_list_append mt_append (pe_fld (pv 0) rfl) (pa_cons (pv 1) pa_nil)))) pss_nil), ?_⟩
    refine ⟨_, rfl, _, rfl, _, T.CP, _, _, _, rfl, h1, T.clP, T.nP_met, pfs_met, d, _, hd.up hS.m.same, .lst (SqL.of h2) (m1.up hS.m.same), ht.shp, tails_shaped m2, _, rfl, ?_⟩
    show (if (!(S.ps j).mt.any fun z => PyData.eqv z d) = true then _ else _)
    refine ite2 (fun _ => ?_) (fun _ => ?_)
    · refine ⟨_, rfl, _, T.CP, _, _, _, rfl, h1, T.clP, T.nP_met, pfs_met, .inl ⟨rfl, _, SqL.of h2⟩, _, rfl, _, _, _, rfl, rfl, h2, hz, ?_⟩
      refine k _ _ _ (hS.lay hj hd ht) fun i => ?_
      show (if i = j then S.mv j ++ [v] else S.mv i).length ≤ _
      split
      · next e =>
        rw [e, List.length_append, List.length_singleton]
        exact Nat.le_refl _
      · omega
    · exact k H (fun i => (S.ps i).mt) S.mv hS fun i => Nat.le_succ _
def spRefresh (K : PySem.W.Frag) (CP CS : Addr) : Sp := fun vs H Q _ => ∃ (F : Hp) (S : SS) (j b : Nat), vs = [.ref (S.ad (.part j)), .ref S.atl] ∧ SiftAt K CP CS F H S ∧ j < S.n ∧ (∀ i, (S.mv i).length ≤ b) ∧ b + 10000 < sizeLine ∧
  ∀ (H' : Hp) (mt : Nat → List PyData) (mv : Nat → List V), SiftAt K CP CS F H' (S.wm mt mv) → (∀ i, (mv i).length ≤ b + 7986) → Q .non H'
theorem ok_refresh (T : Tx K mg) : FnOk P w K mg base CX0 6 T.refresh.f T.refresh.fd ["part", "tails"] (spRefresh K T.CP T.CS) := by
  have GC : FnOk P w K mg base CX0 1 T.is_called.f T.is_called.fd ["part", "name"] (spIsCalled T.CP) := ok_is_called T
  have GH : FnOk P w K mg base CX0 5 T.holds_now.f T.holds_now.fd ["part", "wish"] (spHoldsAny K T.CP) := ok_holds_any T
  have GL : FnOk P w K mg base CX0 1 T.lay.f T.lay.fd ["part", "tail"] (spLay K T.CP T.CS) := ok_lay T
  have nd := sc_refresh.nd
  refine ok0 T.refresh.F sc_refresh (fun vs H Q E h => ?_) (fun cdv A outer s H vs Q E hr h => ?_)
  · obtain ⟨F, S, j, b, rfl, _⟩ := h
    rfl
  · obtain ⟨F, S, j, b, rfl, hS, hj, hb, hz, k⟩ := h
    have hn := hS.w.sm
    obtain ⟨ts, ht1, ht2⟩ := hS.w.td
    have tl := dpAll_len ht2
    have tn := hS.w.tn
    refine ⟨_, pss_one (ps_for PassesOwn.never rfl (pi_list (pv 1)) (pg_name (i := 2) nd rfl (.inl rfl))
      (pss_cons (ps_asg (pe_ix ix_list (pv 2) pe_int (fun _ _ => rfl)) (pg_tup rfl (pgs_cons (pg_name (i := 3) nd rfl (.inl rfl)) (pgs_cons (pg_name (i := 4) nd rfl (.inl rfl)) (pgs_cons (pg_name (i := 5) nd rfl (.inl rfl)) pgs_nil)))))
      (pss_cons (ps_set (i := 6) nd rfl (.inl rfl) (pe_slice sl_list (pv 2) (po_some pe_int) po_none))
      (pss_one (ps_if (pt_any (PW.pt (pw_and (pt_val (pe_call GC (hr.mono (by decide)) rfl T.is_called.m T.is_called.F.kp T.is_called.b .nil pass0 (pa_cons (pv 0) (pa_cons (pv 4) pa_nil))))
          (pw_and (pt_val (pe_call GH hr rfl T.holds_now.m T.holds_now.F.kp T.holds_now.b .nil pass0 (pa_cons (pv 0) (pa_cons (pv 5) pa_nil))))
          (pw_and1 (PW.pt (pw_or (pt_cmpR (op_eqD (hu64 hr)) (pv 6) (pe_lst pa_nil) (nomark _)) (pw_or1 (pt_cmpR (op_inD (hu65 hr)) (pv 6) (pe_fld (pv 0) rfl) (by rfl))))))))))
        (pss_cons (ps_set (i := 7) nd rfl (.inl rfl) (pe_fld (pv 0) rfl))
        (pss_mid (ps_if (pt_cmpR op_notN (pv 7) pe_non (nomark _))
            (pss_cons (ps_expr (pe_call GL (hr.mono (by decide)) rfl T.lay.m T.lay.F.kp T.lay.b .nil pass0 (pa_cons (pv 7) (pa_cons (pv 2) pa_nil))))
            (pss_one (ps_set (i := 7) nd rfl (.inl rfl) (pe_fld (pv 7) rfl)))) pss_nil)
        (pss_one (ps_while PassesOwn.never (PW.pt (pw_and (pt_cmpR op_notN (pv 7) pe_non (nomark _)) (pw_and1 (pt_cmpR op_eq (pv 3) pe_str (nomark _)))))
            (pss_cons (ps_expr (pe_call GL (hr.mono (by decide)) rfl T.lay.m T.lay.F.kp T.lay.b .nil pass0 (pa_cons (pv 7) (pa_cons (pv 2) pa_nil))))
            (pss_one (ps_set (i := 7) nd rfl (.inl rfl) (pe_fld (pv 7) rfl))))))))
        pss_nil))))), ?_⟩
    refine ⟨_, rfl, S.atl, rfl, ⟨_, hS.m.same.seq ht1⟩, for_list (K := K) (a := S.atl) (xs := ts)
      (fun i σ H' => ∃ (mt : Nat → List PyData) (mv : Nat → List V) (v2 v3 v4 v5 v6 v7 : Option V), σ = [some (.ref (S.ad (.part j))), some (.ref S.atl), v2, v3, v4, v5, v6, v7] ∧ SiftAt K T.CP T.CS F H' (S.wm mt mv) ∧ ∀ x, (mv x).length ≤ b + i * 22)
      ⟨fun i => (S.ps i).mt, S.mv, none, none, none, none, none, none, rfl, hS, by simpa using hb⟩ (fun i σ H' _ ⟨_, _, _, _, _, _, _, _, _, h, _⟩ => h.m.same.seq ht1) ?_ ?_⟩
    · rintro i x σ H' hx ⟨mt, mv, v2, v3, v4, v5, v6, v7, rfl, hS', hl⟩
      have hi : i < ts.length := (List.getElem?_eq_some_iff.mp hx).1
      obtain ⟨d, hd1, hd2⟩ := dpAll_at ht2 hx
      have hT := hS.w.tt d (List.mem_of_getElem? hd1)
      obtain ⟨n, l, hn4, hl0, hl100, rfl⟩ := id hT
      obtain ⟨a, xs, rfl, hs, hxs⟩ := dp_list hd2
      cases l with
      | nil => exact absurd rfl hl0
      | cons st r =>
      obtain ⟨y, hy1, hy2⟩ := dpAll_ix (i := 0) (d := dStep (dW n) st) hxs rfl
      obtain ⟨c, u, rfl, hc, hu⟩ := dp_step hy2
      have sF := hS'.m.same
      refine ⟨_, rfl, _, _, _, _, rfl, rfl, sF.seq hs, atI_nat (j := 0) hy1, c, _, rfl, SqT_same sF hc, rfl, _, _, rfl, _, _, rfl, _, _, rfl, rfl, ?_⟩
      refine ⟨_, rfl, _, rfl, a, xs, rfl, sF.seq hs, fun p hp => ?_⟩
      have e1 : cutV xs (some 1) none = xs.drop 1 := cutV_drop xs 1
      rw [e1]
      have S1 : Same H' (upd H' p (.lst (xs.drop 1))) := same_new hp
      have hS1 := hS'.up S1
      have hR : Dp K (upd H' p (.lst (xs.drop 1))) (.ref p) (dQ n r) := .lst (SqL.of upd_same) (dpAll_drop 1 ((hxs.up sF).up S1))
      have q1 := hS1.m.own (.part j) _ (obj_part hj)
      have q2 := hS1.m.own (.met j) _ (obj_met hj)
      obtain ⟨m1, m2⟩ := hS1.w.md j hj
      have hP : PartV K T.CP (upd H' p (.lst (xs.drop 1))) (S.ad (.part j)) (S.ps j).nm (S.ps j).op (S.ps j).tx (mt j) :=
        ⟨_, S.ad (.txt j), S.ad (.met j), _, mv j, q1, pfs_name, pfs_is_open, pfs_texts, pfs_met, hS1.m.own (.txt j) _ (obj_txt hj), q2, m1.up hS1.m.same, m2⟩
      have shR : SeqAt.shaped (dQ n r) = true := shaped_of (dQ_lay n r) (by have := dQ_dep n r; omega)
      generalize upd H' p (.lst (xs.drop 1)) = H1 at *
      refine ⟨fun H2 => Same H1 H2, ?_, ?_⟩
      · -- the test
        refine ⟨_, rfl, _, rfl, _, _, _, _, _, rfl, q1, pfs_name, _, rfl, ?_⟩
        refine ite2 (fun _ => ?_) (fun _ => Same.refl _)
        refine ⟨_, rfl, _, rfl, ⟨n, by omega⟩, _, u, st.2.2, _, _, _, _, rfl, hP, (hu.up sF).up S1, fun H4 s4 => ⟨_, rfl, ?_⟩⟩
        refine ite2 (fun _ => ?_) (fun _ => s4)
        refine ⟨_, rfl, Nat.zero_le _, fun z hz' => ?_⟩
        have s5 : Same H1 (upd H4 z (.lst [])) := s4.trans (same_new hz')
        refine ⟨_, _, hR.up s5, .lst (SqL.of upd_same) .nil, shR, shaped_nil, _, rfl, ?_⟩
        refine ite2 (fun _ => s5) (fun _ => ?_)
        exact ⟨_, rfl, _, rfl, _, T.CP, _, _, _, rfl, s5 _ _ q1, T.clP, T.nP_met, pfs_met, _, _, hR.up s5, .lst (SqL.of (s5 _ _ q2)) ((m1.up hS1.m.same).up s5), shR, tails_shaped m2, _, rfl, s5⟩
      · rintro bb H2 s2
        have hS2 := hS1.up s2
        show (if bb = true then _ else _)
        refine ite2 (fun _ => ?_) (fun _ => ⟨mt, mv, _, _, _, _, _, _, rfl, hS2, fun x => by have := hl x; omega⟩)
        have g1 := hS2.m.own (.part j) _ (obj_part hj)
        refine ⟨_, rfl, _, T.CP, _, _, _, rfl, g1, T.clP, T.nP_around, pfs_around, ?_⟩
        -- the climb
        refine ⟨fun σ' H' => ∃ (m : Nat) (mt : Nat → List PyData) (mv : Nat → List V) (o : Option Nat), σ' = [some (.ref (S.ad (.part j))), some (.ref S.atl), some (.ref a), some (.str st.1.1), some (.str st.2.1.1), some u, some (.ref p), some (S.pref o)] ∧
          SiftAt K T.CP T.CS F H' (S.wm mt mv) ∧ (∀ x, (mv x).length + m ≤ b + (i + 1) * 22) ∧ (∀ k, o = some k → k < m) ∧ m ≤ S.n, ?_, ?_⟩
        · refine ⟨_, rfl, rfl, _, rfl, ?_⟩
          show (if (!decide (S.pref (S.ps j).par = V.non)) = true then _ else _)
          cases ep : (S.ps j).par with
          | none => exact ⟨0, mt, mv, (S.ps j).par, rfl, hS2, fun x => by have := hl x; omega, fun k e => (by rw [ep] at e; cases e), by omega⟩
          | some k' =>
            have hk := hS.w.wf j k' hj ep
            refine ⟨_, rfl, _, rfl, F, S.wm mt mv, k', _, _, (by show [S.pref (S.ps j).par, V.ref a] = _; rw [ep]; rfl), hS2, (by show k' < S.n; omega), hd2, hT, by have := hl k'; show (mv k').length < _; omega, fun H3 mt3 mv3 hS3 hl3 => ?_⟩
            have g3 := hS3.m.own (.part k') _ (obj_part (by show k' < S.n; omega))
            refine ⟨_, rfl, _, T.CP, _, _, _, (by show S.pref (S.ps j).par = _; rw [ep]; rfl), g3, T.clP, T.nP_around, pfs_around, ?_⟩
            refine ⟨k', mt3, mv3, (S.ps k').par, rfl, hS3, fun x => ?_, fun k e => hS.w.wf k' k (by omega) e, by omega⟩
            have h3 := hl3 x
            have h4 := hl x
            have h5 : (mv3 x).length ≤ (mv x).length + 1 := h3
            omega
        · rintro σ' H' ⟨m0, mt0, mv0, o0, rfl, hS0, hl0', hk0, hm0⟩
          refine ⟨fun m σ' H' => ∃ (mt : Nat → List PyData) (mv : Nat → List V) (o : Option Nat), σ' = [some (.ref (S.ad (.part j))), some (.ref S.atl), some (.ref a), some (.str st.1.1), some (.str st.2.1.1), some u, some (.ref p), some (S.pref o)] ∧
            SiftAt K T.CP T.CS F H' (S.wm mt mv) ∧ (∀ x, (mv x).length + m ≤ b + (i + 1) * 22) ∧ (∀ k, o = some k → k < m) ∧ m ≤ S.n, ⟨m0, mt0, mv0, o0, rfl, hS0, hl0', hk0, hm0⟩, ?_⟩
          rintro m σ' H' ⟨mt1, mv1, o, rfl, hS4, hl4, hk4, hm4⟩
          have out : ∃ (mt : Nat → List PyData) (mv : Nat → List V) (v2 v3 v4 v5 v6 v7 : Option V), ([some (.ref (S.ad (.part j))), some (.ref S.atl), some (.ref a), some (.str st.1.1), some (.str st.2.1.1), some u, some (.ref p), some (S.pref o)] : St) = [some (.ref (S.ad (.part j))), some (.ref S.atl), v2, v3, v4, v5, v6, v7] ∧ SiftAt K T.CP T.CS F H' (S.wm mt mv) ∧ ∀ x, (mv x).length ≤ b + (i + 1) * 22 :=
            ⟨mt1, mv1, _, _, _, _, _, _, rfl, hS4, fun x => by have := hl4 x; omega⟩
          refine ⟨_, rfl, rfl, _, rfl, ?_⟩
          show (if (!decide (S.pref o = V.non)) = true then _ else _)
          cases o with
          | none => exact out
          | some k' =>
            have hk := hk4 k' rfl
            obtain ⟨f, rfl⟩ : ∃ f, m = f + 1 := ⟨m - 1, by omega⟩
            have hkn : k' < S.n := by omega
            refine ⟨_, rfl, rfl, _, rfl, ?_⟩
            show (if decide (V.str st.1.1 = V.str "inner") = true then _ else _)
            refine ite2 (fun _ => ?_) (fun _ => out)
            refine ⟨fun σ' H' => ∃ (mt : Nat → List PyData) (mv : Nat → List V) (o : Option Nat), σ' = [some (.ref (S.ad (.part j))), some (.ref S.atl), some (.ref a), some (.str st.1.1), some (.str st.2.1.1), some u, some (.ref p), some (S.pref o)] ∧
              SiftAt K T.CP T.CS F H' (S.wm mt mv) ∧ (∀ x, (mv x).length + f ≤ b + (i + 1) * 22) ∧ (∀ k, o = some k → k < f) ∧ f ≤ S.n, fun σ' H' q => ⟨f, Nat.lt_succ_self f, q⟩, ?_⟩
            refine ⟨_, rfl, _, rfl, F, S.wm mt1 mv1, k', _, _, rfl, hS4, hkn, hd2, hT, by have := hl4 k'; show (mv1 k').length < _; omega, fun H3 mt3 mv3 hS3 hl3 => ?_⟩
            have g3 := hS3.m.own (.part k') _ (obj_part hkn)
            refine ⟨_, rfl, _, T.CP, _, _, _, rfl, g3, T.clP, T.nP_around, pfs_around, ?_⟩
            refine ⟨mt3, mv3, (S.ps k').par, rfl, hS3, fun x => ?_, fun k e => ?_, by omega⟩
            · have h3 := hl4 x
              have h5 : (mv3 x).length ≤ (mv1 x).length + 1 := hl3 x
              omega
            · have := hS.w.wf k' k hkn e
              omega
    · rintro σ H' ⟨mt, mv, v2, v3, v4, v5, v6, v7, rfl, hS', hl⟩
      exact k H' mt mv hS' fun i => by have := hl i; omega
def spRefreshAll (K : PySem.W.Frag) (CP CS : Addr) : Sp := fun vs H Q _ => ∃ (F : Hp) (S : SS) (o : Option Nat) (b : Nat), vs = [S.pref o, .ref S.atl] ∧ SiftAt K CP CS F H S ∧ (∀ j, o = some j → j < S.n) ∧ (∀ i, (S.mv i).length ≤ b) ∧ b + 200000 < sizeLine ∧
  ∀ (H' : Hp) (mt : Nat → List PyData) (mv : Nat → List V), SiftAt K CP CS F H' (S.wm mt mv) → (∀ i, (mv i).length ≤ b + 176000) → Q .non H'
theorem ok_refresh_all (T : Tx K mg) : FnOk P w K mg base CX0 7 T.refresh_all.f T.refresh_all.fd ["part", "tails"] (spRefreshAll K T.CP T.CS) := by
  have GR : FnOk P w K mg base CX0 6 T.refresh.f T.refresh.fd ["part", "tails"] (spRefresh K T.CP T.CS) := ok_refresh T
  have nd := sc_refresh_all.nd
  refine ok0 T.refresh_all.F sc_refresh_all (fun vs H Q E h => ?_) (fun cdv A outer s H vs Q E hr h => ?_)
  · obtain ⟨F, S, o, b, rfl, _⟩ := h
    rfl
  · obtain ⟨F, S, o, b, rfl, hS, ho, hb, hz, k⟩ := h
    have hn := hS.w.sm
    refine ⟨_, pss_one (ps_while PassesOwn.never (pt_cmpR op_notN (pv 0) pe_non (nomark _))
      (pss_cons (ps_expr (pe_call GR hr rfl T.refresh.m T.refresh.F.kp T.refresh.b .nil pass0 (pa_cons (pv 0) (pa_cons (pv 1) pa_nil))))
      (pss_one (ps_set (i := 0) nd rfl (.inl rfl) (pe_fld (pv 0) rfl))))), ?_⟩
    refine ⟨fun m σ H' => ∃ (mt : Nat → List PyData) (mv : Nat → List V) (o : Option Nat), σ = [some (S.pref o), some (.ref S.atl)] ∧ SiftAt K T.CP T.CS F H' (S.wm mt mv) ∧ (∀ x, (mv x).length + m * 7986 ≤ b + 176000) ∧ (∀ k, o = some k → k < m) ∧ m ≤ S.n,
      ⟨S.n, fun i => (S.ps i).mt, S.mv, o, rfl, hS, fun x => by have := hb x; omega, ho, Nat.le_refl _⟩, ?_⟩
    rintro m σ H' ⟨mt, mv, o, rfl, hS', hl, hk, hm⟩
    refine ⟨_, rfl, rfl, _, rfl, ?_⟩
    show (if (!decide (S.pref o = V.non)) = true then _ else _)
    cases o with
    | none => exact k H' mt mv hS' fun i => by have := hl i; omega
    | some j =>
      have hj := hk j rfl
      obtain ⟨f, rfl⟩ : ∃ f, m = f + 1 := ⟨m - 1, by omega⟩
      refine ⟨fun σ H' => ∃ (mt : Nat → List PyData) (mv : Nat → List V) (o : Option Nat), σ = [some (S.pref o), some (.ref S.atl)] ∧ SiftAt K T.CP T.CS F H' (S.wm mt mv) ∧ (∀ x, (mv x).length + f * 7986 ≤ b + 176000) ∧ (∀ k, o = some k → k < f) ∧ f ≤ S.n,
        fun σ' H' q => ⟨f, Nat.lt_succ_self f, q⟩, ?_⟩
      refine ⟨_, rfl, _, rfl, F, S.wm mt mv, j, b + 176000 - (f + 1) * 7986, rfl, hS', (by show j < S.n; omega), fun i => ?_, by omega, fun H3 mt3 mv3 hS3 hl3 => ?_⟩
      · have := hl i
        show (mv i).length ≤ _
        omega
      have g3 := hS3.m.own (.part j) _ (obj_part (by show j < S.n; omega))
      refine ⟨_, rfl, _, T.CP, _, _, _, rfl, g3, T.clP, T.nP_around, pfs_around, ?_⟩
      refine ⟨mt3, mv3, (S.ps j).par, rfl, hS3, fun x => ?_, fun k e => ?_, by omega⟩
      · have h3 := hl3 x
        omega
      · have := hS.w.wf j k (by omega) e
        omega
end
end K8
/-! # What a sift tells -/
namespace K8
open PySem PySem.Spec PyProof.Rows L2
theorem hu1 {A : Around} {k : Nat} (hr : Room k A) : A.units + 1 < cLine := by have := hr.un; omega
/-- a chain of parts, from one outwards -/
inductive Chain (par : Nat → Option Nat) : Option Nat → Nat → Prop
  | nil : Chain par none 0
  | cons {j d : Nat} (h : Chain par (par j) d) : Chain par (some j) (d + 1)
theorem Chain.congr {p q : Nat → Option Nat} {m : Nat} (he : ∀ i, i < m → p i = q i) (hlt : ∀ i j, i < m → p i = some j → j < i) {o : Option Nat} {d : Nat} (h : Chain p o d) : (∀ j, o = some j → j < m) → Chain q o d := by
  induction h with
  | nil => exact fun _ => .nil
  | @cons j d h ih =>
    intro hj
    have hjm := hj j rfl
    refine .cons ?_
    rw [← he j hjm]
    exact ih fun k e => by have := hlt j k hjm e; omega
def SS.par (S : SS) : Nat → Option Nat := fun i => (S.ps i).par
def SS.kvs (S : SS) : List (Key × V) := S.ans.map fun i : Nat => ((Sum.inl (i : Int) : Key), V.bl true)
theorem ans_len {K : PySem.W.Frag} {F : Hp} {S : SS} (h : Wf K F S) : S.ans.length ≤ S.n := by
  have := List.Nodup.length_le_of_subset h.nd (l₂ := List.range S.n) fun i hi => List.mem_range.mpr (h.al i hi)
  rwa [List.length_range] at this
def toldM (S : SS) : List Int := (S.ans.map fun i : Nat => (i : Int)).mergeSort (· ≤ ·)
theorem toldM_eq {S : SS} {ys : List Int} (h1 : ys.Perm (S.ans.map fun i : Nat => (i : Int))) (h2 : ys.Pairwise (· ≤ ·)) : ys = toldM S := by
  refine List.Perm.eq_of_pairwise (le := fun a b => a ≤ b) (fun _ _ _ _ a b => Int.le_antisymm a b) h2 ?_ (h1.trans (List.mergeSort_perm _ _).symm)
  have := List.pairwise_mergeSort (le := fun a b : Int => decide (a ≤ b)) (fun a b c h1 h2 => by simp at *; omega) (fun a b => by simp; omega) (S.ans.map fun i : Nat => (i : Int))
  exact this.imp fun h => of_decide_eq_true h
def waitE (S : SS) : List Nat := endsM S.psL S.q true
def waitM (S : SS) : List Int := ((List.range (waitE S).length).filter fun i => !(valV S.kvs (Sum.inl (((waitE S).getD i 0 : Nat) : Int))).isSome).map fun i => (((waitE S).getD i 0 : Nat) : Int)
def overM (S : SS) : Bool := decide (0 < S.n) && decide (S.here = none)
section
variable {P : Program} {w : World} {K : PySem.W.Frag} {mg : Str → Option Value} {base : Heap}
/-! ### depth -/
def spDepth (K : PySem.W.Frag) (CP CS : Addr) : Sp := fun vs H Q _ => ∃ (F : Hp) (S : SS) (d : Nat), vs = [.ref (S.ad .sift)] ∧ SiftAt K CP CS F H S ∧ Chain S.par S.here d ∧ Q (.int (d : Int)) H
theorem pref_dec (S : SS) (o : Option Nat) : decide (S.pref o = V.non) = decide (o = none) := by
  cases o with
  | none => rfl
  | some j => simp [SS.pref]
theorem ok_S_depth (T : Tx K mg) : FnOk P w K mg base CX0 1 T.S_depth.f T.S_depth.fd ["self"] (spDepth K T.CP T.CS) := by
  have nd := sc_S_depth.nd
  refine ok0 T.S_depth.F sc_S_depth (fun vs H Q E h => ?_) (fun cdv A outer s H vs Q E hr h => ?_)
  · obtain ⟨F, S, d, rfl, _⟩ := h
    rfl
  · obtain ⟨F, S, d, rfl, hS, hc, k⟩ := h
    have h0 := hS.m.own .sift _ rfl
    refine ⟨_, pss_cons (ps_set (i := 1) nd rfl (.inl rfl) pe_int)
      (pss_cons (ps_set (i := 2) nd rfl (.inl rfl) (pe_fld (pv 0) rfl))
      (pss_cons (ps_while PassesOwn.never (pt_cmpR op_notN (pv 2) pe_non (nomark _))
        (pss_cons (ps_aug (i := 1) nd rfl (.inl rfl) pe_int ip_add)
        (pss_one (ps_set (i := 2) nd rfl (.inl rfl) (pe_fld (pv 2) rfl)))))
      (pss_one (ps_ret (pv 1))))), ?_⟩
    refine ⟨_, rfl, _, T.CS, _, _, _, rfl, h0, T.clS, T.nS_here, sfs_here, ?_⟩
    refine ⟨fun m σ H' => H' = H ∧ ∃ (o : Option Nat) (c : Nat), σ = [some (.ref (S.ad .sift)), some (.int (c : Int)), some (S.pref o)] ∧ Chain S.par o m ∧ (∀ j, o = some j → j < S.n) ∧ c + m = d,
      ⟨d, rfl, S.here, 0, rfl, hc, hS.w.hw, by omega⟩, ?_⟩
    rintro m σ H' ⟨rfl, o, c, rfl, ho, hlt, hcd⟩
    refine ⟨_, rfl, rfl, _, rfl, ?_⟩
    show (if (!decide (S.pref o = V.non)) = true then _ else _)
    cases ho with
    | nil =>
      rw [Nat.add_zero] at hcd
      subst hcd
      exact ⟨_, rfl, k⟩
    | @cons j m' h =>
      have hj := hlt j rfl
      refine ⟨fun σ' H'' => H'' = H' ∧ ∃ (o : Option Nat) (c : Nat), σ' = [some (.ref (S.ad .sift)), some (.int (c : Int)), some (S.pref o)] ∧ Chain S.par o m' ∧ (∀ j, o = some j → j < S.n) ∧ c + m' = d,
        fun σ' H'' q => ⟨m', Nat.lt_succ_self m', q⟩, ?_⟩
      refine ⟨_, rfl, _, _, rfl, rfl, ?_⟩
      refine ⟨_, rfl, _, T.CP, _, _, _, rfl, hS.m.own (.part j) _ (obj_part hj), T.clP, T.nP_around, pfs_around, ?_⟩
      exact ⟨rfl, (S.ps j).par, c + 1, rfl, h, fun k e => by have := hS.w.wf j k hj e; omega, by omega⟩
/-! ### told -/
def spTold (K : PySem.W.Frag) (CP CS : Addr) : Sp := fun vs H Q _ => ∃ (F : Hp) (S : SS), vs = [.ref (S.ad .sift)] ∧ SiftAt K CP CS F H S ∧ ∀ p, H p = none → Q (.ref p) (upd H p (.lst ((toldM S).map V.int)))
theorem ok_S_told (T : Tx K mg) : FnOk P w K mg base CX0 1 T.S_told.f T.S_told.fd ["self"] (spTold K T.CP T.CS) := by
  refine ok0 T.S_told.F sc_S_told (fun vs H Q E h => ?_) (fun cdv A outer s H vs Q E hr h => ?_)
  · obtain ⟨F, S, rfl, _⟩ := h
    rfl
  · obtain ⟨F, S, rfl, hS, k⟩ := h
    have h0 := hS.m.own .sift _ rfl
    refine ⟨_, pss_one (ps_ret (pe_callB (call_sortedDI rfl) (by rfl) T.z_sorted (by decide +kernel) (pa_cons (pe_fld (pv 0) rfl) pa_nil))), ?_⟩
    refine ⟨_, rfl, _, T.CS, _, _, _, rfl, h0, T.clS, T.nS_answered, sfs_answered, ?_⟩
    have hl := ans_len hS.w
    have hn := hS.w.sm
    refine ⟨_, S.kvs, S.ans.map fun i : Nat => (i : Int), rfl, .inl (hS.m.own .dict _ rfl), ?_, by rw [List.length_map]; omega, fun ys p hp1 hp2 hp => ?_⟩
    · unfold SS.kvs
      rw [List.map_map, List.map_map]
      rfl
    · rw [toldM_eq hp1 hp2]
      exact k p hp
/-! ### waiting -/
def spWaiting (K : PySem.W.Frag) (CP CS : Addr) : Sp := fun vs H Q _ => ∃ (F : Hp) (S : SS), vs = [.ref (S.ad .sift)] ∧ SiftAt K CP CS F H S ∧ ∀ H' D, Same H H' → H D = none → H' D = some (.lst ((waitM S).map V.int)) → Q (.ref D) H'
theorem ok_S_waiting (T : Tx K mg) : FnOk P w K mg base CX0 9 T.S_waiting.f T.S_waiting.fd ["self"] (spWaiting K T.CP T.CS) := by
  have GE : FnOk P w K mg base CX0 8 T.ends_of.f T.ends_of.fd ["parts", "question", "hoping"] (spEnds K T.CP) := ok_ends_of T
  have nd := sc_S_waiting.nd
  refine ok0 T.S_waiting.F sc_S_waiting (fun vs H Q E h => ?_) (fun cdv A outer s H vs Q E hr h => ?_)
  · obtain ⟨F, S, rfl, _⟩ := h
    rfl
  · obtain ⟨F, S, rfl, hS, k⟩ := h
    have h0 := hS.m.own .sift _ rfl
    obtain ⟨qs, hq1, hq2⟩ := hS.w.qd
    refine ⟨_, pss_one (ps_ret (pe_lc (own := [("part", 1)]) (g := gName 1) (tt := tB (tDNotIn (tFld K (tVar 1) "number") (tFld K (tVar 0) "answered"))) (te := tFld K (tVar 1) "number") rfl nd
      (pi_list (pe_call GE hr rfl T.ends_of.m T.ends_of.F.kp T.ends_of.b .nil pass0 (pa_cons (pe_fld (pv 0) rfl) (pa_cons (pe_fld (pv 0) rfl) (pa_cons pe_bl pa_nil)))))
      (blkOk_by (N := N_S_waiting) (sc := defScope s_S_waiting) (by decide +kernel)) (fun _ _ _ _ _ => pg_name (i := 1) nd rfl (Or.inl rfl))
      (fun _ _ _ _ _ => pts_one (pt_cmp (pc_dnotin (hu1 hr) (pe_fld (pv 1) rfl) (pe_fld (pv 0) rfl)))) (fun _ _ _ _ _ => pe_fld (pv 1) rfl))), ?_⟩
    refine ⟨_, rfl, _, T.CS, _, _, _, rfl, h0, T.clS, T.nS_parts, sfs_parts, _, rfl, _, T.CS, _, _, _, rfl, h0, T.clS, T.nS_question, sfs_question, ?_⟩
    refine ⟨S.ad .parts, S.aq, S.pa, S.psL, qs, S.q, true, rfl, hS.psv, hS.m.same.seq hq1, hq2.up hS.m.same, by have := hS.w.ql; omega, fun H1 D1 s1 hD1 hE => ?_⟩
    refine ⟨D1, rfl, ⟨_, SqL.of hE⟩, fun D hD => ?_⟩
    have hb : ∀ {i : Nat}, i < (waitE S).length → (waitE S).getD i 0 < S.n := fun {i} hi => by
      have hm : (waitE S).getD i 0 ∈ waitE S := by
        rw [List.getD_eq_getElem?_getD, List.getElem?_eq_getElem hi]
        exact List.getElem_mem hi
      have := List.mem_range.mp (List.mem_filter.mp hm).1
      rwa [psL_len] at this
    have xat : ∀ {i : Nat} {x : V}, ((endsM S.psL S.q true).map fun i => V.ref (S.pa.getD i 0))[i]? = some x → (waitE S).getD i 0 < S.n ∧ x = V.ref (S.ad (.part ((waitE S).getD i 0))) := fun {i x} hx => by
      have hi : i < (waitE S).length := by
        have := (List.getElem?_eq_some_iff.mp hx).1
        rwa [List.length_map] at this
      refine ⟨hb hi, ?_⟩
      have e : (endsM S.psL S.q true)[i]? = some ((waitE S).getD i 0) := by
        rw [List.getD_eq_getElem?_getD, show endsM S.psL S.q true = waitE S from rfl, List.getElem?_eq_getElem hi]
        rfl
      rw [List.getElem?_map, e] at hx
      rw [← pa_get (hb hi)]
      exact (Option.some.inj hx).symm
    have hlen : (waitE S).length ≤ 21 := by
      have := List.length_filter_le (fun i => hasK (reachM S.psL S.q true S.psL.length) i ((S.q.length : Int) - 1)) (List.range S.psL.length)
      rw [List.length_range, psL_len] at this
      have := hS.w.sm
      show (endsM S.psL S.q true).length ≤ 21
      unfold endsM
      rw [psL_len]
      omega
    have hS1 := hS.up s1
    refine lc_filt (K := K) (a := D1) (fun i => !(valV S.kvs (Sum.inl (((waitE S).getD i 0 : Nat) : Int))).isSome) (fun i => V.int (((waitE S).getD i 0 : Nat) : Int)) (by rw [List.length_map, sizeLine_eq]; show (waitE S).length < _; omega) (SqL.of hE) hD
      (fun i x H' kb hx sm kk => ?_) (fun i x H' kk hx sm k2 => ?_) (fun H' sm hD' => ?_)
    · obtain ⟨hi, rfl⟩ := xat hx
      have hS2 := hS1.up sm
      refine ⟨rfl, _, rfl, _, T.CP, _, _, _, rfl, hS2.m.own (.part _) _ (obj_part hi), T.clP, T.nP_number, pfs_number, _, rfl, _, T.CS, _, _, _, rfl, hS2.m.own .sift _ rfl, T.clS, T.nS_answered, sfs_answered, _, _, rfl, .k (k := Sum.inl _) (hS2.m.own .dict _ rfl), ?_⟩
      exact ⟨_, rfl, kk H' (Same.refl _)⟩
    · obtain ⟨hi, rfl⟩ := xat hx
      have hS2 := hS1.up sm
      exact ⟨_, rfl, _, T.CP, _, _, _, rfl, hS2.m.own (.part _) _ (obj_part hi), T.clP, T.nP_number, pfs_number, k2 H' (Same.refl _)⟩
    · refine k H' D (s1.trans sm) (s1.free hD) ?_
      rw [hD', List.length_map]
      unfold waitM
      rw [List.map_map]
      rfl
/-! ### is_over -/
def spOver (K : PySem.W.Frag) (CP CS : Addr) : Sp := fun vs H Q _ => ∃ (F : Hp) (S : SS), vs = [.ref (S.ad .sift)] ∧ SiftAt K CP CS F H S ∧ Q (.bl (overM S)) H
theorem ok_S_is_over (T : Tx K mg) : FnOk P w K mg base CX0 1 T.S_is_over.f T.S_is_over.fd ["self"] (spOver K T.CP T.CS) := by
  refine ok0 T.S_is_over.F sc_S_is_over (fun vs H Q E h => ?_) (fun cdv A outer s H vs Q E hr h => ?_)
  · obtain ⟨F, S, rfl, _⟩ := h
    rfl
  · obtain ⟨F, S, rfl, hS, k⟩ := h
    have h0 := hS.m.own .sift _ rfl
    refine ⟨_, pss_one (ps_ret (pe_and (pe_cmpR op_gt (pe_callB call_len_seq (by rfl) T.z_len PySem.boot_len (pa_cons (pe_fld (pv 0) rfl) pa_nil)) pe_int (nomark _)) (pe_one (pe_cmpR op_isN (pe_fld (pv 0) rfl) pe_non (nomark _))))), ?_⟩
    refine ⟨_, rfl, _, T.CS, _, _, _, rfl, h0, T.clS, T.nS_parts, sfs_parts, _, _, rfl, .inl (SqL.of (hS.m.own .parts _ rfl)), _, _, rfl, rfl, _, rfl, ?_⟩
    have e1 : (S.pa.map V.ref).length = S.n := by rw [List.length_map, pa_len]
    rw [e1]
    unfold overM at k
    have e2 : decide ((0 : Int) < (S.n : Int)) = decide (0 < S.n) := by
      by_cases h : 0 < S.n
      · rw [decide_eq_true h, decide_eq_true (by omega)]
      · rw [decide_eq_false h, decide_eq_false (by omega)]
    rw [e2]
    cases e : decide (0 < S.n) with
    | true =>
      rw [e, Bool.true_and] at k
      refine iteT ⟨_, rfl, _, T.CS, _, _, _, rfl, h0, T.clS, T.nS_here, sfs_here, rfl, ?_⟩
      rw [pref_dec]
      exact k
    | false =>
      rw [e, Bool.false_and] at k
      exact iteF k
end
end K8
/-! # What a sift refuses -/
namespace K8
open PySem PySem.Spec PyProof.Rows L2
section
variable {P : Program} {w : World} {K : PySem.W.Frag} {mg : Str → Option Value} {base : Heap}
/-! ### shortest ahead of any sign -/
def spLate (K : PySem.W.Frag) (CP CS C : Addr) : Sp := fun vs H Q E => ∃ (F : Hp) (S : SS), vs = [.ref (S.ad .sift)] ∧ SiftAt K CP CS F H S ∧ S.n = 0 ∧ E (.ref C) none H
theorem ok_S_shortest (T : Tx K mg) : FnOk P w K mg base (L2.CX P w) 1 T.S_shortest.f T.S_shortest.fd ["self"] (spLate K T.CP T.CS (T.exc 4)) := by
  refine okX T.S_shortest.F sc_S_shortest (fun vs H Q E h => ?_) (fun cdv A outer s H vs Q E hr h => ?_)
  · obtain ⟨F, S, rfl, _⟩ := h
    rfl
  · obtain ⟨F, S, rfl, hS, hn, k⟩ := h
    have h0 := hS.m.own .sift _ rfl
    obtain ⟨q1, q2, q3, q4⟩ := T.xLT
    refine ⟨_, pss_cons (ps_if (pt_cmpR op_eq (pe_callB call_len_seq (by rfl) T.z_len PySem.boot_len (pa_cons (pe_fld (pv 0) rfl) pa_nil)) pe_int (nomark _))
      (pss_one (ps_raise rfl (takes_of rfl rfl rfl rfl) (pmk_own PySem.F.excBase_ValueError q1 T.gLT q2 (raises_own q3 q4) (by rfl)))) pss_nil) pss_never, ?_⟩
    refine ⟨_, rfl, _, T.CS, _, _, _, rfl, h0, T.clS, T.nS_parts, sfs_parts, _, _, rfl, .inl (SqL.of (hS.m.own .parts _ rfl)), rfl, _, rfl, ?_⟩
    have e1 : (S.pa.map V.ref).length = 0 := by rw [List.length_map, pa_len, hn]
    rw [e1]
    exact k
/-! ### ending of a number that does not wait -/
def spEnding (K : PySem.W.Frag) (CP CS C : Addr) : Sp := fun vs H Q E => ∃ (F : Hp) (S : SS) (z : Int), vs = [.ref (S.ad .sift), .int z] ∧ SiftAt K CP CS F H S ∧ inV (.int z) ((waitM S).map V.int) = false ∧ ∀ H', Same H H' → E (.ref C) none H'
theorem flat_ints (l : List Int) : (l.map V.int).all flatV = true := by
  rw [List.all_map]
  exact List.all_eq_true.mpr fun _ _ => rfl
theorem ok_S_ending (T : Tx K mg) : FnOk P w K mg base (L2.CX P w) 10 T.S_ending.f T.S_ending.fd ["self", "number"] (spEnding K T.CP T.CS (T.exc 2)) := by
  have GW : FnOk P w K mg base CX0 9 T.S_waiting.f T.S_waiting.fd ["self"] (spWaiting K T.CP T.CS) := ok_S_waiting T
  refine okX T.S_ending.F sc_S_ending (fun vs H Q E h => ?_) (fun cdv A outer s H vs Q E hr h => ?_)
  · obtain ⟨F, S, z, rfl, _⟩ := h
    rfl
  · obtain ⟨F, S, z, rfl, hS, hz, k⟩ := h
    have h0 := hS.m.own .sift _ rfl
    obtain ⟨q1, q2, q3, q4⟩ := T.xNP
    refine ⟨_, pss_cons (ps_if (pt_cmpR op_notIn_seq (pv 1) (pe_meth0 (pv 0) T.clS T.S_waiting.m GW hr T.S_waiting.b .nil pass0) (by rfl))
      (pss_one (ps_raise rfl (takes_of rfl rfl rfl rfl) (pmk_own PySem.F.excBase_ValueError q1 T.gNP q2 (raises_own q3 q4) (by rfl)))) pss_nil) pss_never, ?_⟩
    refine ⟨_, rfl, _, rfl, _, _, _, rfl, h0, sfs_no (by decide +kernel), F, S, rfl, hS, fun H' D s1 hD hW => ?_⟩
    refine ⟨D, _, rfl, .inl (SqL.of hW), rfl, flat_ints _, _, rfl, ?_⟩
    show (if (!inV (V.int z) ((waitM S).map V.int)) = true then _ else _)
    rw [hz]
    exact k H' s1
/-! ### NoSign -/
def spNoSign (K : PySem.W.Frag) (C : Addr) : Sp := fun vs H Q _ => ∃ (a : Addr) (n : Int), vs = [.ref a, .int n] ∧ H a = some (exo a C none) ∧ ∀ dx, H dx = none → dx ≠ a → Q .non (upd (upd H dx (exd dx [("at", .int n)])) a (exo a C (some dx)))
theorem ok_I_NoSign (T : Tx K mg) : FnOk P w K mg base CX0 1 T.nsF T.nsD ["self", "at"] (spNoSign K (T.exc 0)) := by
  refine ok0 T.nsFn sc_I_NoSign (fun vs H Q E h => ?_) (fun cdv A outer s H vs Q E hr h => ?_)
  · obtain ⟨a, n, rfl, _⟩ := h
    rfl
  · obtain ⟨a, n, rfl, ha, k⟩ := h
    refine ⟨_, pss_one (ps_ost (pv 0) (pv 1)), ?_⟩
    refine ⟨_, rfl, _, rfl, a, T.exc 0, rfl, T.nsO, T.nsA, .inl ⟨ha, fun dx h1 h2 => k dx h1 h2⟩⟩
/-! ### a sign that cannot come -/
def spRefusal (K : PySem.W.Frag) (CP CS C : Addr) : Sp := fun vs H Q E => ∃ (F : Hp) (S : SS) (a : Addr) (t : Str) (r : List V) (d : Nat), vs = [.ref (S.ad .sift), .ref a] ∧ SiftAt K CP CS F H S ∧ SqT K H a (.str t :: r) ∧ Chain S.par S.here d ∧ canM t (decide (0 < S.n)) (d : Int) = false ∧
  ∀ (H' : Hp) (dd : Addr), Same H H' → H' dd = some (.xd [("at", .int (S.many : Int))]) → E (.ref C) (some dd) H'
theorem ok_S_refusal (T : Tx K mg) : FnOk P w K mg base (L2.CX P w) 9 T.S_take.f T.S_take.fd ["self", "sign"] (spRefusal K T.CP T.CS (T.exc 0)) := by
  have GC : FnOk P w K mg base CX0 1 T.can_come.f T.can_come.fd ["sign", "begun", "depth"] (spCanCome K) := ok_can_come T
  have GD : FnOk P w K mg base CX0 1 T.S_depth.f T.S_depth.fd ["self"] (spDepth K T.CP T.CS) := ok_S_depth T
  have GN : FnOk P w K mg base CX0 1 T.nsF T.nsD ["self", "at"] (spNoSign K (T.exc 0)) := ok_I_NoSign T
  refine okX T.S_take.F sc_S_take (fun vs H Q E h => ?_) (fun cdv A outer s H vs Q E hr h => ?_)
  · obtain ⟨F, S, a, t, r, d, rfl, _⟩ := h
    rfl
  · obtain ⟨F, S, a, t, r, d, rfl, hS, hs, hc, hno, k⟩ := h
    have h0 := hS.m.own .sift _ rfl
    refine ⟨_, pss_cons (ps_if (pt_not (pt_val (pe_call GC (hr.mono (by decide)) rfl T.can_come.m T.can_come.F.kp T.can_come.b .nil pass0 (pa_cons (pv 1) (pa_cons (pe_cmpR op_gt (pe_callB call_len_seq (by rfl) T.z_len PySem.boot_len (pa_cons (pe_fld (pv 0) rfl) pa_nil)) pe_int (nomark _)) (pa_cons (pe_meth0 (pv 0) T.clS T.S_depth.m GD (hr.mono (by decide)) T.S_depth.b .nil pass0) pa_nil))))))
      (pss_one (ps_raise rfl (takes_of rfl rfl rfl rfl) (pmk_oex T.nsO T.nsI T.nsT GN (hr.mono (by decide)) T.nsB .nil pass0 (by rfl) T.gNS (pa_cons (pe_fld (pv 0) rfl) pa_nil)))) pss_nil) pss_never, ?_⟩
    refine ⟨_, rfl, _, rfl, _, T.CS, _, _, _, rfl, h0, T.clS, T.nS_parts, sfs_parts, _, _, rfl, .inl (SqL.of (hS.m.own .parts _ rfl)), _, _, rfl, rfl, ?_⟩
    have e1 : (S.pa.map V.ref).length = S.n := by rw [List.length_map, pa_len]
    have e2 : decide ((0 : Int) < (S.n : Int)) = decide (0 < S.n) := by
      by_cases h : 0 < S.n
      · rw [decide_eq_true h, decide_eq_true (by omega)]
      · rw [decide_eq_false h, decide_eq_false (by omega)]
    rw [e1]
    refine ⟨_, rfl, _, _, _, rfl, h0, sfs_no (by decide +kernel), F, S, d, rfl, hS, hc, a, t, r, decide (0 < S.n), (d : Int), (by show [V.ref a, V.bl (decide ((0 : Int) < (S.n : Int))), V.int (d : Int)] = _; rw [e2]), hs, _, rfl, ?_⟩
    show (if (!canM t (decide (0 < S.n)) (d : Int)) = true then _ else _)
    rw [hno]
    refine ⟨_, rfl, _, T.CS, _, _, _, rfl, h0, T.clS, T.nS_many, sfs_many, (show (1 : Nat) ≤ 1000 by decide), fun e he => ?_⟩
    refine ⟨e, _, rfl, upd_same, fun dx hdx hne => ⟨rfl, dx, _, upd_same, by rw [upd_ne hne, upd_same], ?_, ?_⟩⟩
    · rw [upd_ne hne] at hdx
      exact hdx
    · refine k _ dx (fun b o q => ?_) upd_same
      have hbe : b ≠ e := ne_of_none q he
      have hbd : b ≠ dx := fun z => by
        subst z
        rw [upd_ne hne, q] at hdx
        cases hdx
      rw [upd_ne hbd, del_ne hbe, upd_ne hbe, upd_ne hbd, upd_ne hbe]
      exact q
end
end K8
/-! # Parts and sifts made -/
namespace K8
open PySem PySem.Spec PyProof.Rows L2
theorem pfs_build {i : Int} {nm : Str} {av : V} {lt lm : Addr} : putF "met" (.ref lm) (putF "texts" (.ref lt) (putF "is_told" (.bl false) (putF "is_open" (.bl true) (putF "around" av (putF "name" (.str nm) (putF "number" (.int i) [])))))) = pfs i nm av true lt lm := by
  rw [putF_new (f := "number") (by show ("number" : Str) ∉ ([] : List Str); decide +kernel), putF_new (f := "name") (by show ("name" : Str) ∉ [("number" : Str)]; decide +kernel), putF_new (f := "around") (by show ("around" : Str) ∉ [("number" : Str), "name"]; decide +kernel),
    putF_new (f := "is_open") (by show ("is_open" : Str) ∉ [("number" : Str), "name", "around"]; decide +kernel), putF_new (f := "is_told") (by show ("is_told" : Str) ∉ [("number" : Str), "name", "around", "is_open"]; decide +kernel),
    putF_new (f := "texts") (by show ("texts" : Str) ∉ [("number" : Str), "name", "around", "is_open", "is_told"]; decide +kernel), putF_new (f := "met") (by show ("met" : Str) ∉ [("number" : Str), "name", "around", "is_open", "is_told", "texts"]; decide +kernel)]
  rfl
theorem sfs_build {aq atl lp : Addr} {hv : V} {m : Int} {da : Addr} : putF "answered" (.ref da) (putF "many" (.int m) (putF "here" hv (putF "parts" (.ref lp) (putF "tails" (.ref atl) (putF "question" (.ref aq) []))))) = sfs aq atl lp hv m da := by
  rw [putF_new (f := "question") (by show ("question" : Str) ∉ ([] : List Str); decide +kernel), putF_new (f := "tails") (by show ("tails" : Str) ∉ [("question" : Str)]; decide +kernel), putF_new (f := "parts") (by show ("parts" : Str) ∉ [("question" : Str), "tails"]; decide +kernel),
    putF_new (f := "here") (by show ("here" : Str) ∉ [("question" : Str), "tails", "parts"]; decide +kernel), putF_new (f := "many") (by show ("many" : Str) ∉ [("question" : Str), "tails", "parts", "here"]; decide +kernel),
    putF_new (f := "answered") (by show ("answered" : Str) ∉ [("question" : Str), "tails", "parts", "here", "many"]; decide +kernel)]
  rfl
section
variable {P : Program} {w : World} {K : PySem.W.Frag} {mg : Str → Option Value} {base : Heap}
/-! ### Part -/
def spPart (K : PySem.W.Frag) (C : Addr) : Sp := fun vs H Q _ => ∃ (x dx : Addr) (i : Int) (nm : Str) (av : V), vs = [.ref x, .int i, .str nm, av] ∧ H x = some (.ins C dx []) ∧
  ∀ (lt lm : Addr) (H' : Hp), H lt = none → H lm = none → lm ≠ lt → H' x = some (.ins C dx (pfs i nm av true lt lm)) → H' lt = some (.lst []) → H' lm = some (.lst []) → (∀ b o, b ≠ x → H b = some o → H' b = some o) → Q .non H'
theorem ok_I_Part (T : Tx K mg) : FnOk P w K mg base CX0 1 T.I_Part.f T.I_Part.fd ["self", "number", "name", "around"] (spPart K T.CP) := by
  refine ok0 T.I_Part.F sc_I_Part (fun vs H Q E h => ?_) (fun cdv A outer s H vs Q E hr h => ?_)
  · obtain ⟨x, dx, i, nm, av, rfl, _⟩ := h
    rfl
  · obtain ⟨x, dx, i, nm, av, rfl, hx, k⟩ := h
    refine ⟨_, pss_cons (ps_fld (pv 0) (pv 1) rfl) (pss_cons (ps_fld (pv 0) (pv 2) rfl) (pss_cons (ps_fld (pv 0) (pv 3) rfl) (pss_cons (ps_fld (pv 0) pe_bl rfl) (pss_cons (ps_fld (pv 0) pe_bl rfl)
      (pss_cons (ps_fld (pv 0) (pe_lst pa_nil) rfl) (pss_one (ps_fld (pv 0) (pe_lst pa_nil) rfl))))))), ?_⟩
    refine ⟨_, rfl, _, rfl, x, _, dx, _, rfl, hx, T.clP, T.nP_number, (show (0 : Nat) < 1000 by decide), ?_⟩
    refine ⟨_, rfl, _, rfl, x, _, dx, _, rfl, upd_same, T.clP, T.nP_name, (show (1 : Nat) < 1000 by decide), ?_⟩
    rw [upd_upd]
    refine ⟨_, rfl, _, rfl, x, _, dx, _, rfl, upd_same, T.clP, T.nP_around, (show (2 : Nat) < 1000 by decide), ?_⟩
    rw [upd_upd]
    refine ⟨_, rfl, x, _, dx, _, rfl, upd_same, T.clP, T.nP_is_open, (show (3 : Nat) < 1000 by decide), ?_⟩
    rw [upd_upd]
    refine ⟨_, rfl, x, _, dx, _, rfl, upd_same, T.clP, T.nP_is_told, (show (4 : Nat) < 1000 by decide), ?_⟩
    rw [upd_upd]
    refine ⟨Nat.zero_le _, fun lt hlt => ⟨_, rfl, x, _, dx, _, rfl, by rw [upd_ne (ne_of_none upd_same hlt), upd_same], T.clP, T.nP_texts, by exact (show (5 : Nat) < 1000 by decide), ?_⟩⟩
    refine ⟨Nat.zero_le _, fun lm hlm => ⟨_, rfl, x, _, dx, _, rfl, by rw [upd_ne (ne_of_none upd_same hlm), upd_same], T.clP, T.nP_met, by exact (show (6 : Nat) < 1000 by decide), ?_⟩⟩
    have n1 : lt ≠ x := fun e => by rw [e, upd_same] at hlt; cases hlt
    have n2 : lm ≠ x := fun e => by rw [e, upd_same] at hlm; cases hlm
    rw [upd_ne n2] at hlm
    have n3 : lm ≠ lt := fun e => by rw [e, upd_same] at hlm; cases hlm
    rw [upd_ne n3, upd_ne n2] at hlm
    rw [upd_ne n1] at hlt
    refine k lt lm _ hlt hlm n3 ?_ ?_ ?_ fun b o hb e => ?_
    · rw [upd_same, pfs_build]
    · rw [upd_ne n1, upd_ne (Ne.symm n3), upd_ne n1, upd_same]
    · rw [upd_ne n2, upd_same]
    · rw [upd_ne hb, upd_ne (ne_of_none e hlm), upd_ne hb, upd_ne (ne_of_none e hlt), upd_ne hb]
      exact e
/-! ### Sift -/
def pt0 : Pt := ⟨"", none, false, [], []⟩
def S0 (x dx lp da aq atl : Addr) (q : Q4) (tl : List PyData) : SS :=
  { ad := fun | .sift => x | .parts => lp | .dict => da | _ => 0, dx := fun _ => dx, q := q, aq := aq, atl := atl, tl := tl, n := 0, ps := fun _ => pt0, mv := fun _ => [], here := none, many := 0, ans := [] }
def spSift (K : PySem.W.Frag) (CP CS : Addr) : Sp := fun vs H Q _ => ∃ (F : Hp) (x dx : Addr) (v : V) (l : Q4), vs = [.ref x, v] ∧ Same F H ∧ F x = none ∧ H x = some (.ins CS dx []) ∧ Dp K F v (dQ 4 l) ∧ l ≠ [] ∧ l.length ≤ 3 ∧
  ∀ (F' H' : Hp) (S : SS), Same F F' → SiftAt K CP CS F' H' S → S.ad .sift = x → S.n = 0 → S.here = none → S.many = 0 → (∀ i, S.mv i = []) → (∀ i, (S.ps i).tx = []) → Q .non H'
theorem ok_I_Sift (T : Tx K mg) : FnOk P w K mg base CX0 10 T.I_Sift.f T.I_Sift.fd ["self", "question"] (spSift K T.CP T.CS) := by
  have GC : FnOk P w K mg base CX0 9 T.copy_steps.f T.copy_steps.fd ["steps"] (spCopyS K 4) := ok_copy_steps T (ok_copy_wish T 4)
  have GT : FnOk P w K mg base CX0 9 T.tails_of.f T.tails_of.fd ["steps"] (spTailsOf K 4) := ok_tails_of T (by decide) (ok_tails_in T 4 (by decide))
  refine ok0 T.I_Sift.F sc_I_Sift (fun vs H Q E h => ?_) (fun cdv A outer s H vs Q E hr h => ?_)
  · obtain ⟨F, x, dx, v, l, rfl, _⟩ := h
    rfl
  · obtain ⟨F, x, dx, v, l, rfl, sF, fx, hx, hd, hl0, hl3, k⟩ := h
    refine ⟨_, pss_cons (ps_fld (pv 0) (pe_call GC hr rfl T.copy_steps.m T.copy_steps.F.kp T.copy_steps.b .nil pass0 (pa_cons (pv 1) pa_nil)) rfl)
      (pss_cons (ps_fld (pv 0) (pe_call GT hr rfl T.tails_of.m T.tails_of.F.kp T.tails_of.b .nil pass0 (pa_cons (pe_fld (pv 0) rfl) pa_nil)) rfl)
      (pss_cons (ps_fld (pv 0) (pe_lst pa_nil) rfl) (pss_cons (ps_fld (pv 0) pe_non rfl) (pss_cons (ps_fld (pv 0) pe_int rfl) (pss_one (ps_fld (pv 0) pe_dnewK rfl)))))), ?_⟩
    refine ⟨_, rfl, F, v, l, rfl, sF, hd, by omega, fun F1 H1 v1 g1 hd1 => ?_⟩
    obtain ⟨aq, qs, rfl, hq, hqs⟩ := dp_list hd1
    have x1 : H1 x = some (.ins T.CS dx []) := g1.same _ _ hx
    refine ⟨_, rfl, x, _, dx, _, rfl, x1, T.clS, T.nS_question, (show (0 : Nat) < 1000 by decide), ?_⟩
    have hM : ∀ b, b = x → F b = none ∧ H b ≠ none := fun b e => ⟨by rw [e]; exact fx, by rw [e, hx]; exact fun z => nomatch z⟩
    have G1 : Grow (· = x) F H F1 (upd H1 x (.ins T.CS dx (putF "question" (.ref aq) []))) := (g1.weak hM).putM rfl
    generalize hH2 : upd H1 x (.ins T.CS dx (putF "question" (.ref aq) [])) = H2 at G1
    have x2 : H2 x = some (.ins T.CS dx (putF "question" (.ref aq) [])) := by rw [← hH2]; exact upd_same
    refine ⟨_, rfl, x, T.CS, dx, _, V.ref aq, rfl, x2, T.clS, T.nS_question, (sfs_question (aq := aq) (atl := 0) (lp := 0) (hv := .non) (m := 0) (da := 0)).symm ▸ ?_, ?_⟩
    · rfl
    refine ⟨F1, V.ref aq, l, rfl, G1.inn, .lst hq hqs, hl3, fun F3 H3 p vs ds g3 hp3 fp3 hp hvs hT hlen => ?_⟩
    have x3 := g3.same _ _ x2
    have f1x : F1 x = none := G1.mm x rfl
    have hxp : x ≠ p := fun e => by rw [← e, x2] at hp3; cases hp3
    have hHp : H p = none := G1.hl (fun e => hxp e.symm) hp3
    have G3 : Grow (· = x) F H (upd F3 p (.lst vs)) H3 := (G1.trans (g3.weak fun b e => ⟨by rw [e]; exact f1x, by rw [e, x2]; exact fun z => nomatch z⟩)).frz (fun e => hxp e.symm) hHp hp
    have hF3p := same_new (o := .lst vs) fp3
    have hvs' := hvs.up hF3p
    have hqs' := (hqs.up g3.sub).up hF3p
    have hq' : SqL K (upd F3 p (.lst vs)) aq qs := (g3.sub.trans hF3p).seq hq
    have hpF : SqL K (upd F3 p (.lst vs)) p vs := SqL.of upd_same
    generalize upd F3 p (.lst vs) = F4 at G3 hvs' hqs' hq' hpF
    refine ⟨_, rfl, x, _, dx, _, rfl, x3, T.clS, T.nS_tails, by exact (show (1 : Nat) < 1000 by decide), ?_⟩
    have G4 := G3.putM (o := .ins T.CS dx (putF "tails" (.ref p) (putF "question" (.ref aq) []))) (l := x) rfl
    refine ⟨Nat.zero_le _, fun lp hlp => ⟨_, rfl, x, _, dx, _, rfl, by rw [upd_ne (ne_of_none upd_same hlp), upd_same], T.clS, T.nS_parts, by exact (show (2 : Nat) < 1000 by decide), ?_⟩⟩
    refine ⟨_, rfl, x, _, dx, _, rfl, upd_same, T.clS, T.nS_here, by exact (show (3 : Nat) < 1000 by decide), ?_⟩
    rw [upd_upd]
    refine ⟨_, rfl, x, _, dx, _, rfl, upd_same, T.clS, T.nS_many, by exact (show (4 : Nat) < 1000 by decide), ?_⟩
    rw [upd_upd]
    refine fun da hda => ⟨_, rfl, x, _, dx, _, rfl, by rw [upd_ne (ne_of_none upd_same hda), upd_same], T.clS, T.nS_answered, by exact (show (5 : Nat) < 1000 by decide), ?_⟩
    rw [sfs_build]
    have n1 : lp ≠ x := fun e => by rw [e, upd_same] at hlp; cases hlp
    have n2 : da ≠ x := fun e => by rw [e, upd_same] at hda; cases hda
    rw [upd_ne n2] at hda
    have n3 : da ≠ lp := fun e => by rw [e, upd_same] at hda; cases hda
    rw [upd_ne n3, upd_ne n2] at hda
    rw [upd_ne n1] at hlp
    have f4 : ∀ {b}, H3 b = none → F4 b = none := fun {b} e => by
      cases q : F4 b with
      | none => rfl
      | some o => rw [G3.inn b o q] at e; cases e
    refine k F4 _ (S0 x dx lp da aq p l ds) G3.sub ⟨⟨fun b o e => ?_, fun r o e => ?_, fun r o e => ?_, fun r r' o o' e e' q => ?_⟩, ⟨⟨qs, hq', hqs'⟩, hl0, hl3, ⟨vs, hpF, hvs'⟩, hT, ?_, fun i hi => absurd hi (Nat.not_lt_zero _), fun i j hi => absurd hi (Nat.not_lt_zero _), fun j e => (nomatch e), List.nodup_nil, fun i hi => (nomatch hi), Nat.zero_le _⟩⟩ rfl rfl rfl rfl (fun _ => rfl) (fun _ => rfl)
    · have hbx : b ≠ x := fun z => by
        rw [z, G3.mm x rfl] at e
        cases e
      rw [upd_ne hbx, upd_ne (ne_of_none e (f4 hda)), upd_ne hbx, upd_ne (ne_of_none e (f4 hlp)), upd_ne hbx]
      exact G3.inn b o e
    · cases r with
      | sift =>
        cases e
        exact upd_same
      | parts =>
        cases e
        show upd _ x _ lp = _
        rw [upd_ne n1, upd_ne (Ne.symm n3), upd_ne n1, upd_same]
        rfl
      | dict =>
        cases e
        show upd _ x _ da = _
        rw [upd_ne n2, upd_same]
        rfl
      | _ => cases e
    · cases r with
      | sift => exact G3.mm x rfl
      | parts => exact f4 hlp
      | dict => exact f4 hda
      | _ => cases e
    · cases r with
      | sift =>
        cases r' with
        | sift => rfl
        | parts => exact absurd q.symm n1
        | dict => exact absurd q.symm n2
        | _ => cases e'
      | parts =>
        cases r' with
        | sift => exact absurd q n1
        | parts => rfl
        | dict => exact absurd q.symm n3
        | _ => cases e'
      | dict =>
        cases r' with
        | sift => exact absurd q n2
        | parts => exact absurd q n3
        | dict => rfl
        | _ => cases e'
      | _ => cases e
    · have hm : l.length * (1 + bi 4) ≤ 3 * 121 := Nat.mul_le_mul hl3 (by have := bi_le (n := 4) (by decide); omega)
      show ds.length ≤ 363
      omega
end
end K8
/-! # How a sift's state changes -/
namespace K8
open PySem PySem.Spec PyProof.Rows L2
section
variable {K : PySem.W.Frag} {CP CS : Addr} {F F' H H' : Hp} {S S' : SS}
theorem SiftAt.beside {l : Addr} {o : HO} (h : SiftAt K CP CS F H S) (hf : F l = none) (hn : ∀ r u, S.obj CP CS r = some u → S.ad r ≠ l) : SiftAt K CP CS F (upd H l o) S :=
  ⟨{ h.m with same := fun b u e => by rw [upd_ne (ne_of_none e hf)]; exact h.m.same b u e, own := fun r u e => by rw [upd_ne (hn r u e)]; exact h.m.own r u e }, h.w⟩
theorem SiftAt.ne {l : Addr} (h : SiftAt K CP CS F H S) (hl : H l = none) : ∀ r u, S.obj CP CS r = some u → S.ad r ≠ l := fun r u e z => by
  have := h.m.own r u e
  rw [z, hl] at this
  cases this
def SS.wMany (S : SS) (m : Nat) : SS := { S with many := m }
theorem SiftAt.wMany (h : SiftAt K CP CS F H S) (m : Nat) : SiftAt K CP CS F (upd H (S.ad .sift) (.ins CS (S.dx .sift) (sfs S.aq S.atl (S.ad .parts) (S.pref S.here) (m : Int) (S.ad .dict)))) (S.wMany m) :=
  ⟨h.m.put (r := .sift) rfl rfl (fun r' hr => by
    cases r' with
    | sift => exact absurd rfl hr
    | _ => rfl) rfl, { h.w with }⟩
def SS.wHere (S : SS) (o : Option Nat) : SS := { S with here := o }
theorem SiftAt.wHere (h : SiftAt K CP CS F H S) {o : Option Nat} (ho : ∀ j, o = some j → j < S.n) : SiftAt K CP CS F (upd H (S.ad .sift) (.ins CS (S.dx .sift) (sfs S.aq S.atl (S.ad .parts) (S.pref o) (S.many : Int) (S.ad .dict)))) (S.wHere o) :=
  ⟨h.m.put (r := .sift) rfl rfl (fun r' hr => by
    cases r' with
    | sift => exact absurd rfl hr
    | _ => rfl) rfl, { h.w with hw := ho }⟩
def SS.wShut (S : SS) (j : Nat) : SS := { S with ps := fun i => { S.ps i with op := if i = j then false else (S.ps i).op } }
theorem SiftAt.wShut (h : SiftAt K CP CS F H S) {j : Nat} (hj : j < S.n) : SiftAt K CP CS F (upd H (S.ad (.part j)) (.ins CP (S.dx (.part j)) (pfs (j : Int) (S.ps j).nm (S.pref (S.ps j).par) false (S.ad (.txt j)) (S.ad (.met j))))) (S.wShut j) :=
  ⟨h.m.put (r := .part j) (obj_part hj) rfl (fun r' hr => by
    cases r' with
    | part i =>
      have hij : ¬ i = j := fun e => hr (by rw [e])
      show (if i < S.n then some (HO.ins CP (S.dx (.part i)) (pfs (i : Int) (S.ps i).nm (S.pref (S.ps i).par) (if i = j then false else (S.ps i).op) (S.ad (.txt i)) (S.ad (.met i)))) else none) = _
      rw [if_neg hij]
      rfl
    | _ => rfl) (by
      show (if j < S.n then some (HO.ins CP (S.dx (.part j)) (pfs (j : Int) (S.ps j).nm (S.pref (S.ps j).par) (if j = j then false else (S.ps j).op) (S.ad (.txt j)) (S.ad (.met j)))) else none) = _
      rw [if_pos hj, if_pos rfl]), { h.w with }⟩
def SS.wText (S : SS) (j : Nat) (t : Str) : SS := { S with ps := fun i => { S.ps i with tx := if i = j then (S.ps j).tx ++ [t] else (S.ps i).tx } }
theorem SiftAt.wText (h : SiftAt K CP CS F H S) {j : Nat} (hj : j < S.n) (t : Str) : SiftAt K CP CS F (upd H (S.ad (.txt j)) (.lst (((S.ps j).tx ++ [t]).map V.str))) (S.wText j t) :=
  ⟨h.m.put (r := .txt j) (obj_txt hj) rfl (fun r' hr => by
    cases r' with
    | txt i =>
      have hij : ¬ i = j := fun e => hr (by rw [e])
      show (if i < S.n then some (HO.lst ((if i = j then (S.ps j).tx ++ [t] else (S.ps i).tx).map V.str)) else none) = _
      rw [if_neg hij]
      rfl
    | _ => rfl) (by
      show (if j < S.n then some (HO.lst ((if j = j then (S.ps j).tx ++ [t] else (S.ps j).tx).map V.str)) else none) = _
      rw [if_pos hj, if_pos rfl]), { h.w with }⟩
def SS.wAns (S : SS) (i : Nat) : SS := { S with ans := S.ans ++ [i] }
theorem SiftAt.wAns (h : SiftAt K CP CS F H S) {i : Nat} (hi : i < S.n) (hn : i ∉ S.ans) : SiftAt K CP CS F (upd H (S.ad .dict) (.dK (S.kvs ++ [(Sum.inl (i : Int), V.bl true)]))) (S.wAns i) :=
  ⟨h.m.put (r := .dict) rfl rfl (fun r' hr => by
    cases r' with
    | dict => exact absurd rfl hr
    | _ => rfl) (by
      show some (HO.dK ((S.ans ++ [i]).map fun i : Nat => ((Sum.inl (i : Int) : Key), V.bl true))) = _
      rw [List.map_append]
      rfl), { h.w with
    nd := by
      show (S.ans ++ [i]).Nodup
      rw [List.nodup_append]
      exact ⟨h.w.nd, by simp, fun a ha b hb e => by
        rw [List.mem_singleton] at hb
        subst e hb
        exact hn ha⟩
    al := fun k hk => by
      rcases List.mem_append.mp hk with q | q
      · exact h.w.al k q
      · rw [List.mem_singleton.mp q]
        exact hi }⟩
/-- a new part -/
def SS.opn (S : SS) (x dxp lt lm : Addr) (nm : Str) : SS :=
  { S with ad := fun r => if r = .part S.n then x else if r = .txt S.n then lt else if r = .met S.n then lm else S.ad r, dx := fun r => if r = .part S.n then dxp else S.dx r, n := S.n + 1,
           ps := fun i => if i = S.n then ⟨nm, S.here, true, [], []⟩ else S.ps i, mv := fun i => if i = S.n then [] else S.mv i, here := some S.n }
section
variable {x dxp lt lm : Addr} {nm : Str}
theorem opn_ad {r : Rl} (h1 : r ≠ .part S.n) (h2 : r ≠ .txt S.n) (h3 : r ≠ .met S.n) : (S.opn x dxp lt lm nm).ad r = S.ad r := by
  show (if r = .part S.n then x else if r = .txt S.n then lt else if r = .met S.n then lm else S.ad r) = _
  rw [if_neg h1, if_neg h2, if_neg h3]
theorem opn_adp : (S.opn x dxp lt lm nm).ad (.part S.n) = x := if_pos rfl
theorem opn_adt : (S.opn x dxp lt lm nm).ad (.txt S.n) = lt := by
  show (if Rl.txt S.n = .part S.n then x else if Rl.txt S.n = .txt S.n then lt else _) = _
  rw [if_neg (fun e => nomatch e), if_pos rfl]
theorem opn_adm : (S.opn x dxp lt lm nm).ad (.met S.n) = lm := by
  show (if Rl.met S.n = .part S.n then x else if Rl.met S.n = .txt S.n then lt else if Rl.met S.n = .met S.n then lm else _) = _
  rw [if_neg (fun e => nomatch e), if_neg (fun e => nomatch e), if_pos rfl]
theorem opn_part {i : Nat} (h : i ≠ S.n) : (S.opn x dxp lt lm nm).ad (.part i) = S.ad (.part i) := opn_ad (fun e => h (Rl.part.inj e)) (fun e => nomatch e) (fun e => nomatch e)
theorem opn_txt {i : Nat} (h : i ≠ S.n) : (S.opn x dxp lt lm nm).ad (.txt i) = S.ad (.txt i) := opn_ad (fun e => nomatch e) (fun e => h (Rl.txt.inj e)) (fun e => nomatch e)
theorem opn_met {i : Nat} (h : i ≠ S.n) : (S.opn x dxp lt lm nm).ad (.met i) = S.ad (.met i) := opn_ad (fun e => nomatch e) (fun e => nomatch e) (fun e => h (Rl.met.inj e))
theorem opn_ps {i : Nat} (h : i ≠ S.n) : (S.opn x dxp lt lm nm).ps i = S.ps i := if_neg h
theorem opn_psn : (S.opn x dxp lt lm nm).ps S.n = ⟨nm, S.here, true, [], []⟩ := if_pos rfl
theorem opn_mv {i : Nat} (h : i ≠ S.n) : (S.opn x dxp lt lm nm).mv i = S.mv i := if_neg h
theorem opn_mvn : (S.opn x dxp lt lm nm).mv S.n = [] := if_pos rfl
theorem opn_dx {r : Rl} (h : r ≠ .part S.n) : (S.opn x dxp lt lm nm).dx r = S.dx r := if_neg h
theorem opn_pref {o : Option Nat} (h : ∀ j, o = some j → j < S.n) : (S.opn x dxp lt lm nm).pref o = S.pref o := by
  cases o with
  | none => rfl
  | some j =>
    have := h j rfl
    exact congrArg V.ref (opn_part (by omega))
theorem opn_pa : (S.opn x dxp lt lm nm).pa = S.pa ++ [x] := by
  show (List.range (S.n + 1)).map (fun i => (S.opn x dxp lt lm nm).ad (.part i)) = (List.range S.n).map (fun i => S.ad (.part i)) ++ [x]
  rw [List.range_succ, List.map_append]
  congr 1
  · refine List.map_congr_left fun i hi => opn_part ?_
    have := List.mem_range.mp hi
    omega
  · show [(S.opn x dxp lt lm nm).ad (.part S.n)] = [x]
    rw [opn_adp]
/-- every object of the new state is an old one, or one of the three new ones -/
theorem opn_cls (h : Wf K F S) {r : Rl} {o : HO} (e : (S.opn x dxp lt lm nm).obj CP CS r = some o) :
    (∃ u, S.obj CP CS r = some u ∧ (S.opn x dxp lt lm nm).ad r = S.ad r ∧ (r ≠ .sift → r ≠ .parts → o = u)) ∨ (r = .part S.n ∧ o = .ins CP dxp (pfs (S.n : Int) nm (S.pref S.here) true lt lm)) ∨ (r = .txt S.n ∧ o = .lst []) ∨ (r = .met S.n ∧ o = .lst []) := by
  cases r with
  | sift => exact .inl ⟨_, rfl, opn_ad (fun e => nomatch e) (fun e => nomatch e) (fun e => nomatch e), fun z => absurd rfl z⟩
  | parts => exact .inl ⟨_, rfl, opn_ad (fun e => nomatch e) (fun e => nomatch e) (fun e => nomatch e), fun _ z => absurd rfl z⟩
  | dict => exact .inl ⟨_, rfl, opn_ad (fun e => nomatch e) (fun e => nomatch e) (fun e => nomatch e), fun _ _ => (Option.some.inj e).symm⟩
  | part i =>
    have hi : i < S.n + 1 := by
      by_cases hi : i < S.n + 1
      · exact hi
      · rw [show (S.opn x dxp lt lm nm).obj CP CS (.part i) = none from if_neg hi] at e
        cases e
    rw [obj_part (S := S.opn x dxp lt lm nm) hi] at e
    by_cases hn : i = S.n
    · subst hn
      refine .inr (.inl ⟨rfl, ?_⟩)
      rw [← Option.some.inj e, opn_psn, opn_adt, opn_adm, show (S.opn x dxp lt lm nm).pref S.here = S.pref S.here from opn_pref h.hw, show (S.opn x dxp lt lm nm).dx (.part S.n) = dxp from if_pos rfl]
    · have hi' : i < S.n := by omega
      refine .inl ⟨_, obj_part hi', opn_part hn, fun _ _ => ?_⟩
      rw [← Option.some.inj e, opn_ps hn, opn_txt hn, opn_met hn, opn_pref fun j q => by have := h.wf i j hi' q; omega, opn_dx fun z => hn (Rl.part.inj z)]
  | txt i =>
    have hi : i < S.n + 1 := by
      by_cases hi : i < S.n + 1
      · exact hi
      · rw [show (S.opn x dxp lt lm nm).obj CP CS (.txt i) = none from if_neg hi] at e
        cases e
    rw [obj_txt (S := S.opn x dxp lt lm nm) hi] at e
    by_cases hn : i = S.n
    · subst hn
      refine .inr (.inr (.inl ⟨rfl, ?_⟩))
      rw [← Option.some.inj e, opn_psn]
      rfl
    · refine .inl ⟨_, obj_txt (by omega), opn_txt hn, fun _ _ => ?_⟩
      rw [← Option.some.inj e, opn_ps hn]
  | met i =>
    have hi : i < S.n + 1 := by
      by_cases hi : i < S.n + 1
      · exact hi
      · rw [show (S.opn x dxp lt lm nm).obj CP CS (.met i) = none from if_neg hi] at e
        cases e
    rw [obj_met (S := S.opn x dxp lt lm nm) hi] at e
    by_cases hn : i = S.n
    · subst hn
      refine .inr (.inr (.inr ⟨rfl, ?_⟩))
      rw [← Option.some.inj e, opn_mvn]
    · refine .inl ⟨_, obj_met (by omega), opn_met hn, fun _ _ => ?_⟩
      rw [← Option.some.inj e, opn_mv hn]
theorem SiftAt.opn (h : SiftAt K CP CS F H S) (hx : H x = none) (hlt : H lt = none) (hlm : H lm = none) (d1 : lt ≠ x) (d2 : lm ≠ x) (d3 : lm ≠ lt) (hs : S.n ≤ 20) (old : ∀ b o, b ≠ S.ad .sift → b ≠ S.ad .parts → H b = some o → H' b = some o)
    (e1 : H' (S.ad .sift) = some (.ins CS (S.dx .sift) (sfs S.aq S.atl (S.ad .parts) (.ref x) (S.many : Int) (S.ad .dict)))) (e2 : H' (S.ad .parts) = some (.lst (S.pa.map V.ref ++ [.ref x])))
    (e3 : H' x = some (.ins CP dxp (pfs (S.n : Int) nm (S.pref S.here) true lt lm))) (e4 : H' lt = some (.lst [])) (e5 : H' lm = some (.lst [])) : SiftAt K CP CS F H' (S.opn x dxp lt lm nm) := by
  have fn : ∀ {b}, H b = none → F b = none := fun e => h.m.same.free e
  have hsn : S.ad .sift ≠ S.ad .parts := fun e => by cases h.m.inj .sift .parts _ _ rfl rfl e
  refine ⟨⟨fun b u e => ?_, fun r o e => ?_, fun r o e => ?_, fun r r' o o' e e' q => ?_⟩, ?_⟩
  · exact old b u (fun z => by rw [z, h.m.fr .sift _ rfl] at e; cases e) (fun z => by rw [z, h.m.fr .parts _ rfl] at e; cases e) (h.m.same b u e)
  · rcases opn_cls h.w e with ⟨u, hu, ha, hq⟩ | ⟨rfl, rfl⟩ | ⟨rfl, rfl⟩ | ⟨rfl, rfl⟩
    · by_cases k1 : r = .sift
      · subst k1
        rw [ha, e1, ← e]
        show _ = some (HO.ins CS (if Rl.sift = .part S.n then dxp else S.dx .sift) (sfs S.aq S.atl ((S.opn x dxp lt lm nm).ad .parts) (.ref ((S.opn x dxp lt lm nm).ad (.part S.n))) (S.many : Int) ((S.opn x dxp lt lm nm).ad .dict)))
        rw [if_neg (fun e => nomatch e), opn_adp, opn_ad (r := .parts) (fun e => nomatch e) (fun e => nomatch e) (fun e => nomatch e), opn_ad (r := .dict) (fun e => nomatch e) (fun e => nomatch e) (fun e => nomatch e)]
      · by_cases k2 : r = .parts
        · subst k2
          rw [ha, e2, ← e]
          show _ = some (HO.lst ((S.opn x dxp lt lm nm).pa.map V.ref))
          rw [opn_pa, List.map_append]
          rfl
        · rw [ha, hq k1 k2]
          exact old _ _ (fun z => k1 (h.m.inj r .sift _ _ hu rfl z)) (fun z => k2 (h.m.inj r .parts _ _ hu rfl z)) (h.m.own r u hu)
    · rw [opn_adp]; exact e3
    · rw [opn_adt]; exact e4
    · rw [opn_adm]; exact e5
  · rcases opn_cls h.w e with ⟨u, hu, ha, hq⟩ | ⟨rfl, rfl⟩ | ⟨rfl, rfl⟩ | ⟨rfl, rfl⟩
    · rw [ha]; exact h.m.fr r u hu
    · rw [opn_adp]; exact fn hx
    · rw [opn_adt]; exact fn hlt
    · rw [opn_adm]; exact fn hlm
  · have hne : ∀ {r u b}, S.obj CP CS r = some u → H b = none → S.ad r ≠ b := fun hu hb => h.ne hb _ _ hu
    rcases opn_cls h.w e with ⟨u, hu, ha, _⟩ | ⟨rfl, rfl⟩ | ⟨rfl, rfl⟩ | ⟨rfl, rfl⟩
    · rcases opn_cls h.w e' with ⟨u', hu', ha', _⟩ | ⟨rfl, rfl⟩ | ⟨rfl, rfl⟩ | ⟨rfl, rfl⟩
      · rw [ha, ha'] at q
        exact h.m.inj r r' u u' hu hu' q
      · rw [ha, opn_adp] at q
        exact absurd q (hne hu hx)
      · rw [ha, opn_adt] at q
        exact absurd q (hne hu hlt)
      · rw [ha, opn_adm] at q
        exact absurd q (hne hu hlm)
    · rw [opn_adp] at q
      rcases opn_cls h.w e' with ⟨u', hu', ha', _⟩ | ⟨rfl, rfl⟩ | ⟨rfl, rfl⟩ | ⟨rfl, rfl⟩
      · rw [ha'] at q
        exact absurd q.symm (hne hu' hx)
      · rfl
      · rw [opn_adt] at q
        exact absurd q.symm d1
      · rw [opn_adm] at q
        exact absurd q.symm d2
    · rw [opn_adt] at q
      rcases opn_cls h.w e' with ⟨u', hu', ha', _⟩ | ⟨rfl, rfl⟩ | ⟨rfl, rfl⟩ | ⟨rfl, rfl⟩
      · rw [ha'] at q
        exact absurd q.symm (hne hu' hlt)
      · rw [opn_adp] at q
        exact absurd q d1
      · rfl
      · rw [opn_adm] at q
        exact absurd q.symm d3
    · rw [opn_adm] at q
      rcases opn_cls h.w e' with ⟨u', hu', ha', _⟩ | ⟨rfl, rfl⟩ | ⟨rfl, rfl⟩ | ⟨rfl, rfl⟩
      · rw [ha'] at q
        exact absurd q.symm (hne hu' hlm)
      · rw [opn_adp] at q
        exact absurd q d2
      · rw [opn_adt] at q
        exact absurd q d3
      · rfl
  · refine { h.w with md := fun i hi => ?_, wf := fun i j hi e => ?_, hw := fun j e => ?_, al := fun i hi => ?_, sm := ?_ }
    · by_cases hn : i = S.n
      · subst hn
        rw [opn_mvn, opn_psn]
        exact ⟨.nil, fun _ z => (nomatch z)⟩
      · rw [opn_mv hn, opn_ps hn]
        exact h.w.md i (by have hi' : i < S.n + 1 := hi; omega)
    · by_cases hn : i = S.n
      · subst hn
        rw [opn_psn] at e
        exact h.w.hw j e
      · rw [opn_ps hn] at e
        exact h.w.wf i j (by have hi' : i < S.n + 1 := hi; omega) e
    · have : S.n = j := Option.some.inj e
      show j < S.n + 1
      omega
    · have := h.w.al i hi
      show i < S.n + 1
      omega
    · show S.n + 1 ≤ 21
      omega
end
end
end K8
/-! # A sign taken -/
namespace K8
open PySem PySem.Spec PyProof.Rows L2
inductive Sg where
  | op (nm : Str) | tx (t : Str) | cl
def sgT : Sg → Str
  | .op _ => "open" | .tx _ => "text" | .cl => "close"
def sgR : Sg → List V
  | .op n => [.str n] | .tx t => [.str t] | .cl => []
def sgV (g : Sg) : List V := .str (sgT g) :: sgR g
def Sg.ok : Sg → Nat → Nat → Prop
  | .op _, n, d => 0 < d ∨ n = 0
  | _, _, d => 0 < d
def Sg.dep : Sg → Nat → Nat
  | .op _, d => d + 1
  | .tx _, d => d
  | .cl, d => d - 1
theorem can_ok {g : Sg} {n d : Nat} (h : g.ok n d) : canM (sgT g) (decide (0 < n)) (d : Int) = true := by
  unfold canM
  cases g with
  | op nm =>
    rw [if_pos (by show decide (V.str "open" = V.str "open") = true; decide +kernel)]
    rcases h with h | h
    · rw [decide_eq_true (show (0 : Int) < (d : Int) by omega)]
      rfl
    · subst h
      simp
  | tx t =>
    rw [if_neg (by show ¬ decide (V.str "text" = V.str "open") = true; decide +kernel)]
    exact decide_eq_true (show (0 : Int) < (d : Int) by have : 0 < d := h; omega)
  | cl =>
    rw [if_neg (by show ¬ decide (V.str "close" = V.str "open") = true; decide +kernel)]
    exact decide_eq_true (show (0 : Int) < (d : Int) by have : 0 < d := h; omega)
/-- a sift that may go on -/
structure Live (K : PySem.W.Frag) (CP CS : Addr) (F H : Hp) (S : SS) (d : Nat) : Prop where
  at_ : SiftAt K CP CS F H S
  ch : Chain S.par S.here d
  nm : S.n ≤ S.many
  mm : S.many ≤ 20
  mv : ∀ i, (S.mv i).length ≤ S.many * 176000
  tx : ∀ i, (S.ps i).tx.length ≤ S.many
  bg : 0 < S.many → 0 < S.n
theorem Chain.inv {p : Nat → Option Nat} {j d : Nat} (h : Chain p (some j) d) : ∃ d', d = d' + 1 ∧ Chain p (p j) d' := by
  cases h with
  | cons h => exact ⟨_, rfl, h⟩
theorem Chain.pos {p : Nat → Option Nat} {o : Option Nat} {d : Nat} (h : Chain p o d) (hd : 0 < d) : ∃ j, o = some j := by
  cases h with
  | nil => exact absurd hd (Nat.lt_irrefl 0)
  | cons h => exact ⟨_, rfl⟩
def SS.wA (S : SS) (an : List Nat) : SS := { S with ans := an }
theorem wA_ne {K : PySem.W.Frag} {CP CS : Addr} {F H : Hp} {S : SS} {l : Addr} (h : SiftAt K CP CS F H S) (hl : H l = none) (an : List Nat) : ∀ r u, (S.wA an).obj CP CS r = some u → S.ad r ≠ l := fun r u e => by
  cases r with
  | dict => exact h.ne hl .dict _ rfl
  | sift => exact h.ne hl .sift _ rfl
  | parts => exact h.ne hl .parts _ rfl
  | part i => exact h.ne hl (.part i) u e
  | txt i => exact h.ne hl (.txt i) u e
  | met i => exact h.ne hl (.met i) u e
section
variable {P : Program} {w : World} {K : PySem.W.Frag} {mg : Str → Option Value} {base : Heap}
def spTake (K : PySem.W.Frag) (CP CS : Addr) : Sp := fun vs H Q _ => ∃ (F : Hp) (S : SS) (a : Addr) (g : Sg) (d : Nat), vs = [.ref (S.ad .sift), .ref a] ∧ Live K CP CS F H S d ∧ SqT K F a (sgV g) ∧ g.ok S.n d ∧ S.many ≤ 19 ∧
  ∀ (F' H' : Hp) (S' : SS) (v : V), Same F F' → Live K CP CS F' H' S' (g.dep d) → S'.ad .sift = S.ad .sift → S'.many = S.many + 1 → Q v H'
theorem valV_ans {S : SS} {i : Nat} (h : (valV S.kvs (Sum.inl (i : Int))).isSome = false) : i ∉ S.ans := fun hm => by
  have : valV S.kvs (Sum.inl (i : Int)) ≠ none := by
    unfold valV SS.kvs
    intro e
    rw [Option.map_eq_none_iff, List.find?_eq_none] at e
    have := e (Sum.inl (i : Int), V.bl true) (List.mem_map.mpr ⟨i, hm, rfl⟩)
    simp at this
  cases e : valV S.kvs (Sum.inl (i : Int)) with
  | none => exact this e
  | some v => rw [e] at h; cases h
theorem put_ans {S : SS} {i : Nat} (h : i ∉ S.ans) : putK S.kvs (Sum.inl (i : Int)) (V.bl true) = S.kvs ++ [(Sum.inl (i : Int), V.bl true)] := by
  unfold putK
  rw [if_neg]
  intro e
  obtain ⟨p, hp, hq⟩ := List.any_eq_true.mp e
  obtain ⟨j, hj, rfl⟩ := List.mem_map.mp hp
  have : (Sum.inl (j : Int) : Key) = Sum.inl (i : Int) := of_decide_eq_true hq
  have := Sum.inl.inj this
  have : j = i := by omega
  subst this
  exact h hj
theorem ok_S_take (T : Tx K mg) : FnOk P w K mg base CX0 9 T.S_take.f T.S_take.fd ["self", "sign"] (spTake K T.CP T.CS) := by
  have GC : FnOk P w K mg base CX0 1 T.can_come.f T.can_come.fd ["sign", "begun", "depth"] (spCanCome K) := ok_can_come T
  have GD : FnOk P w K mg base CX0 1 T.S_depth.f T.S_depth.fd ["self"] (spDepth K T.CP T.CS) := ok_S_depth T
  have GP : FnOk P w K mg base CX0 1 T.I_Part.f T.I_Part.fd ["self", "number", "name", "around"] (spPart K T.CP) := ok_I_Part T
  have GR : FnOk P w K mg base CX0 7 T.refresh_all.f T.refresh_all.fd ["part", "tails"] (spRefreshAll K T.CP T.CS) := ok_refresh_all T
  have GE : FnOk P w K mg base CX0 8 T.ends_of.f T.ends_of.fd ["parts", "question", "hoping"] (spEnds K T.CP) := ok_ends_of T
  have nd := sc_S_take.nd
  refine ok0 T.S_take.F sc_S_take (fun vs H Q E h => ?_) (fun cdv A outer s H vs Q E hr h => ?_)
  · obtain ⟨F, S, a, g, d, rfl, _⟩ := h
    rfl
  · obtain ⟨F, S, a, g, d, rfl, hL, hs, hok, h19, k⟩ := h
    refine ⟨_, pss_cons (ps_if (pt_not (pt_val (pe_call GC (hr.mono (by decide)) rfl T.can_come.m T.can_come.F.kp T.can_come.b .nil pass0 (pa_cons (pv 1) (pa_cons (pe_cmpR op_gt (pe_callB call_len_seq (by rfl) T.z_len PySem.boot_len (pa_cons (pe_fld (pv 0) rfl) pa_nil)) pe_int (nomark _)) (pa_cons (pe_meth0 (pv 0) T.clS T.S_depth.m GD (hr.mono (by decide)) T.S_depth.b .nil pass0) pa_nil)))))) pss_never pss_nil)
      (pss_cons (ps_fldaug (pv 0) pe_int in_add)
      (pss_mid (ps_if (pt_cmpR op_eq (pe_ix ix_tup (pv 1) pe_int (fun _ _ => rfl)) pe_str (nomark _))
          (pss_cons (ps_fld (pv 0) (pe_make T.I_Part.M GP (hr.mono (by decide)) rfl T.gP T.I_Part.b .nil pass0 (pa_cons (pe_callB call_len_seq (by rfl) T.z_len PySem.boot_len (pa_cons (pe_fld (pv 0) rfl) pa_nil)) (pa_cons (pe_ix ix_tup (pv 1) pe_int (fun _ _ => rfl)) (pa_cons (pe_fld (pv 0) rfl) pa_nil)))) rfl)
          (pss_cons (ps_expr (pe_bm PySem.F.plainAttrs_list PySem.F.slot_list_append PySem.F.type_list_append mt_append (pe_fld (pv 0) rfl) (pa_cons (pe_fld (pv 0) rfl) pa_nil)))
          (pss_one (ps_expr (pe_call GR (hr.mono (by decide)) rfl T.refresh_all.m T.refresh_all.F.kp T.refresh_all.b .nil pass0 (pa_cons (pe_fld (pv 0) rfl) (pa_cons (pe_fld (pv 0) rfl) pa_nil)))))))
          (pss_one (ps_if (pt_cmpR op_eq (pe_ix ix_tup (pv 1) pe_int (fun _ _ => rfl)) pe_str (nomark _))
            (pss_cons (ps_expr (pe_bm PySem.F.plainAttrs_list PySem.F.slot_list_append PySem.F.type_list_append mt_append (pe_fld (pe_fld (pv 0) rfl) rfl) (pa_cons (pe_ix ix_tup (pv 1) pe_int (fun _ _ => rfl)) pa_nil)))
            (pss_one (ps_expr (pe_call GR (hr.mono (by decide)) rfl T.refresh_all.m T.refresh_all.F.kp T.refresh_all.b .nil pass0 (pa_cons (pe_fld (pv 0) rfl) (pa_cons (pe_fld (pv 0) rfl) pa_nil))))))
            (pss_cons (ps_fld (pe_fld (pv 0) rfl) pe_bl rfl) (pss_one (ps_fld (pv 0) (pe_fld (pe_fld (pv 0) rfl) rfl) rfl))))))
      (pss_cons (ps_set (i := 2) nd rfl (.inl rfl) (pe_lst pa_nil))
      (pss_cons (ps_for PassesOwn.never rfl (pi_list (pe_call GE hr rfl T.ends_of.m T.ends_of.F.kp T.ends_of.b .nil pass0 (pa_cons (pe_fld (pv 0) rfl) (pa_cons (pe_fld (pv 0) rfl) (pa_cons pe_bl pa_nil))))) (pg_name (i := 3) nd rfl (.inl rfl))
        (pss_one (ps_if (pt_cmp (pc_dnotin (hu1 hr) (pe_fld (pv 3) rfl) (pe_fld (pv 0) rfl)))
          (pss_cons (ps_dput (hu1 hr) (pe_fld (pv 0) rfl) (pe_fld (pv 3) rfl) pe_bl rfl)
          (pss_one (ps_expr (pe_bm PySem.F.plainAttrs_list PySem.F.slot_list_append PySem.F.type_list_append mt_append (pv 2) (pa_cons (pe_fld (pv 3) rfl) pa_nil))))) pss_nil)))
      (pss_one (ps_ret (pv 2))))))), ?_⟩
    have hS := hL.at_
    have h0 := hS.m.own .sift _ rfl
    refine ⟨_, rfl, _, rfl, _, T.CS, _, _, _, rfl, h0, T.clS, T.nS_parts, sfs_parts, _, _, rfl, .inl (SqL.of (hS.m.own .parts _ rfl)), _, _, rfl, rfl, ?_⟩
    have e1 : (S.pa.map V.ref).length = S.n := by rw [List.length_map, pa_len]
    have e2 : decide ((0 : Int) < (S.n : Int)) = decide (0 < S.n) := by
      by_cases h : 0 < S.n
      · rw [decide_eq_true h, decide_eq_true (by omega)]
      · rw [decide_eq_false h, decide_eq_false (by omega)]
    rw [e1]
    refine ⟨_, rfl, _, _, _, rfl, h0, sfs_no (by decide +kernel), F, S, d, rfl, hS, hL.ch, a, sgT g, sgR g, decide (0 < S.n), (d : Int), (by show [V.ref a, V.bl (decide ((0 : Int) < (S.n : Int))), V.int (d : Int)] = _; rw [e2]), SqT_same hS.m.same hs, _, rfl, ?_⟩
    rw [can_ok hok]
    -- self.many += 1
    refine ⟨_, rfl, _, T.CS, _, _, _, rfl, h0, T.clS, T.nS_many, sfs_many, _, _, rfl, rfl, _, _, h0, (show (6 : Nat) < 1000 by decide), ?_⟩
    rw [sfs_put_many]
    have hS1 : SiftAt K T.CP T.CS F (upd H (S.ad .sift) (.ins T.CS (S.dx .sift) (sfs S.aq S.atl (S.ad .parts) (S.pref S.here) ((S.many : Int) + 1) (S.ad .dict)))) (S.wMany (S.many + 1)) := hS.wMany (S.many + 1)
    generalize upd H (S.ad .sift) (.ins T.CS (S.dx .sift) (sfs S.aq S.atl (S.ad .parts) (S.pref S.here) ((S.many : Int) + 1) (S.ad .dict))) = H1 at hS1 ⊢
    have hn20 : S.n ≤ 20 := by have := hL.nm; omega
    have h1 : H1 (S.ad .sift) = some (.ins T.CS (S.dx .sift) (sfs S.aq S.atl (S.ad .parts) (S.pref S.here) ((S.many : Int) + 1) (S.ad .dict))) := hS1.m.own .sift _ rfl
    have hp1 : H1 (S.ad .parts) = some (.lst (S.pa.map V.ref)) := hS1.m.own .parts _ rfl
    have hnsp : S.ad .parts ≠ S.ad .sift := fun e => by cases hS.m.inj .parts .sift _ _ rfl rfl e
    have hsz : S.many * 176000 ≤ 19 * 176000 := Nat.mul_le_mul h19 (Nat.le_refl _)
    have hsz2 : (S.many + 1) * 176000 = S.many * 176000 + 176000 := Nat.succ_mul _ _
    refine ⟨fun σ' H' => ∃ S', σ' = [some (.ref (S.ad .sift)), some (.ref a), none, none] ∧ Live K T.CP T.CS F H' S' (g.dep d) ∧ S'.ad .sift = S.ad .sift ∧ S'.many = S.many + 1, ?_, ?_⟩
    · cases g with
      | op nm =>
        have hs' : SqT K H1 a [.str "open", .str nm] := SqT_same hS1.m.same hs
        refine ⟨_, rfl, _, _, _, _, rfl, rfl, hs', atI_nat (j := 0) rfl, rfl, _, rfl, strT (by decide +kernel) ?_⟩
        refine ⟨_, rfl, _, T.CS, _, _, _, rfl, h1, T.clS, T.nS_parts, sfs_parts, _, _, rfl, .inl (SqL.of hp1), _, rfl, _, _, _, _, rfl, rfl, hs', atI_nat (j := 1) rfl, _, rfl, _, T.CS, _, _, _, rfl, h1, T.clS, T.nS_here, sfs_here, fun x dxp hx hdx hne => ?_⟩
        refine ⟨x, dxp, (S.n : Int), nm, S.pref S.here, (by show [V.ref x, V.int (((S.pa.map V.ref).length : Nat) : Int), V.str nm, S.pref S.here] = _; rw [e1]), upd_same, fun lt lm H2 hlt hlm hll h2x h2t h2m hold => ⟨rfl, ?_⟩⟩
        have old1 : ∀ b o, H1 b = some o → H2 b = some o := fun b o e => hold b o (ne_of_none e hx) (by rw [upd_ne (ne_of_none e hx), upd_ne (ne_of_none e hdx)]; exact e)
        have n1 : lt ≠ x := fun e => by rw [e, upd_same] at hlt; cases hlt
        have n2 : lm ≠ x := fun e => by rw [e, upd_same] at hlm; cases hlm
        rw [upd_ne n1] at hlt
        rw [upd_ne n2] at hlm
        have up0 : ∀ {b : Addr}, upd H1 dxp (.own x) b = none → H1 b = none := fun {b} e => by
          by_cases hb : b = dxp
          · rw [hb, upd_same] at e
            cases e
          · rwa [upd_ne hb] at e
        have hlt1 := up0 hlt
        have hlm1 := up0 hlm
        have h2s := old1 _ _ h1
        have h2p := old1 _ _ hp1
        refine ⟨_, rfl, _, T.CS, _, _, rfl, h2s, T.clS, T.nS_here, (show (6 : Nat) < 1000 by decide), ?_⟩
        rw [sfs_put_here]
        have h3p : upd H2 (S.ad .sift) (.ins T.CS (S.dx .sift) (sfs S.aq S.atl (S.ad .parts) (.ref x) ((S.many : Int) + 1) (S.ad .dict))) (S.ad .parts) = some (.lst (S.pa.map V.ref)) := by rw [upd_ne hnsp]; exact h2p
        refine ⟨_, rfl, _, T.CS, _, _, _, rfl, upd_same, T.clS, T.nS_parts, sfs_parts, .inl ⟨rfl, _, SqL.of h3p⟩, _, rfl, _, T.CS, _, _, _, rfl, upd_same, T.clS, T.nS_here, sfs_here, _, _, _, rfl, rfl, h3p, by rw [e1, sizeLine_eq]; omega, ?_⟩
        have h4s : upd (upd H2 (S.ad .sift) (.ins T.CS (S.dx .sift) (sfs S.aq S.atl (S.ad .parts) (.ref x) ((S.many : Int) + 1) (S.ad .dict)))) (S.ad .parts) (.lst (S.pa.map V.ref ++ [V.ref x])) (S.ad .sift) =
            some (.ins T.CS (S.dx .sift) (sfs S.aq S.atl (S.ad .parts) (.ref x) ((S.many : Int) + 1) (S.ad .dict))) := by rw [upd_ne (Ne.symm hnsp), upd_same]
        have hb4 : ∀ {b : Addr} {o : HO}, b ≠ S.ad .sift → b ≠ S.ad .parts → H2 b = some o → upd (upd H2 (S.ad .sift) (.ins T.CS (S.dx .sift) (sfs S.aq S.atl (S.ad .parts) (.ref x) ((S.many : Int) + 1) (S.ad .dict)))) (S.ad .parts) (.lst (S.pa.map V.ref ++ [V.ref x])) b = some o := fun h1 h2 e => by
          rw [upd_ne h2, upd_ne h1]
          exact e
        have nw : ∀ {b : Addr}, H1 b = none → b ≠ S.ad .sift ∧ b ≠ S.ad .parts := fun e => ⟨fun z => (by rw [z, h1] at e; cases e), fun z => (by rw [z, hp1] at e; cases e)⟩
        have hS4 := hS1.opn (x := x) (dxp := dxp) (lt := lt) (lm := lm) (nm := nm) hx hlt1 hlm1 n1 n2 hll hn20 (fun b o z1 z2 e => hb4 z1 z2 (old1 b o e)) h4s upd_same (hb4 (nw hx).1 (nw hx).2 h2x) (hb4 (nw hlt1).1 (nw hlt1).2 h2t) (hb4 (nw hlm1).1 (nw hlm1).2 h2m)
        generalize upd (upd H2 (S.ad .sift) (.ins T.CS (S.dx .sift) (sfs S.aq S.atl (S.ad .parts) (.ref x) ((S.many : Int) + 1) (S.ad .dict)))) (S.ad .parts) (.lst (S.pa.map V.ref ++ [V.ref x])) = H4 at hS4 h4s ⊢
        refine ⟨_, rfl, _, T.CS, _, _, _, rfl, h4s, T.clS, T.nS_here, sfs_here, _, rfl, _, T.CS, _, _, _, rfl, h4s, T.clS, T.nS_tails, sfs_tails, F, (S.wMany (S.many + 1)).opn x dxp lt lm nm, some S.n, S.many * 176000, ?_, hS4, fun j e => ?_, fun i => ?_, by rw [sizeLine_eq]; omega, fun H5 mt mv hS5 hl5 => ?_⟩
        · show [V.ref x, V.ref S.atl] = [V.ref (((S.wMany (S.many + 1)).opn x dxp lt lm nm).ad (.part (S.wMany (S.many + 1)).n)), V.ref S.atl]
          rw [opn_adp]
        · have : S.n = j := Option.some.inj e
          show j < S.n + 1
          omega
        · by_cases hi : i = (S.wMany (S.many + 1)).n
          · subst hi
            rw [opn_mvn]
            exact Nat.zero_le _
          · rw [opn_mv hi]
            exact hL.mv i
        · refine ⟨((S.wMany (S.many + 1)).opn x dxp lt lm nm).wm mt mv, rfl, ⟨hS5, ?_, ?_, ?_, fun i => ?_, fun i => ?_, fun _ => Nat.succ_pos _⟩, rfl, rfl⟩
          · refine .cons ?_
            have hp : (((S.wMany (S.many + 1)).opn x dxp lt lm nm).wm mt mv).par S.n = S.here := by
              show (((S.wMany (S.many + 1)).opn x dxp lt lm nm).ps (S.wMany (S.many + 1)).n).par = _
              rw [opn_psn]
              rfl
            show Chain _ ((((S.wMany (S.many + 1)).opn x dxp lt lm nm).wm mt mv).par S.n) d
            rw [hp]
            refine hL.ch.congr (m := S.n) (fun i hi => ?_) (fun i j hi e => hS.w.wf i j hi e) hS.w.hw
            show (S.ps i).par = (((S.wMany (S.many + 1)).opn x dxp lt lm nm).ps i).par
            rw [opn_ps (show i ≠ (S.wMany (S.many + 1)).n from Nat.ne_of_lt hi)]
            rfl
          · show S.n + 1 ≤ S.many + 1
            have := hL.nm
            omega
          · show S.many + 1 ≤ 20
            omega
          · show (mv i).length ≤ (S.many + 1) * 176000
            rw [hsz2]
            exact hl5 i
          · show (((S.wMany (S.many + 1)).opn x dxp lt lm nm).ps i).tx.length ≤ S.many + 1
            by_cases hi : i = (S.wMany (S.many + 1)).n
            · subst hi
              rw [opn_psn]
              exact Nat.zero_le _
            · rw [opn_ps hi]
              exact Nat.le_succ_of_le (hL.tx i)
      | tx t =>
        have hs' : SqT K H1 a [.str "text", .str t] := SqT_same hS1.m.same hs
        refine ⟨_, rfl, _, _, _, _, rfl, rfl, hs', atI_nat (j := 0) rfl, rfl, _, rfl, strF (by decide +kernel) ?_⟩
        refine ⟨_, rfl, _, _, _, _, rfl, rfl, hs', atI_nat (j := 0) rfl, rfl, _, rfl, strT (by decide +kernel) ?_⟩
        obtain ⟨j, hj⟩ := hL.ch.pos hok
        have hjn := hS.w.hw j hj
        have hpt : H1 (S.ad (.part j)) = some (.ins T.CP (S.dx (.part j)) (pfs (j : Int) (S.ps j).nm (S.pref (S.ps j).par) (S.ps j).op (S.ad (.txt j)) (S.ad (.met j)))) := hS1.m.own (.part j) _ (obj_part (S := S.wMany (S.many + 1)) hjn)
        have htx : H1 (S.ad (.txt j)) = some (.lst ((S.ps j).tx.map V.str)) := hS1.m.own (.txt j) _ (obj_txt (S := S.wMany (S.many + 1)) hjn)
        refine ⟨_, rfl, _, T.CS, _, _, _, rfl, h1, T.clS, T.nS_here, sfs_here, _, T.CP, _, _, _, (by rw [hj]; rfl), hpt, T.clP, T.nP_texts, pfs_texts, .inl ⟨rfl, _, SqL.of htx⟩, _, rfl, _, _, _, _, rfl, rfl, hs', atI_nat (j := 1) rfl, _, _, _, rfl, rfl, htx, by rw [List.length_map, sizeLine_eq]; have := hL.tx j; omega, ?_⟩
        have hS2 : SiftAt K T.CP T.CS F (upd H1 (S.ad (.txt j)) (.lst (((S.ps j).tx ++ [t]).map V.str))) ((S.wMany (S.many + 1)).wText j t) := hS1.wText hjn t
        rw [show ((S.ps j).tx ++ [t]).map V.str = (S.ps j).tx.map V.str ++ [V.str t] from List.map_append] at hS2
        have h2s := hS2.m.own .sift _ rfl
        generalize upd H1 (S.ad (.txt j)) (.lst ((S.ps j).tx.map V.str ++ [V.str t])) = H2 at hS2 h2s ⊢
        refine ⟨_, rfl, _, T.CS, _, _, _, rfl, h2s, T.clS, T.nS_here, sfs_here, _, rfl, _, T.CS, _, _, _, rfl, h2s, T.clS, T.nS_tails, sfs_tails, F, (S.wMany (S.many + 1)).wText j t, S.here, S.many * 176000, rfl, hS2, hS.w.hw, hL.mv, by rw [sizeLine_eq]; omega, fun H5 mt mv hS5 hl5 => ?_⟩
        refine ⟨((S.wMany (S.many + 1)).wText j t).wm mt mv, rfl, ⟨hS5, hL.ch, ?_, ?_, fun i => ?_, fun i => ?_, fun _ => (by show 0 < S.n; omega)⟩, rfl, rfl⟩
        · show S.n ≤ S.many + 1
          have := hL.nm
          omega
        · show S.many + 1 ≤ 20
          omega
        · show (mv i).length ≤ (S.many + 1) * 176000
          rw [hsz2]
          exact hl5 i
        · show (if i = j then (S.ps j).tx ++ [t] else (S.ps i).tx).length ≤ S.many + 1
          have h1 := hL.tx i
          have h2 := hL.tx j
          split
          · rw [List.length_append, List.length_singleton]
            omega
          · omega
      | cl =>
        have hs' : SqT K H1 a [.str "close"] := SqT_same hS1.m.same hs
        refine ⟨_, rfl, _, _, _, _, rfl, rfl, hs', atI_nat (j := 0) rfl, rfl, _, rfl, strF (by decide +kernel) ?_⟩
        refine ⟨_, rfl, _, _, _, _, rfl, rfl, hs', atI_nat (j := 0) rfl, rfl, _, rfl, strF (by decide +kernel) ?_⟩
        obtain ⟨j, hj⟩ := hL.ch.pos hok
        have hjn := hS.w.hw j hj
        have hpt : H1 (S.ad (.part j)) = some (.ins T.CP (S.dx (.part j)) (pfs (j : Int) (S.ps j).nm (S.pref (S.ps j).par) (S.ps j).op (S.ad (.txt j)) (S.ad (.met j)))) := hS1.m.own (.part j) _ (obj_part (S := S.wMany (S.many + 1)) hjn)
        refine ⟨_, rfl, _, T.CS, _, _, _, rfl, h1, T.clS, T.nS_here, sfs_here, _, T.CP, _, _, (by rw [hj]; rfl), hpt, T.clP, T.nP_is_open, (show (7 : Nat) < 1000 by decide), ?_⟩
        rw [pfs_put_open]
        have hS2 : SiftAt K T.CP T.CS F (upd H1 (S.ad (.part j)) (.ins T.CP (S.dx (.part j)) (pfs (j : Int) (S.ps j).nm (S.pref (S.ps j).par) false (S.ad (.txt j)) (S.ad (.met j))))) ((S.wMany (S.many + 1)).wShut j) := hS1.wShut hjn
        have h2s := hS2.m.own .sift _ rfl
        have h2p := hS2.m.own (.part j) _ (obj_part hjn)
        generalize upd H1 (S.ad (.part j)) (.ins T.CP (S.dx (.part j)) (pfs (j : Int) (S.ps j).nm (S.pref (S.ps j).par) false (S.ad (.txt j)) (S.ad (.met j)))) = H2 at hS2 h2s h2p ⊢
        refine ⟨_, rfl, _, T.CS, _, _, _, rfl, h2s, T.clS, T.nS_here, sfs_here, _, T.CP, _, _, _, (by show S.pref S.here = _; rw [hj]; rfl), h2p, T.clP, T.nP_around, pfs_around, _, rfl, _, T.CS, _, _, rfl, h2s, T.clS, T.nS_here, (show (6 : Nat) < 1000 by decide), ?_⟩
        rw [sfs_put_here]
        have hpj : ∀ k, (S.ps j).par = some k → k < S.n := fun k e => by
          have := hS.w.wf j k hjn e
          omega
        have hS3 := hS2.wHere (o := (S.ps j).par) hpj
        obtain ⟨d', hd', hc'⟩ := (hj ▸ hL.ch : Chain S.par (some j) d).inv
        refine ⟨((S.wMany (S.many + 1)).wShut j).wHere (S.ps j).par, rfl, ⟨hS3, ?_, ?_, ?_, fun i => ?_, fun i => ?_, fun _ => (by show 0 < S.n; omega)⟩, rfl, rfl⟩
        · show Chain S.par (S.par j) (d - 1)
          rw [hd']
          exact hc'
        · show S.n ≤ S.many + 1
          have := hL.nm
          omega
        · show S.many + 1 ≤ 20
          omega
        · show (S.mv i).length ≤ (S.many + 1) * 176000
          rw [hsz2]
          exact Nat.le_trans (hL.mv i) (Nat.le_add_right _ _)
        · exact Nat.le_succ_of_le (hL.tx i)
    · rintro σ' H2 ⟨S', rfl, hL', had, hmany⟩
      have hS' := hL'.at_
      refine ⟨Nat.zero_le _, fun f hf => ?_⟩
      have ff : F f = none := hS'.m.same.free hf
      have hSf := hS'.up (same_new (o := .lst []) hf)
      have hs3 : upd H2 f (.lst []) (S.ad .sift) = some (.ins T.CS (S'.dx .sift) (sfs S'.aq S'.atl (S'.ad .parts) (S'.pref S'.here) (S'.many : Int) (S'.ad .dict))) := by rw [← had]; exact hSf.m.own .sift _ rfl
      obtain ⟨qs, hq1, hq2⟩ := hSf.w.qd
      refine ⟨_, rfl, _, T.CS, _, _, _, rfl, hs3, T.clS, T.nS_parts, sfs_parts, _, rfl, _, T.CS, _, _, _, rfl, hs3, T.clS, T.nS_question, sfs_question, ?_⟩
      refine ⟨S'.ad .parts, S'.aq, S'.pa, S'.psL, qs, S'.q, false, rfl, hSf.psv, hSf.m.same.seq hq1, hq2.up hSf.m.same, by have := hSf.w.ql; omega, fun H3 D s3 hD hE => ?_⟩
      have hfD : f ≠ D := fun e => by rw [← e, upd_same] at hD; cases hD
      have hH2D : H2 D = none := by rwa [upd_ne (Ne.symm hfD)] at hD
      have FD : F D = none := hS'.m.same.free hH2D
      have hS3 := hSf.frz2 s3 hD hE
      have h3f : H3 f = some (.lst []) := s3 _ _ upd_same
      have sub := same_new (o := .lst ((endsM S'.psL S'.q false).map fun i => V.ref (S'.pa.getD i 0))) FD
      have hF3 : SqL K (upd F D (.lst ((endsM S'.psL S'.q false).map fun i => V.ref (S'.pa.getD i 0)))) D ((endsM S'.psL S'.q false).map fun i => V.ref (S'.pa.getD i 0)) := SqL.of upd_same
      have f3f : (upd F D (.lst ((endsM S'.psL S'.q false).map fun i => V.ref (S'.pa.getD i 0)))) f = none := by rw [upd_ne hfD]; exact ff
      generalize upd F D (.lst ((endsM S'.psL S'.q false).map fun i => V.ref (S'.pa.getD i 0))) = F3 at hS3 sub hF3 f3f
      have hlen : (endsM S'.psL S'.q false).length ≤ 21 := by
        have := List.length_filter_le (fun i => hasK (reachM S'.psL S'.q false S'.psL.length) i ((S'.q.length : Int) - 1)) (List.range S'.psL.length)
        rw [List.length_range, psL_len] at this
        have := hS'.w.sm
        unfold endsM
        rw [psL_len]
        omega
      have xat : ∀ {i : Nat} {x : V}, ((endsM S'.psL S'.q false).map fun i => V.ref (S'.pa.getD i 0))[i]? = some x → ∃ j, j < S'.n ∧ x = V.ref (S'.ad (.part j)) := fun {i x} hx => by
        rw [List.getElem?_map] at hx
        obtain ⟨j, hj, rfl⟩ := Option.map_eq_some_iff.mp hx
        have hm := List.mem_range.mp (List.mem_filter.mp (List.mem_of_getElem? hj)).1
        rw [psL_len] at hm
        exact ⟨j, hm, by rw [pa_get hm]⟩
      refine ⟨D, rfl, ⟨_, SqL.of hE⟩, for_list (K := K) (a := D) (xs := (endsM S'.psL S'.q false).map fun i => V.ref (S'.pa.getD i 0))
        (fun i σ H' => ∃ (an : List Nat) (acc : List V) (v3 : Option V), σ = [some (.ref (S.ad .sift)), some (.ref a), some (.ref f), v3] ∧ SiftAt K T.CP T.CS F3 H' (S'.wA an) ∧ H' f = some (.lst acc) ∧ acc.length ≤ i)
        ⟨S'.ans, [], none, rfl, hS3, h3f, Nat.zero_le _⟩ (fun i σ H' _ ⟨_, _, _, _, h, _⟩ => h.m.same.seq hF3) ?_ ?_⟩
      · rintro i x σ H' hx ⟨an, acc, v3, rfl, hS4, h4f, hacc⟩
        obtain ⟨j, hj, rfl⟩ := xat hx
        have hi : i < 21 := by
          have := (List.getElem?_eq_some_iff.mp hx).1
          rw [List.length_map] at this
          omega
        have h4s : H' (S.ad .sift) = some (.ins T.CS (S'.dx .sift) (sfs S'.aq S'.atl (S'.ad .parts) (S'.pref S'.here) (S'.many : Int) (S'.ad .dict))) := by rw [← had]; exact hS4.m.own .sift _ rfl
        have h4p := hS4.m.own (.part j) _ (obj_part hj)
        have h4d := hS4.m.own .dict _ rfl
        refine ⟨_, rfl, _, T.CP, _, _, _, rfl, h4p, T.clP, T.nP_number, pfs_number, _, rfl, _, T.CS, _, _, _, rfl, h4s, T.clS, T.nS_answered, sfs_answered, _, _, rfl, .k (k := Sum.inl (j : Int)) h4d, _, rfl, ?_⟩
        show (if (!(valV (S'.wA an).kvs (Sum.inl (j : Int))).isSome) = true then _ else _)
        cases hv : (valV (S'.wA an).kvs (Sum.inl (j : Int))).isSome with
        | true => exact ⟨an, acc, _, rfl, hS4, h4f, by omega⟩
        | false =>
          have hno := valV_ans hv
          have hS5 := hS4.wAns hj hno
          have hdl : (S'.wA an).kvs.length < sizeLine := by
            have := ans_len hS4.w
            have := hS4.w.sm
            unfold SS.kvs
            rw [List.length_map, sizeLine_eq]
            omega
          refine ⟨_, rfl, _, T.CS, _, _, _, rfl, h4s, T.clS, T.nS_answered, sfs_answered, _, rfl, _, T.CP, _, _, _, rfl, h4p, T.clP, T.nP_number, pfs_number, _, _, rfl, .k (k := Sum.inl (j : Int)) h4d hdl, ?_⟩
          rw [show putK ((S'.wA an).ans.map fun i : Nat => ((Sum.inl (i : Int) : Key), V.bl true)) (Sum.inl (j : Int)) (V.bl true) = (S'.wA an).kvs ++ [(Sum.inl (j : Int), V.bl true)] from put_ans hno]
          have hfd : f ≠ S'.ad .dict := fun e => hS'.ne hf .dict _ rfl e.symm
          have h5f : upd H' (S'.ad .dict) (.dK ((S'.wA an).kvs ++ [(Sum.inl (j : Int), V.bl true)])) f = some (.lst acc) := by rw [upd_ne hfd]; exact h4f
          have h5p := hS5.m.own (.part j) _ (obj_part (S := (S'.wA an).wAns j) hj)
          refine ⟨_, rfl, .inl ⟨rfl, _, SqL.of h5f⟩, _, rfl, _, T.CP, _, _, _, rfl, h5p, T.clP, T.nP_number, pfs_number, _, _, _, rfl, rfl, h5f, by rw [sizeLine_eq]; omega, ?_⟩
          refine ⟨an ++ [j], acc ++ [V.int (j : Int)], _, rfl, hS5.beside f3f (wA_ne hS' hf (an ++ [j])), upd_same, ?_⟩
          rw [List.length_append, List.length_singleton]
          omega
      · rintro σ H' ⟨an, acc, v3, rfl, hS4, h4f, hacc⟩
        exact ⟨_, rfl, k F3 H' (S'.wA an) (.ref f) sub ⟨hS4, hL'.ch, hL'.nm, hL'.mm, hL'.mv, hL'.tx, hL'.bg⟩ had hmany⟩
end
end K8
/-! # What the law asks of an error -/
namespace K8
open PySem PySem.Spec PyProof.Rows L2
section
variable {P : Program} {w : World} {K : PySem.W.Frag} {mg : Str → Option Value} {base : Heap}
/-! ### _law_whole of a number -/
def spWhole : Sp := fun vs H Q _ => ∃ n : Int, vs = [.int n] ∧ Q (.bl true) H
theorem ok_whole (T : Tx K mg) : FnOk P w K mg base CX0 1 T.l_whole.f T.l_whole.fd ["_law_found"] spWhole := by
  refine ok0 T.l_whole.F sc_l_whole (fun vs H Q E h => ?_) (fun cdv A outer s H vs Q E hr h => ?_)
  · obtain ⟨n, rfl, _⟩ := h
    rfl
  · obtain ⟨n, rfl, k⟩ := h
    refine ⟨_, pss_one (ps_ret (pe_and (pe_callB call_isi (by rfl) T.z_isinstance (by decide +kernel) (pa_cons (pv 0) (pa_cons (pe_bltn (v := .ty "int") rfl T.z_int (by decide +kernel) rfl) pa_nil))) (pe_one (pe_not (pe_callB call_isi (by rfl) T.z_isinstance (by decide +kernel) (pa_cons (pv 0) (pa_cons (pe_bltn (v := .ty "bool") rfl T.z_bool (by decide +kernel) rfl) pa_nil))))))), ?_⟩
    refine ⟨_, rfl, _, _, _, _, true, rfl, .ty "int", .base (.int n), kit_ty (by decide +kernel), true, rfl, ?_⟩
    refine iteT ⟨_, rfl, _, _, _, _, false, rfl, .ty "bool", .base (.int n), kit_ty (by decide +kernel), _, rfl, k⟩
/-! ### _law_only -/
/-- a kept exception of the class at D -/
def Kept (H : Hp) (D e : Addr) : Prop := ∃ d : Option Addr, H e = some (ExV (.ref D) d e) ∧ ∀ dd, d = some dd → ∃ o, H dd = some o
theorem Kept.up {H H' : Hp} {D e : Addr} (h : Kept H D e) (s : Same H H') : Kept H' D e := by
  obtain ⟨d, h1, h2⟩ := h
  exact ⟨d, s _ _ h1, fun dd q => let ⟨o, z⟩ := h2 dd q; ⟨o, s _ _ z⟩⟩
def spOnly (C : Addr) (i : Nat) : Sp := fun vs H Q _ => ∃ e : Addr, vs = [.ref e, .int (i : Int)] ∧ Kept H C e ∧ ∀ H', Same H H' → Q (.bl true) H'
theorem ok_only (T : Tx K mg) {i : Nat} (hi : i = 0 ∨ i = 2 ∨ i = 4) : FnOk P w K mg base CX0 1 T.l_only.f T.l_only.fd ["_law_error", "_law_which"] (spOnly (T.exc i) i) := by
  have nd := sc_l_only.nd
  refine ok0 T.l_only.F sc_l_only (fun vs H Q E h => ?_) (fun cdv A outer s H vs Q E hr h => ?_)
  · obtain ⟨e, rfl, _⟩ := h
    rfl
  · obtain ⟨e, rfl, hk, k⟩ := h
    have C := T.ecC i hi
    refine ⟨_, pss_cons (ps_set (i := 2) nd rfl (.inl rfl) (pe_lst (pa_cons (pe_callB (call_isK C) (by rfl) T.z_isinstance (by decide +kernel) (pa_cons (pv 0) (pa_cons (pe_glob (v := .ref (T.exc 0)) rfl T.gNS rfl) pa_nil)))
        (pa_cons (pe_callB (call_isK C) (by rfl) T.z_isinstance (by decide +kernel) (pa_cons (pv 0) (pa_cons (pe_glob (v := .ref (T.exc 1)) rfl T.gNT rfl) pa_nil)))
        (pa_cons (pe_callB (call_isK C) (by rfl) T.z_isinstance (by decide +kernel) (pa_cons (pv 0) (pa_cons (pe_glob (v := .ref (T.exc 2)) rfl T.gNP rfl) pa_nil))) pa_nil)))))
      (pss_cons (ps_set (i := 2) nd rfl (.inl rfl) (pe_op op_cat (pv 2) (pe_lst (pa_cons (pe_callB (call_isK C) (by rfl) T.z_isinstance (by decide +kernel) (pa_cons (pv 0) (pa_cons (pe_glob (v := .ref (T.exc 3)) rfl T.gTK rfl) pa_nil)))
        (pa_cons (pe_callB (call_isK C) (by rfl) T.z_isinstance (by decide +kernel) (pa_cons (pv 0) (pa_cons (pe_glob (v := .ref (T.exc 4)) rfl T.gLT rfl) pa_nil))) pa_nil)))))
      (pss_cons (ps_setLc (i := 3) (own := [("_law_k", 4)]) (g := gName 4) (tt := tYes) (te := tOp rEq (tVar 4) (tVar 1)) rfl nd rfl rfl (sw_true rfl rfl rfl (by decide +kernel)) (pi_range1 rfl T.z_range (pa_cons pe_int pa_nil))
        (blkOk_by (N := N_l_only) (sc := defScope s_l_only) (by decide +kernel)) (fun _ _ _ _ _ => pg_name (i := 4) nd rfl (Or.inl rfl)) (fun _ _ _ _ _ => pts_nil) (fun _ _ _ _ _ => pe_cmpR op_eq (pv 4) (pv 1) (nomark _)))
      (pss_one (ps_ret (pe_and (pe_cmpR (op_eqD (hu64 hr)) (pv 2) (pv 3) (nomark _)) (pe_and (pe_callB (call_isK C) (by rfl) T.z_isinstance (by decide +kernel) (pa_cons (pv 0) (pa_cons (pe_bltn (v := .ty "ValueError") rfl T.z_ValueError (by decide +kernel) rfl) pa_nil)))
        (pe_one (pe_callB (call_isK C) (by rfl) T.z_isinstance (by decide +kernel) (pa_cons (pv 0) (pa_cons (pe_glob (v := .ref T.SE) rfl T.gSE rfl) pa_nil)))))))))), ?_⟩
    obtain ⟨d, hd1, hd2⟩ := hk
    have kt := T.kit i hi
    refine ⟨_, rfl, e, d, _, _, _, rfl, hd1, hd2, fun u r => r, kt 0 (by decide), ?_⟩
    refine ⟨_, rfl, e, d, _, _, _, rfl, hd1, hd2, fun u r => r, kt 1 (by decide), ?_⟩
    refine ⟨_, rfl, e, d, _, _, _, rfl, hd1, hd2, fun u r => r, kt 2 (by decide), ?_⟩
    refine ⟨(by rw [sizeLine_eq]; exact (by decide : (3 : Nat) ≤ 16777216)), fun p hp => ?_⟩
    have s1 : Same H (upd H p (.lst [V.bl (decide (i = 0)), V.bl (decide (i = 1)), V.bl (decide (i = 2))])) := same_new hp
    have p1 : upd H p (.lst [V.bl (decide (i = 0)), V.bl (decide (i = 1)), V.bl (decide (i = 2))]) p = some (.lst [V.bl (decide (i = 0)), V.bl (decide (i = 1)), V.bl (decide (i = 2))]) := upd_same
    generalize upd H p (.lst [V.bl (decide (i = 0)), V.bl (decide (i = 1)), V.bl (decide (i = 2))]) = H1 at s1 p1 ⊢
    have e1 := s1 _ _ hd1
    have e2 : ∀ dd, d = some dd → ∃ o, H1 dd = some o := fun dd q => let ⟨o, z⟩ := hd2 dd q; ⟨o, s1 _ _ z⟩
    refine ⟨_, rfl, _, rfl, e, d, _, _, _, rfl, e1, e2, fun u r => r, kt 3 (by decide), ?_⟩
    refine ⟨_, rfl, e, d, _, _, _, rfl, e1, e2, fun u r => r, kt 4 (by decide), ?_⟩
    refine ⟨(by rw [sizeLine_eq]; exact (by decide : (2 : Nat) ≤ 16777216)), fun p2 hp2 => ?_⟩
    refine ⟨p, p2, _, _, rfl, rfl, by rw [upd_ne (ne_of_none p1 hp2)]; exact p1, upd_same, by rw [sizeLine_eq]; exact (by decide : (5 : Nat) ≤ 16777216), fun p3 hp3 => ?_⟩
    have p12 : p ≠ p2 := ne_of_none p1 hp2
    have s3 : Same H1 (upd (upd H1 p2 (.lst [V.bl (decide (i = 3)), V.bl (decide (i = 4))])) p3 (.lst ([V.bl (decide (i = 0)), V.bl (decide (i = 1)), V.bl (decide (i = 2))] ++ [V.bl (decide (i = 3)), V.bl (decide (i = 4))]))) := (same_new hp2).trans (same_new hp3)
    have p33 : upd (upd H1 p2 (.lst [V.bl (decide (i = 3)), V.bl (decide (i = 4))])) p3 (.lst ([V.bl (decide (i = 0)), V.bl (decide (i = 1)), V.bl (decide (i = 2))] ++ [V.bl (decide (i = 3)), V.bl (decide (i = 4))])) p3 = some (.lst ([decide (i = 0), decide (i = 1), decide (i = 2), decide (i = 3), decide (i = 4)].map V.bl)) := upd_same
    generalize upd (upd H1 p2 (.lst [V.bl (decide (i = 3)), V.bl (decide (i = 4))])) p3 (.lst ([V.bl (decide (i = 0)), V.bl (decide (i = 1)), V.bl (decide (i = 2))] ++ [V.bl (decide (i = 3)), V.bl (decide (i = 4))])) = H3 at s3 p33 ⊢
    refine ⟨5, rfl, by decide, by decide, fun D hD => ?_⟩
    refine lc_range (lo := 0) (n := 5) (fun m H' => Same H3 H' ∧ H' D = some (.lst ((List.range m).map fun k : Nat => V.bl (decide (V.int (0 + (k : Int)) = V.int (i : Int)))))) ⟨same_new hD, upd_same⟩ (fun m H' hm q => ?_) (fun H' q => ?_)
    · refine ⟨rfl, _, rfl, _, rfl, rfl, _, q.2, by rw [List.length_map, List.length_range, sizeLine_eq]; omega, same_put q.1 hD, ?_⟩
      rw [upd_same, List.range_succ, List.map_append]
      rfl
    · obtain ⟨s4, hD4⟩ := q
      have sAll := (s1.trans s3).trans s4
      have eb : ((List.range 5).map fun k : Nat => V.bl (decide (V.int (0 + (k : Int)) = V.int (i : Int)))) = [decide (i = 0), decide (i = 1), decide (i = 2), decide (i = 3), decide (i = 4)].map V.bl := by
        rcases hi with rfl | rfl | rfl <;> rfl
      rw [eb] at hD4
      have f1 := sAll _ _ hd1
      have f2 : ∀ dd, d = some dd → ∃ o, H' dd = some o := fun dd q => let ⟨o, z⟩ := hd2 dd q; ⟨o, sAll _ _ z⟩
      have hl : ∀ bs : List Bool, (PyData.list (bs.map PyData.bool)).canLay0 = true := fun bs => by
        simp only [PyData.canLay0]
        exact layAll_map fun x _ => by simp only [PyData.canLay0]
      have hsh : ∀ bs : List Bool, SeqAt.shaped (.list (bs.map PyData.bool)) = true := fun bs => shaped_of (hl bs) (by
        have := depAll_map (l := bs) (f := PyData.bool) (m := 0) (fun x _ => by simp only [PyData.depth]; omega)
        simp only [PyData.depth]
        omega)
      refine ⟨_, rfl, _, rfl, _, _, .lst (SqL.of (s4 _ _ p33)) (dpAll_bls _), .lst (SqL.of hD4) (dpAll_bls _), hsh _, hsh _, _, rfl, ?_⟩
      rw [PySem.SeqAt.eqv_refl _ (hl _)]
      refine ⟨_, rfl, e, d, _, _, _, rfl, f1, f2, fun u r => r, T.kitV i hi, _, rfl, ?_⟩
      exact ⟨_, rfl, e, d, _, _, _, rfl, f1, f2, fun u r => r, T.kitS i hi, k _ sAll⟩
end
end K8
/-! # The law's refusals -/
namespace K8
open PySem PySem.Spec PyProof.Rows L2
section
variable {P : Program} {w : World} {K : PySem.W.Frag} {mg : Str → Option Value} {base : Heap}
theorem Kept.new {H : Hp} {D a : Addr} {d : Option Addr} (h : ∀ dd, d = some dd → ∃ o, H dd = some o) (ha : H a = none) : Kept (upd H a (ExV (.ref D) d a)) D a :=
  ⟨d, upd_same, fun dd q => let ⟨o, z⟩ := h dd q; ⟨o, same_new ha _ _ z⟩⟩
/-! ### shortest ahead of any sign -/
def spLawLate (K : PySem.W.Frag) (CP CS : Addr) : Sp := fun vs H Q _ => ∃ (F : Hp) (S : SS), vs = [.ref (S.ad .sift)] ∧ SiftAt K CP CS F H S ∧ S.n = 0 ∧ ∀ H', Same H H' → Q (.bl true) H'
theorem ok_late (T : Tx K mg) : FnOk P w K mg base CX0 2 T.l_late.f T.l_late.fd ["_law_sift"] (spLawLate K T.CP T.CS) := by
  have GO : FnOk P w K mg base CX0 1 T.l_only.f T.l_only.fd ["_law_error", "_law_which"] (spOnly (T.exc 4) 4) := ok_only T (.inr (.inr rfl))
  have GS : FnOk P w K mg base (L2.CX P w) 1 T.S_shortest.f T.S_shortest.fd ["self"] (spLate K T.CP T.CS (T.exc 4)) := ok_S_shortest T
  have nd := sc_l_late.nd
  refine ok0 T.l_late.F sc_l_late (fun vs H Q E h => ?_) (fun cdv A outer s H vs Q E hr h => ?_)
  · obtain ⟨F, S, rfl, _⟩ := h
    rfl
  · obtain ⟨F, S, rfl, hS, hn, k⟩ := h
    refine ⟨_, pss_cons (ps_set (i := 1) nd rfl (.inl rfl) pe_non)
      (pss_cons (ps_try_keep rfl rfl rfl nd takes0 (fun W pn xe tk _ => pss_one (ps_expr (pe_methW0 (pv 0) T.clS T.S_shortest.m GS hr T.S_shortest.b (fun σ => passAt tk σ))))
        (.cons (i := 2) rfl rfl ⟨rfl, by decide, .inl T.gSE⟩ (fun a oe cls d pn hz hf => pss_one (ps_set (i := 1) nd rfl (.inl rfl) (pv 2))) .nil))
      (pss_one (ps_ret (pe_call GO hr rfl T.l_only.m T.l_only.F.kp T.l_only.b .nil pass0 (pa_cons (pv 1) (pa_cons pe_int pa_nil)))))), ?_⟩
    refine ⟨_, rfl, _, _, _, rfl, hS.m.own .sift _ rfl, sfs_no (by decide +kernel), F, S, rfl, hS, hn, ?_⟩
    refine ⟨true, T.mLT, fun _ a ha => ?_, fun z => nomatch z⟩
    refine ⟨_, rfl, ?_⟩
    refine ⟨_, rfl, a, rfl, .new (fun dd q => nomatch q) ha, fun H' s1 => k H' ((same_new ha).trans s1)⟩
/-! ### ending of a number that does not wait -/
def spLawNoPart (K : PySem.W.Frag) (CP CS : Addr) : Sp := fun vs H Q _ => ∃ (F : Hp) (S : SS) (z : Int), vs = [.ref (S.ad .sift), .int z] ∧ SiftAt K CP CS F H S ∧ ∀ H', Same H H' → Q (.bl true) H'
theorem ok_no_part (T : Tx K mg) : FnOk P w K mg base CX0 11 T.l_no_part.f T.l_no_part.fd ["_law_sift", "_law_number"] (spLawNoPart K T.CP T.CS) := by
  have GO : FnOk P w K mg base CX0 1 T.l_only.f T.l_only.fd ["_law_error", "_law_which"] (spOnly (T.exc 2) 2) := ok_only T (.inr (.inl rfl))
  have GW : FnOk P w K mg base CX0 9 T.S_waiting.f T.S_waiting.fd ["self"] (spWaiting K T.CP T.CS) := ok_S_waiting T
  have GE : FnOk P w K mg base (L2.CX P w) 10 T.S_ending.f T.S_ending.fd ["self", "number"] (spEnding K T.CP T.CS (T.exc 2)) := ok_S_ending T
  have nd := sc_l_no_part.nd
  refine ok0 T.l_no_part.F sc_l_no_part (fun vs H Q E h => ?_) (fun cdv A outer s H vs Q E hr h => ?_)
  · obtain ⟨F, S, z, rfl, _⟩ := h
    rfl
  · obtain ⟨F, S, z, rfl, hS, k⟩ := h
    refine ⟨_, pss_cons (ps_if (pt_cmpR op_in_seq (pv 1) (pe_meth0 (pv 0) T.clS T.S_waiting.m GW (hr.mono (by decide)) T.S_waiting.b .nil pass0) (by rfl)) (pss_one (ps_ret pe_bl)) pss_nil)
      (pss_cons (ps_set (i := 2) nd rfl (.inl rfl) pe_non)
      (pss_cons (ps_try_keep rfl rfl rfl nd takes0 (fun W pn xe tk _ => pss_one (ps_expr (pe_methW (pv 0) T.clS T.S_ending.m GE hr T.S_ending.b (fun σ => passAt tk σ) (pa_cons (pv 1) pa_nil))))
        (.cons (i := 3) rfl rfl ⟨rfl, by decide, .inl T.gSE⟩ (fun a oe cls d pn hz hf => pss_one (ps_set (i := 2) nd rfl (.inl rfl) (pv 3))) .nil))
      (pss_one (ps_ret (pe_call GO (hr.mono (by decide)) rfl T.l_only.m T.l_only.F.kp T.l_only.b .nil pass0 (pa_cons (pv 2) (pa_cons pe_int pa_nil))))))), ?_⟩
    have h0 := hS.m.own .sift _ rfl
    refine ⟨_, rfl, _, rfl, _, _, _, rfl, h0, sfs_no (by decide +kernel), F, S, rfl, hS, fun H1 D s1 hD hW => ?_⟩
    refine ⟨D, _, rfl, .inl (SqL.of hW), rfl, flat_ints _, _, rfl, ?_⟩
    show (if inV (V.int z) ((waitM S).map V.int) = true then _ else _)
    cases hz : inV (V.int z) ((waitM S).map V.int) with
    | true => exact k H1 s1
    | false =>
      have hS1 := hS.up s1
      refine ⟨_, rfl, _, _, _, rfl, s1 _ _ h0, sfs_no (by decide +kernel), _, rfl, F, S, z, rfl, hS1, hz, fun H2 s2 => ?_⟩
      refine ⟨true, T.mNP, fun _ a ha => ?_, fun z => nomatch z⟩
      refine ⟨_, rfl, ?_⟩
      refine ⟨_, rfl, a, rfl, .new (fun dd q => nomatch q) ha, fun H' s3 => k H' ((s1.trans s2).trans ((same_new ha).trans s3))⟩
end
end K8
/-! # A sign refused, and nothing changed -/
namespace K8
open PySem PySem.Spec PyProof.Rows L2
/-- what a sift tells -/
def tellD (S : SS) : PyData := .tuple [.list ((toldM S).map PyData.int), .list ((waitM S).map PyData.int), .bool (overM S)]
theorem int_lay (x : Int) : (PyData.int x).canLay0 = true := by simp only [PyData.canLay0]
theorem bool_lay (x : Bool) : (PyData.bool x).canLay0 = true := by simp only [PyData.canLay0]
theorem ints_lay (ns : List Int) : (PyData.list (ns.map PyData.int)).canLay0 = true := by
  simp only [PyData.canLay0]
  exact layAll_map fun x _ => int_lay x
theorem ints_dep (ns : List Int) : (PyData.list (ns.map PyData.int)).depth ≤ 2 := by
  have := depAll_map (l := ns) (f := PyData.int) (m := 0) (fun x _ => by simp only [PyData.depth]; omega)
  simp only [PyData.depth]
  omega
theorem tell_lay (S : SS) : (tellD S).canLay0 = true := by
  unfold tellD
  rw [PyData.canLay0]
  refine layAll_of fun x hx => ?_
  rcases List.mem_cons.mp hx with rfl | hx
  · exact ints_lay _
  rcases List.mem_cons.mp hx with rfl | hx
  · exact ints_lay _
  rw [List.mem_singleton.mp hx]
  exact bool_lay _
theorem tell_dep (S : SS) : (tellD S).depth ≤ 3 := by
  unfold tellD
  rw [PyData.depth]
  have := depAll_of (m := 2) (l := [.list ((toldM S).map PyData.int), .list ((waitM S).map PyData.int), .bool (overM S)]) fun x hx => by
    rcases List.mem_cons.mp hx with rfl | hx
    · exact ints_dep _
    rcases List.mem_cons.mp hx with rfl | hx
    · exact ints_dep _
    rw [List.mem_singleton.mp hx]
    simp only [PyData.depth]
    omega
  omega
theorem tell_shp (S : SS) : SeqAt.shaped (tellD S) = true := shaped_of (tell_lay S) (by have := tell_dep S; omega)
theorem tell_dp {K : PySem.W.Frag} {H : Hp} {S : SS} {t p D : Addr} (ht : H t = some (.tup [.ref p, .ref D, .bl (overM S)])) (hp : H p = some (.lst ((toldM S).map V.int))) (hD : H D = some (.lst ((waitM S).map V.int))) : Dp K H (.ref t) (tellD S) :=
  .tup (SqT.of ht) (.cons (.lst (SqL.of hp) (dpAll_ints _)) (.cons (.lst (SqL.of hD) (dpAll_ints _)) (dpAll_one (.bl _))))
section
variable {P : Program} {w : World} {K : PySem.W.Frag} {mg : Str → Option Value} {base : Heap}
def spLawRefused (K : PySem.W.Frag) (CP CS : Addr) : Sp := fun vs H Q _ => ∃ (F : Hp) (S : SS) (a : Addr) (t : Str) (r : List V) (d : Nat), vs = [.ref (S.ad .sift), .ref a, .int (S.many : Int)] ∧ SiftAt K CP CS F H S ∧ SqT K H a (.str t :: r) ∧ Chain S.par S.here d ∧ canM t (decide (0 < S.n)) (d : Int) = false ∧
  ∀ H', Same H H' → Q (.bl true) H'
theorem ok_refused (T : Tx K mg) : FnOk P w K mg base CX0 10 T.l_refused.f T.l_refused.fd ["_law_sift", "_law_sign", "_law_many"] (spLawRefused K T.CP T.CS) := by
  have GO : FnOk P w K mg base CX0 1 T.l_only.f T.l_only.fd ["_law_error", "_law_which"] (spOnly (T.exc 0) 0) := ok_only T (.inl rfl)
  have GH : FnOk P w K mg base CX0 1 T.l_whole.f T.l_whole.fd ["_law_found"] spWhole := ok_whole T
  have GT : FnOk P w K mg base CX0 1 T.S_told.f T.S_told.fd ["self"] (spTold K T.CP T.CS) := ok_S_told T
  have GW : FnOk P w K mg base CX0 9 T.S_waiting.f T.S_waiting.fd ["self"] (spWaiting K T.CP T.CS) := ok_S_waiting T
  have GV : FnOk P w K mg base CX0 1 T.S_is_over.f T.S_is_over.fd ["self"] (spOver K T.CP T.CS) := ok_S_is_over T
  have GR : FnOk P w K mg base (L2.CX P w) 9 T.S_take.f T.S_take.fd ["self", "sign"] (spRefusal K T.CP T.CS (T.exc 0)) := ok_S_refusal T
  have nd := sc_l_refused.nd
  refine ok0 T.l_refused.F sc_l_refused (fun vs H Q E h => ?_) (fun cdv A outer s H vs Q E hr h => ?_)
  · obtain ⟨F, S, a, t, r, d, rfl, _⟩ := h
    rfl
  · obtain ⟨F, S, a, t, r, d, rfl, hS, hs, hc, hno, k⟩ := h
    have hr1 := hr.mono (show 1 ≤ 9 by decide)
    refine ⟨_, pss_cons (ps_set (i := 3) nd rfl (.inl rfl) pe_non)
      (pss_cons (ps_set (i := 4) nd rfl (.inl rfl) pe_non)
      (pss_cons (ps_set (i := 5) nd rfl (.inl rfl) (pe_tup (pa_cons (pe_meth0 (pv 0) T.clS T.S_told.m GT hr1 T.S_told.b .nil pass0) (pa_cons (pe_meth0 (pv 0) T.clS T.S_waiting.m GW hr T.S_waiting.b .nil pass0) (pa_cons (pe_meth0 (pv 0) T.clS T.S_is_over.m GV hr1 T.S_is_over.b .nil pass0) pa_nil)))))
      (pss_cons (ps_try_keep rfl rfl rfl nd takes0 (fun W pn xe tk _ => pss_one (ps_expr (pe_methW (pv 0) T.clS T.S_take.m GR hr T.S_take.b (fun σ => passAt tk σ) (pa_cons (pv 1) pa_nil))))
        (.cons (i := 6) rfl rfl ⟨rfl, by decide, .inl T.gNS⟩ (fun a oe cls d pn hz hf => pss_cons (ps_set (i := 3) nd rfl (.inl rfl) (pv 6)) (pss_one (ps_set (i := 4) nd rfl (.inl rfl) (pe_xf T.nsX T.nsA hz hf (pv 6)))))
        (.cons (i := 6) rfl rfl ⟨rfl, by decide, .inl T.gSE⟩ (fun a oe cls d pn hz hf => pss_one (ps_set (i := 3) nd rfl (.inl rfl) (pv 6))) .nil)))
      (pss_cons (ps_if (PW.pt (pw_or (pt_not (pt_val (pe_call GO hr1 rfl T.l_only.m T.l_only.F.kp T.l_only.b .nil pass0 (pa_cons (pv 3) (pa_cons pe_int pa_nil)))))
          (pw_or (pt_not (pt_val (pe_call GH hr1 rfl T.l_whole.m T.l_whole.F.kp T.l_whole.b .nil pass0 (pa_cons (pv 4) pa_nil)))) (pw_or1 (pt_cmpR op_ne (pv 4) (pv 2) (nomark _)))))) (pss_one (ps_ret pe_bl)) pss_nil)
      (pss_one (ps_ret (pe_cmpR (op_eqD (hu64 hr)) (pv 5) (pe_tup (pa_cons (pe_meth0 (pv 0) T.clS T.S_told.m GT hr1 T.S_told.b .nil pass0) (pa_cons (pe_meth0 (pv 0) T.clS T.S_waiting.m GW hr T.S_waiting.b .nil pass0) (pa_cons (pe_meth0 (pv 0) T.clS T.S_is_over.m GV hr1 T.S_is_over.b .nil pass0) pa_nil)))) (by rfl)))))))), ?_⟩
    have h0 := hS.m.own .sift _ rfl
    refine ⟨_, rfl, _, _, _, rfl, h0, sfs_no (by decide +kernel), F, S, rfl, hS, fun p hp => ?_⟩
    have s1 : Same H (upd H p (.lst ((toldM S).map V.int))) := same_new hp
    have hp1 : upd H p (.lst ((toldM S).map V.int)) p = some (.lst ((toldM S).map V.int)) := upd_same
    generalize upd H p (.lst ((toldM S).map V.int)) = H1 at s1 hp1 ⊢
    refine ⟨_, rfl, _, _, _, rfl, s1 _ _ h0, sfs_no (by decide +kernel), F, S, rfl, hS.up s1, fun H2 D s2 hD hD2 => ?_⟩
    refine ⟨_, rfl, _, _, _, rfl, s2 _ _ (s1 _ _ h0), sfs_no (by decide +kernel), F, S, rfl, hS.up (s1.trans s2), ?_⟩
    refine ⟨tup_le 3 (by decide), fun t1 ht1 => ?_⟩
    have s3 : Same H2 (upd H2 t1 (.tup [.ref p, .ref D, .bl (overM S)])) := same_new ht1
    have ht3 : upd H2 t1 (.tup [.ref p, .ref D, .bl (overM S)]) t1 = some (.tup [.ref p, .ref D, .bl (overM S)]) := upd_same
    generalize upd H2 t1 (.tup [.ref p, .ref D, .bl (overM S)]) = H3 at s3 ht3 ⊢
    have sA := (s1.trans s2).trans s3
    have hd3 : Dp K H3 (.ref t1) (tellD S) := tell_dp ht3 (s3 _ _ (s2 _ _ hp1)) (s3 _ _ hD2)
    refine ⟨_, rfl, _, _, _, rfl, sA _ _ h0, sfs_no (by decide +kernel), _, rfl, F, S, a, t, r, d, rfl, hS.up sA, SqT_same sA hs, hc, hno, fun H4 dd s4 hdd => ?_⟩
    refine ⟨true, T.mNS, fun _ e he => ?_, fun z => nomatch z⟩
    refine ⟨_, rfl, _, rfl, rfl, rfl, dd, _, _, rfl, hdd, rfl, ?_⟩
    have s5 : Same H4 (upd H4 e (ExV (.ref (T.exc 0)) (some dd) e)) := same_new he
    have hk5 : Kept (upd H4 e (ExV (.ref (T.exc 0)) (some dd) e)) (T.exc 0) e := .new (fun x q => by cases q; exact ⟨_, hdd⟩) he
    refine ⟨_, rfl, e, rfl, hk5, fun H6 s6 => ⟨true, rfl, ?_⟩⟩
    refine ⟨_, rfl, _, rfl, true, rfl, ?_⟩
    refine ⟨_, rfl, _, rfl, rfl, _, rfl, ?_⟩
    rw [show (!decide (V.int (S.many : Int) = V.int (S.many : Int))) = false by simp]
    have sB := ((sA.trans s4).trans s5).trans s6
    have s36 := (s4.trans s5).trans s6
    refine ⟨_, rfl, ?_⟩
    refine ⟨_, rfl, _, _, _, rfl, sB _ _ h0, sfs_no (by decide +kernel), F, S, rfl, hS.up sB, fun p2 hp2 => ?_⟩
    have s7 : Same H6 (upd H6 p2 (.lst ((toldM S).map V.int))) := same_new hp2
    have hp7 : upd H6 p2 (.lst ((toldM S).map V.int)) p2 = some (.lst ((toldM S).map V.int)) := upd_same
    generalize upd H6 p2 (.lst ((toldM S).map V.int)) = H7 at s7 hp7 ⊢
    refine ⟨_, rfl, _, _, _, rfl, s7 _ _ (sB _ _ h0), sfs_no (by decide +kernel), F, S, rfl, hS.up (sB.trans s7), fun H8 D2 s8 hD28 hD8 => ?_⟩
    refine ⟨_, rfl, _, _, _, rfl, s8 _ _ (s7 _ _ (sB _ _ h0)), sfs_no (by decide +kernel), F, S, rfl, hS.up ((sB.trans s7).trans s8), ?_⟩
    refine ⟨tup_le 3 (by decide), fun t2 ht2 => ?_⟩
    have s9 : Same H8 (upd H8 t2 (.tup [.ref p2, .ref D2, .bl (overM S)])) := same_new ht2
    have hd9 : Dp K (upd H8 t2 (.tup [.ref p2, .ref D2, .bl (overM S)])) (.ref t2) (tellD S) := tell_dp upd_same (s9 _ _ (s8 _ _ hp7)) (s9 _ _ hD8)
    refine ⟨_, _, hd3.up (((s36.trans s7).trans s8).trans s9), hd9, tell_shp S, tell_shp S, ?_⟩
    rw [PySem.SeqAt.eqv_refl _ (tell_lay S)]
    exact k _ (((sB.trans s7).trans s8).trans s9)
end
end K8
/-! # The law's cells -/
namespace K8
open PySem PySem.Spec PyProof.Rows L2
theorem emod_ix (z : Int) {n : Nat} (h : 0 < n) : ∃ j : Nat, z % (n : Int) = (j : Int) ∧ j < n := by
  have h1 := Int.emod_nonneg z (show (n : Int) ≠ 0 by omega)
  have h2 := Int.emod_lt_of_pos z (show (0 : Int) < (n : Int) by omega)
  exact ⟨(z % (n : Int)).toNat, by omega, by omega⟩
theorem ixN_nat {n j : Nat} (h : j < n) : ixN n (j : Int) = some j := by
  unfold ixN
  rw [if_pos (by omega), if_pos (by omega), Int.toNat_natCast]
theorem cutV_ints (ns : List Int) (lo hi : Option Int) : ∃ ms : List Int, cutV (ns.map V.int) lo hi = ms.map V.int ∧ ms.length ≤ ns.length := by
  have := cutV_length (ns.map V.int) lo hi
  refine ⟨(ns.drop (HT.sIx (ns.map V.int).length 0 lo)).take (HT.sIx (ns.map V.int).length (ns.map V.int).length hi - HT.sIx (ns.map V.int).length 0 lo), ?_, ?_⟩
  · unfold cutV
    rw [List.map_take, List.map_drop]
  · rw [List.length_take, List.length_drop]
    omega
theorem cutV_take (xs : List V) (j : Nat) : cutV xs none (some (j : Int)) = xs.take j := by
  unfold cutV
  rw [HT.sIx_nat, HT.sIx_none, List.drop_zero, Nat.sub_zero]
  by_cases h : j ≤ xs.length
  · rw [Nat.min_eq_left h]
  · rw [Nat.min_eq_right (by omega), List.take_of_length_le (by omega), List.take_of_length_le (by omega)]
theorem ints_ix {ns : List Int} {j : Nat} (h : j < ns.length) : (ns.map V.int)[j]? = some (V.int ns[j]) := by
  rw [List.getElem?_map, List.getElem?_eq_getElem h]
  rfl
section
variable {P : Program} {w : World} {K : PySem.W.Frag} {mg : Str → Option Value} {base : Heap}
def spCells (K : PySem.W.Frag) : Sp := fun vs H Q _ => ∃ (a : Addr) (ns : List Int) (t m : Nat), vs = [.ref a, .int (t : Int), .int (m : Int)] ∧ SqL K H a (ns.map V.int) ∧ ns.length ≤ 63 ∧ t ≤ 500 ∧ 1 ≤ m ∧ m ≤ 20 ∧
  ∀ (H' : Hp) (p : Addr) (ms : List Int), Same H H' → H p = none → H' p = some (.lst (ms.map V.int)) → ms ≠ [] → ms.length ≤ m → Q (.ref p) H'
theorem ok_cells (T : Tx K mg) : FnOk P w K mg base CX0 2 T.l_cells.f T.l_cells.fd ["_law_script", "_law_turn", "_law_most"] (spCells K) := by
  have GM : FnOk P w K mg base CX0 1 T.l_mix.f T.l_mix.fd ["_law_cell", "_law_turn"] spMix := ok_mix T
  have nd := sc_l_cells.nd
  refine ok0 T.l_cells.F sc_l_cells (fun vs H Q E h => ?_) (fun cdv A outer s H vs Q E hr h => ?_)
  · obtain ⟨a, ns, t, m, rfl, _⟩ := h
    rfl
  · obtain ⟨a, ns, t, m, rfl, hs, hl, ht, hm1, hm2, k⟩ := h
    refine ⟨_, pss_cons (ps_set (i := 3) nd rfl (.inl rfl) (pe_op op_cat (pe_slice sl_list (pv 0) po_none (po_some pe_int)) (pe_lst (pa_cons (pv 1) pa_nil))))
      (pss_cons (ps_set (i := 4) nd rfl (.inl rfl) (pe_lst pa_nil))
      (pss_cons (ps_if (pt_cmpR op_eq (pe_op op_mod (pe_op op_fdiv (pe_ix ix_list (pv 3) pe_int (fun _ _ => rfl)) pe_int) pe_int) pe_int (nomark _))
        (pss_cons (ps_setLc (i := 6) (own := [("_law_cell", 5)]) (g := gName 5) (tt := tYes) (te := tOp (rI CDiv fun i j => .int (i / j)) (tVar 5) (tC (.int 100000))) rfl nd rfl rfl (sw_true rfl rfl rfl (by decide +kernel)) (pi_list (pv 3))
          (blkOk_by (N := N_l_cells) (sc := defScope s_l_cells) (by decide +kernel)) (fun _ _ _ _ _ => pg_name (i := 5) nd rfl (Or.inl rfl)) (fun _ _ _ _ _ => pts_nil) (fun _ _ _ _ _ => pe_op op_fdiv (pv 5) pe_int))
        (pss_cons (ps_for PassesOwn.never rfl (pi_range1 rfl T.z_range (pa_cons (pe_op op_add (pe_op op_add (pv 1) (pv 2)) pe_int) pa_nil)) (pg_name (i := 7) nd rfl (.inl rfl))
          (pss_cons (ps_set (i := 8) nd rfl (.inl rfl) (pe_op op_mod (pv 7) (pe_callB call_len_seq (by rfl) T.z_len PySem.boot_len (pa_cons (pv 6) pa_nil))))
          (pss_cons (ps_expr (pe_bm PySem.F.plainAttrs_list PySem.F.slot_list_append PySem.F.type_list_append mt_append (pv 4) (pa_cons (pe_op op_mod (pe_ix ix_list (pv 6) (pv 8) (fun _ _ => rfl)) pe_int) pa_nil)))
          (pss_one (ps_asg (pe_op op_fdivW (pe_ix ix_list (pv 6) (pv 8) (fun _ _ => rfl)) pe_int) (pg_sub (pv 6) (pv 8) set_list))))))
        (pss_cons (ps_set (i := 4) nd rfl (.inl rfl) (pe_slice sl_list (pv 4) (po_some (pv 1)) po_none))
        (pss_one (ps_ret (pe_slice sl_list (pv 4) po_none (po_some (pe_op op_add pe_int (pe_op op_mod (pe_ix ix_list (pv 4) (pv 2) (fun _ _ => rfl)) (pv 2)))))))))) pss_nil)
      (pss_cons (ps_set (i := 9) nd rfl (.inl rfl) pe_int)
      (pss_cons (ps_for PassesOwn.never rfl (pi_enum (by rfl) T.z_enumerate (pa_cons (pv 3) pa_nil)) (pg_tup rfl (pgs_cons (pg_name (i := 7) nd rfl (.inl rfl)) (pgs_cons (pg_name (i := 5) nd rfl (.inl rfl)) pgs_nil)))
        (pss_one (ps_set (i := 9) nd rfl (.inl rfl) (pe_op op_mod (pe_op op_add (pe_op op_mul (pv 9) pe_int) (pe_call GM hr rfl T.l_mix.m T.l_mix.F.kp T.l_mix.b .nil pass0 (pa_cons (pv 5) (pa_cons (pe_op op_add (pv 7) (pv 1)) pa_nil)))) pe_int))))
      (pss_cons (ps_for PassesOwn.never rfl (pi_range1 rfl T.z_range (pa_cons (pe_op op_add pe_int (pe_op op_mod (pe_op op_fdiv (pv 9) pe_int) (pv 2))) pa_nil)) (pg_name (i := 7) nd rfl (.inl rfl))
        (pss_cons (ps_set (i := 10) nd rfl (.inl rfl) (pe_call GM hr rfl T.l_mix.m T.l_mix.F.kp T.l_mix.b .nil pass0 (pa_cons (pe_ix ix_list (pv 3) (pe_op op_mod (pv 7) (pe_callB call_len_seq (by rfl) T.z_len PySem.boot_len (pa_cons (pv 3) pa_nil))) (fun _ _ => rfl))
          (pa_cons (pe_op op_add (pe_op op_add (pe_op op_mod (pv 9) pe_int) (pv 7)) (pv 1)) pa_nil))))
        (pss_one (ps_expr (pe_bm PySem.F.plainAttrs_list PySem.F.slot_list_append PySem.F.type_list_append mt_append (pv 4) (pa_cons (pe_op op_mod (pe_op op_add (pe_op op_mul (pv 10) (pv 10)) (pe_op op_mul pe_int (pv 7))) pe_int) pa_nil))))))
      (pss_one (ps_ret (pv 4)))))))), ?_⟩
    obtain ⟨ms, hms, hml⟩ := cutV_ints ns none (some 63)
    refine ⟨_, rfl, _, rfl, a, _, rfl, hs, fun p1 hp1 => ?_⟩
    rw [hms]
    refine ⟨_, rfl, (by rw [sizeLine_eq]; exact (by decide : (1 : Nat) ≤ 16777216)), fun p2 hp2 => ?_⟩
    refine ⟨p1, p2, _, _, rfl, rfl, by rw [upd_ne (ne_of_none upd_same hp2)]; exact upd_same, upd_same, by rw [List.length_map, sizeLine_eq]; show ms.length + 1 ≤ _; omega, fun c hc => ?_⟩
    have s1 : Same H (upd (upd (upd H p1 (.lst (ms.map V.int))) p2 (.lst [V.int (t : Int)])) c (.lst (ms.map V.int ++ [V.int (t : Int)]))) := ((same_new hp1).trans (same_new hp2)).trans (same_new hc)
    have c1 : upd (upd (upd H p1 (.lst (ms.map V.int))) p2 (.lst [V.int (t : Int)])) c (.lst (ms.map V.int ++ [V.int (t : Int)])) c = some (.lst ((ms ++ [(t : Int)]).map V.int)) := by rw [upd_same, List.map_append]; rfl
    generalize upd (upd (upd H p1 (.lst (ms.map V.int))) p2 (.lst [V.int (t : Int)])) c (.lst (ms.map V.int ++ [V.int (t : Int)])) = H1 at s1 c1 ⊢
    obtain ⟨L, hL⟩ : ∃ L, L = ms ++ [(t : Int)] := ⟨_, rfl⟩
    have hL0 : 0 < L.length := by rw [hL, List.length_append]; exact Nat.succ_pos _
    have hL64 : L.length ≤ 64 := by rw [hL, List.length_append, List.length_singleton]; omega
    rw [← hL] at c1
    clear hL
    refine ⟨Nat.zero_le _, fun f hf => ?_⟩
    have hHf : H f = none := s1.free hf
    have nfc : c ≠ f := ne_of_none c1 hf
    have s2 : Same H1 (upd H1 f (.lst [])) := same_new hf
    refine ⟨_, rfl, _, _, _, _, rfl, rfl, SqL.of (s2 _ _ c1), atI_nat (j := 0) (ints_ix hL0), _, _, rfl, rfl, ⟨by decide, by decide⟩, _, _, rfl, rfl, (by show (0 : Int) < 2; decide), rfl, _, rfl, ?_⟩
    refine ite2 (fun _ => ?_) (fun _ => ?_)
    · refine ⟨_, rfl, c, rfl, ⟨_, SqL.of (s2 _ _ c1)⟩, fun D hD => ?_⟩
      refine lc_map (K := K) (a := c) (xs := L.map V.int) ((L.map fun x => x / 100000).map V.int) (by simp) (by rw [List.length_map, sizeLine_eq]; omega) (SqL.of (s2 _ _ c1)) hD (fun i x y H' kk hx hy sm ky => ?_) (fun H3 s3 hD3 => ?_)
      · rw [List.getElem?_map] at hx
        obtain ⟨z, hz, rfl⟩ := Option.map_eq_some_iff.mp hx
        rw [List.getElem?_map, List.getElem?_map, hz] at hy
        refine ⟨rfl, _, rfl, _, _, rfl, rfl, ⟨by decide, by decide⟩, ?_⟩
        have ey : y = V.int (z / 100000) := (Option.some.inj hy).symm
        show kk (V.int (z / 100000)) H'
        rw [← ey]
        exact ky H' (Same.refl _)
      · have f3 : H3 f = some (.lst []) := s3 _ _ upd_same
        have nfD : f ≠ D := ne_of_none upd_same hD
        have hHD : H D = none := s1.free (s2.free hD)
        have s13 := (s1.trans s2).trans s3
        refine ⟨_, rfl, _, rfl, _, _, rfl, rfl, _, _, rfl, rfl, _, rfl, by omega, by omega, for_range (lo := 0) (n := ((t : Int) + (m : Int) + 1).toNat)
          (fun i σ H' => ∃ (ls acc : List Int) (v7 v8 : Option V), σ = [some (.ref a), some (.int (t : Int)), some (.int (m : Int)), some (.ref c), some (.ref f), none, some (.ref D), v7, v8, none, none] ∧ Same H H' ∧ H' D = some (.lst (ls.map V.int)) ∧ ls.length = L.length ∧ H' f = some (.lst (acc.map V.int)) ∧ acc.length = i)
          ⟨L.map fun x => x / 100000, [], none, none, rfl, s13, hD3, List.length_map _, f3, rfl⟩ ?_ ?_⟩
        · rintro i σ H' hi ⟨ls, acc, v7, v8, rfl, sH, hls, hll, hac, hal⟩
          obtain ⟨j, hj, hjl⟩ := emod_ix (0 + (i : Int)) (n := (ls.map V.int).length) (by rw [List.length_map]; omega)
          rw [List.length_map] at hjl
          refine ⟨_, rfl, _, rfl, _, _, rfl, .inl (SqL.of hls), _, _, rfl, rfl, (by rw [List.length_map]; omega), ?_⟩
          dsimp only
          rw [hj]
          refine ⟨_, rfl, .inl ⟨rfl, _, SqL.of hac⟩, _, rfl, _, rfl, _, _, _, _, rfl, rfl, SqL.of hls, atI_nat (ints_ix hjl), _, _, rfl, rfl, (by show (0 : Int) < 2147483587; decide), f, _, _, rfl, rfl, hac, by rw [List.length_map, sizeLine_eq]; omega, ?_⟩
          have hls2 : upd H' f (.lst (acc.map V.int ++ [V.int (ls[j] % 2147483587)])) D = some (.lst (ls.map V.int)) := by rw [upd_ne (Ne.symm nfD)]; exact hls
          refine ⟨_, rfl, _, rfl, _, _, _, _, rfl, rfl, SqL.of hls2, atI_nat (ints_ix hjl), _, _, rfl, rfl, wide_div (b := 31) (by decide) (by decide) (by decide) (by decide), _, rfl, _, rfl, D, _, _, j, rfl, rfl, hls2, ixN_nat (by rw [List.length_map]; exact hjl), ?_⟩
          refine ⟨ls.set j (ls[j] / 2147483587), acc ++ [ls[j] % 2147483587], _, _, rfl, same_put (same_put sH hHf) hHD, by rw [upd_same, List.map_set], by rw [List.length_set]; exact hll, ?_, by rw [List.length_append, List.length_singleton, hal]⟩
          rw [upd_ne nfD, upd_same, List.map_append]
          rfl
        · rintro σ H' ⟨ls, acc, v7, v8, rfl, sH, hls, hll, hac, hal⟩
          refine ⟨_, rfl, _, rfl, _, rfl, f, _, rfl, SqL.of hac, fun q hq => ?_⟩
          rw [cutV_drop, ← List.map_drop]
          have hdl : (acc.drop t).length = m + 1 := by rw [List.length_drop, hal]; omega
          have hq1 : upd H' q (.lst ((acc.drop t).map V.int)) q = some (.lst ((acc.drop t).map V.int)) := upd_same
          have sq : Same H (upd H' q (.lst ((acc.drop t).map V.int))) := sH.trans (same_new hq)
          generalize upd H' q (.lst ((acc.drop t).map V.int)) = H5 at hq1 sq ⊢
          generalize acc.drop t = fs at hdl hq1 ⊢
          obtain ⟨j, hj, hjm⟩ := emod_ix (fs[m]'(by omega)) (n := m) (by omega)
          refine ⟨_, rfl, _, rfl, _, rfl, _, _, _, _, rfl, rfl, SqL.of hq1, atI_nat (ints_ix (by omega)), _, rfl, _, _, rfl, rfl, (by show (0 : Int) < (m : Int); omega), _, _, rfl, rfl, _, rfl, q, _, rfl, SqL.of hq1, fun p hp => ?_⟩
          rw [hj, show (1 : Int) + (j : Int) = ((1 + j : Nat) : Int) by omega, cutV_take, ← List.map_take]
          refine k _ p (fs.take (1 + j)) (sq.trans (same_new hp)) (sq.free hp) upd_same (fun e => ?_) ?_
          · have := congrArg List.length e
            rw [List.length_take, List.length_nil] at this
            omega
          · rw [List.length_take]
            omega
    · refine ⟨_, rfl, c, L.map V.int, rfl, SqL.of (s2 _ _ c1), for_enum (K := K) (a := c) (xs := L.map V.int)
        (fun i σ H' => ∃ (n : Int) (v5 v7 : Option V), σ = [some (.ref a), some (.int (t : Int)), some (.int (m : Int)), some (.ref c), some (.ref f), v5, none, v7, none, some (.int n), none] ∧ 0 ≤ n ∧ n < 2147483629 ∧ Same (upd H1 f (.lst [])) H')
        ⟨0, none, none, rfl, by decide, by decide, Same.refl _⟩ (fun i σ H' _ ⟨_, _, _, _, _, _, sm⟩ => sm.seq (SqL.of (s2 _ _ c1))) ?_ ?_⟩
      · rintro i x σ H' U hx ⟨n, v5, v7, rfl, n0, n1, sm⟩ hU
        have hi : i < L.length := by
          have := (List.getElem?_eq_some_iff.mp hx).1
          rwa [List.length_map] at this
        rw [List.getElem?_map] at hx
        obtain ⟨z, hz, rfl⟩ := Option.map_eq_some_iff.mp hx
        refine ⟨U, _, rfl, SqT.of upd_same, rfl, _, _, rfl, _, _, rfl, rfl, ?_⟩
        refine ⟨_, rfl, _, _, rfl, rfl, .inl (by omega), _, rfl, _, rfl, _, rfl, _, _, rfl, rfl, z, (i : Int) + (t : Int), rfl, by omega, by omega, fun n2 h0 h2 => ?_⟩
        refine ⟨_, _, rfl, rfl, _, _, rfl, rfl, (by show (0 : Int) < 2147483629; decide), ?_⟩
        exact ⟨_, _, _, rfl, Int.emod_nonneg _ (by decide), Int.emod_lt_of_pos _ (by decide), sm.trans (same_new hU)⟩
      · rintro σ H3 ⟨n, v5, v7, rfl, n0, n1, sm⟩
        have hc3 : H3 c = some (.lst (L.map V.int)) := sm _ _ (s2 _ _ c1)
        have hf3 : H3 f = some (.lst []) := sm _ _ upd_same
        have s13 : Same H H3 := (s1.trans s2).trans sm
        obtain ⟨j, hj, hjm⟩ := emod_ix (n / 1009) (n := m) (by omega)
        refine ⟨_, rfl, _, _, rfl, rfl, ⟨by decide, by decide⟩, _, rfl, _, _, rfl, rfl, (by show (0 : Int) < (m : Int); omega), _, _, rfl, rfl, _, rfl, ?_⟩
        rw [hj]
        refine ⟨by omega, by omega, for_range (lo := 0) (n := (1 + (j : Int)).toNat)
          (fun i σ H' => ∃ (acc : List Int) (v5 v7 v10 : Option V), σ = [some (.ref a), some (.int (t : Int)), some (.int (m : Int)), some (.ref c), some (.ref f), v5, none, v7, none, some (.int n), v10] ∧ Same H H' ∧ H' c = some (.lst (L.map V.int)) ∧ H' f = some (.lst (acc.map V.int)) ∧ acc.length = i)
          ⟨[], _, _, none, rfl, s13, hc3, hf3, rfl⟩ ?_ ?_⟩
        · rintro i σ H' hi ⟨acc, v5, v7, v10, rfl, sH, hc4, hf4, hal⟩
          obtain ⟨e, he, hel⟩ := emod_ix (0 + (i : Int)) (n := (L.map V.int).length) (by rw [List.length_map]; omega)
          rw [List.length_map] at hel
          have g0 := Int.emod_nonneg n (show (1009 : Int) ≠ 0 by decide)
          have g1 := Int.emod_lt_of_pos n (show (0 : Int) < 1009 by decide)
          refine ⟨_, rfl, _, rfl, _, rfl, _, _, rfl, .inl (SqL.of hc4), _, _, rfl, rfl, (by rw [List.length_map]; omega), ?_⟩
          refine ⟨_, _, _, _, rfl, rfl, SqL.of hc4, (by rw [he]; exact atI_nat (ints_ix hel)), _, rfl, _, _, rfl, rfl, (by show (0 : Int) < 1009; decide), _, rfl, _, _, rfl, rfl, _, rfl, _, _, rfl, rfl, _, _, rfl, by omega, by omega, fun o h0 h2 => ?_⟩
          refine ⟨_, rfl, .inl ⟨rfl, _, SqL.of hf4⟩, _, rfl, _, rfl, _, _, rfl, rfl, .inl (by omega), _, rfl, _, _, rfl, rfl, .inl (by decide), _, _, rfl, rfl, _, _, rfl, rfl, (by show (0 : Int) < 2147483587; decide), f, _, _, rfl, rfl, hf4, by rw [List.length_map, sizeLine_eq]; omega, ?_⟩
          refine ⟨acc ++ [(o * o + 7 * (0 + (i : Int))) % 2147483587], _, _, _, rfl, same_put sH hHf, by rw [upd_ne nfc]; exact hc4, ?_, by rw [List.length_append, List.length_singleton, hal]⟩
          rw [upd_same, List.map_append]
          rfl
        · rintro σ H' ⟨acc, v5, v7, v10, rfl, sH, hc4, hf4, hal⟩
          refine ⟨_, rfl, k H' f acc sH hHf hf4 (fun e => ?_) (by omega)⟩
          rw [e] at hal
          have : (0 : Nat) = (1 + (j : Int)).toNat := hal
          omega
end
end K8
/-! # The law's names -/
namespace K8
open PySem PySem.Spec PyProof.Rows L2
/-- a comprehension over the signs of a text -/
theorem lc_its {x : Str} {n : Nat} {g : TG} {tt : TT} {te : TE} {vs : List Nat} {σ : St} {H1 : Hp} {D : Addr} {Qd : Hp → Prop} (hn : x.cps.size = n) (Pv : Nat → Hp → Prop) (h0 : Pv 0 (upd H1 D (.lst [])))
    (hs : ∀ i c H, x.cps[i]? = some c → Pv i H → g (.str ⟨#[c]⟩) (wipe σ vs) H fun σ2 H2 => wipe σ2 vs = wipe σ vs ∧ tt σ2 H2 fun b H3 =>
      if b = true then te σ2 H3 fun y H4 => ∃ acc, H4 D = some (.lst acc) ∧ acc.length < sizeLine ∧ Pv (i + 1) (upd H4 D (.lst (acc ++ [y]))) else Pv (i + 1) H3) (hd : ∀ H, Pv n H → Qd H) :
    ∃ W : Nat → Nat → Hp → Prop, (∃ m, W 0 m (upd H1 D (.lst []))) ∧ ∀ i m H, W i m H →
      ((Its x).stop i H ∧ Qd H) ∨ ((Its x).go i H ∧ ∃ Nx : Hp → Prop, (∀ H', Nx H' → ∃ m', m' < m ∧ W (i + 1) m' H') ∧ ∀ v H', (Its x).yld i H v H' → g v (wipe σ vs) H' fun σ2 H2 => wipe σ2 vs = wipe σ vs ∧ tt σ2 H2 fun b H3 =>
        if b = true then te σ2 H3 fun y H4 => ∃ acc, H4 D = some (.lst acc) ∧ acc.length < sizeLine ∧ Nx (upd H4 D (.lst (acc ++ [y]))) else Nx H3) := by
  refine ⟨fun i m H => m = n - i ∧ i ≤ n ∧ Pv i H, ⟨n, by simp, Nat.zero_le _, h0⟩, ?_⟩
  rintro i m H ⟨rfl, hi, p⟩
  by_cases hlt : i < n
  · refine .inr ⟨by show i < x.cps.size; omega, Pv (i + 1), fun H' p' => ⟨n - (i + 1), by omega, rfl, hlt, p'⟩, fun v H' y => ?_⟩
    obtain ⟨e, c, hc, ev⟩ := y
    subst e ev
    exact hs i c _ hc p
  · have e : i = n := by omega
    subst e
    exact .inl ⟨by show x.cps.size ≤ i; omega, hd H p⟩
def okT (x : Str) : Prop := ∀ c ∈ x.cps.toList, c < 0x110000
theorem okT_str {x : Str} (h : okT x) : PyData.strOk x = true := by
  unfold PyData.strOk
  rw [← Array.all_toList, List.all_eq_true]
  exact fun c hc => decide_eq_true (h c hc)
theorem okT_of {x : Str} (h : PyData.strOk x = true) : okT x := fun c hc => by
  unfold PyData.strOk at h
  rw [← Array.all_toList, List.all_eq_true] at h
  exact of_decide_eq_true (h c hc)
theorem okT_cut {z : Str} (h : okT z) (lo hi : Option Int) : okT (cutS z lo hi) := fun c hc => h c (List.mem_of_mem_drop (List.mem_of_mem_take hc))
theorem okT_app {x y : Str} (hx : okT x) (hy : okT y) : okT (x ++ y) := fun c hc => by
  have e : (x ++ y).cps.toList = x.cps.toList ++ y.cps.toList := Array.toList_append
  rw [e] at hc
  rcases List.mem_append.mp hc with q | q
  · exact hx c q
  · exact hy c q
theorem cutS_len (z : Str) (lo hi : Option Int) : (cutS z lo hi).length ≤ z.length := by
  show ((z.cps.toList.drop _).take _).toArray.size ≤ z.cps.size
  rw [List.size_toArray, List.length_take, List.length_drop, Array.length_toList]
  omega
theorem app_len (x y : Str) : (x ++ y).length = x.length + y.length := by
  show (x.cps ++ y.cps).size = _
  rw [Array.size_append]
  rfl
def rAddS : R2 := fun x y H Q => ∃ i j, x = .str i ∧ y = .str j ∧ i.length + j.length ≤ sizeLine ∧ Q (.str (i ++ j)) H
theorem op_addS {X : Cx} : OpR X (binaryOp .Add) rAddS := op_add_str
section
variable {P : Program} {w : World} {K : PySem.W.Frag} {mg : Str → Option Value} {base : Heap}
def spNames (K : PySem.W.Frag) : Sp := fun vs H Q _ => ∃ (a : Addr) (ns : List Int), vs = [.ref a] ∧ SqL K H a (ns.map V.int) ∧ ns.length ≤ 63 ∧
  ∀ (H' : Hp) (p : Addr) (ts : List OkS), Same H H' → H p = none → H' p = some (.lst (ts.map fun t => V.str t.1)) → ts.length = 5 → Q (.ref p) H'
theorem ok_names (T : Tx K mg) : FnOk P w K mg base CX0 3 T.l_names.f T.l_names.fd ["_law_script"] (spNames K) := by
  have GC : FnOk P w K mg base CX0 2 T.l_cells.f T.l_cells.fd ["_law_script", "_law_turn", "_law_most"] (spCells K) := ok_cells T
  have nd := sc_l_names.nd
  refine ok0 T.l_names.F sc_l_names (fun vs H Q E h => ?_) (fun cdv A outer s H vs Q E hr h => ?_)
  · obtain ⟨a, ns, rfl, _⟩ := h
    rfl
  · obtain ⟨a, ns, rfl, hs, hl, k⟩ := h
    refine ⟨_, pss_cons (ps_set (i := 1) nd rfl (.inl rfl) (pe_ix ix_list (pe_call GC hr rfl T.l_cells.m T.l_cells.F.kp T.l_cells.b .nil pass0 (pa_cons (pv 0) (pa_cons pe_int (pa_cons pe_int pa_nil)))) pe_int (fun _ _ => rfl)))
      (pss_cons (ps_set (i := 2) nd rfl (.inr rfl) (pe_slice sl_str pe_str po_none (po_some (pe_op op_mod (pv 1) pe_int))))
      (pss_cons (ps_set (i := 3) nd rfl (.inr rfl) (pe_op op_mod (pe_op op_fdiv (pv 1) pe_int) (pe_op op_add (pe_callB call_len_str (by rfl) T.z_len PySem.boot_len (pa_cons (pv 2) pa_nil)) pe_int)))
      (pss_one (ps_ret (pe_lc (own := [("_law_letter", 4)]) (g := gName 4) (tt := tYes) (te := tOp rAddS (tOp rAddS (tSl rSlS (tVar 2) tNoPart (tPart (tVar 3))) (tVar 4)) (tSl rSlS (tVar 2) (tPart (tVar 3)) tNoPart)) rfl nd (pi_str pe_str)
        (blkOk_by (N := N_l_names) (sc := defScope s_l_names) (by decide +kernel)) (fun _ _ _ _ _ => pg_name (i := 4) nd rfl (Or.inl rfl)) (fun _ _ _ _ _ => pts_nil)
        (fun _ _ _ _ _ => pe_op op_addS (pe_op op_addS (pe_slice sl_str (pv 2) po_none (po_some (pv 3))) (pv 4)) (pe_slice sl_str (pv 2) (po_some (pv 3)) po_none))))))), ?_⟩
    refine ⟨_, rfl, a, ns, 40, 1, rfl, hs, hl, by decide, by decide, by decide, fun H1 p ms s1 hp hp1 hm0 hm1 => ?_⟩
    have hml : 0 < ms.length := List.length_pos_iff.mpr hm0
    refine ⟨p, _, _, _, rfl, rfl, SqL.of hp1, atI_nat (j := 0) (ints_ix hml), ?_⟩
    refine ⟨_, rfl, _, _, rfl, rfl, (by show (0 : Int) < 12; decide), _, rfl, _, rfl, (by rw [sizeLine_eq]; exact (by decide +kernel)), ?_⟩
    obtain ⟨st, hst⟩ : ∃ st, st = cutS "abcdefabcde" none (some (ms[0] % 12)) := ⟨_, rfl⟩
    have st1 : okT st := by rw [hst]; exact okT_cut (okT_of (by decide +kernel)) _ _
    have st2 : st.length ≤ 11 := by rw [hst]; exact cutS_len _ _ _
    dsimp only
    rw [← hst]
    refine ⟨_, rfl, _, _, rfl, rfl, ⟨by decide, by decide⟩, _, rfl, _, rfl, by rw [sizeLine_eq]; omega, _, _, rfl, rfl, _, _, rfl, rfl, (by show (0 : Int) < (st.length : Int) + 1; omega), ?_⟩
    refine ⟨_, rfl, fun D hD => lc_its (n := 5) (by decide +kernel) (fun i H' => Same H1 H' ∧ ∃ ts : List OkS, ts.length = i ∧ H' D = some (.lst (ts.map fun t => V.str t.1))) ⟨same_new hD, [], rfl, upd_same⟩ (fun i c H' hc q => ?_) (fun H' q => ?_)⟩
    · obtain ⟨sm, ts, htl, hD'⟩ := q
      have hcm : c ∈ ("mnopq" : Str).cps.toList := List.mem_of_getElem? (by rw [Array.getElem?_toList]; exact hc)
      have hi : i < 5 := by
        have h1 := (Array.getElem?_eq_some_iff.mp hc).1
        have h2 : ("mnopq" : Str).cps.size = 5 := by decide +kernel
        omega
      have oc : okT ⟨#[c]⟩ := fun d hd => by
        have : d = c := by simpa using hd
        rw [this]
        exact okT_of (x := "mnopq") (by decide +kernel) c hcm
      have lc1 : (⟨#[c]⟩ : Str).length = 1 := rfl
      obtain ⟨x1, hx1⟩ : ∃ x1, x1 = cutS st none (some (ms[0] / 12 % ((st.length : Int) + 1))) := ⟨_, rfl⟩
      obtain ⟨x2, hx2⟩ : ∃ x2, x2 = cutS st (some (ms[0] / 12 % ((st.length : Int) + 1))) none := ⟨_, rfl⟩
      have l1 : x1.length ≤ 11 := by rw [hx1]; exact Nat.le_trans (cutS_len _ _ _) st2
      have l2 : x2.length ≤ 11 := by rw [hx2]; exact Nat.le_trans (cutS_len _ _ _) st2
      have o1 : okT x1 := by rw [hx1]; exact okT_cut st1 _ _
      have o2 : okT x2 := by rw [hx2]; exact okT_cut st1 _ _
      have lz := sizeLine_eq
      refine ⟨rfl, _, rfl, _, rfl, _, rfl, st, rfl, by omega, _, rfl, _, _, rfl, rfl, ?_, ?_⟩
      · rw [← hx1, lc1]
        omega
      rw [← hx1]
      refine ⟨_, rfl, _, rfl, _, rfl, st, rfl, by omega, _, _, rfl, rfl, ?_, ?_⟩
      · rw [← hx2, app_len, lc1]
        omega
      rw [← hx2]
      refine ⟨_, hD', by rw [List.length_map, htl]; omega, same_put sm hD, ts ++ [⟨x1 ++ ⟨#[c]⟩ ++ x2, okT_str (okT_app (okT_app o1 oc) o2)⟩], by rw [List.length_append, List.length_singleton, htl], ?_⟩
      rw [upd_same, List.map_append]
      rfl
    · obtain ⟨sm, ts, htl, hD'⟩ := q
      exact k H' D ts (s1.trans sm) (s1.free hD) hD' htl
end
end K8
/-! # The law's questions -/
namespace K8
open PySem PySem.Spec PyProof.Rows L2
/-- a test, with a word of what its answer is -/
theorem pt_mono {X : Cx} {e : Expr} {tc : TT} (h : PT X e tc) : PT X e (fun σ H Q => ∃ R : Bool → Hp → Prop, tc σ H R ∧ ∀ b H1, R b H1 → Q b H1) :=
  ⟨fun pins s σ H Q I ⟨R, h1, h2⟩ => wpAny_mono (h.run pins s σ H _ I h1) (fun b s' ⟨H', I', r⟩ => ⟨H', I', h2 b H' r⟩) (fun _ _ z => z)⟩
def okS (s : Str) (h : PyData.strOk s = true) : OkS := ⟨s, h⟩
def sOwn : OkS := ⟨"own", by decide +kernel⟩
def sInner : OkS := ⟨"inner", by decide +kernel⟩
def sStar : OkS := ⟨"*", by decide +kernel⟩
def txt5 : List OkS := [⟨"x", by decide +kernel⟩, ⟨"", by decide +kernel⟩, ⟨"y x", by decide +kernel⟩, ⟨"\"", by decide +kernel⟩, ⟨"[a]", by decide +kernel⟩]
theorem strs_ix {ts : List OkS} {j : Nat} (h : j < ts.length) : (ts.map fun t => V.str t.1)[j]? = some (V.str ts[j].1) := by
  rw [List.getElem?_map, List.getElem?_eq_getElem h]
  rfl
abbrev Only (a : Addr) : Addr → Prop := fun b => b = a
theorem grow_pop {F H H' : Hp} {a : Addr} (sF : Same F H) (ha : F a = none) (h : ∀ b o, b ≠ a → H b = some o → H' b = some o) : Grow (Only a) F H F H' :=
  ⟨Same.refl _, fun b o e => h b o (fun z => by rw [z, ha] at e; cases e) (sF b o e), fun b o n e => h b o n e, fun _ _ e => .inl e, fun b m => by rw [m]; exact ha⟩
section
variable {P : Program} {w : World} {K : PySem.W.Frag} {mg : Str → Option Value} {base : Heap}
def spWish (K : PySem.W.Frag) (n : Nat) : Sp := fun vs H Q _ => ∃ (F : Hp) (ld sm : Addr) (d : Nat) (ns : List Int) (ss : List OkS), n = d + 1 ∧ vs = [.ref ld, .int (d : Int), .ref sm] ∧ Same F H ∧ F ld = none ∧ H ld = some (.lst (ns.map V.int)) ∧ SqL K F sm (ss.map fun t => V.str t.1) ∧ ss.length = 5 ∧
  ∀ (F' H' : Hp) (v : V) (x : W n) (ns' : List Int), Grow (Only ld) F H F' H' → H' ld = some (.lst (ns'.map V.int)) → Dp K F' v (dW n x) → Q v H'
def spSteps (K : PySem.W.Frag) (n : Nat) : Sp := fun vs H Q _ => ∃ (F : Hp) (ld sm : Addr) (d : Nat) (ns : List Int) (ss : List OkS), n = d + 1 ∧ vs = [.ref ld, .int (d : Int), .ref sm] ∧ Same F H ∧ F ld = none ∧ H ld = some (.lst (ns.map V.int)) ∧ SqL K F sm (ss.map fun t => V.str t.1) ∧ ss.length = 5 ∧
  ∀ (F' H' : Hp) (v : V) (l : List (Sp1 (W n))) (ns' : List Int), Grow (Only ld) F H F' H' → H' ld = some (.lst (ns'.map V.int)) → Dp K F' v (dQ n l) → l ≠ [] → l.length ≤ 3 → Q v H'
theorem ok_steps (T : Tx K mg) {n k : Nat} (hk : 1 ≤ k) (GW : FnOk P w K mg base CX0 k T.l_wish.f T.l_wish.fd ["_law_draws", "_law_deep", "_law_some"] (spWish K n)) : FnOk P w K mg base CX0 (k + 1) T.l_steps.f T.l_steps.fd ["_law_draws", "_law_deep", "_law_some"] (spSteps K n) := by
  have GP : FnOk P w K mg base CX0 1 T.l_pop.f T.l_pop.fd ["_law_draws"] spPop := ok_pop T
  have nd := sc_l_steps.nd
  refine ok0 T.l_steps.F sc_l_steps (fun vs H Q E h => ?_) (fun cdv A outer s H vs Q E hr h => ?_)
  · obtain ⟨F, ld, sm, d, ns, ss, _, rfl, _⟩ := h
    rfl
  · obtain ⟨F, ld, sm, d, ns, ss, hnd, rfl, sF, fl, hld, hsm, hsl, kk⟩ := h
    have hr1 := hr.mono hk
    refine ⟨_, pss_cons (ps_set (i := 3) nd rfl (.inl rfl) (pe_lst pa_nil))
      (pss_cons (ps_for PassesOwn.never rfl (pi_range1 rfl T.z_range (pa_cons (pe_op op_add pe_int (pe_op op_mod (pe_call GP hr1 rfl T.l_pop.m T.l_pop.F.kp T.l_pop.b .nil pass0 (pa_cons (pv 0) pa_nil)) pe_int)) pa_nil)) (pg_name (i := 4) nd rfl (.inl rfl))
        (pss_cons (ps_set (i := 5) nd rfl (.inl rfl) (pe_call GP hr1 rfl T.l_pop.m T.l_pop.F.kp T.l_pop.b .nil pass0 (pa_cons (pv 0) pa_nil)))
        (pss_cons (ps_set (i := 6) nd rfl (.inl rfl) (pe_ix ix_list (pe_op op_cat (pe_slice sl_list (pv 2) po_none (po_some pe_int)) (pe_lst (pa_cons pe_str (pa_cons pe_str (pa_cons pe_str pa_nil))))) (pe_op op_mod (pe_op op_fdiv (pv 5) pe_int) pe_int) (fun _ _ => rfl)))
        (pss_one (ps_expr (pe_bm PySem.F.plainAttrs_list PySem.F.slot_list_append PySem.F.type_list_append mt_append (pv 3) (pa_cons (pe_tup (pa_cons (pe_ix ix_list (pe_lst (pa_cons pe_str (pa_cons pe_str pa_nil))) (pe_op op_mod (pv 5) pe_int) (fun _ _ => rfl))
          (pa_cons (pv 6) (pa_cons (pe_call GW hr rfl T.l_wish.m T.l_wish.F.kp T.l_wish.b .nil pass0 (pa_cons (pv 0) (pa_cons (pv 1) (pa_cons (pv 2) pa_nil)))) pa_nil)))) pa_nil)))))))
      (pss_one (ps_ret (pv 3)))), ?_⟩
    refine ⟨Nat.zero_le _, fun f hf => ?_⟩
    have nlf : ld ≠ f := ne_of_none hld hf
    have Ff : F f = none := sF.free hf
    have hl1 : upd H f (.lst []) ld = some (.lst (ns.map V.int)) := by rw [upd_ne nlf]; exact hld
    refine ⟨_, rfl, ld, ns, rfl, hl1, fun n1 ms1 H1 hk1 hm1 _ => ?_⟩
    have g0 : Grow (Only ld) F H F (upd H f (.lst [])) := (Grow.refl sF (fun b e => by rw [e]; exact fl)).put hf Ff
    have g1 : Grow (Only ld) F H F H1 := g0.trans (grow_pop g0.inn fl hk1)
    have f1 : H1 f = some (.lst []) := hk1 _ _ (Ne.symm nlf) upd_same
    obtain ⟨j, hj, hj3⟩ := emod_ix n1 (n := 3) (by decide)
    refine ⟨_, _, rfl, rfl, (by show (0 : Int) < 3; decide), _, _, rfl, rfl, _, rfl, ?_⟩
    rw [show ((3 : Nat) : Int) = 3 from rfl] at hj
    rw [hj]
    refine ⟨by omega, by omega, for_range (lo := 0) (n := (1 + (j : Int)).toNat)
      (fun i σ H' => ∃ (F' : Hp) (vs : List V) (l : List (Sp1 (W n))) (ns' : List Int) (v4 v5 v6 : Option V), σ = [some (.ref ld), some (.int (d : Int)), some (.ref sm), some (.ref f), v4, v5, v6] ∧ Grow (Only ld) F H F' H' ∧ F' f = none ∧ H' f = some (.lst vs) ∧ DpAll K F' vs (l.map (dStep (dW n))) ∧ l.length = i ∧ H' ld = some (.lst (ns'.map V.int)))
      ⟨F, [], [], ms1, none, none, none, rfl, g1, Ff, f1, .nil, rfl, hm1⟩ ?_ ?_⟩
    · rintro i σ H' hi ⟨F', us, l, ns', v4, v5, v6, rfl, g, ff, hu, hus, hll, hl'⟩
      refine ⟨_, rfl, ld, ns', rfl, hl', fun n2 ms2 H2 hk2 hm2 _ => ?_⟩
      have g2 := g.trans (grow_pop g.inn (g.mm ld rfl) hk2)
      have f2 : H2 f = some (.lst us) := hk2 _ _ (Ne.symm nlf) hu
      have hsm2 : SqL K F' sm (ss.map fun t => V.str t.1) := g.sub.seq hsm
      refine ⟨_, rfl, _, rfl, sm, _, rfl, g2.inn.seq hsm2, fun p1 hp1 => ?_⟩
      have ec : cutV (ss.map fun t => V.str t.1) none (some 4) = (ss.take 4).map fun t => V.str t.1 := by rw [List.map_take]; exact cutV_take _ 4
      rw [ec]
      have m1 : ¬ Only ld p1 := fun e => by rw [e, hm2] at hp1; cases hp1
      have g3 := g2.new (o := .lst ((ss.take 4).map fun t => V.str t.1)) m1 hp1
      refine ⟨(by rw [sizeLine_eq]; exact (by decide : (3 : Nat) ≤ 16777216)), fun p2 hp2 => ?_⟩
      have hl3 : upd H2 p1 (.lst ((ss.take 4).map fun t => V.str t.1)) ld = some (.lst (ms2.map V.int)) := by rw [upd_ne (fun e => m1 e.symm)]; exact hm2
      have m2 : ¬ Only ld p2 := fun e => by rw [e, hl3] at hp2; cases hp2
      have g4 := g3.new (o := .lst [V.str "*", V.str "*", V.str "*"]) m2 hp2
      refine ⟨p1, p2, _, _, rfl, rfl, by rw [upd_ne (ne_of_none upd_same hp2)]; exact upd_same, upd_same, by rw [List.length_map, List.length_take, sizeLine_eq]; show min 4 ss.length + 3 ≤ _; omega, fun p3 hp3 => ?_⟩
      have hl4 : upd (upd H2 p1 (.lst ((ss.take 4).map fun t => V.str t.1))) p2 (.lst [V.str "*", V.str "*", V.str "*"]) ld = some (.lst (ms2.map V.int)) := by rw [upd_ne (fun e => m2 e.symm)]; exact hl3
      have m3 : ¬ Only ld p3 := fun e => by rw [e, hl4] at hp3; cases hp3
      have g5 := g4.new (o := .lst ((ss.take 4).map (fun t => V.str t.1) ++ [V.str "*", V.str "*", V.str "*"])) m3 hp3
      have hp33 : upd (upd (upd H2 p1 (.lst ((ss.take 4).map fun t => V.str t.1))) p2 (.lst [V.str "*", V.str "*", V.str "*"])) p3 (.lst ((ss.take 4).map (fun t => V.str t.1) ++ [V.str "*", V.str "*", V.str "*"])) p3 = some (.lst ((ss.take 4 ++ [sStar, sStar, sStar]).map fun t => V.str t.1)) := by
        rw [upd_same, List.map_append]
        rfl
      have hl5 : upd (upd (upd H2 p1 (.lst ((ss.take 4).map fun t => V.str t.1))) p2 (.lst [V.str "*", V.str "*", V.str "*"])) p3 (.lst ((ss.take 4).map (fun t => V.str t.1) ++ [V.str "*", V.str "*", V.str "*"])) ld = some (.lst (ms2.map V.int)) := by rw [upd_ne (fun e => m3 e.symm)]; exact hl4
      have f5 : upd (upd (upd H2 p1 (.lst ((ss.take 4).map fun t => V.str t.1))) p2 (.lst [V.str "*", V.str "*", V.str "*"])) p3 (.lst ((ss.take 4).map (fun t => V.str t.1) ++ [V.str "*", V.str "*", V.str "*"])) f = some (.lst us) := by
        have a1 : f ≠ p1 := ne_of_none f2 hp1
        have a2 : f ≠ p2 := fun e => by rw [← e, upd_ne a1, f2] at hp2; cases hp2
        have a3 : f ≠ p3 := fun e => by rw [← e, upd_ne a2, upd_ne a1, f2] at hp3; cases hp3
        rw [upd_ne a3, upd_ne a2, upd_ne a1]
        exact f2
      generalize upd (upd (upd H2 p1 (.lst ((ss.take 4).map fun t => V.str t.1))) p2 (.lst [V.str "*", V.str "*", V.str "*"])) p3 (.lst ((ss.take 4).map (fun t => V.str t.1) ++ [V.str "*", V.str "*", V.str "*"])) = H5 at g5 hp33 hl5 f5 ⊢
      obtain ⟨j7, hj7, hj7l⟩ := emod_ix (n2 / 2) (n := 7) (by decide)
      have hns : (ss.take 4 ++ [sStar, sStar, sStar]).length = 7 := by rw [List.length_append, List.length_take]; show min 4 ss.length + 3 = 7; omega
      generalize hnm : ss.take 4 ++ [sStar, sStar, sStar] = nms at hns hp33
      have e7 : n2 / 2 % 7 = (j7 : Int) := hj7
      refine ⟨_, rfl, _, _, rfl, rfl, ⟨by decide, by decide⟩, _, _, rfl, rfl, (by show (0 : Int) < 7; decide), p3, _, _, V.str (nms[j7]'(by omega)).1, rfl, rfl, SqL.of hp33, (by rw [e7]; exact atI_nat (strs_ix (by omega))), ?_⟩
      have g5f : Grow (Only ld) F H F' H5 := g5
      refine ⟨_, rfl, .inl ⟨rfl, _, SqL.of f5⟩, ⟨(by rw [sizeLine_eq]; exact (by decide : (2 : Nat) ≤ 16777216)), fun p4 hp4 => ?_⟩⟩
      have m4 : ¬ Only ld p4 := fun e => by rw [e, hl5] at hp4; cases hp4
      have g6 := g5.new (o := .lst [V.str "own", V.str "inner"]) m4 hp4
      have f6 : upd H5 p4 (.lst [V.str "own", V.str "inner"]) f = some (.lst us) := by rw [upd_ne (ne_of_none f5 hp4)]; exact f5
      have hl6 : upd H5 p4 (.lst [V.str "own", V.str "inner"]) ld = some (.lst (ms2.map V.int)) := by rw [upd_ne (fun e => m4 e.symm)]; exact hl5
      have hp44 : upd H5 p4 (.lst [V.str "own", V.str "inner"]) p4 = some (.lst ([sOwn, sInner].map fun t => V.str t.1)) := upd_same
      generalize upd H5 p4 (.lst [V.str "own", V.str "inner"]) = H6 at g6 f6 hl6 hp44 ⊢
      obtain ⟨j2, hj2, hj2l⟩ := emod_ix n2 (n := 2) (by decide)
      have e2 : n2 % 2 = (j2 : Int) := hj2
      refine ⟨_, rfl, _, _, rfl, rfl, (by show (0 : Int) < 2; decide), p4, _, _, V.str ([sOwn, sInner][j2]'hj2l).1, rfl, rfl, SqL.of hp44, (by rw [e2]; exact atI_nat (strs_ix hj2l)), _, rfl, ?_⟩
      refine ⟨_, rfl, _, rfl, _, rfl, F', ld, sm, d, ms2, ss, hnd, rfl, g6.inn, g6.mm ld rfl, hl6, hsm2, hsl, fun F7 H7 v7 x7 ns7 g7 hl7 hd7 => ⟨tup_le 3 (by decide), fun p8 hp8 => ?_⟩⟩
      have nMf : ¬ Only ld f := fun e => nlf e.symm
      have f7 : H7 f = some (.lst us) := g7.old f _ nMf f6
      have F7f : F7 f = none := g7.keepF ff (by rw [f6]; exact fun z => nomatch z)
      have m8 : ¬ Only ld p8 := fun e => by rw [e, hl7] at hp8; cases hp8
      have n8f : f ≠ p8 := ne_of_none f7 hp8
      have F7p := g7.fl hp8
      have g8 := (g6.trans g7).newF (o := .tup [V.str ([sOwn, sInner][j2]'hj2l).1, V.str (nms[j7]'(by omega)).1, v7]) m8 hp8
      have F8f : upd F7 p8 (.tup [V.str ([sOwn, sInner][j2]'hj2l).1, V.str (nms[j7]'(by omega)).1, v7]) f = none := by rw [upd_ne n8f]; exact F7f
      refine ⟨f, us, _, rfl, rfl, by rw [upd_ne n8f]; exact f7, by rw [dpAll_len hus, List.length_map, sizeLine_eq]; omega, ?_⟩
      refine ⟨_, _, l ++ [([sOwn, sInner][j2]'hj2l, (nms[j7]'(by omega)), x7)], ns7, _, _, _, rfl, g8.put hf F8f, F8f, upd_same, ?_, by rw [List.length_append, List.length_singleton, hll], by rw [upd_ne nlf, upd_ne (fun e => m8 e.symm)]; exact hl7⟩
      rw [List.map_append]
      exact dpAll_app ((hus.up g7.sub).up (same_new F7p)) (dpAll_one (.tup (SqT.of upd_same) (.cons (.str _) (.cons (.str _) (dpAll_one (hd7.up (same_new F7p)))))))
    · rintro σ H' ⟨F', us, l, ns', v4, v5, v6, rfl, g, ff, hu, hus, hll, hl'⟩
      have nMf : ¬ Only ld f := fun e => nlf e.symm
      refine ⟨_, rfl, kk _ H' _ l ns' (g.frz nMf hf hu) hl' (.lst (SqL.of upd_same) (hus.up (same_new ff))) (fun e => ?_) (by omega)⟩
      rw [e] at hll
      have : (0 : Nat) = (1 + (j : Int)).toNat := hll
      omega
theorem ok_wish (T : Tx K mg) : ∀ n : Nat, FnOk P w K mg base CX0 (2 * n + 1) T.l_wish.f T.l_wish.fd ["_law_draws", "_law_deep", "_law_some"] (spWish K n)
  | 0 => ⟨fun _ _ _ _ ⟨_, _, _, _, _, _, e, _⟩ => (nomatch e), fun _ _ _ _ _ _ _ _ _ _ _ _ _ ⟨_, _, _, _, _, _, e, _⟩ => (nomatch e)⟩
  | n + 1 => by
    have GW := ok_wish T n
    have GS := ok_steps T (by omega) GW
    have GP : FnOk P w K mg base CX0 1 T.l_pop.f T.l_pop.fd ["_law_draws"] spPop := ok_pop T
    have nd := sc_l_wish.nd
    refine ok0 (k := 2 * n + 2) T.l_wish.F sc_l_wish (fun vs H Q E h => ?_) (fun cdv A outer s H vs Q E hr h => ?_)
    · obtain ⟨F, ld, sm, d, ns, ss, _, rfl, _⟩ := h
      rfl
    · obtain ⟨F, ld, sm, d, ns, ss, hnd, rfl, sF, fl, hld, hsm, hsl, kk⟩ := h
      obtain rfl : n = d := by omega
      have hr1 := hr.mono (show 1 ≤ 2 * n + 2 by omega)
      refine ⟨_, pss_cons (ps_set (i := 3) nd rfl (.inl rfl) (pe_call GP hr1 rfl T.l_pop.m T.l_pop.F.kp T.l_pop.b .nil pass0 (pa_cons (pv 0) pa_nil)))
        (pss_cons (ps_set (i := 4) nd rfl (.inl rfl) (pe_op op_mod (pv 3) pe_int))
        (pss_cons (ps_if (pt_mono (PW.pt (pw_or (pt_cmpR op_lt (pv 4) pe_int (nomark _)) (pw_or1 (PW.pt (pw_and (pt_cmpR op_eq (pv 1) pe_int (nomark _)) (pw_and1 (pt_cmpR op_gt (pv 4) pe_int (nomark _))))))))) (pss_one (ps_ret (pe_tup (pa_cons pe_str pa_nil)))) pss_nil)
        (pss_cons (ps_if (pt_cmpR op_eq (pv 4) pe_int (nomark _)) (pss_one (ps_ret (pe_tup (pa_cons pe_str (pa_cons (pe_ix ix_list (pe_lst (pa_cons pe_str (pa_cons pe_str (pa_cons pe_str (pa_cons pe_str (pa_cons pe_str pa_nil)))))) (pe_op op_mod (pe_op op_fdiv (pv 3) pe_int) pe_int) (fun _ _ => rfl)) pa_nil))))) pss_nil)
        (pss_cons (ps_if (pt_cmpR op_lt (pv 4) pe_int (nomark _)) (pss_one (ps_ret (pe_tup (pa_cons pe_str (pa_cons (pe_call GS hr rfl T.l_steps.m T.l_steps.F.kp T.l_steps.b .nil pass0 (pa_cons (pv 0) (pa_cons (pe_op op_sub (pv 1) pe_int) (pa_cons (pv 2) pa_nil)))) pa_nil))))) pss_nil)
        (pss_cons (ps_if (pt_cmpR op_eq (pv 4) pe_int (nomark _)) (pss_one (ps_ret (pe_tup (pa_cons pe_str (pa_cons (pe_lst (pa_cons (pe_tup (pa_cons pe_str (pa_cons pe_str (pa_cons (pe_tup (pa_cons pe_str pa_nil)) pa_nil)))) pa_nil)) pa_nil))))) pss_nil)
        (pss_one (ps_ret (pe_tup (pa_cons (pe_ix ix_list (pe_lst (pa_cons pe_str (pa_cons pe_str pa_nil))) (pe_op op_sub (pv 4) pe_int) (fun _ _ => rfl)) (pa_cons (pe_lc (own := [("_law_k", 5)]) (g := gName 5) (tt := tYes) (te := tCall (spWish K n) [] E0 (tCons (tVar 0) (tCons (tOp (rI0 fun i j => .int (i - j)) (tVar 1) (tC (.int 1))) (tCons (tVar 2) tNil)))) rfl nd
          (pi_range1 rfl T.z_range (pa_cons (pe_op op_mod (pe_op op_fdiv (pv 3) pe_int) pe_int) pa_nil)) (blkOk_by (N := N_l_wish) (sc := defScope s_l_wish) (by decide +kernel)) (fun _ _ _ _ _ => pg_name (i := 5) nd rfl (Or.inl rfl)) (fun _ _ _ _ _ => pts_nil)
          (fun _ _ _ _ _ => pe_call GW (hr.mono (by omega)) rfl T.l_wish.m T.l_wish.F.kp T.l_wish.b .nil pass0 (pa_cons (pv 0) (pa_cons (pe_op op_sub (pv 1) pe_int) (pa_cons (pv 2) pa_nil))))) pa_nil)))))))))), ?_⟩
      refine ⟨_, rfl, ld, ns, rfl, hld, fun z ms H1 hk1 hl1 _ => ?_⟩
      have g1 := grow_pop sF fl hk1
      have hsm1 : SqL K F sm (ss.map fun t => V.str t.1) := hsm
      obtain ⟨q, hq, hq8⟩ := emod_ix z (n := 8) (by decide)
      have e8 : z % 8 = (q : Int) := hq
      refine ⟨_, rfl, _, _, rfl, rfl, (by show (0 : Int) < 8; decide), ?_⟩
      dsimp only
      rw [e8]
      -- ('any',)
      have any : ∀ p, H1 p = none → Q (.ref p) (upd H1 p (.tup [V.str "any"])) := fun p hp => by
        have m : ¬ Only ld p := fun e => by rw [e, hl1] at hp; cases hp
        exact kk _ _ _ (WF.any : W (n + 1)) ms (g1.newF m hp) (by rw [upd_ne (fun e => m e.symm)]; exact hl1) (.tup (SqT.of upd_same) (dpAll_one (.str _)))
      refine ⟨fun b H' => H' = H1 ∧ (b = false → 2 ≤ q ∧ (n = 0 → q ≤ 2)), ?_, ?_⟩
      · refine ⟨_, rfl, _, _, rfl, rfl, _, rfl, ?_⟩
        refine ite2 (fun _ => ⟨rfl, fun e => (nomatch e)⟩) (fun c0 => ?_)
        have h2 : 2 ≤ q := by
          have : ¬ ((q : Int) < 2) := fun z => c0 (decide_eq_true z)
          omega
        refine ⟨_, rfl, rfl, _, rfl, ?_⟩
        refine ite2 (fun _ => ?_) (fun c => ⟨rfl, fun _ => ⟨h2, fun e => ?_⟩⟩)
        · refine ⟨_, rfl, _, _, rfl, rfl, _, rfl, rfl, fun e => ⟨h2, fun _ => ?_⟩⟩
          have := of_decide_eq_false e
          omega
        · subst e
          exact absurd (by decide) c
      · rintro b H' ⟨rfl, hb⟩
        show (if b = true then _ else _)
        refine ite2 (fun _ => ⟨tup_le 1 (by decide), any⟩) (fun cb => ?_)
        have hb' := hb (by cases b with | true => exact absurd rfl cb | false => rfl)
        refine ⟨_, rfl, rfl, _, rfl, ?_⟩
        refine ite2 (fun _ => ?_) (fun c2 => ?_)
        · -- ('text', ..)
          refine ⟨(by rw [sizeLine_eq]; exact (by decide : (5 : Nat) ≤ 16777216)), fun p hp => ?_⟩
          have m : ¬ Only ld p := fun e => by rw [e, hl1] at hp; cases hp
          have g2 := g1.new (o := .lst [V.str "x", V.str "", V.str "y x", V.str "\"", V.str "[a]"]) m hp
          have hp2 : upd H' p (.lst [V.str "x", V.str "", V.str "y x", V.str "\"", V.str "[a]"]) p = some (.lst (txt5.map fun t => V.str t.1)) := upd_same
          have hl2 : upd H' p (.lst [V.str "x", V.str "", V.str "y x", V.str "\"", V.str "[a]"]) ld = some (.lst (ms.map V.int)) := by rw [upd_ne (fun e => m e.symm)]; exact hl1
          generalize upd H' p (.lst [V.str "x", V.str "", V.str "y x", V.str "\"", V.str "[a]"]) = H2 at g2 hp2 hl2 ⊢
          obtain ⟨j, hj, hj5⟩ := emod_ix (z / 8) (n := 5) (by decide)
          have e5 : z / 8 % 5 = (j : Int) := hj
          refine ⟨_, rfl, _, _, rfl, rfl, ⟨by decide, by decide⟩, _, _, rfl, rfl, (by show (0 : Int) < 5; decide), p, _, _, V.str (txt5[j]'hj5).1, rfl, rfl, SqL.of hp2, (by rw [e5]; exact atI_nat (strs_ix hj5)), ⟨tup_le 2 (by decide), fun t ht => ?_⟩⟩
          have m2 : ¬ Only ld t := fun e => by rw [e, hl2] at ht; cases ht
          exact kk _ _ _ (WF.text (txt5[j]'hj5) : W (n + 1)) ms (g2.newF m2 ht) (by rw [upd_ne (fun e => m2 e.symm)]; exact hl2) (.tup (SqT.of upd_same) (.cons (.str _) (dpAll_one (.str _))))
        · have hq2 : q ≠ 2 := fun e => c2 (by rw [e]; decide)
          obtain ⟨d', rfl⟩ : ∃ d', n = d' + 1 := ⟨n - 1, by omega⟩
          have ed : (((d' + 1 : Nat) : Int)) - 1 = (d' : Int) := by omega
          refine ⟨_, rfl, _, _, rfl, rfl, _, rfl, ?_⟩
          refine ite2 (fun _ => ?_) (fun c3 => ?_)
          · -- ('has', steps)
            refine ⟨_, rfl, _, rfl, _, _, rfl, rfl, _, rfl, F, ld, sm, d', ms, ss, rfl, (by show [V.ref ld, V.int ((((d' + 1 : Nat) : Int)) - 1), V.ref sm] = _; rw [ed]), g1.inn, fl, hl1, hsm, hsl, fun F2 H2 v2 l2 ns2 g2 hl2 hd2 hne hlen => ⟨tup_le 2 (by decide), fun t ht => ?_⟩⟩
            have m2 : ¬ Only ld t := fun e => by rw [e, hl2] at ht; cases ht
            have G := g1.trans g2
            exact kk _ _ _ (WF.has ⟨l2, hlen⟩ : W (d' + 2)) ns2 (G.newF m2 ht) (by rw [upd_ne (fun e => m2 e.symm)]; exact hl2) (.tup (SqT.of upd_same) (.cons (.str _) (dpAll_one (hd2.up (same_new (G.fl ht))))))
          · have hq5 : 5 ≤ q := by
              have : ¬ ((q : Int) < 5) := fun z => c3 (decide_eq_true z)
              omega
            refine ⟨_, rfl, rfl, _, rfl, ?_⟩
            refine ite2 (fun _ => ?_) (fun c4 => ?_)
            · -- ('has', [('own', '*', ('any',))])
              refine ⟨tup_le 1 (by decide), fun t1 ht1 => ⟨tup_le 3 (by decide), fun t2 ht2 => ⟨(by rw [sizeLine_eq]; exact (by decide : (1 : Nat) ≤ 16777216)), fun p3 hp3 => ⟨tup_le 2 (by decide), fun t4 ht4 => ?_⟩⟩⟩⟩
              have m1 : ¬ Only ld t1 := fun e => by rw [e, hl1] at ht1; cases ht1
              have g2 := g1.newF (o := .tup [V.str "any"]) m1 ht1
              have d2 : Dp K (upd F t1 (.tup [V.str "any"])) (.ref t1) (dW (d' + 1) (WF.any : W (d' + 1))) := .tup (SqT.of upd_same) (dpAll_one (.str _))
              have hl2 : upd H' t1 (.tup [V.str "any"]) ld = some (.lst (ms.map V.int)) := by rw [upd_ne (fun e => m1 e.symm)]; exact hl1
              generalize upd H' t1 (.tup [V.str "any"]) = H2 at g2 hl2 ht2 hp3 ht4 ⊢
              generalize upd F t1 (.tup [V.str "any"]) = F2 at g2 d2 ⊢
              have m2 : ¬ Only ld t2 := fun e => by rw [e, hl2] at ht2; cases ht2
              have g3 := g2.newF (o := .tup [V.str "own", V.str "*", V.ref t1]) m2 ht2
              have d3 : Dp K (upd F2 t2 (.tup [V.str "own", V.str "*", V.ref t1])) (.ref t2) (dStep (dW (d' + 1)) (sOwn, sStar, (WF.any : W (d' + 1)))) := .tup (SqT.of upd_same) (.cons (.str _) (.cons (.str _) (dpAll_one (d2.up (same_new (g2.fl ht2))))))
              have hl3 : upd H2 t2 (.tup [V.str "own", V.str "*", V.ref t1]) ld = some (.lst (ms.map V.int)) := by rw [upd_ne (fun e => m2 e.symm)]; exact hl2
              generalize upd H2 t2 (.tup [V.str "own", V.str "*", V.ref t1]) = H3 at g3 hl3 hp3 ht4 ⊢
              generalize upd F2 t2 (.tup [V.str "own", V.str "*", V.ref t1]) = F3 at g3 d3 ⊢
              have m3 : ¬ Only ld p3 := fun e => by rw [e, hl3] at hp3; cases hp3
              have g4 := g3.newF (o := .lst [V.ref t2]) m3 hp3
              have d4 : Dp K (upd F3 p3 (.lst [V.ref t2])) (.ref p3) (.list [dStep (dW (d' + 1)) (sOwn, sStar, (WF.any : W (d' + 1)))]) := .lst (SqL.of upd_same) (dpAll_one (d3.up (same_new (g3.fl hp3))))
              have hl4 : upd H3 p3 (.lst [V.ref t2]) ld = some (.lst (ms.map V.int)) := by rw [upd_ne (fun e => m3 e.symm)]; exact hl3
              generalize upd H3 p3 (.lst [V.ref t2]) = H4 at g4 hl4 ht4 ⊢
              generalize upd F3 p3 (.lst [V.ref t2]) = F4 at g4 d4 ⊢
              have m4 : ¬ Only ld t4 := fun e => by rw [e, hl4] at ht4; cases ht4
              exact kk _ _ _ (WF.has ⟨[(sOwn, sStar, (WF.any : W (d' + 1)))], (by decide : (1 : Nat) ≤ 3)⟩ : W (d' + 2)) ms (g4.newF m4 ht4) (by rw [upd_ne (fun e => m4 e.symm)]; exact hl4) (.tup (SqT.of upd_same) (.cons (.str _) (dpAll_one (d4.up (same_new (g4.fl ht4))))))
            · have hq6 : 6 ≤ q := by
                have : q ≠ 5 := fun e => c4 (by rw [e]; decide)
                omega
              obtain ⟨j, rfl⟩ : ∃ j, q = j + 6 := ⟨q - 6, by omega⟩
              have hj2 : j < 2 := by omega
              refine ⟨(by rw [sizeLine_eq]; exact (by decide : (2 : Nat) ≤ 16777216)), fun p hp => ?_⟩
              have m : ¬ Only ld p := fun e => by rw [e, hl1] at hp; cases hp
              have g2 := g1.new (o := .lst [V.str "both", V.str "one"]) m hp
              have hp2 : upd H' p (.lst [V.str "both", V.str "one"]) p = some (.lst [V.str "both", V.str "one"]) := upd_same
              have hl2 : upd H' p (.lst [V.str "both", V.str "one"]) ld = some (.lst (ms.map V.int)) := by rw [upd_ne (fun e => m e.symm)]; exact hl1
              generalize upd H' p (.lst [V.str "both", V.str "one"]) = H2 at g2 hp2 hl2 ⊢
              have e6 : (((j + 6 : Nat) : Int)) - 6 = (j : Int) := by omega
              obtain ⟨c, hc, hc4⟩ := emod_ix (z / 8) (n := 4) (by decide)
              have ec : z / 8 % 4 = (c : Int) := hc
              have hat : ([V.str "both", V.str "one"] : List V)[j]? = some (([V.str "both", V.str "one"] : List V)[j]'hj2) := List.getElem?_eq_getElem hj2
              refine ⟨_, rfl, _, _, rfl, rfl, p, _, _, _, rfl, rfl, SqL.of hp2, (by rw [e6]; exact atI_nat hat), ?_⟩
              refine ⟨_, rfl, _, _, rfl, rfl, ⟨by decide, by decide⟩, _, _, rfl, rfl, (by show (0 : Int) < 4; decide), (c : Int), (by rw [← ec]), by omega, by omega, fun D hD => ?_⟩
              have mD : ¬ Only ld D := fun e => by rw [e, hl2] at hD; cases hD
              have hHD : H D = none := g2.hl mD hD
              refine lc_range (lo := 0) (n := (c : Int).toNat) (fun i H' => ∃ (F' : Hp) (us : List V) (l : List (W (d' + 1))) (ns' : List Int), Grow (Only ld) F H F' H' ∧ F' D = none ∧ H' D = some (.lst us) ∧ DpAll K F' us (l.map (dW (d' + 1))) ∧ l.length = i ∧ H' ld = some (.lst (ns'.map V.int)))
                ⟨F, [], [], ms, g2.new mD hD, g2.fl hD, upd_same, .nil, rfl, by rw [upd_ne (fun e => mD e.symm)]; exact hl2⟩ (fun i H3 hi ⟨F3, us, l, ns3, g3, f3, h3, hus, hll, hl3⟩ => ?_) (fun H3 ⟨F3, us, l, ns3, g3, f3, h3, hus, hll, hl3⟩ => ?_)
              · refine ⟨rfl, _, rfl, _, rfl, _, _, rfl, rfl, _, rfl, F3, ld, sm, d', ns3, ss, rfl, (by show [V.ref ld, V.int ((((d' + 1 : Nat) : Int)) - 1), V.ref sm] = _; rw [ed]), g3.inn, g3.mm ld rfl, hl3, g3.sub.seq hsm, hsl, fun F4 H4 v4 x4 ns4 g4 hl4 hd4 => ?_⟩
                have h4 : H4 D = some (.lst us) := g4.old D _ mD h3
                have F4D : F4 D = none := g4.keepF f3 (by rw [h3]; exact fun z => nomatch z)
                refine ⟨us, h4, by rw [dpAll_len hus, List.length_map, sizeLine_eq]; omega, F4, us ++ [v4], l ++ [x4], ns4, (g3.trans g4).put hHD F4D, F4D, upd_same, ?_, by rw [List.length_append, List.length_singleton, hll], by rw [upd_ne (fun e => mD e.symm)]; exact hl4⟩
                rw [List.map_append]
                exact dpAll_app (hus.up g4.sub) (dpAll_one hd4)
              · refine ⟨tup_le 2 (by decide), fun t ht => ?_⟩
                have g4 := g3.frz mD hHD h3
                have d4 : Dp K (upd F3 D (.lst us)) (.ref D) (.list (l.map (dW (d' + 1)))) := .lst (SqL.of upd_same) (hus.up (same_new f3))
                have m2 : ¬ Only ld t := fun e => by rw [e, hl3] at ht; cases ht
                have hlen : l.length ≤ 3 := by omega
                have d5 := d4.up (same_new (o := .tup [([V.str "both", V.str "one"] : List V)[j]'hj2, V.ref D]) (g4.fl ht))
                have hl5 : upd H3 t (.tup [([V.str "both", V.str "one"] : List V)[j]'hj2, V.ref D]) ld = some (.lst (ns3.map V.int)) := by rw [upd_ne (fun e => m2 e.symm)]; exact hl3
                have hj01 : j = 0 ∨ j = 1 := by omega
                rcases hj01 with rfl | rfl
                · exact kk _ _ _ (WF.both ⟨l, hlen⟩ : W (d' + 2)) ns3 (g4.newF m2 ht) hl5 (.tup (SqT.of upd_same) (.cons (.str _) (dpAll_one d5)))
                · exact kk _ _ _ (WF.one ⟨l, hlen⟩ : W (d' + 2)) ns3 (g4.newF m2 ht) hl5 (.tup (SqT.of upd_same) (.cons (.str _) (dpAll_one d5)))
end
end K8
/-! # The law's signs -/
namespace K8
open PySem PySem.Spec PyProof.Rows L2
def sgD : Sg → PyData
  | .op n => .tuple [.str "open", .str n]
  | .tx t => .tuple [.str "text", .str t]
  | .cl => .tuple [.str "close"]
def Sg.okS : Sg → Prop
  | .op n => PyData.strOk n = true
  | .tx t => PyData.strOk t = true
  | .cl => True
theorem sg_lay {g : Sg} (h : g.okS) : (sgD g).canLay0 = true := by
  have o1 : PyData.strOk ("open" : Str) = true := by decide +kernel
  have o2 : PyData.strOk ("text" : Str) = true := by decide +kernel
  have o3 : PyData.strOk ("close" : Str) = true := by decide +kernel
  cases g with
  | op n => simp only [sgD, PyData.canLay0, PyData.canLayAll0, o1, show PyData.strOk n = true from h, Bool.and_self]
  | tx t => simp only [sgD, PyData.canLay0, PyData.canLayAll0, o2, show PyData.strOk t = true from h, Bool.and_self]
  | cl => simp only [sgD, PyData.canLay0, PyData.canLayAll0, o3, Bool.and_self]
theorem sg_dep (g : Sg) : (sgD g).depth ≤ 1 := by
  cases g <;> simp only [sgD, PyData.depth, PyData.depthAll] <;> omega
theorem sgs_shp {G : List Sg} (h : ∀ g ∈ G, g.okS) : SeqAt.shaped (.list (G.map sgD)) = true := by
  refine shaped_of ?_ ?_
  · simp only [PyData.canLay0]
    exact layAll_map fun x hx => sg_lay (h x hx)
  · have := depAll_map (l := G) (f := sgD) (m := 1) fun x _ => sg_dep x
    simp only [PyData.depth]
    omega
theorem sg_tup {K : PySem.W.Frag} {F : Hp} {g : Sg} {v : V} (h : Dp K F v (sgD g)) : ∃ a, v = .ref a ∧ SqT K F a (sgV g) := by
  cases g with
  | op n => exact dp_t2 h
  | tx t => exact dp_t2 h
  | cl => exact dp_t1 h
theorem sg_dp {K : PySem.W.Frag} {F : Hp} {g : Sg} {a : Addr} (h : F a = some (.tup (sgV g))) : Dp K F (.ref a) (sgD g) := by
  cases g with
  | op n => exact .tup (SqT.of h) (.cons (.str _) (dpAll_one (.str _)))
  | tx n => exact .tup (SqT.of h) (.cons (.str _) (dpAll_one (.str _)))
  | cl => exact .tup (SqT.of h) (dpAll_one (.str _))
/-- how deep a row of signs ends -/
def dM (G : List Sg) : Nat := G.foldl (fun d g => g.dep d) 0
theorem dM_snoc (G : List Sg) (g : Sg) : dM (G ++ [g]) = g.dep (dM G) := by
  unfold dM
  rw [List.foldl_append]
  rfl
/-- a row of signs that may come -/
def OkRow (G : List Sg) : Prop := ∀ (k : Nat) (g : Sg), G[k]? = some g → g.ok k (dM (G.take k))
theorem OkRow.nil : OkRow [] := fun k g e => by simp at e
theorem OkRow.snoc {G : List Sg} {g : Sg} (h : OkRow G) (hg : g.ok G.length (dM G)) : OkRow (G ++ [g]) := fun k g' e => by
  by_cases hk : k < G.length
  · rw [List.getElem?_append_left hk] at e
    rw [List.take_append_of_le_length (by omega)]
    exact h k g' e
  · have hk2 : k = G.length := by
      have := (List.getElem?_eq_some_iff.mp e).1
      rw [List.length_append, List.length_singleton] at this
      omega
    subst hk2
    rw [List.getElem?_append_right (Nat.le_refl _), Nat.sub_self] at e
    have eg : g = g' := by simpa using e
    subst eg
    rw [List.take_left']
    · exact hg
    · rfl
section
variable {P : Program} {w : World} {K : PySem.W.Frag} {mg : Str → Option Value} {base : Heap}
def spSigns (K : PySem.W.Frag) : Sp := fun vs H Q _ => ∃ (F : Hp) (a sm : Addr) (cs : List Int) (ss : List OkS), vs = [.ref a, .ref sm] ∧ Same F H ∧ SqL K F a (cs.map V.int) ∧ cs.length ≤ 20 ∧ SqL K F sm (ss.map fun t => V.str t.1) ∧ ss.length = 5 ∧
  ∀ (F' H' : Hp) (p : Addr) (xs : List V) (G : List Sg), Grow M0 F H F' H' → H p = none → F' p = none → H' p = some (.lst xs) → DpAll K F' xs (G.map sgD) → OkRow G → G.length ≤ 20 → Q (.ref p) H'
theorem ok_signs (T : Tx K mg) : FnOk P w K mg base CX0 1 T.l_signs.f T.l_signs.fd ["_law_cells_here", "_law_some"] (spSigns K) := by
  have nd := sc_l_signs.nd
  refine ok0 T.l_signs.F sc_l_signs (fun vs H Q E h => ?_) (fun cdv A outer s H vs Q E hr h => ?_)
  · obtain ⟨F, a, sm, cs, ss, rfl, _⟩ := h
    rfl
  · obtain ⟨F, a, sm, cs, ss, rfl, sF, hcs, hcl, hsm, hsl, kk⟩ := h
    refine ⟨_, pss_cons (ps_set (i := 2) nd rfl (.inl rfl) (pe_lst (pa_cons pe_str (pa_cons pe_str (pa_cons pe_str (pa_cons pe_str (pa_cons pe_str pa_nil)))))))
      (pss_cons (ps_set (i := 3) nd rfl (.inl rfl) (pe_lst pa_nil))
      (pss_cons (ps_set (i := 4) nd rfl (.inl rfl) pe_int)
      (pss_cons (ps_set (i := 5) nd rfl (.inl rfl) pe_int)
      (pss_cons (ps_for PassesOwn.never rfl (pi_enum (by rfl) T.z_enumerate (pa_cons (pv 0) pa_nil)) (pg_tup rfl (pgs_cons (pg_name (i := 6) nd rfl (.inl rfl)) (pgs_cons (pg_name (i := 7) nd rfl (.inl rfl)) pgs_nil)))
        (pss_cons (ps_set (i := 8) nd rfl (.inl rfl) (pv 7))
        (pss_mid (ps_if (pt_cmpR op_eq (pv 6) pe_int (nomark _)) (pss_one (ps_set (i := 5) nd rfl (.inl rfl) (pe_op op_mod (pe_op op_fdiv (pv 8) pe_int) pe_int))) pss_nil)
        (pss_cons (ps_set (i := 9) nd rfl (.inl rfl) (pe_op op_mod (pe_op op_add (pv 8) (pe_op op_mul (pe_op op_mul (pv 5) (pe_op op_mod (pv 6) pe_int)) pe_int)) pe_int))
        (pss_one (ps_if (pt_mono (PW.pt (pw_or (pt_cmpR (op_eqD (hu64 hr)) (pv 3) (pe_lst pa_nil) (nomark _)) (pw_or1 (PW.pt (pw_and (pt_cmpR op_lt (pv 9) pe_int (nomark _)) (pw_and1 (pt_cmpR op_gt (pv 4) pe_int (nomark _)))))))))
          (pss_cons (ps_expr (pe_bm PySem.F.plainAttrs_list PySem.F.slot_list_append PySem.F.type_list_append mt_append (pv 3) (pa_cons (pe_tup (pa_cons pe_str (pa_cons (pe_ix ix_list (pv 1) (pe_op op_mod (pe_op op_mod (pe_op op_fdiv (pv 8) pe_int) pe_int) pe_int) (fun _ _ => rfl)) pa_nil))) pa_nil)))
          (pss_one (ps_set (i := 4) nd rfl (.inl rfl) (pe_op op_add (pv 4) pe_int))))
          (pss_one (ps_if (pt_mono (PW.pt (pw_and (pt_cmpR op_lt (pv 9) pe_int (nomark _)) (pw_and1 (pt_cmpR op_gt (pv 4) pe_int (nomark _))))))
            (pss_one (ps_expr (pe_bm PySem.F.plainAttrs_list PySem.F.slot_list_append PySem.F.type_list_append mt_append (pv 3) (pa_cons (pe_tup (pa_cons pe_str (pa_cons (pe_ix ix_list (pv 2) (pe_op op_mod (pe_op op_fdiv (pv 8) pe_int) pe_int) (fun _ _ => rfl)) pa_nil))) pa_nil))))
            (pss_one (ps_if (pt_mono (PW.pt (pw_or (pt_cmpR op_gt (pv 4) pe_int (nomark _)) (pw_or1 (PW.pt (pw_and (pt_cmpR op_eq (pv 4) pe_int (nomark _)) (pw_and1 (pt_cmpR op_eq (pe_op op_mod (pe_op op_fdiv (pv 8) pe_int) pe_int) pe_int (nomark _)))))))))
              (pss_cons (ps_expr (pe_bm PySem.F.plainAttrs_list PySem.F.slot_list_append PySem.F.type_list_append mt_append (pv 3) (pa_cons (pe_tup (pa_cons pe_str pa_nil)) pa_nil)))
              (pss_one (ps_set (i := 4) nd rfl (.inl rfl) (pe_op op_sub (pv 4) pe_int)))) pss_nil))))))))))
      (pss_one (ps_ret (pv 3))))))), ?_⟩
    refine ⟨(by rw [sizeLine_eq]; exact (by decide : (5 : Nat) ≤ 16777216)), fun tl htl => ?_⟩
    have Ftl := sF.free htl
    have g1 := (Grow.refl0 sF).newF (o := .lst [V.str "x", V.str "", V.str "y x", V.str "\"", V.str "[a]"]) (fun z => z) htl
    have ht1 : upd F tl (.lst [V.str "x", V.str "", V.str "y x", V.str "\"", V.str "[a]"]) tl = some (.lst (txt5.map fun t => V.str t.1)) := upd_same
    generalize upd F tl (.lst [V.str "x", V.str "", V.str "y x", V.str "\"", V.str "[a]"]) = F1 at g1 ht1
    generalize upd H tl (.lst [V.str "x", V.str "", V.str "y x", V.str "\"", V.str "[a]"]) = H1 at g1 ⊢
    refine ⟨Nat.zero_le _, fun f hf => ?_⟩
    have hHf := g1.hl (fun z => z) hf
    have F1f := g1.fl hf
    have g2 := g1.put (o := .lst []) hHf F1f
    refine ⟨_, rfl, a, cs.map V.int, rfl, g2.inn.seq (g1.sub.seq hcs), for_enum (K := K) (a := a) (xs := cs.map V.int)
      (fun i σ H' => ∃ (F' : Hp) (xs : List V) (G : List Sg) (v6 v7 v8 v9 : Option V) (l : Int), σ = [some (.ref a), some (.ref sm), some (.ref tl), some (.ref f), some (.int (dM G : Int)), some (.int l), v6, v7, v8, v9] ∧ 0 ≤ l ∧ l ≤ 2 ∧ Grow M0 F H F' H' ∧ Same F1 F' ∧ F' f = none ∧ H' f = some (.lst xs) ∧
        DpAll K F' xs (G.map sgD) ∧ OkRow G ∧ (∀ g ∈ G, g.okS) ∧ G.length ≤ i)
      ⟨F1, [], [], none, none, none, none, 0, rfl, by decide, by decide, g2, Same.refl _, F1f, upd_same, .nil, .nil, fun _ z => (nomatch z), Nat.le_refl _⟩ (fun i σ H' _ ⟨F', _, _, _, _, _, _, _, _, _, _, g, _⟩ => g.inn.seq (g.sub.seq hcs)) ?_ ?_⟩
    · rintro i x σ H' U hx ⟨F', xs, G, v6, v7, v8, v9, l, rfl, l0, l2, g, s1, ff, hxs, hd, hok, hos, hgl⟩ hU
      have hi : i < cs.length := by
        have := (List.getElem?_eq_some_iff.mp hx).1
        rwa [List.length_map] at this
      rw [List.getElem?_map] at hx
      obtain ⟨z, hz, rfl⟩ := Option.map_eq_some_iff.mp hx
      refine ⟨U, _, rfl, SqT.of upd_same, rfl, _, _, rfl, _, _, rfl, rfl, ?_⟩
      have g3 := g.new (o := .tup [.int (i : Nat), V.int z]) (fun z => z) hU
      have hx3 : upd H' U (.tup [.int (i : Nat), V.int z]) f = some (.lst xs) := by rw [upd_ne (ne_of_none hxs hU)]; exact hxs
      generalize upd H' U (.tup [.int (i : Nat), V.int z]) = H3 at g3 hx3 ⊢
      refine ⟨_, rfl, ?_⟩
      refine ⟨fun σ' H'' => H'' = H3 ∧ ∃ l : Int, σ' = [some (.ref a), some (.ref sm), some (.ref tl), some (.ref f), some (.int (dM G : Int)), some (.int l), some (.int (i : Nat)), some (.int z), some (.int z), v9] ∧ 0 ≤ l ∧ l ≤ 2, ?_, ?_⟩
      · refine ⟨_, rfl, rfl, _, rfl, ?_⟩
        refine ite2 (fun _ => ?_) (fun _ => ⟨rfl, l, rfl, l0, l2⟩)
        refine ⟨_, rfl, _, _, rfl, rfl, ⟨by decide, by decide⟩, _, _, rfl, rfl, (by show (0 : Int) < 3; decide), rfl, _, rfl, Int.emod_nonneg _ (by decide), ?_⟩
        have := Int.emod_lt_of_pos (z / 7) (show (0 : Int) < 3 by decide)
        omega
      · rintro σ' H'' ⟨rfl, l, rfl, l0, l2⟩
        have b0 := Int.emod_nonneg ((i : Nat) : Int) (show (2 : Int) ≠ 0 by decide)
        have b1 := Int.emod_lt_of_pos ((i : Nat) : Int) (show (0 : Int) < 2 by decide)
        have b2 : l * (((i : Nat) : Int) % 2) ≤ 2 := by
          have e : ((i : Nat) : Int) % 2 = 0 ∨ ((i : Nat) : Int) % 2 = 1 := by omega
          rcases e with e | e <;> rw [e] <;> omega
        have b3 : 0 ≤ l * (((i : Nat) : Int) % 2) := Int.mul_nonneg l0 b0
        refine ⟨_, rfl, _, rfl, _, rfl, _, _, rfl, rfl, (by show (0 : Int) < 2; decide), _, _, rfl, rfl, .inl (by omega), _, _, rfl, rfl, .inl (by omega), _, _, rfl, rfl, _, _, rfl, rfl, (by show (0 : Int) < 7; decide), ?_⟩
        -- a sign is added
        have add : ∀ (g0 : Sg) (p : Addr) (Hq : Hp), g0.okS → g0.ok G.length (dM G) → Grow M0 F H F' Hq → Hq f = some (.lst xs) → Hq p = none →
            ∃ F2 : Hp, Grow M0 F H F2 (upd (upd Hq p (.tup (sgV g0))) f (.lst (xs ++ [V.ref p]))) ∧ Same F1 F2 ∧ F2 f = none ∧ DpAll K F2 (xs ++ [V.ref p]) ((G ++ [g0]).map sgD) ∧ OkRow (G ++ [g0]) ∧ (∀ g ∈ G ++ [g0], g.okS) ∧ (G ++ [g0]).length ≤ i + 1 := by
          intro g0 p Hq o1 o2 gq hq hp
          have nfp : f ≠ p := ne_of_none hq hp
          have Fp := gq.fl hp
          have F2f : upd F' p (.tup (sgV g0)) f = none := by rw [upd_ne nfp]; exact ff
          refine ⟨upd F' p (.tup (sgV g0)), (gq.newF (fun z => z) hp).put hHf F2f, s1.trans (same_new Fp), F2f, ?_, hok.snoc o2, fun g hg => ?_, by rw [List.length_append, List.length_singleton]; omega⟩
          · rw [List.map_append]
            exact dpAll_app (hd.up (same_new Fp)) (dpAll_one (sg_dp upd_same))
          · rcases List.mem_append.mp hg with q | q
            · exact hos g q
            · rw [List.mem_singleton.mp q]
              exact o1
        have hxl : xs.length < sizeLine := by
          rw [dpAll_len hd, List.length_map, sizeLine_eq]
          omega
        refine ⟨fun b H4 => Same H'' H4 ∧ (b = true → G.length = 0 ∨ 0 < dM G), ?_, ?_⟩
        · refine ⟨_, rfl, Nat.zero_le _, fun q hq => ?_⟩
          have hqf : upd H'' q (.lst []) f = some (.lst xs) := by rw [upd_ne (ne_of_none hx3 hq)]; exact hx3
          refine ⟨_, _, .lst (SqL.of hqf) ((hd.up g3.inn).up (same_new hq)), .lst (SqL.of upd_same) .nil, sgs_shp hos, shaped_nil, _, rfl, ?_⟩
          show (if PyData.eqv (.list (G.map sgD)) (.list []) = true then _ else _)
          refine ite2 (fun c => ⟨same_new hq, fun _ => .inl ?_⟩) (fun _ => ?_)
          · cases G with
            | nil => rfl
            | cons _ _ => exact absurd c (by simp [PyData.eqv, PyData.eqvAll])
          · refine ⟨_, rfl, _, _, rfl, rfl, _, rfl, ?_⟩
            refine ite2 (fun _ => ?_) (fun _ => ⟨same_new hq, fun e => nomatch e⟩)
            refine ⟨_, rfl, _, _, rfl, rfl, _, rfl, same_new hq, fun e => .inr ?_⟩
            have := of_decide_eq_true e
            omega
        · rintro b H4 ⟨s4, hb⟩
          have g4 := g3.step s4
          have h4f := s4 _ _ hx3
          show (if b = true then _ else _)
          refine ite2 (fun e => ?_) (fun _ => ?_)
          · -- open
            have hop := hb e
            obtain ⟨j, hj, hj5⟩ := emod_ix (z / 7 % 11) (n := 5) (by decide)
            have e5 : z / 7 % 11 % 5 = (j : Int) := hj
            have hjs : j < ss.length := by omega
            refine ⟨_, rfl, .inl ⟨rfl, _, SqL.of h4f⟩, _, rfl, _, rfl, _, _, rfl, rfl, ⟨by decide, by decide⟩, _, _, rfl, rfl, (by show (0 : Int) < 11; decide), _, _, rfl, rfl, (by show (0 : Int) < 5; decide), sm, _, _, V.str (ss[j]'hjs).1, rfl, rfl, g4.inn.seq (g4.sub.seq hsm), (by rw [e5]; exact atI_nat (strs_ix hjs)), ⟨tup_le 2 (by decide), fun p hp => ?_⟩⟩
            obtain ⟨F2, a1, a2, a3, a4, a5, a6, a7⟩ := add (.op (ss[j]'hjs).1) p H4 (ss[j]'hjs).2 (by rcases hop with q | q; exact .inr q; exact .inl q) g4 h4f hp
            refine ⟨f, xs, _, rfl, rfl, by rw [upd_ne (ne_of_none h4f hp)]; exact h4f, hxl, ?_⟩
            refine ⟨_, rfl, _, _, rfl, rfl, F2, _, G ++ [.op (ss[j]'hjs).1], some (.int (i : Nat)), some (.int z), some (.int z), some (.int ((z + l * (((i : Nat) : Int) % 2) * 5) % 7)), l, ?_, l0, l2, a1, a2, a3, upd_same, a4, a5, a6, a7⟩
            rw [dM_snoc]
            rfl
          · refine ⟨fun b H5 => H5 = H4 ∧ (b = true → 0 < dM G), ?_, ?_⟩
            · refine ⟨_, rfl, _, _, rfl, rfl, _, rfl, ?_⟩
              refine ite2 (fun _ => ?_) (fun _ => ⟨rfl, fun e => nomatch e⟩)
              refine ⟨_, rfl, _, _, rfl, rfl, _, rfl, rfl, fun e => ?_⟩
              have := of_decide_eq_true e
              omega
            rintro b H5 ⟨rfl, hb5⟩
            show (if b = true then _ else _)
            refine ite2 (fun e => ?_) (fun _ => ?_)
            · -- text
              have hpos := hb5 e
              obtain ⟨j, hj, hj5⟩ := emod_ix (z / 7) (n := 5) (by decide)
              have e5 : z / 7 % 5 = (j : Int) := hj
              refine ⟨_, rfl, .inl ⟨rfl, _, SqL.of h4f⟩, _, rfl, _, rfl, _, _, rfl, rfl, ⟨by decide, by decide⟩, _, _, rfl, rfl, (by show (0 : Int) < 5; decide), tl, _, _, V.str (txt5[j]'hj5).1, rfl, rfl, SqL.of (g4.inn _ _ (s1 _ _ ht1)), (by rw [e5]; exact atI_nat (strs_ix hj5)), ⟨tup_le 2 (by decide), fun p hp => ?_⟩⟩
              obtain ⟨F2, a1, a2, a3, a4, a5, a6, a7⟩ := add (.tx (txt5[j]'hj5).1) p H5 (txt5[j]'hj5).2 hpos g4 h4f hp
              refine ⟨f, xs, _, rfl, rfl, by rw [upd_ne (ne_of_none h4f hp)]; exact h4f, hxl, ?_⟩
              refine ⟨F2, _, G ++ [.tx (txt5[j]'hj5).1], some (.int (i : Nat)), some (.int z), some (.int z), some (.int ((z + l * (((i : Nat) : Int) % 2) * 5) % 7)), l, ?_, l0, l2, a1, a2, a3, upd_same, a4, a5, a6, a7⟩
              rw [dM_snoc]
              rfl
            · refine ⟨fun b H6 => H6 = H5 ∧ (b = true → 0 < dM G), ?_, ?_⟩
              · refine ⟨_, rfl, _, _, rfl, rfl, _, rfl, ?_⟩
                refine ite2 (fun c => ⟨rfl, fun _ => ?_⟩) (fun _ => ?_)
                · have := of_decide_eq_true c
                  omega
                · refine ⟨_, rfl, rfl, _, rfl, ?_⟩
                  refine ite2 (fun c => ?_) (fun _ => ⟨rfl, fun e => nomatch e⟩)
                  refine ⟨_, rfl, _, _, rfl, rfl, ⟨by decide, by decide⟩, _, _, rfl, rfl, (by show (0 : Int) < 6; decide), rfl, _, rfl, rfl, fun _ => ?_⟩
                  have e1 : V.int ((dM G : Nat) : Int) = V.int 1 := of_decide_eq_true c
                  injection e1 with e1
                  omega
              rintro b H6 ⟨rfl, hb6⟩
              show (if b = true then _ else _)
              refine ite2 (fun e => ?_) (fun _ => ?_)
              · -- close
                have hpos := hb6 e
                refine ⟨_, rfl, .inl ⟨rfl, _, SqL.of h4f⟩, ⟨tup_le 1 (by decide), fun p hp => ?_⟩⟩
                obtain ⟨F2, a1, a2, a3, a4, a5, a6, a7⟩ := add .cl p H6 True.intro hpos g4 h4f hp
                refine ⟨f, xs, _, rfl, rfl, by rw [upd_ne (ne_of_none h4f hp)]; exact h4f, hxl, ?_⟩
                refine ⟨_, rfl, _, _, rfl, rfl, F2, _, G ++ [.cl], some (.int (i : Nat)), some (.int z), some (.int z), some (.int ((z + l * (((i : Nat) : Int) % 2) * 5) % 7)), l, ?_, l0, l2, a1, a2, a3, upd_same, a4, a5, a6, a7⟩
                rw [dM_snoc]
                show _ = [some (V.ref a), some (V.ref sm), some (V.ref tl), some (V.ref f), some (V.int ((dM G - 1 : Nat) : Int)), some (V.int l), some (.int (i : Nat)), some (.int z), some (.int z), some (.int ((z + l * (((i : Nat) : Int) % 2) * 5) % 7))]
                rw [show ((dM G - 1 : Nat) : Int) = (dM G : Int) - 1 by omega]
                rfl
              · exact ⟨F', xs, G, _, _, _, _, l, rfl, l0, l2, g4, s1, ff, h4f, hd, hok, hos, by omega⟩
    · rintro σ H' ⟨F', xs, G, v6, v7, v8, v9, l, rfl, l0, l2, g, s1, ff, hxs, hd, hok, hos, hgl⟩
      exact ⟨_, rfl, kk F' H' f xs G g hHf ff hxs hd hok (by rw [List.length_map] at hgl; omega)⟩
end
end K8
/-! # How deep, and how many parts -/
namespace K8
open PySem PySem.Spec PyProof.Rows L2
def isT (t : Str) (g : Sg) : Bool := decide (V.str (sgT g) = V.str t)
def cnt (t : Str) (G : List Sg) : Nat := ((List.range G.length).filter fun i => isT t (G.getD i .cl)).length
theorem cnt_snoc (t : Str) (G : List Sg) (g : Sg) : cnt t (G ++ [g]) = cnt t G + if isT t g = true then 1 else 0 := by
  unfold cnt
  rw [List.length_append, List.length_singleton, List.range_succ, List.filter_append, List.length_append]
  have h1 : ((List.range G.length).filter fun i => isT t ((G ++ [g]).getD i .cl)) = (List.range G.length).filter fun i => isT t (G.getD i .cl) := by
    refine List.filter_congr fun i hi => ?_
    have := List.mem_range.mp hi
    rw [List.getD_eq_getElem?_getD, List.getD_eq_getElem?_getD, List.getElem?_append_left this]
  rw [h1]
  congr 1
  have h2 : (G ++ [g]).getD G.length .cl = g := by
    rw [List.getD_eq_getElem?_getD, List.getElem?_append_right (Nat.le_refl _), Nat.sub_self]
    rfl
  rw [List.filter_cons, h2]
  split <;> rfl
theorem OkRow.init {G : List Sg} {g : Sg} (h : OkRow (G ++ [g])) : OkRow G ∧ g.ok G.length (dM G) := by
  refine ⟨fun k g' e => ?_, ?_⟩
  · have hk : k < G.length := (List.getElem?_eq_some_iff.mp e).1
    have := h k g' (by rw [List.getElem?_append_left hk]; exact e)
    rwa [List.take_append_of_le_length (by omega)] at this
  · have := h G.length g (by rw [List.getElem?_append_right (Nat.le_refl _), Nat.sub_self]; rfl)
    rwa [List.take_left' rfl] at this
theorem OkRow.take {G : List Sg} (h : OkRow G) (m : Nat) : OkRow (G.take m) := fun k g e => by
  have hk := (List.getElem?_eq_some_iff.mp e).1
  rw [List.length_take] at hk
  rw [List.getElem?_take_of_lt (by omega)] at e
  rw [List.take_take, Nat.min_eq_left (by omega)]
  exact h k g e
theorem depth_eq : ∀ (n : Nat) (G : List Sg), G.length = n → OkRow G → (cnt "open" G : Int) - (cnt "close" G : Int) = (dM G : Int)
  | 0, G, e, _ => by
    cases G with
    | nil => rfl
    | cons _ _ => cases e
  | n + 1, G, e, h => by
    have hne : G ≠ [] := fun z => by rw [z] at e; cases e
    have eg := List.dropLast_concat_getLast hne
    generalize G.dropLast = G0 at eg
    generalize G.getLast hne = g at eg
    subst eg
    obtain ⟨h0, hg⟩ := h.init
    have ih := depth_eq n G0 (by rw [List.length_append, List.length_singleton] at e; omega) h0
    rw [cnt_snoc, cnt_snoc, dM_snoc]
    cases g with
    | op nm =>
      rw [show isT "open" (.op nm) = true by show decide (V.str "open" = V.str "open") = true; decide +kernel, show isT "close" (.op nm) = false by show decide (V.str "open" = V.str "close") = false; decide +kernel]
      show ((cnt "open" G0 + 1 : Nat) : Int) - ((cnt "close" G0 + 0 : Nat) : Int) = ((dM G0 + 1 : Nat) : Int)
      omega
    | tx nm =>
      rw [show isT "open" (.tx nm) = false by show decide (V.str "text" = V.str "open") = false; decide +kernel, show isT "close" (.tx nm) = false by show decide (V.str "text" = V.str "close") = false; decide +kernel]
      show ((cnt "open" G0 + 0 : Nat) : Int) - ((cnt "close" G0 + 0 : Nat) : Int) = ((dM G0 : Nat) : Int)
      omega
    | cl =>
      rw [show isT "open" .cl = false by show decide (V.str "close" = V.str "open") = false; decide +kernel, show isT "close" .cl = true by show decide (V.str "close" = V.str "close") = true; decide +kernel]
      show ((cnt "open" G0 + 0 : Nat) : Int) - ((cnt "close" G0 + 1 : Nat) : Int) = ((dM G0 - 1 : Nat) : Int)
      have : 0 < dM G0 := hg
      omega
section
variable {P : Program} {w : World} {K : PySem.W.Frag} {mg : Str → Option Value} {base : Heap}
def spDepthL (K : PySem.W.Frag) : Sp := fun vs H Q _ => ∃ (F : Hp) (a : Addr) (xs : List V) (G : List Sg), vs = [.ref a] ∧ Same F H ∧ SqL K H a xs ∧ DpAll K F xs (G.map sgD) ∧ OkRow G ∧ G.length ≤ 20 ∧ ∀ H', Same H H' → Q (.int (dM G : Int)) H'
theorem ok_l_depth (T : Tx K mg) : FnOk P w K mg base CX0 1 T.l_depth.f T.l_depth.fd ["_law_signs_here"] (spDepthL K) := by
  have nd := sc_l_depth.nd
  refine ok0 T.l_depth.F sc_l_depth (fun vs H Q E h => ?_) (fun cdv A outer s H vs Q E hr h => ?_)
  · obtain ⟨F, a, xs, G, rfl, _⟩ := h
    rfl
  · obtain ⟨F, a, xs, G, rfl, sF, hs, hd, hok, hl, k⟩ := h
    have e1 := dpAll_len hd
    rw [List.length_map] at e1
    refine ⟨_, pss_one (ps_ret (pe_op op_sub
      (pe_callB call_len_seq (by rfl) T.z_len PySem.boot_len (pa_cons (pe_lc (own := [("_law_sign", 1)]) (g := gName 1) (tt := tTest (tOp rEq (tOp (rIxT K) (tVar 1) (tC (.int 0))) (tC (.str "open")))) (te := tVar 1) rfl nd (pi_list (pv 0)) (blkOk_by (N := N_l_depth) (sc := defScope s_l_depth) (by decide +kernel))
        (fun _ _ _ _ _ => pg_name (i := 1) nd rfl (Or.inl rfl)) (fun _ _ _ _ _ => pts_one (pt_cmpR op_eq (pe_ix ix_tup (pv 1) pe_int (fun _ _ => rfl)) pe_str (nomark _))) (fun _ _ _ _ _ => pv 1)) pa_nil))
      (pe_callB call_len_seq (by rfl) T.z_len PySem.boot_len (pa_cons (pe_lc (own := [("_law_sign", 1)]) (g := gName 1) (tt := tTest (tOp rEq (tOp (rIxT K) (tVar 1) (tC (.int 0))) (tC (.str "close")))) (te := tVar 1) rfl nd (pi_list (pv 0)) (blkOk_by (N := N_l_depth) (sc := defScope s_l_depth) (by decide +kernel))
        (fun _ _ _ _ _ => pg_name (i := 1) nd rfl (Or.inl rfl)) (fun _ _ _ _ _ => pts_one (pt_cmpR op_eq (pe_ix ix_tup (pv 1) pe_int (fun _ _ => rfl)) pe_str (nomark _))) (fun _ _ _ _ _ => pv 1)) pa_nil)))), ?_⟩
    -- one of the two
    have at_ : ∀ {i : Nat} {x : V}, xs[i]? = some x → ∃ b, x = .ref b ∧ SqT K F b (sgV (G.getD i .cl)) := fun {i x} hx => by
      obtain ⟨d, hd1, hd2⟩ := dpAll_at hd hx
      rw [List.getElem?_map] at hd1
      obtain ⟨g, hg, rfl⟩ := Option.map_eq_some_iff.mp hd1
      obtain ⟨b, rfl, hb⟩ := sg_tup hd2
      refine ⟨b, rfl, ?_⟩
      rw [List.getD_eq_getElem?_getD, hg]
      exact hb
    have yat : ∀ {i : Nat} {x : V}, xs[i]? = some x → x = xs.getD i .non := fun {i x} hx => by
      rw [List.getD_eq_getElem?_getD, hx]
      rfl
    have cl : ∀ t : Str, ((List.range xs.length).filter fun i => isT t (G.getD i .cl)).length = cnt t G := fun t => by rw [e1]; rfl
    have hz : xs.length < sizeLine := by rw [e1, sizeLine_eq]; omega
    refine ⟨_, rfl, a, rfl, ⟨_, hs⟩, fun D hD => lc_filt (K := K) (a := a) (xs := xs) (fun i => isT "open" (G.getD i .cl)) (fun i => xs.getD i .non) hz hs hD (fun i x H' kb hx sm kk => ?_) (fun i x H' kv hx sm k2 => ?_) (fun H1 s1 hD1 => ?_)⟩
    · obtain ⟨b, rfl, hb⟩ := at_ hx
      exact ⟨rfl, _, rfl, b, _, _, _, rfl, rfl, SqT_same (sF.trans sm) hb, atI_nat (j := 0) rfl, rfl, _, rfl, kk H' (Same.refl _)⟩
    · refine ⟨_, rfl, ?_⟩
      rw [yat hx]
      exact k2 H' (Same.refl _)
    refine ⟨D, _, rfl, .inl (SqL.of hD1), ?_⟩
    refine ⟨_, rfl, a, rfl, ⟨_, s1.seq hs⟩, fun D2 hD2 => lc_filt (K := K) (a := a) (xs := xs) (fun i => isT "close" (G.getD i .cl)) (fun i => xs.getD i .non) hz (s1.seq hs) hD2 (fun i x H' kb hx sm kk => ?_) (fun i x H' kv hx sm k2 => ?_) (fun H2 s2 hD3 => ?_)⟩
    · obtain ⟨b, rfl, hb⟩ := at_ hx
      exact ⟨rfl, _, rfl, b, _, _, _, rfl, rfl, SqT_same ((sF.trans s1).trans sm) hb, atI_nat (j := 0) rfl, rfl, _, rfl, kk H' (Same.refl _)⟩
    · refine ⟨_, rfl, ?_⟩
      rw [yat hx]
      exact k2 H' (Same.refl _)
    refine ⟨D2, _, rfl, .inl (SqL.of hD3), _, _, rfl, rfl, ?_⟩
    dsimp only
    rw [List.length_map, List.length_map, cl "open", cl "close", depth_eq _ G rfl hok]
    exact k H2 (s1.trans s2)
end
end K8
/-! # The law's own parts -/
namespace K8
open PySem PySem.Spec PyProof.Rows L2
structure Nd where
  n : Nat
  na : Nat → Addr
  ta : Nat → Addr
  ka : Nat → Addr
  nm : Nat → Str
  par : Nat → Option Nat
def hI : Option Nat → Int
  | none => -1
  | some j => (j : Int)
structure NdOk (H0 H : Hp) (nl : Addr) (N : Nd) (m : Nat) : Prop where
  sm : Same H0 H
  ls : H nl = some (.lst ((List.range N.n).map fun i => V.ref (N.na i)))
  nn : H0 nl = none
  tu : ∀ i, i < N.n → H (N.na i) = some (.tup [.str (N.nm i), .ref (N.ta i), .ref (N.ka i), .int (hI (N.par i))])
  tx : ∀ i, i < N.n → ∃ l, H (N.ta i) = some (.lst l) ∧ l.length ≤ m ∧ H0 (N.ta i) = none ∧ N.ta i ≠ nl
  kx : ∀ i, i < N.n → ∃ l, H (N.ka i) = some (.lst l) ∧ l.length ≤ m ∧ H0 (N.ka i) = none ∧ N.ka i ≠ nl
  wf : ∀ i j, i < N.n → N.par i = some j → j < i
theorem NdOk.put {H0 H : Hp} {nl p : Addr} {N : Nd} {m : Nat} {l : List V} {v : V} (h : NdOk H0 H nl N m) (hp : H p = some (.lst l)) (hl : l.length ≤ m) (h0 : H0 p = none) (hn : p ≠ nl) : NdOk H0 (upd H p (.lst (l ++ [v]))) nl N (m + 1) where
  sm := same_put h.sm h0
  ls := by rw [upd_ne (Ne.symm hn)]; exact h.ls
  nn := h.nn
  tu := fun i hi => by
    have e := h.tu i hi
    rw [upd_ne (fun z => by rw [z, hp] at e; cases e)]
    exact e
  tx := fun i hi => by
    obtain ⟨l', e, a, b, c⟩ := h.tx i hi
    by_cases z : N.ta i = p
    · exact ⟨_, by rw [z]; exact upd_same, by rw [List.length_append, List.length_singleton]; omega, b, c⟩
    · exact ⟨l', by rw [upd_ne z]; exact e, by omega, b, c⟩
  kx := fun i hi => by
    obtain ⟨l', e, a, b, c⟩ := h.kx i hi
    by_cases z : N.ka i = p
    · exact ⟨_, by rw [z]; exact upd_same, by rw [List.length_append, List.length_singleton]; omega, b, c⟩
    · exact ⟨l', by rw [upd_ne z]; exact e, by omega, b, c⟩
  wf := h.wf
theorem NdOk.mono {H0 H : Hp} {nl : Addr} {N : Nd} {m m' : Nat} (h : NdOk H0 H nl N m) (le : m ≤ m') : NdOk H0 H nl N m' :=
  { h with tx := fun i hi => let ⟨l, a, b, c⟩ := h.tx i hi; ⟨l, a, by omega, c⟩, kx := fun i hi => let ⟨l, a, b, c⟩ := h.kx i hi; ⟨l, a, by omega, c⟩ }
theorem NdOk.up {H0 H H' : Hp} {nl : Addr} {N : Nd} {m : Nat} (h : NdOk H0 H nl N m) (e : Same H H') : NdOk H0 H' nl N m where
  sm := h.sm.trans e
  ls := e _ _ h.ls
  nn := h.nn
  tu := fun i hi => e _ _ (h.tu i hi)
  tx := fun i hi => let ⟨l, a, b⟩ := h.tx i hi; ⟨l, e _ _ a, b⟩
  kx := fun i hi => let ⟨l, a, b⟩ := h.kx i hi; ⟨l, e _ _ a, b⟩
  wf := h.wf
def Nd.opn (N : Nd) (t l1 l2 : Addr) (nm : Str) (o : Option Nat) : Nd :=
  { n := N.n + 1, na := fun i => if i = N.n then t else N.na i, ta := fun i => if i = N.n then l1 else N.ta i, ka := fun i => if i = N.n then l2 else N.ka i, nm := fun i => if i = N.n then nm else N.nm i, par := fun i => if i = N.n then o else N.par i }
theorem NdOk.opn {H0 H : Hp} {nl t l1 l2 : Addr} {N : Nd} {m : Nat} {nm : Str} {o : Option Nat} (h : NdOk H0 H nl N m) (ht : H t = some (.tup [.str nm, .ref l1, .ref l2, .int (hI o)])) (e1 : H l1 = some (.lst [])) (e2 : H l2 = some (.lst [])) (n1 : H0 l1 = none) (n2 : H0 l2 = none) (d1 : l1 ≠ nl) (d2 : l2 ≠ nl)
    (ho : ∀ j, o = some j → j < N.n) : NdOk H0 (upd H nl (.lst ((List.range N.n).map (fun i => V.ref (N.na i)) ++ [V.ref t]))) nl (N.opn t l1 l2 nm o) m := by
  have tn : t ≠ nl := fun z => by rw [z, h.ls] at ht; cases ht
  refine ⟨same_put h.sm h.nn, ?_, h.nn, fun i hi => ?_, fun i hi => ?_, fun i hi => ?_, fun i j hi e => ?_⟩
  · rw [upd_same]
    congr 2
    show _ = (List.range (N.n + 1)).map fun i => V.ref (if i = N.n then t else N.na i)
    rw [List.range_succ, List.map_append]
    congr 1
    · refine List.map_congr_left fun i hi => ?_
      have := List.mem_range.mp hi
      rw [if_neg (by omega)]
    · show [V.ref t] = [V.ref (if N.n = N.n then t else N.na N.n)]
      rw [if_pos rfl]
  · show upd H nl _ (if i = N.n then t else N.na i) = some (.tup [.str (if i = N.n then nm else N.nm i), .ref (if i = N.n then l1 else N.ta i), .ref (if i = N.n then l2 else N.ka i), .int (hI (if i = N.n then o else N.par i))])
    by_cases z : i = N.n
    · rw [if_pos z, if_pos z, if_pos z, if_pos z, if_pos z, upd_ne tn]
      exact ht
    · have hi' : i < N.n + 1 := hi
      have e := h.tu i (by omega)
      rw [if_neg z, if_neg z, if_neg z, if_neg z, if_neg z, upd_ne (fun q => by rw [q, h.ls] at e; cases e)]
      exact e
  · show ∃ l, upd H nl _ (if i = N.n then l1 else N.ta i) = some (.lst l) ∧ l.length ≤ m ∧ H0 (if i = N.n then l1 else N.ta i) = none ∧ (if i = N.n then l1 else N.ta i) ≠ nl
    by_cases z : i = N.n
    · rw [if_pos z, upd_ne d1]
      exact ⟨_, e1, Nat.zero_le _, n1, d1⟩
    · have hi' : i < N.n + 1 := hi
      obtain ⟨l, a, b, c, d⟩ := h.tx i (by omega)
      rw [if_neg z, upd_ne d]
      exact ⟨l, a, b, c, d⟩
  · show ∃ l, upd H nl _ (if i = N.n then l2 else N.ka i) = some (.lst l) ∧ l.length ≤ m ∧ H0 (if i = N.n then l2 else N.ka i) = none ∧ (if i = N.n then l2 else N.ka i) ≠ nl
    by_cases z : i = N.n
    · rw [if_pos z, upd_ne d2]
      exact ⟨_, e2, Nat.zero_le _, n2, d2⟩
    · have hi' : i < N.n + 1 := hi
      obtain ⟨l, a, b, c, d⟩ := h.kx i (by omega)
      rw [if_neg z, upd_ne d]
      exact ⟨l, a, b, c, d⟩
  · have e' : (if i = N.n then o else N.par i) = some j := e
    by_cases z : i = N.n
    · rw [if_pos z] at e'
      rw [z]
      exact ho j e'
    · have hi' : i < N.n + 1 := hi
      rw [if_neg z] at e'
      exact h.wf i j (by omega) e'
section
variable {P : Program} {w : World} {K : PySem.W.Frag} {mg : Str → Option Value} {base : Heap}
def spNodes (K : PySem.W.Frag) : Sp := fun vs H Q _ => ∃ (F : Hp) (a : Addr) (xs : List V) (G : List Sg), vs = [.ref a] ∧ Same F H ∧ SqL K H a xs ∧ DpAll K F xs (G.map sgD) ∧ OkRow G ∧ G.length ≤ 20 ∧ ∀ (H' : Hp) (p : Addr) (zs : List V), Same H H' → H' p = some (.lst zs) → zs.length ≤ 20 → Q (.ref p) H'
theorem ok_nodes (T : Tx K mg) : FnOk P w K mg base CX0 1 T.l_nodes.f T.l_nodes.fd ["_law_signs_here"] (spNodes K) := by
  have nd := sc_l_nodes.nd
  refine ok0 T.l_nodes.F sc_l_nodes (fun vs H Q E h => ?_) (fun cdv A outer s H vs Q E hr h => ?_)
  · obtain ⟨F, a, xs, G, rfl, _⟩ := h
    rfl
  · obtain ⟨F, a, xs, G, rfl, sF, hs, hd, hok, hl, k⟩ := h
    have e1 := dpAll_len hd
    rw [List.length_map] at e1
    refine ⟨_, pss_cons (ps_set (i := 1) nd rfl (.inl rfl) (pe_lst pa_nil))
      (pss_cons (ps_set (i := 2) nd rfl (.inl rfl) (pe_un un_neg pe_int))
      (pss_cons (ps_for PassesOwn.never rfl (pi_list (pv 0)) (pg_name (i := 3) nd rfl (.inl rfl))
        (pss_one (ps_if (pt_cmpR op_eq (pe_ix ix_tup (pv 3) pe_int (fun _ _ => rfl)) pe_str (nomark _))
          (pss_cons (ps_expr (pe_bm PySem.F.plainAttrs_list PySem.F.slot_list_append PySem.F.type_list_append mt_append (pv 1) (pa_cons (pe_tup (pa_cons (pe_ix ix_tup (pv 3) pe_int (fun _ _ => rfl)) (pa_cons (pe_lst pa_nil) (pa_cons (pe_lst pa_nil) (pa_cons (pv 2) pa_nil))))) pa_nil)))
          (pss_mid (ps_if (pt_cmpR op_gt (pv 2) (pe_un un_neg pe_int) (nomark _))
            (pss_one (ps_expr (pe_bm PySem.F.plainAttrs_list PySem.F.slot_list_append PySem.F.type_list_append mt_append (pe_ix ix_tup (pe_ix ix_list (pv 1) (pv 2) (fun _ _ => rfl)) pe_int (fun _ _ => rfl)) (pa_cons (pe_op op_sub (pe_callB call_len_seq (by rfl) T.z_len PySem.boot_len (pa_cons (pv 1) pa_nil)) pe_int) pa_nil)))) pss_nil)
          (pss_one (ps_set (i := 2) nd rfl (.inl rfl) (pe_op op_sub (pe_callB call_len_seq (by rfl) T.z_len PySem.boot_len (pa_cons (pv 1) pa_nil)) pe_int)))))
          (pss_one (ps_if (pt_cmpR op_eq (pe_ix ix_tup (pv 3) pe_int (fun _ _ => rfl)) pe_str (nomark _))
            (pss_one (ps_expr (pe_bm PySem.F.plainAttrs_list PySem.F.slot_list_append PySem.F.type_list_append mt_append (pe_ix ix_tup (pe_ix ix_list (pv 1) (pv 2) (fun _ _ => rfl)) pe_int (fun _ _ => rfl)) (pa_cons (pe_ix ix_tup (pv 3) pe_int (fun _ _ => rfl)) pa_nil))))
            (pss_one (ps_set (i := 2) nd rfl (.inl rfl) (pe_ix ix_tup (pe_ix ix_list (pv 1) (pv 2) (fun _ _ => rfl)) pe_int (fun _ _ => rfl)))))))))
      (pss_one (ps_ret (pv 1))))), ?_⟩
    refine ⟨Nat.zero_le _, fun nl hnl => ⟨_, rfl, ?_⟩⟩
    refine ⟨_, rfl, a, rfl, ⟨_, (same_new hnl).seq hs⟩, for_list (K := K) (a := a) (xs := xs)
      (fun i σ H' => ∃ (N : Nd) (here : Option Nat) (v3 : Option V), σ = [some (.ref a), some (.ref nl), some (.int (hI here)), v3] ∧ NdOk H H' nl N i ∧ N.n ≤ i ∧ (∀ j, here = some j → j < N.n) ∧ Chain N.par here (dM (G.take i)))
      ⟨⟨0, fun _ => 0, fun _ => 0, fun _ => 0, fun _ => "", fun _ => none⟩, none, none, rfl, ⟨same_new hnl, upd_same, hnl, fun i hi => absurd hi (Nat.not_lt_zero _), fun i hi => absurd hi (Nat.not_lt_zero _), fun i hi => absurd hi (Nat.not_lt_zero _), fun i j hi => absurd hi (Nat.not_lt_zero _)⟩, Nat.le_refl _, fun j e => (nomatch e), .nil⟩
      (fun i σ H' _ ⟨_, _, _, _, h, _⟩ => h.sm.seq hs) ?_ ?_⟩
    · rintro i x σ H' hx ⟨N, here, v3, rfl, hN, hn, hh, hc⟩
      have hi : i < G.length := by
        have := (List.getElem?_eq_some_iff.mp hx).1
        omega
      obtain ⟨d, hd1, hd2⟩ := dpAll_at hd hx
      rw [List.getElem?_map] at hd1
      obtain ⟨g, hg, rfl⟩ := Option.map_eq_some_iff.mp hd1
      obtain ⟨b, rfl, hb⟩ := sg_tup hd2
      have hgo := hok i g hg
      have hb' : SqT K H' b (sgV g) := SqT_same (sF.trans hN.sm) hb
      have etk : dM (G.take (i + 1)) = g.dep (dM (G.take i)) := by
        rw [List.take_add_one, hg]
        exact dM_snoc _ _
      -- an item of the nodes
      have node : ∀ {H2 : Hp} {N : Nd} {m j : Nat}, NdOk H H2 nl N m → j < N.n → SqL K H2 nl ((List.range N.n).map fun i => V.ref (N.na i)) ∧ atI ((List.range N.n).map fun i => V.ref (N.na i)) (j : Int) = some (V.ref (N.na j)) ∧ SqT K H2 (N.na j) [.str (N.nm j), .ref (N.ta j), .ref (N.ka j), .int (hI (N.par j))] := fun {H2 N m j} h hj =>
        ⟨SqL.of h.ls, atI_nat (by rw [List.getElem?_map, List.getElem?_range hj]; rfl), SqT.of (h.tu j hj)⟩
      cases g with
      | op nm =>
        refine ⟨_, rfl, b, _, _, _, rfl, rfl, hb', atI_nat (j := 0) rfl, rfl, _, rfl, strT (a := "open") (by decide +kernel) ?_⟩
        refine ⟨_, rfl, .inl ⟨rfl, _, SqL.of hN.ls⟩, _, rfl, b, _, _, _, rfl, rfl, hb', atI_nat (j := 1) rfl, ⟨Nat.zero_le _, fun l1 hl1 => ⟨Nat.zero_le _, fun l2 hl2 => ⟨_, rfl, tup_le 4 (by decide), fun t ht => ?_⟩⟩⟩⟩
        have s1 : Same H' (upd H' l1 (.lst [])) := same_new hl1
        have s2 := same_new (o := .lst []) hl2
        have s3 := same_new (o := .tup [.str nm, .ref l1, .ref l2, .int (hI here)]) ht
        have sA := (s1.trans s2).trans s3
        have q1 : upd (upd (upd H' l1 (.lst [])) l2 (.lst [])) t (.tup [.str nm, .ref l1, .ref l2, .int (hI here)]) l1 = some (.lst []) := s3 _ _ (s2 _ _ upd_same)
        have q2 : upd (upd (upd H' l1 (.lst [])) l2 (.lst [])) t (.tup [.str nm, .ref l1, .ref l2, .int (hI here)]) l2 = some (.lst []) := s3 _ _ upd_same
        have qt : upd (upd (upd H' l1 (.lst [])) l2 (.lst [])) t (.tup [.str nm, .ref l1, .ref l2, .int (hI here)]) t = some (.tup [.str nm, .ref l1, .ref l2, .int (hI here)]) := upd_same
        have n1 : H l1 = none := hN.sm.free hl1
        have n2 : H l2 = none := hN.sm.free (s1.free hl2)
        have d1 : l1 ≠ nl := fun z => by rw [z, hN.ls] at hl1; cases hl1
        have d2 : l2 ≠ nl := fun z => by rw [z, s1 _ _ hN.ls] at hl2; cases hl2
        generalize upd (upd (upd H' l1 (.lst [])) l2 (.lst [])) t (.tup [.str nm, .ref l1, .ref l2, .int (hI here)]) = H3 at sA q1 q2 qt ⊢
        have hN3 := (hN.up sA).opn qt q1 q2 n1 n2 d1 d2 hh
        refine ⟨nl, _, _, rfl, rfl, (hN.up sA).ls, by rw [List.length_map, List.length_range, sizeLine_eq]; omega, ?_⟩
        generalize upd H3 nl (.lst ((List.range N.n).map (fun i => V.ref (N.na i)) ++ [V.ref t])) = H4 at hN3 ⊢
        have ch : Chain (N.opn t l1 l2 nm here).par (some N.n) (dM (G.take (i + 1))) := by
          rw [etk]
          refine .cons ?_
          rw [show (N.opn t l1 l2 nm here).par N.n = here from if_pos rfl]
          exact hc.congr (m := N.n) (fun j hj => by show _ = (if j = N.n then here else N.par j); rw [if_neg (by omega)]) hN.wf hh
        refine ⟨fun σ' H5 => σ' = [some (.ref a), some (.ref nl), some (.int (hI here)), some (.ref b)] ∧ NdOk H H5 nl (N.opn t l1 l2 nm here) (i + 1), ?_, ?_⟩
        · refine ⟨_, rfl, _, rfl, _, _, rfl, rfl, _, rfl, ?_⟩
          refine ite2 (fun c => ?_) (fun _ => ⟨rfl, hN3.mono (Nat.le_succ _)⟩)
          cases here with
          | none => exact absurd c (by show ¬ decide ((-1 : Int) < -1) = true; decide)
          | some j =>
            have hj := hh j rfl
            obtain ⟨t1, t2, t3⟩ := node hN3 (j := j) (by show j < N.n + 1; omega)
            obtain ⟨l, ll, lm, l0, ln⟩ := hN3.kx j (by show j < N.n + 1; omega)
            refine ⟨_, rfl, _, rfl, nl, _, _, _, rfl, rfl, t1, t2, _, _, _, _, rfl, rfl, t3, atI_nat (j := 2) rfl, .inl ⟨rfl, _, SqL.of ll⟩, _, rfl, nl, _, rfl, .inl t1, _, _, rfl, rfl, _, _, _, rfl, rfl, ll, by rw [sizeLine_eq]; omega, rfl, hN3.put ll lm l0 ln⟩
        · rintro σ' H5 ⟨rfl, h5⟩
          refine ⟨_, rfl, nl, _, rfl, .inl (SqL.of h5.ls), _, _, rfl, rfl, N.opn t l1 l2 nm here, some N.n, some (.ref b), ?_, h5, by show N.n + 1 ≤ i + 1; omega, fun j e => ?_, ch⟩
          · rw [List.length_map, List.length_range]
            show [some (V.ref a), some (V.ref nl), some (V.int (((N.n + 1 : Nat) : Int) - 1)), some (V.ref b)] = [some (V.ref a), some (V.ref nl), some (V.int (N.n : Int)), some (V.ref b)]
            rw [show ((N.n + 1 : Nat) : Int) - 1 = (N.n : Int) by omega]
          · have : N.n = j := Option.some.inj e
            show j < N.n + 1
            omega
      | tx t =>
        refine ⟨_, rfl, b, _, _, _, rfl, rfl, hb', atI_nat (j := 0) rfl, rfl, _, rfl, strF (a := "text") (by decide +kernel) ?_⟩
        refine ⟨_, rfl, b, _, _, _, rfl, rfl, hb', atI_nat (j := 0) rfl, rfl, _, rfl, strT (a := "text") (by decide +kernel) ?_⟩
        obtain ⟨j, rfl⟩ := hc.pos hgo
        have hj := hh j rfl
        obtain ⟨t1, t2, t3⟩ := node hN hj
        obtain ⟨l, ll, lm, l0, ln⟩ := hN.tx j hj
        refine ⟨_, rfl, _, rfl, nl, _, _, _, rfl, rfl, t1, t2, _, _, _, _, rfl, rfl, t3, atI_nat (j := 1) rfl, .inl ⟨rfl, _, SqL.of ll⟩, _, rfl, b, _, _, _, rfl, rfl, hb', atI_nat (j := 1) rfl, _, _, _, rfl, rfl, ll, by rw [sizeLine_eq]; omega, ?_⟩
        refine ⟨N, some j, _, rfl, hN.put ll lm l0 ln, by omega, hh, ?_⟩
        rw [etk]
        exact hc
      | cl =>
        refine ⟨_, rfl, b, _, _, _, rfl, rfl, hb', atI_nat (j := 0) rfl, rfl, _, rfl, strF (a := "close") (by decide +kernel) ?_⟩
        refine ⟨_, rfl, b, _, _, _, rfl, rfl, hb', atI_nat (j := 0) rfl, rfl, _, rfl, strF (a := "close") (by decide +kernel) ?_⟩
        obtain ⟨j, rfl⟩ := hc.pos hgo
        have hj := hh j rfl
        obtain ⟨t1, t2, t3⟩ := node hN hj
        obtain ⟨d', hd', hc'⟩ := hc.inv
        refine ⟨_, rfl, _, rfl, nl, _, _, _, rfl, rfl, t1, t2, _, _, _, _, rfl, rfl, t3, atI_nat (j := 3) rfl, ?_⟩
        refine ⟨N, N.par j, _, rfl, hN.mono (Nat.le_succ _), by omega, fun m e => by have := hN.wf j m hj e; omega, ?_⟩
        rw [etk, hd']
        exact hc'
    · rintro σ H' ⟨N, here, v3, rfl, hN, hn, hh, hc⟩
      exact ⟨_, rfl, k H' nl _ hN.sm hN.ls (by rw [List.length_map, List.length_range]; omega)⟩
end
end K8
/-! # The law -/
namespace K8
open PySem PySem.Spec PyProof.Rows L2
theorem Live.up {K : PySem.W.Frag} {CP CS : Addr} {F H H' : Hp} {S : SS} {d : Nat} (h : Live K CP CS F H S d) (e : Same H H') : Live K CP CS F H' S d := { h with at_ := h.at_.up e }
theorem ok_less {g : Sg} {n k d : Nat} (h : g.ok k d) (hn : n ≤ k) : g.ok n d := by
  cases g with
  | op nm =>
    rcases h with q | q
    · exact .inl q
    · exact .inr (by omega)
  | tx t => exact h
  | cl => exact h
theorem can_close {n : Nat} : canM "close" (decide (0 < n)) ((0 : Nat) : Int) = false := by
  unfold canM
  rw [if_neg (by decide +kernel)]
  rfl
theorem can_text {n : Nat} : canM "text" (decide (0 < n)) ((0 : Nat) : Int) = false := by
  unfold canM
  rw [if_neg (by decide +kernel)]
  rfl
theorem can_open {n : Nat} (h : 0 < n) : canM "open" (decide (0 < n)) ((0 : Nat) : Int) = false := by
  unfold canM
  rw [if_pos (by decide +kernel), decide_eq_true h]
  rfl
theorem pick4 (a b c d : Int) {j : Nat} (h : j < 4) : ∃ z : Int, ([V.int a, V.int b, V.int c, V.int d] : List V)[j]? = some (V.int z) := by
  have : j = 0 ∨ j = 1 ∨ j = 2 ∨ j = 3 := by omega
  rcases this with rfl | rfl | rfl | rfl
  · exact ⟨a, rfl⟩
  · exact ⟨b, rfl⟩
  · exact ⟨c, rfl⟩
  · exact ⟨d, rfl⟩
section
variable {P : Program} {w : World} {K : PySem.W.Frag} {mg : Str → Option Value} {base : Heap}
def spLaw (K : PySem.W.Frag) : Sp := fun vs H Q _ => ∃ (a : Addr) (ns : List Int), vs = [.ref a] ∧ SqL K H a (ns.map V.int) ∧ ns.length ≤ 63 ∧ ∀ H', Q (.bl true) H'
theorem ok_law (T : Tx K mg) (L : Df K mg "law" s_law ["_law_script"]) : FnOk P w K mg base CX0 12 L.f L.fd ["_law_script"] (spLaw K) := by
  have GNm : FnOk P w K mg base CX0 3 T.l_names.f T.l_names.fd ["_law_script"] (spNames K) := ok_names T
  have GCl : FnOk P w K mg base CX0 2 T.l_cells.f T.l_cells.fd ["_law_script", "_law_turn", "_law_most"] (spCells K) := ok_cells T
  have GSt : FnOk P w K mg base CX0 10 T.l_steps.f T.l_steps.fd ["_law_draws", "_law_deep", "_law_some"] (spSteps K 4) := ok_steps T (by decide) (ok_wish T 4)
  have GSi : FnOk P w K mg base CX0 10 T.I_Sift.f T.I_Sift.fd ["self", "question"] (spSift K T.CP T.CS) := ok_I_Sift T
  have GCa : FnOk P w K mg base CX0 1 T.l_cell_at.f T.l_cell_at.fd ["_law_script", "_law_k"] (spCellAt K) := ok_cell_at T
  have GLa : FnOk P w K mg base CX0 2 T.l_late.f T.l_late.fd ["_law_sift"] (spLawLate K T.CP T.CS) := ok_late T
  have GRe : FnOk P w K mg base CX0 10 T.l_refused.f T.l_refused.fd ["_law_sift", "_law_sign", "_law_many"] (spLawRefused K T.CP T.CS) := ok_refused T
  have GSg : FnOk P w K mg base CX0 1 T.l_signs.f T.l_signs.fd ["_law_cells_here", "_law_some"] (spSigns K) := ok_signs T
  have GTk : FnOk P w K mg base CX0 9 T.S_take.f T.S_take.fd ["self", "sign"] (spTake K T.CP T.CS) := ok_S_take T
  have GMx : FnOk P w K mg base CX0 1 T.l_mix.f T.l_mix.fd ["_law_cell", "_law_turn"] spMix := ok_mix T
  have GNd : FnOk P w K mg base CX0 1 T.l_nodes.f T.l_nodes.fd ["_law_signs_here"] (spNodes K) := ok_nodes T
  have GNp : FnOk P w K mg base CX0 11 T.l_no_part.f T.l_no_part.fd ["_law_sift", "_law_number"] (spLawNoPart K T.CP T.CS) := ok_no_part T
  have GDp : FnOk P w K mg base CX0 1 T.l_depth.f T.l_depth.fd ["_law_signs_here"] (spDepthL K) := ok_l_depth T
  have nd := sc_law.nd
  refine ok0 L.F sc_law (fun vs H Q E h => ?_) (fun cdv A outer s H vs Q E hr h => ?_)
  · obtain ⟨a, ns, rfl, _⟩ := h
    rfl
  · obtain ⟨a, ns, rfl, hs, hl, kk⟩ := h
    have r1 := hr.mono (show 1 ≤ 11 by decide)
    have r2 := hr.mono (show 2 ≤ 11 by decide)
    have r3 := hr.mono (show 3 ≤ 11 by decide)
    have r9 := hr.mono (show 9 ≤ 11 by decide)
    have r10 := hr.mono (show 10 ≤ 11 by decide)
    refine ⟨_, pss_cons (ps_set (i := 1) nd rfl (.inl rfl) (pe_call GNm r3 rfl T.l_names.m T.l_names.F.kp T.l_names.b .nil pass0 (pa_cons (pv 0) pa_nil)))
      (pss_cons (ps_set (i := 2) nd rfl (.inl rfl) (pe_call GCl r2 rfl T.l_cells.m T.l_cells.F.kp T.l_cells.b .nil pass0 (pa_cons (pv 0) (pa_cons pe_int (pa_cons pe_int pa_nil)))))
      (pss_cons (ps_set (i := 3) nd rfl (.inl rfl) (pe_make T.I_Sift.M GSi hr rfl T.gS T.I_Sift.b .nil pass0 (pa_cons (pe_call GSt r10 rfl T.l_steps.m T.l_steps.F.kp T.l_steps.b .nil pass0 (pa_cons (pv 2) (pa_cons pe_int (pa_cons (pv 1) pa_nil)))) pa_nil)))
      (pss_cons (ps_set (i := 4) nd rfl (.inl rfl) (pe_op op_mod (pe_call GCa r1 rfl T.l_cell_at.m T.l_cell_at.F.kp T.l_cell_at.b .nil pass0 (pa_cons (pv 0) (pa_cons pe_int pa_nil))) (pe_op op_pow pe_int pe_int)))
      (pss_cons (ps_if (PW.pt (pw_or (pt_not (pt_val (pe_call GLa r2 rfl T.l_late.m T.l_late.F.kp T.l_late.b .nil pass0 (pa_cons (pv 3) pa_nil))))
          (pw_or (pt_not (pt_val (pe_call GRe r10 rfl T.l_refused.m T.l_refused.F.kp T.l_refused.b .nil pass0 (pa_cons (pv 3) (pa_cons (pe_tup (pa_cons pe_str pa_nil)) (pa_cons pe_int pa_nil))))))
          (pw_or1 (pt_not (pt_val (pe_call GRe r10 rfl T.l_refused.m T.l_refused.F.kp T.l_refused.b .nil pass0 (pa_cons (pv 3) (pa_cons (pe_tup (pa_cons pe_str (pa_cons pe_str pa_nil))) (pa_cons pe_int pa_nil)))))))))) (pss_one (ps_ret pe_bl)) pss_nil)
      (pss_cons (ps_set (i := 5) nd rfl (.inl rfl) (pe_call GSg r1 rfl T.l_signs.m T.l_signs.F.kp T.l_signs.b .nil pass0 (pa_cons (pe_call GCl r2 rfl T.l_cells.m T.l_cells.F.kp T.l_cells.b .nil pass0 (pa_cons (pv 0) (pa_cons pe_int (pa_cons pe_int pa_nil)))) (pa_cons (pv 1) pa_nil))))
      (pss_cons (ps_for PassesOwn.never rfl (pi_range1 rfl T.z_range (pa_cons (pe_callB call_len_seq (by rfl) T.z_len PySem.boot_len (pa_cons (pv 5) pa_nil)) pa_nil)) (pg_name (i := 6) nd rfl (.inl rfl))
        (pss_cons (ps_expr (pe_meth (pv 3) T.clS T.S_take.m GTk r9 T.S_take.b .nil pass0 (pa_cons (pe_ix ix_list (pv 5) (pv 6) (fun _ _ => rfl)) pa_nil)))
        (pss_cons (ps_set (i := 7) nd rfl (.inl rfl) (pe_call GMx r1 rfl T.l_mix.m T.l_mix.F.kp T.l_mix.b .nil pass0 (pa_cons (pe_call GCa r1 rfl T.l_cell_at.m T.l_cell_at.F.kp T.l_cell_at.b .nil pass0 (pa_cons (pv 0) (pa_cons (pe_op op_add pe_int (pv 6)) pa_nil))) (pa_cons pe_int pa_nil))))
        (pss_cons (ps_set (i := 8) nd rfl (.inl rfl) (pe_callB call_len_seq (by rfl) T.z_len PySem.boot_len (pa_cons (pe_call GNd r1 rfl T.l_nodes.m T.l_nodes.F.kp T.l_nodes.b .nil pass0 (pa_cons (pe_slice sl_list (pv 5) po_none (po_some (pe_op op_add (pv 6) pe_int))) pa_nil)) pa_nil)))
        (pss_cons (ps_if (pt_not (pt_val (pe_call GNp hr rfl T.l_no_part.m T.l_no_part.F.kp T.l_no_part.b .nil pass0 (pa_cons (pv 3) (pa_cons (pe_ix ix_list (pe_lst (pa_cons (pe_op op_mod (pv 7) (pe_op op_add (pv 8) pe_int)) (pa_cons (pe_op op_sub (pe_un un_neg pe_int) (pv 4)) (pa_cons (pe_op op_add (pv 8) (pv 4)) (pa_cons (pv 4) pa_nil)))))
            (pe_op op_mod (pe_op op_fdiv (pv 7) pe_int) pe_int) (fun _ _ => rfl)) pa_nil))))) (pss_one (ps_ret pe_bl)) pss_nil)
        (pss_one (ps_if (pt_cmpR op_eq (pe_call GDp r1 rfl T.l_depth.m T.l_depth.F.kp T.l_depth.b .nil pass0 (pa_cons (pe_slice sl_list (pv 5) po_none (po_some (pe_op op_add (pv 6) pe_int))) pa_nil)) pe_int (nomark _))
          (pss_one (ps_for PassesOwn.never rfl (pi_list (pe_lst (pa_cons (pe_tup (pa_cons pe_str (pa_cons pe_str pa_nil))) (pa_cons (pe_tup (pa_cons pe_str (pa_cons pe_str pa_nil))) (pa_cons (pe_tup (pa_cons pe_str pa_nil)) pa_nil))))) (pg_name (i := 9) nd rfl (.inl rfl))
            (pss_one (ps_if (pt_not (pt_val (pe_call GRe r10 rfl T.l_refused.m T.l_refused.F.kp T.l_refused.b .nil pass0 (pa_cons (pv 3) (pa_cons (pv 9) (pa_cons (pe_op op_add (pv 6) pe_int) pa_nil)))))) (pss_one (ps_ret pe_bl)) pss_nil)))) pss_nil)))))))
      (pss_one (ps_ret pe_bl)))))))), ?_⟩
    refine ⟨_, rfl, a, ns, rfl, hs, hl, fun H1 sm ss s1 hsm0 hsm1 hsl => ?_⟩
    refine ⟨_, rfl, a, ns, 100, 12, rfl, s1.seq hs, hl, by decide, by decide, by decide, fun H2 ld dr s2 hld0 hld1 _ _ => ?_⟩
    refine ⟨_, rfl, _, rfl, H1, ld, sm, 3, dr, ss, rfl, rfl, s2, hld0, hld1, SqL.of hsm1, hsl, fun F3 H3 v l ns3 g3 hl3 hd3 hl0 hlen => ?_⟩
    intro x dx hx hdx hne
    have hF3 : Same F3 (upd (upd H3 dx (.own x)) x (.ins T.CS dx [])) := (g3.inn.trans (same_new hdx)).trans (same_new (by rw [upd_ne (Ne.symm hne)]; exact hx))
    refine ⟨F3, x, dx, v, l, rfl, hF3, g3.fl hx, upd_same, hd3, hl0, hlen, fun F5 H5 S s5 hS had hn hh hm hmv htx => ⟨rfl, ?_⟩⟩
    clear hF3
    subst had
    have sF5 : Same H1 F5 := g3.sub.trans s5
    have ha5 : SqL K F5 a (ns.map V.int) := sF5.seq (s1.seq hs)
    have hsm5 : SqL K F5 sm (ss.map fun t => V.str t.1) := sF5.seq (SqL.of hsm1)
    refine ⟨_, rfl, a, ns, 12, rfl, hS.m.same.seq ha5, fun c => ⟨_, _, rfl, rfl, ⟨by decide, by decide, by decide⟩, _, _, rfl, rfl, (by decide : (0 : Int) < 10 ^ (59 : Int).toNat), ?_⟩⟩
    dsimp only
    generalize c % (10 : Int) ^ (59 : Int).toNat = far
    have hch : Chain S.par S.here 0 := by rw [hh]; exact .nil
    refine ⟨_, rfl, F5, S, rfl, hS, hn, fun H6 s6 => ⟨_, rfl, ?_⟩⟩
    refine ⟨_, rfl, tup_le 1 (by decide), fun t1 ht1 => ⟨F5, S, t1, "close", [], 0, by rw [hm]; rfl, hS.up (s6.trans (same_new ht1)), SqT.of upd_same, hch, can_close, fun H7 s7 => ⟨_, rfl, ?_⟩⟩⟩
    have s67 : Same H5 H7 := (s6.trans (same_new ht1)).trans s7
    refine ⟨_, rfl, tup_le 2 (by decide), fun t2 ht2 => ⟨F5, S, t2, "text", [.str "x"], 0, by rw [hm]; rfl, hS.up (s67.trans (same_new ht2)), SqT.of upd_same, hch, can_text, fun H8 s8 => ⟨_, rfl, ?_⟩⟩⟩
    have s68 : Same H5 H8 := (s67.trans (same_new ht2)).trans s8
    clear s6 s7 s8 ht1 ht2 s67
    have hS8 := hS.up s68
    refine ⟨_, rfl, a, ns, 500, 20, rfl, hS8.m.same.seq ha5, hl, by decide, by decide, by decide, fun H9 pc cs s9 hpc0 hpc1 _ hcl => ?_⟩
    have hS9 := hS8.frz2 s9 hpc0 hpc1
    have sF9 : Same F5 (upd F5 pc (.lst (cs.map V.int))) := same_new (hS8.m.same.free hpc0)
    have hpcF : SqL K (upd F5 pc (.lst (cs.map V.int))) pc (cs.map V.int) := SqL.of upd_same
    generalize upd F5 pc (.lst (cs.map V.int)) = F9 at hS9 sF9 hpcF
    refine ⟨_, rfl, F9, pc, sm, cs, ss, rfl, hS9.m.same, hpcF, hcl, sF9.seq hsm5, hsl, fun F10 H10 pS xs G g10 hpS0 hpS1 hpS2 hdx hok hGl => ?_⟩
    have hS10 := hS9.grow g10
    have sF11 : Same F10 (upd F10 pS (.lst xs)) := same_new hpS1
    have hS11 : SiftAt K T.CP T.CS (upd F10 pS (.lst xs)) H10 S := hS10.refr sF11 (fun b u e => by
      by_cases hb : b = pS
      · subst hb
        rw [upd_same] at e
        rw [hpS2]
        exact e
      · rw [upd_ne hb] at e
        exact g10.inn b u e) fun r o e => by
      rw [upd_ne (hS9.ne hpS0 r o e)]
      exact hS10.m.fr r o e
    have hpSF : SqL K (upd F10 pS (.lst xs)) pS xs := SqL.of upd_same
    have hdx11 := hdx.up sF11
    have ha11 : SqL K (upd F10 pS (.lst xs)) a (ns.map V.int) := ((sF9.trans g10.sub).trans sF11).seq ha5
    generalize upd F10 pS (.lst xs) = F11 at hS11 hpSF hdx11 ha11
    have exl := dpAll_len hdx
    rw [List.length_map] at exl
    refine ⟨_, rfl, pS, xs, rfl, .inl (hS11.m.same.seq hpSF), (xs.length : Int), rfl, by omega, by omega, for_range (lo := 0) (n := xs.length)
      (fun i σ H' => ∃ (F' : Hp) (S' : SS) (v6 v7 v8 v9 : Option V), σ = [some (.ref a), some (.ref sm), some (.ref ld), some (.ref (S.ad .sift)), some (.int far), some (.ref pS), v6, v7, v8, v9] ∧ Same F11 F' ∧ Live K T.CP T.CS F' H' S' (dM (G.take i)) ∧ S'.ad .sift = S.ad .sift ∧ S'.many = i)
      ⟨F11, S, none, none, none, none, rfl, Same.refl _, ⟨hS11, hch, by omega, by omega, fun i => by rw [hmv i]; exact Nat.zero_le _, fun i => by rw [htx i]; exact Nat.zero_le _, fun z => by omega⟩, rfl, hm⟩ ?_ ?_⟩
    · rintro k σ H' hk ⟨F', S', v6, v7, v8, v9, rfl, sF', hL, had, hmk⟩
      have ek : (0 : Int) + (k : Int) = (k : Int) := by omega
      rw [ek]
      have hkG : k < G.length := by omega
      have hg : G[k]? = some G[k] := List.getElem?_eq_getElem hkG
      obtain ⟨v, hv, hvd⟩ := dpAll_ix (hdx11.up sF') (show (G.map sgD)[k]? = some (sgD G[k]) by rw [List.getElem?_map, hg]; rfl)
      obtain ⟨b, rfl, hb⟩ := sg_tup hvd
      have h0 := hL.at_.m.own .sift _ rfl
      rw [had] at h0
      refine ⟨_, rfl, _, _, _, rfl, h0, sfs_no (by decide +kernel), _, rfl, _, rfl, pS, _, _, _, rfl, rfl, hL.at_.m.same.seq (sF'.seq hpSF), atI_nat hv, ?_⟩
      refine ⟨F', S', b, G[k], dM (G.take k), by rw [had]; rfl, hL, hb, ok_less (hok k _ hg) (by have := hL.nm; omega), by omega, fun F2 H2 S2 w2 sF2 hL2 had2 hm2 => ?_⟩
      have had3 : S2.ad .sift = S.ad .sift := had2.trans had
      have etk : dM (G.take (k + 1)) = G[k].dep (dM (G.take k)) := by
        rw [List.take_add_one, hg]
        exact dM_snoc _ _
      rw [← etk] at hL2
      have hS2 := hL2.at_
      have sF12 := sF'.trans sF2
      -- the number
      refine ⟨_, rfl, _, rfl, _, _, rfl, rfl, a, ns, 34 + k, (by show [V.ref a, V.int (34 + (k : Int))] = _; rw [show (34 : Int) + (k : Int) = ((34 + k : Nat) : Int) by omega]), hS2.m.same.seq (sF12.seq ha11), fun c2 => ?_⟩
      refine ⟨c2, 7, rfl, by decide, by decide, fun num hn0 hn1 => ?_⟩
      -- how many
      have hpS2' : SqL K H2 pS xs := hS2.m.same.seq (sF12.seq hpSF)
      refine ⟨_, rfl, _, rfl, _, _, rfl, rfl, _, rfl, pS, xs, rfl, hpS2', fun q hq => ?_⟩
      have ecut : cutV xs none (some ((k : Int) + 1)) = xs.take (k + 1) := cutV_take xs (k + 1)
      dsimp only
      rw [ecut]
      have sq : Same H2 (upd H2 q (.lst (xs.take (k + 1)))) := same_new hq
      have hdk : DpAll K F2 (xs.take (k + 1)) ((G.take (k + 1)).map sgD) := by
        rw [List.map_take]
        exact dpAll_take (k + 1) (hdx11.up sF12)
      refine ⟨F2, q, _, G.take (k + 1), rfl, hS2.m.same.trans sq, SqL.of upd_same, hdk, hok.take (k + 1), by rw [List.length_take]; omega, fun H3 pn zs s3 hzs hzl => ?_⟩
      refine ⟨pn, zs, rfl, .inl (SqL.of hzs), ?_⟩
      have s23 : Same H2 H3 := sq.trans s3
      have hL3 := hL2.up s23
      have h03 := hL3.at_.m.own .sift _ rfl
      rw [had3] at h03
      obtain ⟨j4, hj4, hj4l⟩ := emod_ix (num / 100) (n := 4) (by decide)
      have e4 : num / 100 % 4 = (j4 : Int) := hj4
      obtain ⟨z, hz⟩ := pick4 (num % ((zs.length : Nat) + 2 : Int)) (-1 - far) ((zs.length : Nat) + far : Int) far hj4l
      refine ⟨_, rfl, _, rfl, _, rfl, _, _, rfl, rfl, _, _, rfl, rfl, (by show (0 : Int) < ((zs.length : Nat) + 2 : Int); omega), _, rfl, _, rfl, _, _, rfl, rfl, _, rfl, _, rfl, _, _, rfl, rfl, _, rfl, (by rw [sizeLine_eq]; exact (by decide : (4 : Nat) ≤ 16777216)), fun lp hlp => ?_⟩
      refine ⟨_, rfl, _, _, rfl, rfl, ⟨by decide, by decide⟩, _, _, rfl, rfl, (by show (0 : Int) < 4; decide), lp, _, _, V.int z, rfl, rfl, SqL.of upd_same, (by rw [e4]; exact atI_nat hz), ?_⟩
      have s4 := same_new (o := .lst [V.int (num % ((zs.length : Nat) + 2 : Int)), V.int (-1 - far), V.int ((zs.length : Nat) + far : Int), V.int far]) hlp
      refine ⟨F2, S2, z, by rw [had3]; rfl, hL3.at_.up s4, fun H5 s5' => ⟨_, rfl, ?_⟩⟩
      have s35 : Same H3 H5 := s4.trans s5'
      have hL5 := hL3.up s35
      -- how deep
      refine ⟨_, rfl, _, rfl, _, _, rfl, rfl, _, rfl, pS, xs, rfl, hL5.at_.m.same.seq (sF12.seq hpSF), fun q2 hq2 => ?_⟩
      rw [ecut]
      have sq2 : Same H5 (upd H5 q2 (.lst (xs.take (k + 1)))) := same_new hq2
      refine ⟨F2, q2, _, G.take (k + 1), rfl, hL5.at_.m.same.trans sq2, SqL.of upd_same, hdk, hok.take (k + 1), by rw [List.length_take]; omega, fun H7 s7 => ⟨rfl, _, rfl, ?_⟩⟩
      have hL7 := hL5.up (sq2.trans s7)
      refine ite2 (fun c0 => ?_) (fun _ => ⟨F2, S2, _, _, _, _, rfl, sF12, hL7, had3, by omega⟩)
      have hd0 : dM (G.take (k + 1)) = 0 := by
        have e1 : V.int ((dM (G.take (k + 1)) : Nat) : Int) = V.int 0 := of_decide_eq_true c0
        injection e1 with e1
        omega
      have hch7 : Chain S2.par S2.here 0 := by rw [← hd0]; exact hL7.ch
      have hnp : 0 < S2.n := hL7.bg (by omega)
      refine ⟨tup_le 2 (by decide), fun t1 ht1 => ⟨tup_le 2 (by decide), fun t2 ht2 => ⟨tup_le 1 (by decide), fun t3 ht3 => ⟨(by rw [sizeLine_eq]; exact (by decide : (3 : Nat) ≤ 16777216)), fun lq hlq => ?_⟩⟩⟩⟩
      have w1 := same_new (o := .tup [V.str "open", V.str "a"]) ht1
      have w2 := same_new (o := .tup [V.str "text", V.str ""]) ht2
      have w3 := same_new (o := .tup [V.str "close"]) ht3
      have w4 := same_new (o := .lst [V.ref t1, V.ref t2, V.ref t3]) hlq
      have b1 := w4 _ _ (w3 _ _ (w2 _ _ (upd_same (H := H7) (a := t1) (o := .tup [V.str "open", V.str "a"]))))
      have b2 := w4 _ _ (w3 _ _ (upd_same (H := upd H7 t1 (.tup [V.str "open", V.str "a"])) (a := t2) (o := .tup [V.str "text", V.str ""])))
      have b3 := w4 _ _ (upd_same (H := upd (upd H7 t1 (.tup [V.str "open", V.str "a"])) t2 (.tup [V.str "text", V.str ""])) (a := t3) (o := .tup [V.str "close"]))
      have sw := ((w1.trans w2).trans w3).trans w4
      have hlq1 : upd (upd (upd (upd H7 t1 (.tup [V.str "open", V.str "a"])) t2 (.tup [V.str "text", V.str ""])) t3 (.tup [V.str "close"])) lq (.lst [V.ref t1, V.ref t2, V.ref t3]) lq = some (.lst [V.ref t1, V.ref t2, V.ref t3]) := upd_same
      generalize upd (upd (upd (upd H7 t1 (.tup [V.str "open", V.str "a"])) t2 (.tup [V.str "text", V.str ""])) t3 (.tup [V.str "close"])) lq (.lst [V.ref t1, V.ref t2, V.ref t3]) = Hx at b1 b2 b3 sw hlq1 ⊢
      have hLx := hL7.up sw
      have pick : ∀ {i : Nat} {x : V}, ([V.ref t1, V.ref t2, V.ref t3] : List V)[i]? = some x → ∃ (b : Addr) (t : Str) (r : List V), x = .ref b ∧ SqT K Hx b (.str t :: r) ∧ canM t (decide (0 < S2.n)) ((0 : Nat) : Int) = false := fun {i x} e => by
        have hi : i < 3 := (List.getElem?_eq_some_iff.mp e).1
        have : i = 0 ∨ i = 1 ∨ i = 2 := by omega
        rcases this with rfl | rfl | rfl
        · exact ⟨t1, _, _, (Option.some.inj e).symm, SqT.of b1, can_open hnp⟩
        · exact ⟨t2, _, _, (Option.some.inj e).symm, SqT.of b2, can_text⟩
        · exact ⟨t3, _, _, (Option.some.inj e).symm, SqT.of b3, can_close⟩
      refine ⟨lq, rfl, ⟨_, SqL.of hlq1⟩, for_list (K := K) (a := lq) (xs := [V.ref t1, V.ref t2, V.ref t3])
        (fun i σ H' => ∃ v9 : Option V, σ = [some (.ref a), some (.ref sm), some (.ref ld), some (.ref (S.ad .sift)), some (.int far), some (.ref pS), some (.int (k : Int)), some (.int num), some (.int (zs.length : Nat)), v9] ∧ Same Hx H')
        ⟨_, rfl, Same.refl _⟩ (fun i σ H' _ ⟨_, _, q⟩ => q.seq (SqL.of hlq1)) ?_ ?_⟩
      · rintro i x σ H' hx ⟨v9, rfl, sx⟩
        obtain ⟨b, t, r, rfl, hb, hcan⟩ := pick hx
        refine ⟨_, rfl, _, rfl, _, rfl, _, _, rfl, rfl, F2, S2, b, t, r, 0, (by show [V.ref (S.ad .sift), V.ref b, V.int ((k : Int) + 1)] = _; rw [had3, hm2, hmk]; rfl), hLx.at_.up sx, SqT_same sx hb, hch7, hcan, fun H9 s9 => ⟨_, rfl, ?_⟩⟩
        exact ⟨_, rfl, sx.trans s9⟩
      · rintro σ H' ⟨v9, rfl, sx⟩
        exact ⟨F2, S2, _, _, _, _, rfl, sF12, hLx.up sx, had3, by omega⟩
    · rintro σ H' _
      exact kk H'
end
end K8
/-! # The head: what the top has written, by names. Printed by gen_h.py. -/
namespace K8
open PySem PySem.Spec PyProof.Rows L2
/-- OexC, decided -/
def oexB (K : PySem.W.Frag) (C : Addr) : Bool := (match K.lookup C with
  | some ⟨.type "type", _, .cls cd, sl⟩ => (match cd.mro, sl.toList with
    | .ref C' :: bm, [_, _, _, _, some (.builtin n), _] => C' == C && (n == "ValueError.__new__" && (!cd.hasDel && (cd.hasDict && PySem.HandSPX.refsVE bm)))
    | _, _ => false)
  | _ => false) && (He.eqO (PySem.W.findIn K (.ref C) "__setattr__") (some (some (.builtin "object.__setattr__"))) && (decide (PySem.W.subIn K (.ref C) (.type "BaseException") = some true) && (decide (PySem.W.typeIn K (.ref C) = some (.type "type")) && PySem.W.keepIn K (.ref C))))
theorem oexB_ok {K : PySem.W.Frag} {C : Addr} (h : oexB K C = true) : OexC K C := by
  obtain ⟨h1, h⟩ := Bool.and_eq_true_iff.mp h
  obtain ⟨h2, h⟩ := Bool.and_eq_true_iff.mp h
  obtain ⟨h3, h⟩ := Bool.and_eq_true_iff.mp h
  obtain ⟨h4, h5⟩ := Bool.and_eq_true_iff.mp h
  refine ⟨?_, He.eqO_ok h2, of_decide_eq_true h3, of_decide_eq_true h4, h5⟩
  split at h1
  · rename_i dd cd sl ho
    split at h1
    · rename_i C' bm k0 k1 k2 k3 n k5 hm hs
      simp only [Bool.and_eq_true, beq_iff_eq, Bool.not_eq_true'] at h1
      obtain ⟨rfl, rfl, hdel, hdct, ht⟩ := h1
      obtain ⟨nm, bs, mro, ns, qn, hd, sn, sub, ab, col, del⟩ := cd
      dsimp only at hm hdel hdct
      subst hm hdel hdct
      have hsl : sl = #[k0, k1, k2, k3, some (.builtin "ValueError.__new__"), k5] := by
        obtain ⟨l⟩ := sl
        simp only at hs
        rw [hs]
      subst hsl
      exact ⟨nm, qn, ns, bs, bm, sn, sub, ab, col, dd, k0, k1, k2, k3, k5, ho, ht⟩
    · cases h1
  · cases h1
/-- ExcC, decided -/
def excCB (K : PySem.W.Frag) (D : Addr) : Bool := He.eqO (PySem.W.findIn K (.ref D) "__getattribute__") (some (some (.builtin "BaseException.__getattribute__"))) && (He.eqO (PySem.W.findIn K (.ref D) "__getattr__") (some none) && (decide (PySem.W.subIn K (.ref D) (.type "BaseException") = some true) && (PySem.W.hasDictIn K D &&
  (He.eqO (PySem.W.findIn K (.ref D) "__class__") (some (some (.builtin "object.__class__"))) && (He.eqO (PySem.W.specialIn K (.builtin "object.__class__") "__get__") (some (some (.builtin "getset_descriptor.__get__"))) && (decide (PySem.W.takesIn K (.builtin "object.__class__") = some true) && decide (PySem.W.mroIn K D (.type "object") = some true)))))))
theorem excCB_ok {K : PySem.W.Frag} {D : Addr} (h : excCB K D = true) : ExcC K D := by
  obtain ⟨h1, h⟩ := Bool.and_eq_true_iff.mp h
  obtain ⟨h2, h⟩ := Bool.and_eq_true_iff.mp h
  obtain ⟨h3, h⟩ := Bool.and_eq_true_iff.mp h
  obtain ⟨h4, h⟩ := Bool.and_eq_true_iff.mp h
  obtain ⟨h5, h⟩ := Bool.and_eq_true_iff.mp h
  obtain ⟨h6, h⟩ := Bool.and_eq_true_iff.mp h
  obtain ⟨h7, h8⟩ := Bool.and_eq_true_iff.mp h
  exact ⟨He.eqO_ok h1, He.eqO_ok h2, of_decide_eq_true h3, h4, He.eqO_ok h5, He.eqO_ok h6, of_decide_eq_true h7, of_decide_eq_true h8⟩
def exN : Nat → Str
  | 0 => "NoSign" | 1 => "NoText" | 2 => "NoPart" | 3 => "Taken" | _ => "Late"
def exA (K : PySem.W.Frag) (i : Nat) : Addr := He.ga K (exN i)
def iNS (K : PySem.W.Frag) : Addr := He.ma K (exA K 0) "__init__"
def three : List Nat := [0, 2, 4]
def exB (K : PySem.W.Frag) : Bool := oexB K (exA K 0) && (He.eqO (PySem.W.findIn K (.ref (exA K 0)) "__init__") (some (some (.ref (iNS K)))) && (decide (PySem.W.typeIn K (.ref (iNS K)) = some (.type "function")) && (xfB K (exA K 0) &&
  (three.all (fun i => excCB K (exA K i)) && (three.all (fun i => (List.range 5).all fun j => decide (PySem.W.kitOne K (.ref (exA K i)) (.ref (exA K j)) = some (decide (i = j)))) &&
  (three.all (fun i => decide (PySem.W.kitOne K (.ref (exA K i)) (.type "ValueError") = some true)) && three.all fun i => decide (PySem.W.kitOne K (.ref (exA K i)) (.ref (He.ga K "SiftError")) = some true)))))))
def fn0 : List He.DefD := [⟨("tails_of", none), "tails_of", "tails_of", defArgs s_tails_of, defBody s_tails_of, defScope s_tails_of, [], []⟩, ⟨("tails_in", none), "tails_in", "tails_in", defArgs s_tails_in, defBody s_tails_in, defScope s_tails_in, [], []⟩, ⟨("holds_now", none), "holds_now", "holds_now", defArgs s_holds_now, defBody s_holds_now, defScope s_holds_now, [], []⟩, ⟨("can_be", none), "can_be", "can_be", defArgs s_can_be, defBody s_can_be, defScope s_can_be, [], []⟩, ⟨("may_hold", none), "may_hold", "may_hold", defArgs s_may_hold, defBody s_may_hold, defScope s_may_hold, [], []⟩, ⟨("is_called", none), "is_called", "is_called", defArgs s_is_called, defBody s_is_called, defScope s_is_called, [], []⟩, ⟨("lay", none), "lay", "lay", defArgs s_lay, defBody s_lay, defScope s_lay, [], []⟩, ⟨("refresh", none), "refresh", "refresh", defArgs s_refresh, defBody s_refresh, defScope s_refresh, [], []⟩, ⟨("refresh_all", none), "refresh_all", "refresh_all", defArgs s_refresh_all, defBody s_refresh_all, defScope s_refresh_all, [], []⟩, ⟨("suits", none), "suits", "suits", defArgs s_suits, defBody s_suits, defScope s_suits, [], []⟩, ⟨("ahead_of", none), "ahead_of", "ahead_of", defArgs s_ahead_of, defBody s_ahead_of, defScope s_ahead_of, [], []⟩, ⟨("reached_by", none), "reached_by", "reached_by", defArgs s_reached_by, defBody s_reached_by, defScope s_reached_by, [], []⟩, ⟨("ends_of", none), "ends_of", "ends_of", defArgs s_ends_of, defBody s_ends_of, defScope s_ends_of, [], []⟩, ⟨("shortest_of", none), "shortest_of", "shortest_of", defArgs s_shortest_of, defBody s_shortest_of, defScope s_shortest_of, [], []⟩, ⟨("can_come", none), "can_come", "can_come", defArgs s_can_come, defBody s_can_come, defScope s_can_come, [], []⟩, ⟨("copy_steps", none), "copy_steps", "copy_steps", defArgs s_copy_steps, defBody s_copy_steps, defScope s_copy_steps, [], []⟩, ⟨("copy_wish", none), "copy_wish", "copy_wish", defArgs s_copy_wish, defBody s_copy_wish, defScope s_copy_wish, [], []⟩, ⟨("_law_cell_at", none), "_law_cell_at", "_law_cell_at", defArgs s_l_cell_at, defBody s_l_cell_at, defScope s_l_cell_at, [], []⟩, ⟨("_law_whole", none), "_law_whole", "_law_whole", defArgs s_l_whole, defBody s_l_whole, defScope s_l_whole, [], []⟩, ⟨("_law_mix", none), "_law_mix", "_law_mix", defArgs s_l_mix, defBody s_l_mix, defScope s_l_mix, [], []⟩, ⟨("_law_only", none), "_law_only", "_law_only", defArgs s_l_only, defBody s_l_only, defScope s_l_only, [], []⟩, ⟨("_law_cells", none), "_law_cells", "_law_cells", defArgs s_l_cells, defBody s_l_cells, defScope s_l_cells, [], []⟩, ⟨("_law_names", none), "_law_names", "_law_names", defArgs s_l_names, defBody s_l_names, defScope s_l_names, [], []⟩, ⟨("_law_signs", none), "_law_signs", "_law_signs", defArgs s_l_signs, defBody s_l_signs, defScope s_l_signs, [], []⟩, ⟨("_law_nodes", none), "_law_nodes", "_law_nodes", defArgs s_l_nodes, defBody s_l_nodes, defScope s_l_nodes, [], []⟩, ⟨("_law_depth", none), "_law_depth", "_law_depth", defArgs s_l_depth, defBody s_l_depth, defScope s_l_depth, [], []⟩, ⟨("_law_pop", none), "_law_pop", "_law_pop", defArgs s_l_pop, defBody s_l_pop, defScope s_l_pop, [], []⟩, ⟨("_law_wish", none), "_law_wish", "_law_wish", defArgs s_l_wish, defBody s_l_wish, defScope s_l_wish, [], []⟩, ⟨("_law_steps", none), "_law_steps", "_law_steps", defArgs s_l_steps, defBody s_l_steps, defScope s_l_steps, [], []⟩, ⟨("_law_refused", none), "_law_refused", "_law_refused", defArgs s_l_refused, defBody s_l_refused, defScope s_l_refused, [], []⟩]
def fn1 : List He.DefD := [⟨("_law_late", none), "_law_late", "_law_late", defArgs s_l_late, defBody s_l_late, defScope s_l_late, [], []⟩, ⟨("_law_no_part", none), "_law_no_part", "_law_no_part", defArgs s_l_no_part, defBody s_l_no_part, defScope s_l_no_part, [], []⟩, ⟨("law", none), "law", "law", defArgs s_law, defBody s_law, defScope s_law, [], []⟩, ⟨("Sift", some "depth"), "depth", "Sift.depth", defArgs s_S_depth, defBody s_S_depth, defScope s_S_depth, [], []⟩, ⟨("Sift", some "take"), "take", "Sift.take", defArgs s_S_take, defBody s_S_take, defScope s_S_take, [], []⟩, ⟨("Sift", some "told"), "told", "Sift.told", defArgs s_S_told, defBody s_S_told, defScope s_S_told, [], []⟩, ⟨("Sift", some "waiting"), "waiting", "Sift.waiting", defArgs s_S_waiting, defBody s_S_waiting, defScope s_S_waiting, [], []⟩, ⟨("Sift", some "is_over"), "is_over", "Sift.is_over", defArgs s_S_is_over, defBody s_S_is_over, defScope s_S_is_over, [], []⟩, ⟨("Sift", some "shortest"), "shortest", "Sift.shortest", defArgs s_S_shortest, defBody s_S_shortest, defScope s_S_shortest, [], []⟩, ⟨("Sift", some "ending"), "ending", "Sift.ending", defArgs s_S_ending, defBody s_S_ending, defScope s_S_ending, [], []⟩, ⟨("Part", some "__init__"), "__init__", "Part.__init__", defArgs s_I_Part, defBody s_I_Part, defScope s_I_Part, [], []⟩, ⟨("Sift", some "__init__"), "__init__", "Sift.__init__", defArgs s_I_Sift, defBody s_I_Sift, defScope s_I_Sift, [], []⟩, ⟨("NoSign", some "__init__"), "__init__", "NoSign.__init__", defArgs s_I_NoSign, defBody s_I_NoSign, defScope s_I_NoSign, [], []⟩]
def fn : List He.DefD := fn0 ++ fn1
def fa0 : List He.Fa := [.glo "tails_of", .glo "tails_in", .glo "holds_now", .glo "can_be", .glo "may_hold", .glo "is_called", .glo "lay", .glo "refresh", .glo "refresh_all", .glo "suits", .glo "ahead_of", .glo "reached_by", .glo "ends_of", .glo "shortest_of", .glo "can_come", .glo "copy_steps", .glo "copy_wish", .glo "_law_cell_at", .glo "_law_whole", .glo "_law_mix", .glo "_law_only", .glo "_law_cells", .glo "_law_names", .glo "_law_signs", .glo "_law_nodes", .glo "_law_depth", .glo "_law_pop", .glo "_law_wish", .glo "_law_steps", .glo "_law_refused"]
def fa1 : List He.Fa := [.glo "_law_late", .glo "_law_no_part", .glo "law", .glo "Part", .glo "Sift", .glo "SiftError", .glo "NoSign", .glo "NoText", .glo "NoPart", .glo "Taken", .glo "Late", .cls "Part", .cls "Sift", .noat "Part" "number", .noat "Part" "name", .noat "Part" "around", .noat "Part" "is_open", .noat "Part" "is_told", .noat "Part" "texts", .noat "Part" "met", .noat "Sift" "question", .noat "Sift" "tails", .noat "Sift" "parts", .noat "Sift" "here", .noat "Sift" "many", .noat "Sift" "answered", .meth "Sift" "depth", .meth "Sift" "take", .meth "Sift" "told", .meth "Sift" "waiting"]
def fa2 : List He.Fa := [.meth "Sift" "is_over", .meth "Sift" "shortest", .meth "Sift" "ending", .mkr "Part", .mkr "Sift", .free "len", .free "range", .free "all", .free "any", .free "enumerate", .free "sorted", .free "isinstance", .free "int", .free "bool", .free "ValueError", .exc "NoPart", .exc "Late", .exm "NoSign" "NoSign" true, .exm "NoPart" "SiftError" true, .exm "Late" "SiftError" true, .noat "NoSign" "at"]
def fa : List He.Fa := fa0 ++ fa1 ++ fa2
def ln0 : List Str := ["_wall", "__name__", "Part", "tails_of", "tails_in", "holds_now", "can_be", "may_hold", "is_called", "lay", "refresh", "refresh_all", "suits", "ahead_of", "reached_by", "ends_of", "chain_to", "shortest_of", "gift_of", "gift_of_steps", "ending_by", "SiftError", "NoSign", "NoText", "NoPart", "Taken", "Late", "can_come", "Sift", "copy_steps"]
def ln1 : List Str := ["copy_wish", "_law_cell_at", "_law_whole", "_law_mix", "_law_only", "_law_cells", "_law_names", "_law_signs", "_law_nodes", "_law_depth", "_law_pop", "_law_wish", "_law_steps", "_law_refused", "_law_late", "_law_no_part"]
def ln : List Str := ln0 ++ ln1
abbrev R : PySem.W.OpenRow := PySem.W.OpenLaw.row PySem.Challenge.rw_earlysift_k08_what_a_sift_refuses
abbrev AlX : Type := He.AlD × Bool
def obsXG (n : Nat) (g : Addr → Option Obj) : AlX := (fun K : PySem.W.Frag => (He.obsD fa fn K, exB K)) (He.frG g (He.asD g n))
def hookX (n : Nat) : PySem.W.Hook where
  α := AlX
  obs := fun s => obsXG n s.heap.get?
  val := fun _ => (He.valD fn, true)
  says := fun _ h => ∃ K : PySem.W.Frag, K.In h ∧ He.SaysD fa fn K ∧ exB K = true
  of := fun _ _ e => ⟨_, He.frG_in, (Prod.mk.inj e).1, (Prod.mk.inj e).2⟩
  keeps := fun _ _ _ ⟨K, hK, c⟩ k => ⟨K, PySem.W.Frag.In.keeps hK k, c⟩
theorem obsXG_eq {n : Nat} {g : Addr → Option Obj} {s : Shared} (h : ∀ a, g a = s.heap.get? a) : obsXG n g = (hookX n).obs s := by
  have e : g = s.heap.get? := funext h
  rw [e] <;> rfl
abbrev hk : PySem.W.Hook := hookX 5
def ob (s : PySem.W.SharedT) : AlX := obsXG 5 (HandSHeadRun.getT s)
theorem ob_eq (s : PySem.W.SharedT) : ob s = hk.obs s.abs := obsXG_eq (HandSHeadRun.getT_eq s)
theorem run (w : World) : HandSHeadRun.RunEq R (PySem.W.view R.prog [52]) hk ob 4000 ln w := by
  intro os
  kernel_rfl
end K8
/-! # The law, closed. Printed by gen_h2.py. -/
namespace K8
open PySem PySem.Spec PyProof.Rows L2
section
variable {K : PySem.W.Frag} {h : Heap} {mg : Str → Option Value}
theorem df_of {x : Str} {st : Stmt} {ps : List Str} (X : K.In h) (G : h.Ns mainGlobals mg) (hF : ∃ fd, FnP K x x st (He.ga K x) fd) (hg : (He.Fa.glo x).ok K = true) (hb : ∀ fd, FnP K x x st (He.ga K x) fd → Binds K fd ps []) : Nonempty (Df K mg x st ps) :=
  let ⟨fd, F⟩ := hF
  ⟨⟨_, fd, F, He.glo_ok X G hg, hb fd F⟩⟩
theorem mf_of {y x qual : Str} {st : Stmt} {ps : List Str} (hF : ∃ fd, FnP K x qual st (He.ma K (He.ga K y) x) fd) (hm : (He.Fa.meth y x).ok K = true) (hb : ∀ fd, FnP K x qual st (He.ma K (He.ga K y) x) fd → Binds K fd ps []) : Nonempty (Mf K (He.ga K y) x qual st ps) :=
  let ⟨fd, F⟩ := hF
  ⟨⟨_, fd, F, He.meth_ok hm, hb fd F⟩⟩
theorem if_of {y qual : Str} {st : Stmt} {ps : List Str} (hF : ∃ fd, FnP K "__init__" qual st (He.ma K (He.ga K y) "__init__") fd) (hm : (He.Fa.mkr y).ok K = true) (hb : ∀ fd, FnP K "__init__" qual st (He.ma K (He.ga K y) "__init__") fd → Binds K fd ps []) : Nonempty (If K (He.ga K y) qual st ps) :=
  let ⟨fd, F⟩ := hF
  ⟨⟨_, fd, F, He.mkr_ok hm, hb fd F⟩⟩
theorem three_mem {i : Nat} (h : i = 0 ∨ i = 2 ∨ i = 4) : i ∈ three := by
  rcases h with rfl | rfl | rfl <;> decide
theorem tx_of (X : K.In h) (G : h.Ns mainGlobals mg) (c : He.SaysD fa fn K) (hx : exB K = true) : Nonempty (Tx K mg) := by
  unfold exB at hx
  obtain ⟨x1, hx⟩ := Bool.and_eq_true_iff.mp hx
  obtain ⟨x2, hx⟩ := Bool.and_eq_true_iff.mp hx
  obtain ⟨x3, hx⟩ := Bool.and_eq_true_iff.mp hx
  obtain ⟨x4, hx⟩ := Bool.and_eq_true_iff.mp hx
  obtain ⟨x5, hx⟩ := Bool.and_eq_true_iff.mp hx
  obtain ⟨x6, hx⟩ := Bool.and_eq_true_iff.mp hx
  obtain ⟨x7, x8⟩ := Bool.and_eq_true_iff.mp hx
  obtain ⟨d_tails_of⟩ := df_of (x := "tails_of") (st := s_tails_of) (ps := ["steps"]) X G (c.def_ 0 (d := ⟨("tails_of", none), "tails_of", "tails_of", defArgs s_tails_of, defBody s_tails_of, defScope s_tails_of, [], []⟩) rfl) (c.fact 0 (f := .glo "tails_of") rfl) (fun fd F => F.bindsN fun _ _ _ _ _ _ us hl => match us, hl with | [_], _ => rfl)
  obtain ⟨d_tails_in⟩ := df_of (x := "tails_in") (st := s_tails_in) (ps := ["wish"]) X G (c.def_ 1 (d := ⟨("tails_in", none), "tails_in", "tails_in", defArgs s_tails_in, defBody s_tails_in, defScope s_tails_in, [], []⟩) rfl) (c.fact 1 (f := .glo "tails_in") rfl) (fun fd F => F.bindsN fun _ _ _ _ _ _ us hl => match us, hl with | [_], _ => rfl)
  obtain ⟨d_holds_now⟩ := df_of (x := "holds_now") (st := s_holds_now) (ps := ["part", "wish"]) X G (c.def_ 2 (d := ⟨("holds_now", none), "holds_now", "holds_now", defArgs s_holds_now, defBody s_holds_now, defScope s_holds_now, [], []⟩) rfl) (c.fact 2 (f := .glo "holds_now") rfl) (fun fd F => F.bindsN fun _ _ _ _ _ _ us hl => match us, hl with | [_, _], _ => rfl)
  obtain ⟨d_can_be⟩ := df_of (x := "can_be") (st := s_can_be) (ps := ["wish"]) X G (c.def_ 3 (d := ⟨("can_be", none), "can_be", "can_be", defArgs s_can_be, defBody s_can_be, defScope s_can_be, [], []⟩) rfl) (c.fact 3 (f := .glo "can_be") rfl) (fun fd F => F.bindsN fun _ _ _ _ _ _ us hl => match us, hl with | [_], _ => rfl)
  obtain ⟨d_may_hold⟩ := df_of (x := "may_hold") (st := s_may_hold) (ps := ["part", "wish"]) X G (c.def_ 4 (d := ⟨("may_hold", none), "may_hold", "may_hold", defArgs s_may_hold, defBody s_may_hold, defScope s_may_hold, [], []⟩) rfl) (c.fact 4 (f := .glo "may_hold") rfl) (fun fd F => F.bindsN fun _ _ _ _ _ _ us hl => match us, hl with | [_, _], _ => rfl)
  obtain ⟨d_is_called⟩ := df_of (x := "is_called") (st := s_is_called) (ps := ["part", "name"]) X G (c.def_ 5 (d := ⟨("is_called", none), "is_called", "is_called", defArgs s_is_called, defBody s_is_called, defScope s_is_called, [], []⟩) rfl) (c.fact 5 (f := .glo "is_called") rfl) (fun fd F => F.bindsN fun _ _ _ _ _ _ us hl => match us, hl with | [_, _], _ => rfl)
  obtain ⟨d_lay⟩ := df_of (x := "lay") (st := s_lay) (ps := ["part", "tail"]) X G (c.def_ 6 (d := ⟨("lay", none), "lay", "lay", defArgs s_lay, defBody s_lay, defScope s_lay, [], []⟩) rfl) (c.fact 6 (f := .glo "lay") rfl) (fun fd F => F.bindsN fun _ _ _ _ _ _ us hl => match us, hl with | [_, _], _ => rfl)
  obtain ⟨d_refresh⟩ := df_of (x := "refresh") (st := s_refresh) (ps := ["part", "tails"]) X G (c.def_ 7 (d := ⟨("refresh", none), "refresh", "refresh", defArgs s_refresh, defBody s_refresh, defScope s_refresh, [], []⟩) rfl) (c.fact 7 (f := .glo "refresh") rfl) (fun fd F => F.bindsN fun _ _ _ _ _ _ us hl => match us, hl with | [_, _], _ => rfl)
  obtain ⟨d_refresh_all⟩ := df_of (x := "refresh_all") (st := s_refresh_all) (ps := ["part", "tails"]) X G (c.def_ 8 (d := ⟨("refresh_all", none), "refresh_all", "refresh_all", defArgs s_refresh_all, defBody s_refresh_all, defScope s_refresh_all, [], []⟩) rfl) (c.fact 8 (f := .glo "refresh_all") rfl) (fun fd F => F.bindsN fun _ _ _ _ _ _ us hl => match us, hl with | [_, _], _ => rfl)
  obtain ⟨d_suits⟩ := df_of (x := "suits") (st := s_suits) (ps := ["part", "step", "hoping"]) X G (c.def_ 9 (d := ⟨("suits", none), "suits", "suits", defArgs s_suits, defBody s_suits, defScope s_suits, [], []⟩) rfl) (c.fact 9 (f := .glo "suits") rfl) (fun fd F => F.bindsN fun _ _ _ _ _ _ us hl => match us, hl with | [_, _, _], _ => rfl)
  obtain ⟨d_ahead_of⟩ := df_of (x := "ahead_of") (st := s_ahead_of) (ps := ["part", "reached", "k", "step"]) X G (c.def_ 10 (d := ⟨("ahead_of", none), "ahead_of", "ahead_of", defArgs s_ahead_of, defBody s_ahead_of, defScope s_ahead_of, [], []⟩) rfl) (c.fact 10 (f := .glo "ahead_of") rfl) (fun fd F => F.bindsN fun _ _ _ _ _ _ us hl => match us, hl with | [_, _, _, _], _ => rfl)
  obtain ⟨d_reached_by⟩ := df_of (x := "reached_by") (st := s_reached_by) (ps := ["parts", "question", "hoping"]) X G (c.def_ 11 (d := ⟨("reached_by", none), "reached_by", "reached_by", defArgs s_reached_by, defBody s_reached_by, defScope s_reached_by, [], []⟩) rfl) (c.fact 11 (f := .glo "reached_by") rfl) (fun fd F => F.bindsN fun _ _ _ _ _ _ us hl => match us, hl with | [_, _, _], _ => rfl)
  obtain ⟨d_ends_of⟩ := df_of (x := "ends_of") (st := s_ends_of) (ps := ["parts", "question", "hoping"]) X G (c.def_ 12 (d := ⟨("ends_of", none), "ends_of", "ends_of", defArgs s_ends_of, defBody s_ends_of, defScope s_ends_of, [], []⟩) rfl) (c.fact 12 (f := .glo "ends_of") rfl) (fun fd F => F.bindsN fun _ _ _ _ _ _ us hl => match us, hl with | [_, _, _], _ => rfl)
  obtain ⟨d_shortest_of⟩ := df_of (x := "shortest_of") (st := s_shortest_of) (ps := ["part"]) X G (c.def_ 13 (d := ⟨("shortest_of", none), "shortest_of", "shortest_of", defArgs s_shortest_of, defBody s_shortest_of, defScope s_shortest_of, [], []⟩) rfl) (c.fact 13 (f := .glo "shortest_of") rfl) (fun fd F => F.bindsN fun _ _ _ _ _ _ us hl => match us, hl with | [_], _ => rfl)
  obtain ⟨d_can_come⟩ := df_of (x := "can_come") (st := s_can_come) (ps := ["sign", "begun", "depth"]) X G (c.def_ 14 (d := ⟨("can_come", none), "can_come", "can_come", defArgs s_can_come, defBody s_can_come, defScope s_can_come, [], []⟩) rfl) (c.fact 14 (f := .glo "can_come") rfl) (fun fd F => F.bindsN fun _ _ _ _ _ _ us hl => match us, hl with | [_, _, _], _ => rfl)
  obtain ⟨d_copy_steps⟩ := df_of (x := "copy_steps") (st := s_copy_steps) (ps := ["steps"]) X G (c.def_ 15 (d := ⟨("copy_steps", none), "copy_steps", "copy_steps", defArgs s_copy_steps, defBody s_copy_steps, defScope s_copy_steps, [], []⟩) rfl) (c.fact 15 (f := .glo "copy_steps") rfl) (fun fd F => F.bindsN fun _ _ _ _ _ _ us hl => match us, hl with | [_], _ => rfl)
  obtain ⟨d_copy_wish⟩ := df_of (x := "copy_wish") (st := s_copy_wish) (ps := ["wish"]) X G (c.def_ 16 (d := ⟨("copy_wish", none), "copy_wish", "copy_wish", defArgs s_copy_wish, defBody s_copy_wish, defScope s_copy_wish, [], []⟩) rfl) (c.fact 16 (f := .glo "copy_wish") rfl) (fun fd F => F.bindsN fun _ _ _ _ _ _ us hl => match us, hl with | [_], _ => rfl)
  obtain ⟨d_l_cell_at⟩ := df_of (x := "_law_cell_at") (st := s_l_cell_at) (ps := ["_law_script", "_law_k"]) X G (c.def_ 17 (d := ⟨("_law_cell_at", none), "_law_cell_at", "_law_cell_at", defArgs s_l_cell_at, defBody s_l_cell_at, defScope s_l_cell_at, [], []⟩) rfl) (c.fact 17 (f := .glo "_law_cell_at") rfl) (fun fd F => F.bindsN fun _ _ _ _ _ _ us hl => match us, hl with | [_, _], _ => rfl)
  obtain ⟨d_l_whole⟩ := df_of (x := "_law_whole") (st := s_l_whole) (ps := ["_law_found"]) X G (c.def_ 18 (d := ⟨("_law_whole", none), "_law_whole", "_law_whole", defArgs s_l_whole, defBody s_l_whole, defScope s_l_whole, [], []⟩) rfl) (c.fact 18 (f := .glo "_law_whole") rfl) (fun fd F => F.bindsN fun _ _ _ _ _ _ us hl => match us, hl with | [_], _ => rfl)
  obtain ⟨d_l_mix⟩ := df_of (x := "_law_mix") (st := s_l_mix) (ps := ["_law_cell", "_law_turn"]) X G (c.def_ 19 (d := ⟨("_law_mix", none), "_law_mix", "_law_mix", defArgs s_l_mix, defBody s_l_mix, defScope s_l_mix, [], []⟩) rfl) (c.fact 19 (f := .glo "_law_mix") rfl) (fun fd F => F.bindsN fun _ _ _ _ _ _ us hl => match us, hl with | [_, _], _ => rfl)
  obtain ⟨d_l_only⟩ := df_of (x := "_law_only") (st := s_l_only) (ps := ["_law_error", "_law_which"]) X G (c.def_ 20 (d := ⟨("_law_only", none), "_law_only", "_law_only", defArgs s_l_only, defBody s_l_only, defScope s_l_only, [], []⟩) rfl) (c.fact 20 (f := .glo "_law_only") rfl) (fun fd F => F.bindsN fun _ _ _ _ _ _ us hl => match us, hl with | [_, _], _ => rfl)
  obtain ⟨d_l_cells⟩ := df_of (x := "_law_cells") (st := s_l_cells) (ps := ["_law_script", "_law_turn", "_law_most"]) X G (c.def_ 21 (d := ⟨("_law_cells", none), "_law_cells", "_law_cells", defArgs s_l_cells, defBody s_l_cells, defScope s_l_cells, [], []⟩) rfl) (c.fact 21 (f := .glo "_law_cells") rfl) (fun fd F => F.bindsN fun _ _ _ _ _ _ us hl => match us, hl with | [_, _, _], _ => rfl)
  obtain ⟨d_l_names⟩ := df_of (x := "_law_names") (st := s_l_names) (ps := ["_law_script"]) X G (c.def_ 22 (d := ⟨("_law_names", none), "_law_names", "_law_names", defArgs s_l_names, defBody s_l_names, defScope s_l_names, [], []⟩) rfl) (c.fact 22 (f := .glo "_law_names") rfl) (fun fd F => F.bindsN fun _ _ _ _ _ _ us hl => match us, hl with | [_], _ => rfl)
  obtain ⟨d_l_signs⟩ := df_of (x := "_law_signs") (st := s_l_signs) (ps := ["_law_cells_here", "_law_some"]) X G (c.def_ 23 (d := ⟨("_law_signs", none), "_law_signs", "_law_signs", defArgs s_l_signs, defBody s_l_signs, defScope s_l_signs, [], []⟩) rfl) (c.fact 23 (f := .glo "_law_signs") rfl) (fun fd F => F.bindsN fun _ _ _ _ _ _ us hl => match us, hl with | [_, _], _ => rfl)
  obtain ⟨d_l_nodes⟩ := df_of (x := "_law_nodes") (st := s_l_nodes) (ps := ["_law_signs_here"]) X G (c.def_ 24 (d := ⟨("_law_nodes", none), "_law_nodes", "_law_nodes", defArgs s_l_nodes, defBody s_l_nodes, defScope s_l_nodes, [], []⟩) rfl) (c.fact 24 (f := .glo "_law_nodes") rfl) (fun fd F => F.bindsN fun _ _ _ _ _ _ us hl => match us, hl with | [_], _ => rfl)
  obtain ⟨d_l_depth⟩ := df_of (x := "_law_depth") (st := s_l_depth) (ps := ["_law_signs_here"]) X G (c.def_ 25 (d := ⟨("_law_depth", none), "_law_depth", "_law_depth", defArgs s_l_depth, defBody s_l_depth, defScope s_l_depth, [], []⟩) rfl) (c.fact 25 (f := .glo "_law_depth") rfl) (fun fd F => F.bindsN fun _ _ _ _ _ _ us hl => match us, hl with | [_], _ => rfl)
  obtain ⟨d_l_pop⟩ := df_of (x := "_law_pop") (st := s_l_pop) (ps := ["_law_draws"]) X G (c.def_ 26 (d := ⟨("_law_pop", none), "_law_pop", "_law_pop", defArgs s_l_pop, defBody s_l_pop, defScope s_l_pop, [], []⟩) rfl) (c.fact 26 (f := .glo "_law_pop") rfl) (fun fd F => F.bindsN fun _ _ _ _ _ _ us hl => match us, hl with | [_], _ => rfl)
  obtain ⟨d_l_wish⟩ := df_of (x := "_law_wish") (st := s_l_wish) (ps := ["_law_draws", "_law_deep", "_law_some"]) X G (c.def_ 27 (d := ⟨("_law_wish", none), "_law_wish", "_law_wish", defArgs s_l_wish, defBody s_l_wish, defScope s_l_wish, [], []⟩) rfl) (c.fact 27 (f := .glo "_law_wish") rfl) (fun fd F => F.bindsN fun _ _ _ _ _ _ us hl => match us, hl with | [_, _, _], _ => rfl)
  obtain ⟨d_l_steps⟩ := df_of (x := "_law_steps") (st := s_l_steps) (ps := ["_law_draws", "_law_deep", "_law_some"]) X G (c.def_ 28 (d := ⟨("_law_steps", none), "_law_steps", "_law_steps", defArgs s_l_steps, defBody s_l_steps, defScope s_l_steps, [], []⟩) rfl) (c.fact 28 (f := .glo "_law_steps") rfl) (fun fd F => F.bindsN fun _ _ _ _ _ _ us hl => match us, hl with | [_, _, _], _ => rfl)
  obtain ⟨d_l_refused⟩ := df_of (x := "_law_refused") (st := s_l_refused) (ps := ["_law_sift", "_law_sign", "_law_many"]) X G (c.def_ 29 (d := ⟨("_law_refused", none), "_law_refused", "_law_refused", defArgs s_l_refused, defBody s_l_refused, defScope s_l_refused, [], []⟩) rfl) (c.fact 29 (f := .glo "_law_refused") rfl) (fun fd F => F.bindsN fun _ _ _ _ _ _ us hl => match us, hl with | [_, _, _], _ => rfl)
  obtain ⟨d_l_late⟩ := df_of (x := "_law_late") (st := s_l_late) (ps := ["_law_sift"]) X G (c.def_ 30 (d := ⟨("_law_late", none), "_law_late", "_law_late", defArgs s_l_late, defBody s_l_late, defScope s_l_late, [], []⟩) rfl) (c.fact 30 (f := .glo "_law_late") rfl) (fun fd F => F.bindsN fun _ _ _ _ _ _ us hl => match us, hl with | [_], _ => rfl)
  obtain ⟨d_l_no_part⟩ := df_of (x := "_law_no_part") (st := s_l_no_part) (ps := ["_law_sift", "_law_number"]) X G (c.def_ 31 (d := ⟨("_law_no_part", none), "_law_no_part", "_law_no_part", defArgs s_l_no_part, defBody s_l_no_part, defScope s_l_no_part, [], []⟩) rfl) (c.fact 31 (f := .glo "_law_no_part") rfl) (fun fd F => F.bindsN fun _ _ _ _ _ _ us hl => match us, hl with | [_, _], _ => rfl)
  obtain ⟨m_depth⟩ := mf_of (y := "Sift") (x := "depth") (qual := "Sift.depth") (st := s_S_depth) (ps := ["self"]) (c.def_ 33 (d := ⟨("Sift", some "depth"), "depth", "Sift.depth", defArgs s_S_depth, defBody s_S_depth, defScope s_S_depth, [], []⟩) rfl) (c.fact 56 (f := .meth "Sift" "depth") rfl) (fun fd F => F.bindsN fun _ _ _ _ _ _ us hl => match us, hl with | [_], _ => rfl)
  obtain ⟨m_take⟩ := mf_of (y := "Sift") (x := "take") (qual := "Sift.take") (st := s_S_take) (ps := ["self", "sign"]) (c.def_ 34 (d := ⟨("Sift", some "take"), "take", "Sift.take", defArgs s_S_take, defBody s_S_take, defScope s_S_take, [], []⟩) rfl) (c.fact 57 (f := .meth "Sift" "take") rfl) (fun fd F => F.bindsN fun _ _ _ _ _ _ us hl => match us, hl with | [_, _], _ => rfl)
  obtain ⟨m_told⟩ := mf_of (y := "Sift") (x := "told") (qual := "Sift.told") (st := s_S_told) (ps := ["self"]) (c.def_ 35 (d := ⟨("Sift", some "told"), "told", "Sift.told", defArgs s_S_told, defBody s_S_told, defScope s_S_told, [], []⟩) rfl) (c.fact 58 (f := .meth "Sift" "told") rfl) (fun fd F => F.bindsN fun _ _ _ _ _ _ us hl => match us, hl with | [_], _ => rfl)
  obtain ⟨m_waiting⟩ := mf_of (y := "Sift") (x := "waiting") (qual := "Sift.waiting") (st := s_S_waiting) (ps := ["self"]) (c.def_ 36 (d := ⟨("Sift", some "waiting"), "waiting", "Sift.waiting", defArgs s_S_waiting, defBody s_S_waiting, defScope s_S_waiting, [], []⟩) rfl) (c.fact 59 (f := .meth "Sift" "waiting") rfl) (fun fd F => F.bindsN fun _ _ _ _ _ _ us hl => match us, hl with | [_], _ => rfl)
  obtain ⟨m_is_over⟩ := mf_of (y := "Sift") (x := "is_over") (qual := "Sift.is_over") (st := s_S_is_over) (ps := ["self"]) (c.def_ 37 (d := ⟨("Sift", some "is_over"), "is_over", "Sift.is_over", defArgs s_S_is_over, defBody s_S_is_over, defScope s_S_is_over, [], []⟩) rfl) (c.fact 60 (f := .meth "Sift" "is_over") rfl) (fun fd F => F.bindsN fun _ _ _ _ _ _ us hl => match us, hl with | [_], _ => rfl)
  obtain ⟨m_shortest⟩ := mf_of (y := "Sift") (x := "shortest") (qual := "Sift.shortest") (st := s_S_shortest) (ps := ["self"]) (c.def_ 38 (d := ⟨("Sift", some "shortest"), "shortest", "Sift.shortest", defArgs s_S_shortest, defBody s_S_shortest, defScope s_S_shortest, [], []⟩) rfl) (c.fact 61 (f := .meth "Sift" "shortest") rfl) (fun fd F => F.bindsN fun _ _ _ _ _ _ us hl => match us, hl with | [_], _ => rfl)
  obtain ⟨m_ending⟩ := mf_of (y := "Sift") (x := "ending") (qual := "Sift.ending") (st := s_S_ending) (ps := ["self", "number"]) (c.def_ 39 (d := ⟨("Sift", some "ending"), "ending", "Sift.ending", defArgs s_S_ending, defBody s_S_ending, defScope s_S_ending, [], []⟩) rfl) (c.fact 62 (f := .meth "Sift" "ending") rfl) (fun fd F => F.bindsN fun _ _ _ _ _ _ us hl => match us, hl with | [_, _], _ => rfl)
  obtain ⟨i_Part⟩ := if_of (y := "Part") (qual := "Part.__init__") (st := s_I_Part) (ps := ["self", "number", "name", "around"]) (c.def_ 40 (d := ⟨("Part", some "__init__"), "__init__", "Part.__init__", defArgs s_I_Part, defBody s_I_Part, defScope s_I_Part, [], []⟩) rfl) (c.fact 63 (f := .mkr "Part") rfl) (fun fd F => F.bindsN fun _ _ _ _ _ _ us hl => match us, hl with | [_, _, _, _], _ => rfl)
  obtain ⟨i_Sift⟩ := if_of (y := "Sift") (qual := "Sift.__init__") (st := s_I_Sift) (ps := ["self", "question"]) (c.def_ 41 (d := ⟨("Sift", some "__init__"), "__init__", "Sift.__init__", defArgs s_I_Sift, defBody s_I_Sift, defScope s_I_Sift, [], []⟩) rfl) (c.fact 64 (f := .mkr "Sift") rfl) (fun fd F => F.bindsN fun _ _ _ _ _ _ us hl => match us, hl with | [_, _], _ => rfl)
  obtain ⟨nsD, nsFn⟩ : ∃ fd, FnP K "__init__" "NoSign.__init__" s_I_NoSign (iNS K) fd := c.def_ 42 (d := ⟨("NoSign", some "__init__"), "__init__", "NoSign.__init__", defArgs s_I_NoSign, defBody s_I_NoSign, defScope s_I_NoSign, [], []⟩) rfl
  have nsB : Binds K nsD ["self", "at"] [] := nsFn.bindsN fun _ _ _ _ _ _ us hl => match us, hl with | [_, _], _ => rfl
  exact ⟨{
    tails_of := d_tails_of
    tails_in := d_tails_in
    holds_now := d_holds_now
    can_be := d_can_be
    may_hold := d_may_hold
    is_called := d_is_called
    lay := d_lay
    refresh := d_refresh
    refresh_all := d_refresh_all
    suits := d_suits
    ahead_of := d_ahead_of
    reached_by := d_reached_by
    ends_of := d_ends_of
    shortest_of := d_shortest_of
    can_come := d_can_come
    copy_steps := d_copy_steps
    copy_wish := d_copy_wish
    l_cell_at := d_l_cell_at
    l_whole := d_l_whole
    l_mix := d_l_mix
    l_only := d_l_only
    l_cells := d_l_cells
    l_names := d_l_names
    l_signs := d_l_signs
    l_nodes := d_l_nodes
    l_depth := d_l_depth
    l_pop := d_l_pop
    l_wish := d_l_wish
    l_steps := d_l_steps
    l_refused := d_l_refused
    l_late := d_l_late
    l_no_part := d_l_no_part
    S_depth := m_depth
    S_take := m_take
    S_told := m_told
    S_waiting := m_waiting
    S_is_over := m_is_over
    S_shortest := m_shortest
    S_ending := m_ending
    I_Part := i_Part
    I_Sift := i_Sift
    CP := He.ga K "Part"
    CS := He.ga K "Sift"
    clP := He.cls_ok (c.fact 41 (f := .cls "Part") rfl)
    clS := He.cls_ok (c.fact 42 (f := .cls "Sift") rfl)
    gP := He.glo_ok X G (c.fact 33 (f := .glo "Part") rfl)
    gS := He.glo_ok X G (c.fact 34 (f := .glo "Sift") rfl)
    nP_number := He.noat_ok (c.fact 43 (f := .noat "Part" "number") rfl)
    nP_name := He.noat_ok (c.fact 44 (f := .noat "Part" "name") rfl)
    nP_around := He.noat_ok (c.fact 45 (f := .noat "Part" "around") rfl)
    nP_is_open := He.noat_ok (c.fact 46 (f := .noat "Part" "is_open") rfl)
    nP_is_told := He.noat_ok (c.fact 47 (f := .noat "Part" "is_told") rfl)
    nP_texts := He.noat_ok (c.fact 48 (f := .noat "Part" "texts") rfl)
    nP_met := He.noat_ok (c.fact 49 (f := .noat "Part" "met") rfl)
    nS_question := He.noat_ok (c.fact 50 (f := .noat "Sift" "question") rfl)
    nS_tails := He.noat_ok (c.fact 51 (f := .noat "Sift" "tails") rfl)
    nS_parts := He.noat_ok (c.fact 52 (f := .noat "Sift" "parts") rfl)
    nS_here := He.noat_ok (c.fact 53 (f := .noat "Sift" "here") rfl)
    nS_many := He.noat_ok (c.fact 54 (f := .noat "Sift" "many") rfl)
    nS_answered := He.noat_ok (c.fact 55 (f := .noat "Sift" "answered") rfl)
    z_len := He.free_ok X G (c.fact 65 (f := .free "len") rfl)
    z_range := He.free_ok X G (c.fact 66 (f := .free "range") rfl)
    z_all := He.free_ok X G (c.fact 67 (f := .free "all") rfl)
    z_any := He.free_ok X G (c.fact 68 (f := .free "any") rfl)
    z_enumerate := He.free_ok X G (c.fact 69 (f := .free "enumerate") rfl)
    z_sorted := He.free_ok X G (c.fact 70 (f := .free "sorted") rfl)
    z_isinstance := He.free_ok X G (c.fact 71 (f := .free "isinstance") rfl)
    z_int := He.free_ok X G (c.fact 72 (f := .free "int") rfl)
    z_bool := He.free_ok X G (c.fact 73 (f := .free "bool") rfl)
    z_ValueError := He.free_ok X G (c.fact 74 (f := .free "ValueError") rfl)
    SE := He.ga K "SiftError"
    exc := exA K
    gSE := He.glo_ok X G (c.fact 35 (f := .glo "SiftError") rfl)
    gNS := He.glo_ok X G (c.fact 36 (f := .glo "NoSign") rfl)
    gNT := He.glo_ok X G (c.fact 37 (f := .glo "NoText") rfl)
    gNP := He.glo_ok X G (c.fact 38 (f := .glo "NoPart") rfl)
    gTK := He.glo_ok X G (c.fact 39 (f := .glo "Taken") rfl)
    gLT := He.glo_ok X G (c.fact 40 (f := .glo "Late") rfl)
    nsF := iNS K
    nsD := nsD
    nsFn := nsFn
    nsB := nsB
    nsO := oexB_ok x1
    nsI := He.eqO_ok x2
    nsT := of_decide_eq_true x3
    nsA := He.noat_ok (c.fact 80 (f := .noat "NoSign" "at") rfl)
    nsX := xfB_ok x4
    xNP := He.exc_ok (c.fact 75 (f := .exc "NoPart") rfl)
    xLT := He.exc_ok (c.fact 76 (f := .exc "Late") rfl)
    mNS := He.exm_ok (c.fact 77 (f := .exm "NoSign" "NoSign" true) rfl)
    mNP := He.exm_ok (c.fact 78 (f := .exm "NoPart" "SiftError" true) rfl)
    mLT := He.exm_ok (c.fact 79 (f := .exm "Late" "SiftError" true) rfl)
    ecC := fun i hi => excCB_ok (List.all_eq_true.mp x5 i (three_mem hi))
    kit := fun i hi j hj => of_decide_eq_true (List.all_eq_true.mp (List.all_eq_true.mp x6 i (three_mem hi)) j (List.mem_range.mpr hj))
    kitV := fun i hi => of_decide_eq_true (List.all_eq_true.mp x7 i (three_mem hi))
    kitS := fun i hi => of_decide_eq_true (List.all_eq_true.mp x8 i (three_mem hi))
  }⟩
theorem law_of (X : K.In h) (G : h.Ns mainGlobals mg) (c : He.SaysD fa fn K) : Nonempty (Df K mg "law" s_law ["_law_script"]) :=
  df_of (x := "law") (st := s_law) (ps := ["_law_script"]) X G (c.def_ 32 (d := ⟨("law", none), "law", "law", defArgs s_law, defBody s_law, defScope s_law, [], []⟩) rfl) (c.fact 32 (f := .glo "law") rfl) (fun fd F => F.bindsN fun _ _ _ _ _ _ us hl => match us, hl with | [_], _ => rfl)
theorem facts {P : Program} {w : World} {f : Addr} (X : K.In h) (G : h.Ns mainGlobals mg) (hfa : mg ("law" : Str) = some (.ref f)) (c : He.SaysD fa fn K) (hx : exB K = true) :
    ∃ fd : FuncData, (∀ (s : Shared) (v : Value), BindsTo s fd ⟨[v], []⟩ [("_law_script", v)]) ∧ ∀ base : Heap, K.In base → base.Ns mainGlobals mg → FnOk P w K mg base CX0 12 f fd ["_law_script"] (spLaw K) := by
  obtain ⟨T⟩ := tx_of X G c hx
  obtain ⟨fd, F⟩ : ∃ fd, FnP K "law" "law" s_law (He.ga K "law") fd := c.def_ 32 (d := ⟨("law", none), "law", "law", defArgs s_law, defBody s_law, defScope s_law, [], []⟩) rfl
  have m : mg ("law" : Str) = some (.ref (He.ga K "law")) := He.glo_ok X G (c.fact 32 (f := .glo "law") rfl)
  have e := hfa.symm.trans m
  cases e
  have b := FunD.bindsA (ps := ["_law_script"]) F fun _ _ _ _ _ _ us hl => match us, hl with | [_], _ => rfl
  have bN : Binds K fd ["_law_script"] [] := F.bindsN fun _ _ _ _ _ _ us hl => match us, hl with | [_], _ => rfl
  exact ⟨fd, fun s v => b s [v] rfl, fun base _ _ => ok_law T ⟨He.ga K "law", fd, F, m, bN⟩⟩
end
end K8
open PySem PySem.W PySem.Calls PyProof.Rows
theorem PySem.Challenge.cw_earlysift_k08_what_a_sift_refuses_holds : PySem.Challenge.rw_earlysift_k08_what_a_sift_refuses.Holds := by
  w_on; o_law
  refine HandSHeadRun.head_any (r := OpenLaw.row PySem.Challenge.rw_earlysift_k08_what_a_sift_refuses) (q := view (OpenLaw.row PySem.Challenge.rw_earlysift_k08_what_a_sift_refuses).prog [52]) (H := K8.hk) (ob := K8.ob) (M := 4000) (loose := K8.ln)
    (d := HandSHeadRun.topDef (OpenLaw.row PySem.Challenge.rw_earlysift_k08_what_a_sift_refuses).prog 52) (kwd := []) K8.ob_eq
    (by kernel_rfl) (fun s => by kernel_rfl) K8.run (by kernel_rfl) (by kernel_rfl) (by kernel_rfl) (by rfl) (by first | assumption | decide +kernel) (by decide +kernel) ⟨rfl, rfl, rfl, rfl, rfl, by decide +kernel⟩ ?hw ?hc
  case hw => w_witness2
  case hc =>
    refine L2.walk_ofE (l := PySem.Challenge.rw_earlysift_k08_what_a_sift_refuses) (n := 63) (k := 12) (x := "_law_script") (CX := L2.CX0) rfl (by decide) (by kernel_rfl) ⟨rfl, by decide, by decide⟩ ?F (fun _ _ _ _ z => z)
    intro w mg fa h Y G hmg0
    obtain ⟨K, KX, c, hx⟩ := Y
    have hmg : mg ("law" : PySem.Str) = some (.ref fa) := by
      have e : (HandSHeadRun.topDef (OpenLaw.row PySem.Challenge.rw_earlysift_k08_what_a_sift_refuses).prog 52).name = ("law" : PySem.Str) := by kernel_rfl
      rw [← e]
      exact hmg0
    obtain ⟨fd, hb, hF⟩ := K8.facts (P := (PySem.Challenge.rw_earlysift_k08_what_a_sift_refuses).prog) (w := w) KX G hmg c hx
    exact ⟨K, fd, K8.spLaw K, KX, hb, fun H a ns hl _ hS => ⟨a, ns, rfl, hS, hl, fun _ => rfl⟩, hF⟩
