import PyProof.Rows.All
import Wide.All
import OpenK.AllK
import Wide.FinOn
import KE.KTryMore
import KE.KExcIs
import HandS.Base
import HandS.Call
import HandS.Exc
import HandS.ExcValue
import HandS.ExcIs
import HandS.ExcField
import HandS.ForMost
import HandS.ExcOwn
import HandS.Walk
import HandS.TupAny
import HandS.Wide
import HandS.Style
import PyProof.ReprRoads
import HandS.Flow
import HandS.WordsExc
import HandS.IsInst
import HandS.TupMul
import HandS.Deep
import HandS.Steps
import HandS.Zip
import HandS.Rev
import HandS.Iter
import HandS.Defaults
import HandS.Small
import PyProof.ReprLen
import PyProof.P3Eq
import HandS.Text
import HandS.Replace
import HandS.RaiseMore
import KE.OsGo
import HandS.ForSpec
import KE.KDictZip
import PyProof.RowDictHeap
import PyProof.Rows.EnumRows
import HandS.List
import PySem.Challenge.RW_coinplace_k76_statements_as_texts
set_option Elab.async false
set_option linter.all false
set_option maxRecDepth 100000
set_option maxHeartbeats 4000000
/-! GA: except clauses that name a tuple of classes; the caught exception is kept. -/
namespace L2
open PySem PySem.Spec PyProof.Rows
/-- an exception that was caught: an object of the class cls, its dict d -/
def ExV (cls : Value) (d : Option Addr) (a : Addr) : HO := .ext fun h => ∃ (oe : Obj) (vs : Array Value), h.get? a = some oe ∧ Zc cls d oe ∧ oe.data = .fields vs
theorem exV_ok {P : Program} {w : World} {H : Hp} {h : Heap} {a : Addr} {cls : Value} {d : Option Addr} {oe : Obj} {vs : Array Value} (e : h.get? a = some oe) (z : Zc cls d oe) (hd : oe.data = .fields vs) : ObjOk P w H h a (ExV cls d a) :=
  ⟨⟨oe, vs, e, z, hd⟩, ⟨oe, e⟩, fun _ _ ⟨o, v, q, r⟩ k => ⟨o, v, k o q, r⟩⟩
section
variable {X : Cx} {pins : List (Addr × Obj)} {σ : St} {H : Hp} {s : Shared}
/-- an object that wasn't there at the entry is tracked from here on -/
theorem Inv.track {a : Addr} {o : HO} {oe : Obj} {vs : Array Value} (I : Inv X pins σ H s) (hn : H a = none) (ha : s.heap.get? a = some oe) (hd : oe.data = .fields vs) (n0 : X.s_0.heap.get? a = none) (nL : a ≠ X.env.locals) (np : ∀ p ∈ X.pn ++ pins, p.1 ≠ a) (new : ObjOk X.prog X.w (upd H a o) s.heap a o) :
    Inv X pins σ (upd H a o) s := by
  refine ⟨I.ok, I.os, I.bare, ⟨I.base.keep, I.base.slot, fun b u e n hx => ?_, I.base.there, fun b xs e => ?_, fun b u v e => ?_, fun b ps e => ?_⟩, I.loc, I.cell, ?_, fun x c e => ?_, fun p hp => ?_, fun b u e => ?_, I.len⟩
  · rw [upd_ne (fun z => by rw [z, n0] at e; cases e)]; exact I.base.free b u e n hx
  · have q := I.base.tups b xs e
    rw [upd_ne (ne_of_none q hn)]; exact q
  · have q := I.base.frzs b u v e
    rw [upd_ne (ne_of_none q hn)]; exact q
  · obtain ⟨m, q⟩ := I.base.tbls b ps e
    exact ⟨m, by rw [upd_ne (ne_of_none q hn)]; exact q⟩
  · rw [upd_ne nL.symm]; exact I.free
  · obtain ⟨v, ⟨oc, hoc, hdc⟩⟩ := I.cell x c e
    have ne : c ≠ a := fun z => by
      rw [z, ha] at hoc
      cases hoc
      rw [hd] at hdc
      cases hdc
    rw [upd_ne ne]; exact I.freeC x c e
  · obtain ⟨e, n, ne, nf, dd⟩ := I.pin p hp
    exact ⟨e, by rw [upd_ne (np p hp)]; exact n, ne, nf, dd⟩
  · by_cases hb : b = a
    · subst hb
      rw [upd_same] at e
      cases e
      exact new
    · rw [upd_ne hb] at e
      exact (I.hok b u e).stay (fun c v _ q => q) (fun c q => by rw [upd_ne (ne_of_none q hn)]; exact q) fun c xs q => by rw [upd_ne (ne_of_none q hn)]; exact q
/-- a clause's test -/
def TestX (X : Cx) (te : Expr) (cs : List Value) : Prop := ∀ (a : Addr) (oe : Obj) (pn : List (Addr × Obj)) (σ : St) (H : Hp) (s : Shared) (b : Bool) (Q : Bool → Shared → Prop) (E : Value → Shared → Prop), Inv (X.suite a ((a, oe) :: pn)) [] σ H s → s.heap.get? a = some oe → PySem.W.exmAny X.K oe.cls cs = some b →
  (∀ h', (∀ b o, s.heap.get? b = some o → h'.get? b = some o) → Q b { s with heap := h' }) →
  wpAny (model X.prog X.w) (X.A.mark (some (.ref a))) (eval te X.env) (fun c s₁ => wpAny (model X.prog X.w) (X.A.mark (some (.ref a))) (excMatches (.ref a) c) Q E s₁) E s
theorem test_ld {a : Addr} {oe : Obj} {pn : List (Addr × Obj)} {x : Str} {c : Value} {np : Pos} {Q : Value → Shared → Prop} {E : Value → Shared → Prop} (S : Inv (X.suite a ((a, oe) :: pn)) [] σ H s) (hc : Names X x c) (q : Q c s) : wpAny (model X.prog X.w) (X.A.mark (some (.ref a))) (eval (.Name x np) X.env) Q E s := by
  obtain ⟨hg, hdbg, hm | ⟨hm, hv, hnn⟩⟩ := hc
  · exact ld_glob (X := X.suite a ((a, oe) :: pn)) S hg hm q hdbg
  · exact ld_blt (X := X.suite a ((a, oe) :: pn)) S hg hm hv q hnn hdbg
theorem test_ty {M : Model} {a : Addr} {oe : Obj} {h : Heap} (e : h.get? a = some oe) : PySem.W.Looks M h (typeOf (.ref a)) oe.cls := fun A Q E s k q => wpAny_typeOf_ref (k _ _ e) q
theorem testX1 {x : Str} {c : Value} {np : Pos} (hc : Names X x c) : TestX X (.Name x np) [c] := by
  intro a oe pn σ H s b Q E S ha hx q
  obtain ⟨b1, d1, h1, h2, rfl⟩ := PySem.W.exmAny_cons hx
  obtain rfl : d1 = false := by cases h2; rfl
  refine test_ld S hc ?_
  have LM := PySem.W.exm_one (M := model X.prog X.w) S.kIn (test_ty ha) h1
  rw [Bool.or_false] at q
  exact LM.here (q s.heap fun _ _ z => z)
theorem testX2 {x1 x2 : Str} {c1 c2 : Value} {p1 p2 tp : Pos} {kk : Nat} (n1 : Names X x1 c1) (n2 : Names X x2 c2) : TestX X (.Tuple [.Name x1 p1, .Name x2 p2] kk tp) [c1, c2] := by
  intro a oe pn σ H s b Q E S ha hx q
  refine wpAny_Tuple ?_
  refine wpAny_items_cons (test_ld S n1 ?_)
  refine wpAny_items_cons (test_ld S n2 ?_)
  refine wpAny_items_nil ⟨by size_fits, ?_⟩
  have kp : ∀ q o, s.heap.get? q = some o → (s.heap.push { cls := .type "tuple", data := .seq [c1, c2].toArray }).get? q = some o := fun _ _ z => Heap.get?_push_of_some _ z
  exact (PySem.W.exm_tup2 (S.kIn.keeps kp) ((test_ty ha).keeps kp) (Heap.get?_push_size s.heap rfl) hx).here (q _ kp)
theorem testX3 {x1 x2 x3 : Str} {c1 c2 c3 : Value} {p1 p2 p3 tp : Pos} {kk : Nat} (n1 : Names X x1 c1) (n2 : Names X x2 c2) (n3 : Names X x3 c3) : TestX X (.Tuple [.Name x1 p1, .Name x2 p2, .Name x3 p3] kk tp) [c1, c2, c3] := by
  intro a oe pn σ H s b Q E S ha hx q
  refine wpAny_Tuple ?_
  refine wpAny_items_cons (test_ld S n1 ?_)
  refine wpAny_items_cons (test_ld S n2 ?_)
  refine wpAny_items_cons (test_ld S n3 ?_)
  refine wpAny_items_nil ⟨by size_fits, ?_⟩
  have kp : ∀ q o, s.heap.get? q = some o → (s.heap.push { cls := .type "tuple", data := .seq [c1, c2, c3].toArray }).get? q = some o := fun _ _ z => Heap.get?_push_of_some _ z
  exact (PySem.W.exm_tup3 (S.kIn.keeps kp) ((test_ty ha).keeps kp) (Heap.get?_push_size s.heap rfl) hx).here (q _ kp)
theorem flyingZ_keeps {B h h' : Heap} {l : List Env} {a : Addr} {Z : Obj → Prop} (k : ∀ b o, h.get? b = some o → h'.get? b = some o) (x : HandSPX.FlyingZ B l a Z h) : HandSPX.FlyingZ B l a Z h' := by
  obtain ⟨x1, x2, x3, oe, vs, T, oT, ts, y1, y2, y3, y4, y5, y6, y7, y8, y9⟩ := x
  exact ⟨fun b o e => k b o (x1 b o e), x2, x3.of_keeps fun b o e _ => ⟨o, k b o e, rfl⟩, oe, vs, T, oT, ts, k _ _ y1, y2, y3, y4, y5, y6, k _ _ y7, y8, y9⟩
end
/-- the ends of a suite: its name goes, the exception is tracked -/
def keepE (D : Ends) (i : Nat) (a : Addr) (cls : Value) (d : Option Addr) : Ends :=
  { nx := fun σ' H' => D.nx (σ'.set i none) (upd H' a (ExV cls d a)), rt := fun v H' => D.rt v (upd H' a (ExV cls d a)), bk := fun σ' H' => D.bk (σ'.set i none) (upd H' a (ExV cls d a)), ct := fun σ' H' => D.ct (σ'.set i none) (upd H' a (ExV cls d a)) }
/-- what the clauses wish of an exception of the body, one after the other -/
def wKeeps (K : PySem.W.Frag) (Wout : WX) (D : Ends) : List (List Value × Nat × (Addr → Value → Option Addr → TS)) → WX
  | [] => Wout
  | (cs, i, ts) :: r => fun cls d σ H => ∃ b, PySem.W.exmAny K cls cs = some b ∧ (b = true → ∀ a, H a = none → ts a cls d (keepE D i a cls d) (σ.set i (some (.ref a))) H) ∧ (b = false → wKeeps K Wout D r cls d σ H)
inductive HdsK (X : Cx) : List ExceptHandler → List (List Value × Nat × (Addr → Value → Option Addr → TS)) → Prop
  | nil : HdsK X [] []
  | cons {te : Expr} {cs : List Value} {i : Nat} {n : Str} {ts : Addr → Value → Option Addr → TS} {b₀ : Stmt} {suite : List Stmt} {pos' : Pos} {hds : List ExceptHandler} {l : List (List Value × Nat × (Addr → Value → Option Addr → TS))} (ht : TestX X te cs)
      (hi : X.N[i]? = some n) (hln : X.env.kindOf n = some .local)
      (hsu : ∀ (a : Addr) (oe : Obj) (cls : Value) (d : Option Addr) (pn : List (Addr × Obj)), Zc cls d oe → (∃ vs, oe.data = .fields vs) → PSs (X.suite a ((a, oe) :: pn)) (b₀ :: suite) (ts a cls d)) (r : HdsK X hds l) :
      HdsK X (.ExceptHandler (some te) (some n) (b₀ :: suite) pos' :: hds) ((cs, i, ts) :: l)
section
variable {X : Cx} {body : List Stmt} {h₀ : ExceptHandler} {hds : List ExceptHandler} {l : List (List Value × Nat × (Addr → Value → Option Addr → TS))} {pos : Pos} {tb : WX → TS} {Wout : WX}
theorem ps_try_keep (hs : X.stack = X.env :: X.outer) (hf : X.env.frame = some X.env.locals) (hN : X.N.Nodup) (hex : X.ex = []) (tk : Takes X Wout)
    (hb : ∀ (W : WX) (pn : List (Addr × Obj)) (xe : Value → Shared → Prop), Takes (X.tr pn xe) W → PassesOwn (model X.prog X.w) X.A X.env xe → PSs (X.tr pn xe) body (tb W))
    (hh : HdsK X (h₀ :: hds) l) : PS X (.Try body (h₀ :: hds) [] [] pos) (fun D σ H => tb (wKeeps X.K Wout D l) D σ H) := by
  refine ⟨fun pins s σ H D I h => ?_⟩
  have ok := I.ok
  have hfr : X.A.frames = some (X.env :: X.outer) := by rw [ok.frames, hs]
  refine wpAny_Try_except ?_
  refine wpAny_mono ((hb (wKeeps X.K Wout D l) (X.pn ++ pins) (fun e s₁ => wpAny (model X.prog X.w) X.A (noteFrame e X.env) (fun _ s₂ => wpAny (model X.prog X.w) X.A (setFlight e none) (fun _ s₃ =>
    wpAny (model X.prog X.w) X.A (handleBy e X.env (h₀ :: hds)) (SP X pins D) X.xe s₃) X.xe s₂) X.xe s₁) (fun u s' xx => ?_) PassesOwn.looking).run [] s σ H D (I.toTry _) h) (fun f s1 hsp => ?_) (fun e s1 he => he)
  · -- the catch
    obtain ⟨a, B, sI, pins', σ', H', cls, d, rfl, J', nb, up, sky, na, os, ag, w⟩ := xx
    have J : Inv X pins σ' H' sI := J'.ofTry ok
    have sky' : Sky B (X.env :: X.outer) a (Zc cls d) X.env.locals s'.heap := by rw [← hs]; exact sky
    show wpAny (model X.prog X.w) X.A (noteFrame (.ref a) X.env) _ _ _
    refine Sky.land Zc.steady hfr hf sky' fun h3 fl3 up3 => ?_
    have notFr : ∀ {h : Heap} {o : Obj} {vs : Array Value}, h.FunFrames B (X.env :: X.outer) → h.get? a = some o → o.data = .fields vs → a ∉ frs (X.env :: X.outer) := fun {h o vs} ff e dd hm => by
      obtain ⟨_, o', e', hnf⟩ := ff.mem hm
      rw [e] at e'; cases e'
      exact hnf _ dd
    obtain ⟨oe3, vs3, he3, hz3, hd3⟩ := fl3.there
    have nfr := notFr fl3.2.2.1 he3 hd3
    have nL : a ≠ X.env.locals := fun z => nfr (List.mem_filterMap.mpr ⟨X.env, List.mem_cons_self, by rw [hf, z]⟩)
    have nF : a ∉ X.fs := fun hm => by
      obtain ⟨e, he, q⟩ := List.mem_filterMap.mp hm
      exact nfr (List.mem_filterMap.mpr ⟨e, List.mem_cons_of_mem _ he, q⟩)
    -- new since the entry
    have aI : sI.heap.get? a = none := by
      cases e : sI.heap.get? a with
      | none => rfl
      | some o =>
        have z := nb a o e (by rw [hs]; exact nfr)
        rw [fl3.2.1] at z
        cases z
    have a0 : X.s_0.heap.get? a = none := by
      cases e : X.s_0.heap.get? a with
      | none => rfl
      | some o =>
        obtain ⟨o', z⟩ := J.base.there a o e (by rw [hex]; exact fun z => nomatch z)
        rw [aI] at z
        cases z
    have np : ∀ p ∈ X.pn ++ pins, p.1 ≠ a := fun p hp z => by
      have q := (J.pin p hp).1
      rw [z, aI] at q
      cases q
    have go : ∀ {hds' : List ExceptHandler} {l' : List (List Value × Nat × (Addr → Value → Option Addr → TS))}, HdsK X hds' l' → ∀ h5 : Heap, HandSPX.FlyingZ B (X.env :: X.outer) a (Zc cls d) h5 → s'.heap.UpToSlots h5 → wKeeps X.K Wout D l' cls d σ' H' →
        wpAny (model X.prog X.w) X.A (handleBy (.ref a) X.env hds') (SP X pins D) X.xe { s' with heap := h5 } := by
      intro hds' l' hk
      induction hk with
      | nil =>
        intro h5 fl5 up5 w
        refine wpAny_handleBy_nil ?_
        obtain ⟨k1, k2, k3, oe, vs, T, oT, ts', he, hz, hd, h1, hr⟩ := id fl5
        unfold PySem.passOn
        refine wpAny_bind (wpAny_field he hd h1 ?_)
        rw [if_neg (show ¬ ((Value.ref T == Value.none) = true) from by simp)]
        have fin : wpAny (model X.prog X.w) X.A (setFlight (.ref a) X.env.frame) (fun _ s4 => wpAny (model X.prog X.w) X.A (throw (.ref a) : Sem Flow) (SP X pins D) X.xe s4) X.xe { s' with heap := h5 } := by
          rw [hf]
          refine HandSPX.setFlight_upZ fl5 fun h4 hh4 up4 => wpAny_throw (tk _ _ ?_)
          exact ⟨a, B, sI, pins, σ', H', cls, d, rfl, J, nb, (up.trans up5).trans up4, .inr (.inr (by rw [hs]; exact hh4)), na, os, ag, w⟩
        first
          | exact wpAny_bind (wpAny_pure (wpAny_bind fin))
          | exact wpAny_bind fin
      | @cons te cs i n ts b₀ suite pos' hds2 l2 ht hi hln hsu r ih =>
        intro h5 fl5 up5 w
        obtain ⟨b, hb1, hyes, hno⟩ := w
        have hloc : Loc X.env.scope n := .inl hln
        have J5 : Inv X pins σ' H' { s' with heap := h5 } := J.landed nb fl5.1 (up.trans up5) os ag
        obtain ⟨oe5, vs5, he5, hz5, hd5⟩ := fl5.there
        have S5 := J5.suite he5 hd5 na nL nF
        refine wpAny_handleBy_cons (codeAny_handlers_test ?_) (by intro q; cases q)
        refine ht a oe5 (X.pn ++ pins) σ' H' _ b _ _ S5 he5 (by rw [hz5.1]; exact hb1) fun h6 k6 => ?_
        have fl6 := flyingZ_keeps k6 fl5
        have up6 := up5.trans (Heap.UpToSlots.of_keeps k6)
        cases b with
        | true =>
          refine codeAny_handlers_suite_as ?_
          refine HandSPX.lands_againZ fl6 fun h4 fl4 up4 => ?_
          have J4 : Inv X pins σ' H' { s' with heap := h4 } := J.landed nb fl4.1 ((up.trans up6).trans up4) os ag
          obtain ⟨oe4, vs4, he4, hz4, hd4⟩ := fl4.there
          have S4 := J4.suite he4 hd4 na nL nF
          refine store_ok (X := X.suite a ((a, oe4) :: (X.pn ++ pins))) (v := .ref a) S4 hN hi hloc rfl (fun s5 S5 => ?_) (.inr hln)
          refine wpAny_mono ((hsu a oe4 cls d (X.pn ++ pins) hz4 ⟨_, hd4⟩).run [] s5 _ H' _ S5 (hyes rfl a na)) (fun f s6 hsp => ?_) (fun _ _ z => False.elim z)
          have end_ : ∀ {σ6 : St} {H6 : Hp} {Q : Shared → Prop}, Inv (X.suite a ((a, oe4) :: (X.pn ++ pins))) [] σ6 H6 s6 → (∀ s7, Inv X pins (σ6.set i none) (upd H6 a (ExV cls d a)) s7 → Q s7) →
              wpAny (model X.prog X.w) X.A (do bindName X.env n .none; unbindBehindTheSuite X.env n pos') (fun _ s7 => Q s7) X.xe s6 := fun {σ6 H6 Q} S6 hq => by
            obtain ⟨ha6, hn6, _⟩ := S6.pin (a, oe4) (List.mem_append_left _ List.mem_cons_self)
            exact gone_ok ((S6.unsuite ok).track hn6 ha6 hd4 a0 nL np (exV_ok ha6 hz4 hd4)) hN hi hln hq
          cases f with
          | next =>
            obtain ⟨σ6, H6, S6, q6⟩ := hsp
            exact end_ S6 fun s7 J7 => ⟨_, _, J7, q6⟩
          | brk =>
            obtain ⟨σ6, H6, S6, q6⟩ := hsp
            exact end_ S6 fun s7 J7 => ⟨_, _, J7, q6⟩
          | cont =>
            obtain ⟨σ6, H6, S6, q6⟩ := hsp
            exact end_ S6 fun s7 J7 => ⟨_, _, J7, q6⟩
          | ret u =>
            obtain ⟨v6, σ6, H6, S6, r6, q6⟩ := hsp
            exact end_ S6 fun s7 J7 => ⟨_, _, _, J7, r6, q6⟩
        | false =>
          show wpAny _ X.A (handleBy (.ref a) X.env hds2) _ _ _
          exact ih h6 fl6 up6 (hno rfl)
    exact go hh h3 fl3 up3 w
  · cases f with
    | next =>
      obtain ⟨σ', H', J', q⟩ := hsp
      exact wpAny_execs_nil ⟨σ', H', J'.ofTry ok, q⟩
    | brk =>
      obtain ⟨σ', H', J', q⟩ := hsp
      exact ⟨σ', H', J'.ofTry ok, q⟩
    | cont =>
      obtain ⟨σ', H', J', q⟩ := hsp
      exact ⟨σ', H', J'.ofTry ok, q⟩
    | ret u =>
      obtain ⟨v, σ', H', J', r, q⟩ := hsp
      exact ⟨v, σ', H', J'.ofTry ok, r, q⟩
end
/-- isinstance(e, c), e a kept exception of the class D -/
def rIsV (K : PySem.W.Frag) : List V → Hp → VK → Prop := fun xs H Q => ∃ (a D dd : Addr) (fs : List (Str × V)) (c : V) (cv : Value) (b : Bool), xs = [.ref a, c] ∧ H a = some (ExV (.ref D) (some dd) a) ∧ H dd = some (.xd fs) ∧ ExcC K D ∧ (∀ u, RelV c u → u = cv) ∧ PySem.W.kitOne K (.ref D) cv = some b ∧ Q (.bl b) H
theorem instV {X : Cx} {pins : List (Addr × Obj)} {σ : St} {H : Hp} {s : Shared} (I : Inv X pins σ H s) {a D dd : Addr} {fs : List (Str × V)} (ha : H a = some (ExV (.ref D) (some dd) a)) (hd : H dd = some (.xd fs)) :
    ∃ (oe od : Obj) (mA : Str → Option Value), PySem.W.InstAt s.heap a oe D (some od) ∧ (∀ f, RelO (fs.lookup f) (mA f)) ∧ (∀ f, PySem.W.lookIn f od = some (mA f)) := by
  obtain ⟨⟨oe, vs, e, z, hv⟩, _, _⟩ := I.hok a _ ha
  have hx : ObjOk X.prog X.w H s.heap dd (.xd fs) := I.hok dd _ hd
  obtain ⟨mA, hns, hr⟩ := hx
  obtain ⟨od, ho, hl⟩ := lookIn_ns hns
  refine ⟨oe, od, mA, ⟨e, z.1, ?_, ?_⟩, hr, hl⟩
  · unfold PySem.W.notCls; rw [hv] <;> rfl
  · rw [z.2]; exact ho
theorem call_isV {X : Cx} : CallR X (.builtin "isinstance") (rIsV X.K) := by
  intro pins s σ H xs us Q I r h
  obtain ⟨a, D, dd, fs, c, cv, b, rfl, ha, hd, C, hcv, e, q⟩ := h
  obtain ⟨u, w', rfl, rx, rt⟩ := vals2 r
  cases rx
  have ec := hcv _ rt
  subst ec
  obtain ⟨oe, od, mA, J, _, _⟩ := instV I ha hd
  exact PySem.W.kia_one (PySem.W.kitx_exc (by obtain ⟨cd, hc, _⟩ := PySem.W.any_some C.hd; rw [hc]; rfl) C.hg C.hk C.hs C.ha C.hn C.ht C.hm) I.kIn J e (fun z => nomatch z) fun tk => ⟨.bl b, H, I.kept (t' := tk) fun _ _ z => z, rfl, q⟩
/-- e.f of a kept exception -/
def tXv (K : PySem.W.Frag) (f : Str) (te : TE) : TE := fun σ H Q => te σ H fun x H1 => ∃ (a C dd : Addr) (fs : List (Str × V)) (v : V), x = .ref a ∧ H1 a = some (ExV (.ref C) (some dd) a) ∧ H1 dd = some (.xd fs) ∧ XfC K C ∧ PySem.W.findIn K (.ref C) f = some none ∧ fs.lookup f = some v ∧ Q v H1
theorem pe_xv {X : Cx} {e : Expr} {te : TE} {pos : Pos} {n : Str} (he : PE X e te) (hb : attributeBase e n X.env (eval e X.env) = eval e X.env := by rfl) : PE X (.Attribute e n pos) (tXv X.K n te) := by
  refine ⟨fun pins s σ H Q I h => ?_⟩
  refine attr_of hb (thn (he.run pins s σ H _ I h) fun u s1 hh => ?_)
  obtain ⟨x, H1, I1, rx, a, C, dd, fs, v, rfl, ha, hd, T, hno, l, q⟩ := hh
  obtain rfl : u = Value.ref a := rx
  obtain ⟨oe, od, mA, J, hr, hl⟩ := instV I1 ha hd
  obtain ⟨u, hu, ru⟩ := RelO.some_of (v := v) (o := mA n) (by rw [← l]; exact hr n)
  exact HandSPX.exc_get I1.kIn J T.ga T.gg T.exC (PySem.W.findObj_own T.hdC hno rfl (by rw [hl, hu])) (handed_of ru) ⟨v, H1, I1.tok _, ru, q⟩
end L2

set_option Elab.async false
set_option linter.all false
set_option maxRecDepth 100000
set_option maxHeartbeats 4000000
/-! EA: data D, what stands for it in the abstract heap (DAt), slots by data (Rel). -/
namespace El
open PySem L2

/-- a dict's key: an int or a text, or a tuple of such -/
inductive DK where
  | one (k : Key) | many (ks : List Key)
  deriving DecidableEq

inductive D where
  | non | bl (b : Bool) | int (i : Int) | str (x : Str)
  | tup (ds : List D) | lst (ds : List D) | fls (ds : List D) | dic (m : Bool) (ks : List DK) (vs : List D)
  | ref (a : Addr) | ty (n : String)
  | kt (ds : List D) | lk (o : Obj) (u : HO) | xd (f : Str) (d : D) | exc (C : Addr) (f : Str) (d : D)

/-- as the library's data; what is none of it as an empty dict -/
def dkPy : DK → PyData
  | .one (.inl i) => .int i
  | .one (.inr x) => .str x
  | .many ks => .tuple (ks.map fun k => match k with | .inl i => .int i | .inr x => .str x)
def keyPy : Key → PyData
  | .inl i => .int i
  | .inr x => .str x
mutual
def D.py : D → PyData
  | .non => .none
  | .bl b => .bool b
  | .int i => .int i
  | .str x => .str x
  | .tup ds => .tuple (D.pys ds)
  | .lst ds => .list (D.pys ds)
  | .fls ds => .list (D.pys ds)
  | .dic _ ks vs => .dict ((ks.map dkPy).zip (D.pys vs))
  | .ref _ => .dict []
  | .ty _ => .dict []
  | .kt ds => .tuple (D.pys ds)
  | .xd _ _ => .dict []
  | .lk _ _ => .dict []
  | .exc _ _ _ => .dict []
def D.pys : List D → List PyData
  | [] => []
  | d :: ds => D.py d :: D.pys ds
end
theorem D.pys_map : ∀ ds : List D, D.pys ds = ds.map D.py
  | [] => rfl
  | d :: ds => by simp only [D.pys, List.map_cons, D.pys_map ds]

mutual
/-- v is the data d in H, by objects that are not owned (O) -/
inductive DAt (K : PySem.W.Frag) (O : Addr → Prop) (H : Hp) : V → D → Prop
  | non : DAt K O H .non .non
  | bl (b : Bool) : DAt K O H (.bl b) (.bl b)
  | int (i : Int) : DAt K O H (.int i) (.int i)
  | str (x : Str) : DAt K O H (.str x) (.str x)
  | ref (a : Addr) : DAt K O H (.ref a) (.ref a)
  | ty (n : String) : DAt K O H (.ty n) (.ty n)
  | kt {a : Addr} {xs : List V} {ds : List D} : SqT K (fun _ => none) a xs → DAll K O H xs ds → DAt K O H (.ref a) (.kt ds)
  | lk {a : Addr} {o : Obj} {u : HO} : ¬ O a → H a = some (.frz o u) → DAt K O H (.ref a) (.lk o u)
  | xd {a : Addr} {f : Str} {x : V} {d : D} : ¬ O a → H a = some (.xd [(f, x)]) → DAt K O H x d → DAt K O H (.ref a) (.xd f d)
  | exc {a C dd : Addr} {f : Str} {d : D} : ¬ O a → H a = some (ExV (.ref C) (some dd) a) → DAt K O H (.ref dd) (.xd f d) → DAt K O H (.ref a) (.exc C f d)
  | lst {a : Addr} {xs : List V} {ds : List D} : ¬ O a → H a = some (.lst xs) → DAll K O H xs ds → DAt K O H (.ref a) (.lst ds)
  | fls {a : Addr} {xs : List V} {ds : List D} : (¬ O a ∧ ∃ o, H a = some (.frz o (.lst xs))) ∨ SqL K (fun _ => none) a xs → DAll K O H xs ds → DAt K O H (.ref a) (.fls ds)
  | tup {a : Addr} {xs : List V} {ds : List D} : H a = some (.tup xs) → DAll K O H xs ds → DAt K O H (.ref a) (.tup ds)
  | dk {a : Addr} {kvs : List (Key × V)} {ds : List D} : ¬ O a → Rd H a (.dK kvs) → DAll K O H (kvs.map (·.2)) ds → DAt K O H (.ref a) (.dic false (kvs.map fun p => .one p.1) ds)
  | dt {a : Addr} {kvs : List (List Key × V)} {ds : List D} : ¬ O a → Rd H a (.dT kvs) → DAll K O H (kvs.map (·.2)) ds → DAt K O H (.ref a) (.dic true (kvs.map fun p => .many p.1) ds)
inductive DAll (K : PySem.W.Frag) (O : Addr → Prop) (H : Hp) : List V → List D → Prop
  | nil : DAll K O H [] []
  | cons {v : V} {vs : List V} {d : D} {ds : List D} : DAt K O H v d → DAll K O H vs ds → DAll K O H (v :: vs) (d :: ds)
end

/-- a dict -/
def dicO : HO → Bool
  | .dK _ => true
  | .dT _ => true
  | _ => false
/-- it stays; a dict may come to be locked -/
def Kp (o : HO) (x : Option HO) : Prop := x = some o ∨ (dicO o = true ∧ ∃ od, x = some (.frz od o))
theorem Kp.eq {o : HO} {x : Option HO} (h : Kp o x) (hd : dicO o = false) : x = some o := by
  rcases h with h | ⟨h, _⟩
  · exact h
  · rw [hd] at h; cases h
theorem Kp.some {o : HO} {x : Option HO} (h : Kp o x) : x ≠ none := by
  rcases h with rfl | ⟨_, _, rfl⟩ <;> exact nofun
theorem Kp.trans {o : HO} {x y : Option HO} (h : Kp o x) (g : ∀ u, x = .some u → Kp u y) : Kp o y := by
  rcases h with rfl | ⟨h, od, rfl⟩
  · exact g o rfl
  · exact .inr ⟨h, od, (g _ rfl).eq rfl⟩
theorem Kp.to {o : HO} {x y : Option HO} (h : Kp o x) (g : ∀ u, x = .some u → y = .some u) : Kp o y := h.trans fun u e => .inl (g u e)
theorem Kp.rd {H H' : Hp} {a : Addr} {u : HO} (r : Rd H a u) (k : ∀ o, H a = .some o → Kp o (H' a)) : Rd H' a u := by
  rcases r with r | ⟨o, r⟩
  · rcases k _ r with h | ⟨_, od, h⟩
    · exact .inl h
    · exact .inr ⟨od, h⟩
  · exact .inr ⟨o, (k _ r).eq rfl⟩
section
variable {K : PySem.W.Frag} {O O' : Addr → Prop} {H H' : Hp}
/-- what is read stays read -/
abbrev Stay (O O' : Addr → Prop) (H H' : Hp) : Prop := (∀ a o, ¬ O a → H a = some o → ¬ O' a ∧ Kp o (H' a)) ∧ ∀ a xs, H a = some (.tup xs) → H' a = some (.tup xs)
mutual
theorem DAt.stay (s : Stay O O' H H') : ∀ {v : V} {d : D}, DAt K O H v d → DAt K O' H' v d
  | _, _, .non => .non
  | _, _, .bl b => .bl b
  | _, _, .int i => .int i
  | _, _, .str x => .str x
  | _, _, .ref a => .ref a
  | _, _, .ty n => .ty n
  | _, _, .kt e h => .kt e (DAll.stay s h)
  | _, _, .lk n e => .lk (s.1 _ _ n e).1 ((s.1 _ _ n e).2.eq rfl)
  | _, _, .xd n e h => .xd (s.1 _ _ n e).1 ((s.1 _ _ n e).2.eq rfl) (DAt.stay s h)
  | _, _, .exc n e h => .exc (s.1 _ _ n e).1 ((s.1 _ _ n e).2.eq rfl) (DAt.stay s h)
  | _, _, .lst n e h => .lst (s.1 _ _ n e).1 ((s.1 _ _ n e).2.eq rfl) (DAll.stay s h)
  | _, _, .fls e h => .fls (e.imp (fun ⟨n, o, e⟩ => ⟨(s.1 _ _ n e).1, o, (s.1 _ _ n e).2.eq rfl⟩) id) (DAll.stay s h)
  | _, _, .tup e h => .tup (s.2 _ _ e) (DAll.stay s h)
  | _, _, .dk n e h => .dk (e.elim (fun e => (s.1 _ _ n e).1) fun ⟨_, e⟩ => (s.1 _ _ n e).1) (Kp.rd e fun o z => (s.1 _ _ n z).2) (DAll.stay s h)
  | _, _, .dt n e h => .dt (e.elim (fun e => (s.1 _ _ n e).1) fun ⟨_, e⟩ => (s.1 _ _ n e).1) (Kp.rd e fun o z => (s.1 _ _ n z).2) (DAll.stay s h)
theorem DAll.stay (s : Stay O O' H H') : ∀ {vs : List V} {ds : List D}, DAll K O H vs ds → DAll K O' H' vs ds
  | _, _, .nil => .nil
  | _, _, .cons h t => .cons (DAt.stay s h) (DAll.stay s t)
end
theorem DAll.length : ∀ {vs : List V} {ds : List D}, DAll K O H vs ds → vs.length = ds.length
  | _, _, .nil => rfl
  | _, _, .cons _ t => by rw [List.length_cons, List.length_cons, DAll.length t]
theorem DAll.append : ∀ {vs ws : List V} {ds es : List D}, DAll K O H vs ds → DAll K O H ws es → DAll K O H (vs ++ ws) (ds ++ es)
  | _, _, _, _, .nil, h => h
  | _, _, _, _, .cons a t, h => .cons a (DAll.append t h)
theorem DAll.get : ∀ {vs : List V} {ds : List D} {i : Nat} {d : D}, DAll K O H vs ds → ds[i]? = some d → ∃ v, vs[i]? = some v ∧ DAt K O H v d
  | _, _, _, _, .nil, e => by simp at e
  | _, _, 0, _, .cons a _, e => by simp at e; subst e; exact ⟨_, by simp, a⟩
  | _, _, i + 1, _, .cons _ t, e => by
    obtain ⟨v, h1, h2⟩ := DAll.get (i := i) t (by simpa using e)
    exact ⟨v, by simpa using h1, h2⟩
theorem DAll.getV : ∀ {vs : List V} {ds : List D} {i : Nat} {v : V}, DAll K O H vs ds → vs[i]? = some v → ∃ d, ds[i]? = some d ∧ DAt K O H v d
  | _, _, _, _, .nil, e => by simp at e
  | _, _, 0, _, .cons a _, e => by simp at e; subst e; exact ⟨_, by simp, a⟩
  | _, _, i + 1, _, .cons _ t, e => by
    obtain ⟨d, h1, h2⟩ := DAll.getV (i := i) t (by simpa using e)
    exact ⟨d, by simpa using h1, h2⟩
theorem DAll.take : ∀ {vs : List V} {ds : List D} (n : Nat), DAll K O H vs ds → DAll K O H (vs.take n) (ds.take n)
  | _, _, 0, _ => .nil
  | _, _, _ + 1, .nil => .nil
  | _, _, n + 1, .cons a t => .cons a (DAll.take n t)
theorem DAll.drop : ∀ {vs : List V} {ds : List D} (n : Nat), DAll K O H vs ds → DAll K O H (vs.drop n) (ds.drop n)
  | _, _, 0, h => h
  | _, _, _ + 1, .nil => .nil
  | _, _, n + 1, .cons _ t => DAll.drop n t
theorem DAll.set {v : V} {d : D} (a : DAt K O H v d) : ∀ {vs : List V} {ds : List D} (i : Nat), DAll K O H vs ds → DAll K O H (vs.set i v) (ds.set i d)
  | _, _, _, .nil => .nil
  | _, _, 0, .cons _ t => .cons a t
  | _, _, i + 1, .cons b t => .cons b (DAll.set a i t)
theorem DAll.erase : ∀ {vs : List V} {ds : List D} (i : Nat), DAll K O H vs ds → DAll K O H (vs.eraseIdx i) (ds.eraseIdx i)
  | _, _, _, .nil => .nil
  | _, _, 0, .cons _ t => t
  | _, _, i + 1, .cons b t => .cons b (DAll.erase i t)
theorem DAll.reverse {vs : List V} {ds : List D} (h : DAll K O H vs ds) : DAll K O H vs.reverse ds.reverse := by
  induction vs generalizing ds with
  | nil => cases h; exact .nil
  | cons v vs ih => cases h with | cons a t => rw [List.reverse_cons, List.reverse_cons]; exact (ih t).append (.cons a .nil)
theorem DAll.rep {vs : List V} {ds : List D} (h : DAll K O H vs ds) : ∀ k : Nat, DAll K O H (List.replicate k vs).flatten (List.replicate k ds).flatten
  | 0 => .nil
  | k + 1 => by
    rw [List.replicate_succ, List.replicate_succ, List.flatten_cons, List.flatten_cons]
    exact h.append (DAll.rep h k)
theorem DAll.ints : ∀ {ns : List Int} {vs : List V}, DAll K O H vs (ns.map D.int) → vs = ns.map V.int
  | [], _, h => by cases h; rfl
  | n :: ns, _, h => by
    cases h with
    | cons a t =>
      cases a
      rw [DAll.ints (ns := ns) t, List.map_cons]
theorem DAll.strs : ∀ {ns : List Str} {vs : List V}, DAll K O H vs (ns.map D.str) → vs = ns.map V.str
  | [], _, h => by cases h; rfl
  | n :: ns, _, h => by
    cases h with
    | cons a t =>
      cases a
      rw [DAll.strs (ns := ns) t, List.map_cons]
theorem DAll.bls : ∀ {ns : List Bool} {vs : List V}, DAll K O H vs (ns.map D.bl) → vs = ns.map V.bl
  | [], _, h => by cases h; rfl
  | n :: ns, _, h => by
    cases h with
    | cons a t =>
      cases a
      rw [DAll.bls (ns := ns) t, List.map_cons]
theorem DAll.of_ints (K : PySem.W.Frag) (O : Addr → Prop) (H : Hp) : ∀ ns : List Int, DAll K O H (ns.map V.int) (ns.map D.int)
  | [] => .nil
  | n :: ns => .cons (.int n) (DAll.of_ints K O H ns)
theorem DAll.of_strs (K : PySem.W.Frag) (O : Addr → Prop) (H : Hp) : ∀ ns : List Str, DAll K O H (ns.map V.str) (ns.map D.str)
  | [] => .nil
  | n :: ns => .cons (.str n) (DAll.of_strs K O H ns)
/-- a tuple, a list is read -/
theorem DAt.sqT {v : V} {ds : List D} (h : DAt K O H v (.tup ds)) : ∃ a xs, v = .ref a ∧ SqT K H a xs ∧ DAll K O H xs ds := by
  cases h with
  | tup e t => exact ⟨_, _, rfl, .inl (.inl e), t⟩
/-- a constant tuple is read -/
theorem DAt.sqK {v : V} {ds : List D} (h : DAt K O H v (.kt ds)) : ∃ a xs, v = .ref a ∧ SqT K H a xs ∧ DAll K O H xs ds := by
  cases h with
  | kt e t =>
    refine ⟨_, _, rfl, ?_, t⟩
    rcases e with (e | ⟨o, e⟩) | e
    · cases e
    · cases e
    · exact .inr e
theorem SqL.any {a : Addr} {xs : List V} (e : SqL K (fun _ => none) a xs) : SqL K H a xs := by
  rcases e with (e | ⟨o, e⟩) | e
  · cases e
  · cases e
  · exact .inr e
theorem DAt.fls' {v : V} {ds : List D} (h : DAt K O H v (.fls ds)) : ∃ a xs, v = .ref a ∧ SqL K H a xs ∧ DAll K O H xs ds := by
  cases h with
  | fls e t =>
    rcases e with ⟨n, o, e⟩ | e
    · exact ⟨_, _, rfl, .inl (.inr ⟨o, e⟩), t⟩
    · exact ⟨_, _, rfl, SqL.any e, t⟩
theorem DAt.lst' {v : V} {ds : List D} (h : DAt K O H v (.lst ds)) : ∃ a xs, v = .ref a ∧ ¬ O a ∧ H a = some (.lst xs) ∧ DAll K O H xs ds := by
  cases h with
  | lst n e t => exact ⟨_, _, rfl, n, e, t⟩
end

/-! ### what the def's own lists and dicts are -/
/-- an owned object: its data, its parts -/
def Kids (K : PySem.W.Frag) (O : Addr → Prop) (H : Hp) : HO → D → Prop
  | .lst xs, .lst ds => DAll K O H xs ds
  | .dK kvs, .dic false ks ds => ks = kvs.map (fun q => .one q.1) ∧ DAll K O H (kvs.map (·.2)) ds
  | .dT kvs, .dic true ks ds => ks = kvs.map (fun q => .many q.1) ∧ DAll K O H (kvs.map (·.2)) ds
  | _, _ => False
theorem Kids.stay {K : PySem.W.Frag} {O O' : Addr → Prop} {H H' : Hp} (s : Stay O O' H H') : ∀ {o : HO} {d : D}, Kids K O H o d → Kids K O' H' o d := by
  intro o d h
  cases o <;> cases d <;> first | exact DAll.stay s h | exact h.elim | (rename_i m _ _; cases m <;> first | exact ⟨h.1, h.2.stay s⟩ | exact h.elim)
theorem Kids.free {K : PySem.W.Frag} {O : Addr → Prop} {H : Hp} {p : Addr} (n : ¬ O p) : ∀ {o : HO} {d : D}, H p = some o → Kids K O H o d → DAt K O H (.ref p) d := by
  intro o d e h
  cases o with
  | lst xs => cases d with
    | lst ds => exact .lst n e h
    | _ => exact h.elim
  | dK kvs => cases d with
    | dic m ks ds => cases m with
      | false => obtain ⟨rfl, h⟩ := h; exact .dk n (.inl e) h
      | true => exact h.elim
    | _ => exact h.elim
  | dT kvs => cases d with
    | dic m ks ds => cases m with
      | true => obtain ⟨rfl, h⟩ := h; exact .dt n (.inl e) h
      | false => exact h.elim
    | _ => exact h.elim
  | _ => cases d <;> first | exact h.elim | (rename_i m _ _; cases m <;> exact h.elim)
def Top (K : PySem.W.Frag) (O : Addr → Prop) (H : Hp) (p : Addr) (d : D) : Prop := ∃ o, H p = some o ∧ Kids K O H o d
theorem Top.stay {K : PySem.W.Frag} {O O' : Addr → Prop} {H H' : Hp} {p : Addr} {d : D} (s : Stay O O' H H') (e : H' p = H p) : Top K O H p d → Top K O' H' p d := fun ⟨o, h, k⟩ => ⟨o, e.trans h, k.stay s⟩
theorem Top.free {K : PySem.W.Frag} {O : Addr → Prop} {H : Hp} {p : Addr} {d : D} (n : ¬ O p) : Top K O H p d → DAt K O H (.ref p) d := fun ⟨_, h, k⟩ => k.free n h

/-- the hidden objects: their places, what holds of them -/
structure MC where
  O : Addr → Prop
  MI : Hp → Prop
  loc : ∀ H H' : Hp, (∀ a, O a → H' a = H a) → MI H → MI H'
  al : ∀ (H : Hp) (a : Addr), MI H → O a → H a ≠ none
/-- no hidden objects -/
def MC.no : MC := ⟨fun _ => False, fun _ => True, fun _ _ _ _ => trivial, fun _ _ _ h => h.elim⟩


/-! ### owned trees -/
/-- what a name may hold: let go (fz), or an own object with its parts let go (top), or an own object with own parts -/
inductive T where
  | fz (d : D)
  | top (p : Addr) (d : D)
  | lst (p : Addr) (ts : List T)
  | dic (p : Addr) (m : Bool) (ks : List DK) (ts : List T)
  | ins (p dx C : Addr) (ns : List Str) (ts : List T)
  | tup (p : Addr) (ts : List T)
def one (p a : Addr) : Nat := if p = a then 1 else 0
theorem one_self {p : Addr} : one p p = 1 := if_pos rfl
theorem one_ne {p a : Addr} (h : p ≠ a) : one p a = 0 := if_neg h
theorem one_pos {p a : Addr} (h : 0 < one p a) : p = a := by
  unfold one at h
  split at h
  · assumption
  · exact absurd h (Nat.lt_irrefl 0)
mutual
/-- how often an address is one of a tree's own -/
def T.cnt (a : Addr) : T → Nat
  | .fz _ => 0
  | .top p _ => one p a
  | .lst p ts => one p a + T.cnts a ts
  | .dic p _ _ ts => one p a + T.cnts a ts
  | .ins p dx _ _ ts => one p a + one dx a + T.cnts a ts
  | .tup p ts => one p a + T.cnts a ts
def T.cnts (a : Addr) : List T → Nat
  | [] => 0
  | t :: ts => T.cnt a t + T.cnts a ts
end
mutual
/-- a tree as data -/
def T.val : T → D
  | .fz d => d
  | .top _ d => d
  | .lst _ ts => .lst (T.vals ts)
  | .dic _ m ks ts => .dic m ks (T.vals ts)
  | .ins p _ _ _ _ => .ref p
  | .tup _ ts => .tup (T.vals ts)
def T.vals : List T → List D
  | [] => []
  | t :: ts => T.val t :: T.vals ts
end
theorem T.vals_map : ∀ ts : List T, T.vals ts = ts.map T.val
  | [] => rfl
  | t :: ts => by rw [T.vals, T.vals_map ts]; rfl
mutual
inductive TAt (K : PySem.W.Frag) (O : Addr → Prop) (H : Hp) : V → T → Prop
  | fz {v : V} {d : D} : DAt K O H v d → TAt K O H v (.fz d)
  | top {p : Addr} {o : HO} {d : D} : H p = some o → Kids K O H o d → TAt K O H (.ref p) (.top p d)
  | lst {p : Addr} {vs : List V} {ts : List T} : H p = some (.lst vs) → TAll K O H vs ts → TAt K O H (.ref p) (.lst p ts)
  | dk {p : Addr} {kvs : List (Key × V)} {ks : List DK} {ts : List T} : H p = some (.dK kvs) → ks = kvs.map (fun q => .one q.1) → TAll K O H (kvs.map (·.2)) ts → TAt K O H (.ref p) (.dic p false ks ts)
  | dt {p : Addr} {kvs : List (List Key × V)} {ks : List DK} {ts : List T} : H p = some (.dT kvs) → ks = kvs.map (fun q => .many q.1) → TAll K O H (kvs.map (·.2)) ts → TAt K O H (.ref p) (.dic p true ks ts)
  | ins {p dx C : Addr} {fs : List (Str × V)} {ns : List Str} {ts : List T} : H p = some (.ins C dx fs) → H dx = some (.own p) → ns = fs.map (·.1) → TAll K O H (fs.map (·.2)) ts → TAt K O H (.ref p) (.ins p dx C ns ts)
  | tup {p : Addr} {vs : List V} {ts : List T} : H p = some (.tup vs) → TAll K O H vs ts → TAt K O H (.ref p) (.tup p ts)
inductive TAll (K : PySem.W.Frag) (O : Addr → Prop) (H : Hp) : List V → List T → Prop
  | nil : TAll K O H [] []
  | cons {v : V} {vs : List V} {t : T} {ts : List T} : TAt K O H v t → TAll K O H vs ts → TAll K O H (v :: vs) (t :: ts)
end
section
variable {K : PySem.W.Frag} {O O' : Addr → Prop} {H H' : Hp}
mutual
theorem TAt.stay' (s : Stay O O' H H') : ∀ {v : V} {t : T}, TAt K O H v t → (∀ a, 0 < t.cnt a → H' a = H a) → TAt K O' H' v t
  | _, _, .fz h, _ => .fz (h.stay s)
  | _, _, .top (p := p) h k, e => .top ((e p (by simp only [T.cnt]; rw [one_self]; exact Nat.one_pos)).trans h) (k.stay s)
  | _, _, .lst (p := p) h k, e => .lst ((e p (by simp only [T.cnt]; rw [one_self]; omega)).trans h) (TAll.stay' s k (fun a z => e a (by simp only [T.cnt]; omega)))
  | _, _, .dk (p := p) h q k, e => .dk ((e p (by simp only [T.cnt]; rw [one_self]; omega)).trans h) q (TAll.stay' s k (fun a z => e a (by simp only [T.cnt]; omega)))
  | _, _, .dt (p := p) h q k, e => .dt ((e p (by simp only [T.cnt]; rw [one_self]; omega)).trans h) q (TAll.stay' s k (fun a z => e a (by simp only [T.cnt]; omega)))
  | _, _, .ins (p := p) (dx := dx) h g q k, e => .ins ((e p (by simp only [T.cnt]; rw [one_self]; omega)).trans h) ((e dx (by simp only [T.cnt]; rw [one_self (p := dx)]; omega)).trans g) q (TAll.stay' s k (fun a z => e a (by simp only [T.cnt]; omega)))
  | _, _, .tup (p := p) h k, e => .tup ((e p (by simp only [T.cnt]; rw [one_self]; omega)).trans h) (TAll.stay' s k (fun a z => e a (by simp only [T.cnt]; omega)))
theorem TAll.stay' (s : Stay O O' H H') : ∀ {vs : List V} {ts : List T}, TAll K O H vs ts → (∀ a, 0 < T.cnts a ts → H' a = H a) → TAll K O' H' vs ts
  | _, _, .nil, _ => .nil
  | _, _, .cons h k, e => .cons (TAt.stay' s h (fun a z => e a (by simp only [T.cnts]; omega))) (TAll.stay' s k (fun a z => e a (by simp only [T.cnts]; omega)))
end
theorem TAt.stay (s : Stay O O' H H') {v : V} {t : T} (e : ∀ a, 0 < t.cnt a → H' a = H a) (h : TAt K O H v t) : TAt K O' H' v t := h.stay' s e
theorem TAll.stay (s : Stay O O' H H') {vs : List V} {ts : List T} (e : ∀ a, 0 < T.cnts a ts → H' a = H a) (h : TAll K O H vs ts) : TAll K O' H' vs ts := h.stay' s e
mutual
theorem TAt.alive : ∀ {v : V} {t : T} {a : Addr}, TAt K O H v t → 0 < t.cnt a → H a ≠ none
  | _, _, _, .fz _, z => absurd z (Nat.lt_irrefl 0)
  | _, _, a, .top (p := p) h _, z => by
    obtain rfl := one_pos z
    rw [h]; exact nofun
  | _, _, a, .lst (p := p) h k, z => by
    by_cases q : p = a
    · subst q; rw [h]; exact nofun
    · exact TAll.alive k (by simp only [T.cnt] at z; rw [one_ne q] at z; omega)
  | _, _, a, .dk (p := p) h _ k, z => by
    by_cases q : p = a
    · subst q; rw [h]; exact nofun
    · exact TAll.alive k (by simp only [T.cnt] at z; rw [one_ne q] at z; omega)
  | _, _, a, .dt (p := p) h _ k, z => by
    by_cases q : p = a
    · subst q; rw [h]; exact nofun
    · exact TAll.alive k (by simp only [T.cnt] at z; rw [one_ne q] at z; omega)
  | _, _, a, .ins (p := p) (dx := dx) h g _ k, z => by
    by_cases q : p = a
    · subst q; rw [h]; exact nofun
    · by_cases q2 : dx = a
      · subst q2; rw [g]; exact nofun
      · exact TAll.alive k (by simp only [T.cnt] at z; rw [one_ne q, one_ne q2] at z; omega)
  | _, _, a, .tup (p := p) h k, z => by
    by_cases q : p = a
    · subst q; rw [h]; exact nofun
    · exact TAll.alive k (by simp only [T.cnt] at z; rw [one_ne q] at z; omega)
theorem TAll.alive : ∀ {vs : List V} {ts : List T} {a : Addr}, TAll K O H vs ts → 0 < T.cnts a ts → H a ≠ none
  | _, _, _, .nil, z => absurd z (Nat.lt_irrefl 0)
  | _, _, a, .cons (t := t) (ts := ts) h k, z => by
    by_cases q : 0 < t.cnt a
    · exact TAt.alive h q
    · exact TAll.alive k (by simp only [T.cnts] at z; omega)
end
mutual
/-- all is let go -/
theorem TAt.freeze' (s : Stay O O' H H) : ∀ {v : V} {t : T}, TAt K O H v t → (∀ a, 0 < t.cnt a → ¬ O' a) → DAt K O' H v t.val
  | _, _, .fz h, _ => h.stay s
  | _, _, .top (p := p) h k, e => (k.stay s).free (e p (by simp only [T.cnt]; rw [one_self]; exact Nat.one_pos)) h
  | _, _, .lst (p := p) h k, e => .lst (e p (by simp only [T.cnt]; rw [one_self]; omega)) h (TAll.freeze' s k (fun a z => e a (by simp only [T.cnt]; omega)))
  | _, _, .dk (p := p) h q k, e => by
    subst q
    exact .dk (e p (by simp only [T.cnt]; rw [one_self]; omega)) (.inl h) (TAll.freeze' s k (fun a z => e a (by simp only [T.cnt]; omega)))
  | _, _, .dt (p := p) h q k, e => by
    subst q
    exact .dt (e p (by simp only [T.cnt]; rw [one_self]; omega)) (.inl h) (TAll.freeze' s k (fun a z => e a (by simp only [T.cnt]; omega)))
  | _, _, .ins (p := p) _ _ _ _, e => .ref p
  | _, _, .tup (p := p) h k, e => .tup h (TAll.freeze' s k (fun a z => e a (by simp only [T.cnt]; omega)))
theorem TAll.freeze' (s : Stay O O' H H) : ∀ {vs : List V} {ts : List T}, TAll K O H vs ts → (∀ a, 0 < T.cnts a ts → ¬ O' a) → DAll K O' H vs (T.vals ts)
  | _, _, .nil, _ => .nil
  | _, _, .cons h k, e => .cons (TAt.freeze' s h (fun a z => e a (by simp only [T.cnts]; omega))) (TAll.freeze' s k (fun a z => e a (by simp only [T.cnts]; omega)))
end
theorem TAt.freeze (s : Stay O O' H H) {v : V} {t : T} (e : ∀ a, 0 < t.cnt a → ¬ O' a) (h : TAt K O H v t) : DAt K O' H v t.val := h.freeze' s e
theorem TAll.freeze (s : Stay O O' H H) {vs : List V} {ts : List T} (e : ∀ a, 0 < T.cnts a ts → ¬ O' a) (h : TAll K O H vs ts) : DAll K O' H vs (T.vals ts) := h.freeze' s e
theorem TAll.length : ∀ {vs : List V} {ts : List T}, TAll K O H vs ts → vs.length = ts.length
  | _, _, .nil => rfl
  | _, _, .cons _ k => by rw [List.length_cons, List.length_cons, TAll.length k]
theorem TAll.get : ∀ {vs : List V} {ts : List T} {i : Nat} {t : T}, TAll K O H vs ts → ts[i]? = .some t → ∃ v, vs[i]? = .some v ∧ TAt K O H v t
  | _, _, _, _, .nil, e => by simp at e
  | _, _, 0, _, .cons a _, e => by simp at e; subst e; exact ⟨_, by simp, a⟩
  | _, _, i + 1, _, .cons _ k, e => by
    obtain ⟨v, h1, h2⟩ := TAll.get (i := i) k (by simpa using e)
    exact ⟨v, by simpa using h1, h2⟩
theorem cnts_get {a : Addr} : ∀ {ts : List T} {i : Nat} {t : T}, ts[i]? = .some t → t.cnt a ≤ T.cnts a ts
  | [], _, _, e => by simp at e
  | x :: ts, 0, _, e => by simp at e; subst e; simp only [T.cnts]; omega
  | x :: ts, i + 1, _, e => by
    have := cnts_get (a := a) (ts := ts) (i := i) (by simpa using e)
    simp only [T.cnts]; omega
theorem cnts_set {a : Addr} {u : T} : ∀ {ts : List T} {i : Nat} {t : T}, ts[i]? = .some t → T.cnts a (ts.set i u) + t.cnt a = T.cnts a ts + u.cnt a
  | [], _, _, e => by simp at e
  | x :: ts, 0, _, e => by simp at e; subst e; simp only [List.set_cons_zero, T.cnts]; omega
  | x :: ts, i + 1, _, e => by
    have := cnts_set (a := a) (u := u) (ts := ts) (i := i) (by simpa using e)
    simp only [List.set_cons_succ, T.cnts]; omega
/-- one part is otherwise -/
theorem TAll.put (s : Stay O O' H H') {u : T} : ∀ {vs : List V} {ts : List T} {i : Nat} {t : T} {v : V}, TAll K O H vs ts → ts[i]? = .some t → vs[i]? = .some v → TAt K O' H' v u → (∀ a, 0 < T.cnts a ts → t.cnt a = 0 → H' a = H a) → (∀ a, T.cnts a ts ≤ 1) → TAll K O' H' vs (ts.set i u)
  | _, _, _, _, _, .nil, e, _, _, _, _ => by simp at e
  | _, _, 0, _, _, .cons h k, e, ev, hu, hs, h1 => by
    simp at e ev; subst e ev
    refine .cons hu (k.stay s fun a z => hs a (by simp only [T.cnts]; omega) ?_)
    have := h1 a
    simp only [T.cnts] at this; omega
  | _, _, i + 1, t, _, .cons (t := x) (ts := ts) h k, e, ev, hu, hs, h1 => by
    have e' : ts[i]? = .some t := by simpa using e
    refine .cons (h.stay s fun a z => hs a (by simp only [T.cnts]; omega) ?_) (TAll.put s k e' (by simpa using ev) hu (fun a z => hs a (by simp only [T.cnts]; omega)) fun a => ?_)
    · have := h1 a
      have := cnts_get (a := a) e'
      simp only [T.cnts] at *; omega
    · have := h1 a
      simp only [T.cnts] at this; omega
end
/-! ### places within a tree -/
inductive Stp where
  | fld (f : Str) | idx (n : Nat) | key (k : DK)
def posOf {α : Type} [DecidableEq α] : List α → α → Option Nat
  | [], _ => none
  | x :: xs, y => if x = y then some 0 else (posOf xs y).map (· + 1)
def T.pos : T → Stp → Option Nat
  | .lst _ _, .idx n => some n
  | .tup _ _, .idx n => some n
  | .dic _ _ ks _, .key k => posOf ks k
  | .ins _ _ _ ns _, .fld f => posOf ns f
  | _, _ => none
def T.kids : T → List T
  | .lst _ ts => ts
  | .tup _ ts => ts
  | .dic _ _ _ ts => ts
  | .ins _ _ _ _ ts => ts
  | _ => []
def T.setKid (t : T) (i : Nat) (u : T) : T := match t with
  | .lst p ts => .lst p (ts.set i u)
  | .tup p ts => .tup p (ts.set i u)
  | .dic p m ks ts => .dic p m ks (ts.set i u)
  | .ins p dx C ns ts => .ins p dx C ns (ts.set i u)
  | t => t
def T.kid (t : T) (s : Stp) : Option T := (t.pos s).bind fun i => t.kids[i]?
def T.at : T → List Stp → Option T
  | t, [] => some t
  | t, s :: π => (t.kid s).bind fun u => u.at π
def T.put : T → List Stp → T → T
  | _, [], u => u
  | t, s :: π, u => match t.pos s with
    | some i => match t.kids[i]? with
      | some x => t.setKid i (x.put π u)
      | none => t
    | none => t
/-- the address of an own object -/
def T.root : T → Option Addr
  | .fz _ => none
  | .top p _ => some p
  | .lst p _ => some p
  | .dic p _ _ _ => some p
  | .ins p _ _ _ _ => some p
  | .tup p _ => some p
theorem T.kids_cnt {a : Addr} : ∀ t : T, T.cnts a t.kids ≤ t.cnt a
  | .fz _ => Nat.le_refl 0
  | .top _ _ => Nat.zero_le _
  | .lst _ _ => by simp only [T.kids, T.cnt]; omega
  | .tup _ _ => by simp only [T.kids, T.cnt]; omega
  | .dic _ _ _ _ => by simp only [T.kids, T.cnt]; omega
  | .ins _ _ _ _ _ => by simp only [T.kids, T.cnt]; omega
theorem T.setKid_cnt {a : Addr} {u x : T} {i : Nat} : ∀ {t : T}, t.kids[i]? = some x → (t.setKid i u).cnt a + x.cnt a = t.cnt a + u.cnt a
  | .fz _, h => by simp [T.kids] at h
  | .top _ _, h => by simp [T.kids] at h
  | .lst _ ts, h => by have := cnts_set (a := a) (u := u) (ts := ts) h; simp only [T.setKid, T.cnt]; omega
  | .tup _ ts, h => by have := cnts_set (a := a) (u := u) (ts := ts) h; simp only [T.setKid, T.cnt]; omega
  | .dic _ _ _ ts, h => by have := cnts_set (a := a) (u := u) (ts := ts) h; simp only [T.setKid, T.cnt]; omega
  | .ins _ _ _ _ ts, h => by have := cnts_set (a := a) (u := u) (ts := ts) h; simp only [T.setKid, T.cnt]; omega
theorem T.kid_some {t x : T} {s : Stp} (h : t.kid s = some x) : ∃ i, t.pos s = some i ∧ t.kids[i]? = some x := Option.bind_eq_some_iff.mp h
theorem T.at_cnt {a : Addr} : ∀ {π : List Stp} {t s : T}, t.at π = some s → s.cnt a ≤ t.cnt a
  | [], t, s, h => by cases h; exact Nat.le_refl _
  | p :: π, t, s, h => by
    obtain ⟨x, h1, h2⟩ := Option.bind_eq_some_iff.mp h
    obtain ⟨i, _, h3⟩ := T.kid_some h1
    have e1 := T.at_cnt (a := a) h2
    have e2 := cnts_get (a := a) h3
    have e3 := t.kids_cnt (a := a)
    omega
theorem T.put_cnt {a : Addr} {u : T} : ∀ {π : List Stp} {t s : T}, t.at π = some s → (t.put π u).cnt a + s.cnt a = t.cnt a + u.cnt a
  | [], t, s, h => by cases h; exact Nat.add_comm _ _
  | p :: π, t, s, h => by
    obtain ⟨x, h1, h2⟩ := Option.bind_eq_some_iff.mp h
    obtain ⟨i, h0, h3⟩ := T.kid_some h1
    have e1 := T.put_cnt (a := a) (u := u) h2
    have e2 := T.setKid_cnt (a := a) (u := x.put π u) h3
    unfold T.put
    rw [h0]
    dsimp only
    rw [h3]
    dsimp only
    omega
section
variable {K : PySem.W.Frag} {O O' : Addr → Prop} {H H' : Hp}
/-- the parts of a tree -/
theorem TAt.kids {v : V} {t : T} (h : TAt K O H v t) (hn : t.kids ≠ []) : ∃ vs, TAll K O H vs t.kids ∧ ∀ {O' : Addr → Prop} {H' : Hp} {ts' : List T}, ts'.length = t.kids.length → (∀ a, t.cnt a ≤ 1) → (∀ a, 0 < t.cnt a → T.cnts a t.kids = 0 → H' a = H a) → TAll K O' H' vs ts' →
    ∀ i u, ts' = t.kids.set i u → TAt K O' H' v (t.setKid i u) := by
  cases h with
  | fz h => exact absurd rfl hn
  | top h _ => exact absurd rfl hn
  | lst h k =>
    refine ⟨_, k, fun hl h1 e k' i u hu => ?_⟩
    subst hu
    rename_i p vs ts O' H'
    have c := h1 p
    simp only [T.cnt] at c; rw [one_self] at c
    exact .lst ((e p (by simp only [T.cnt]; rw [one_self]; omega) (by simp only [T.kids]; omega)).trans h) k'
  | dk h q k =>
    refine ⟨_, k, fun hl h1 e k' i u hu => ?_⟩
    subst hu
    rename_i p kvs ks ts O' H'
    have c := h1 p
    simp only [T.cnt] at c; rw [one_self] at c
    exact .dk ((e p (by simp only [T.cnt]; rw [one_self]; omega) (by simp only [T.kids]; omega)).trans h) q k'
  | dt h q k =>
    refine ⟨_, k, fun hl h1 e k' i u hu => ?_⟩
    subst hu
    rename_i p kvs ks ts O' H'
    have c := h1 p
    simp only [T.cnt] at c; rw [one_self] at c
    exact .dt ((e p (by simp only [T.cnt]; rw [one_self]; omega) (by simp only [T.kids]; omega)).trans h) q k'
  | ins h g q k =>
    refine ⟨_, k, fun hl h1 e k' i u hu => ?_⟩
    subst hu
    rename_i p dx C fs ns ts O' H'
    have c := h1 p
    have c2 := h1 dx
    simp only [T.cnt] at c c2; rw [one_self] at c; rw [one_self (p := dx)] at c2
    exact .ins ((e p (by simp only [T.cnt]; rw [one_self]; omega) (by simp only [T.kids]; omega)).trans h) ((e dx (by simp only [T.cnt]; rw [one_self (p := dx)]; omega) (by simp only [T.kids]; omega)).trans g) q k'
  | tup h k =>
    refine ⟨_, k, fun hl h1 e k' i u hu => ?_⟩
    subst hu
    rename_i p vs ts O' H'
    have c := h1 p
    simp only [T.cnt] at c; rw [one_self] at c
    exact .tup ((e p (by simp only [T.cnt]; rw [one_self]; omega) (by simp only [T.kids]; omega)).trans h) k'
theorem kids_ne {t x : T} {i : Nat} (h : t.kids[i]? = some x) : t.kids ≠ [] := fun e => by rw [e] at h; simp at h
theorem TAt.focus : ∀ {π : List Stp} {v : V} {t s : T}, TAt K O H v t → t.at π = .some s → ∃ u, TAt K O H u s
  | [], v, t, s, h, e => by cases e; exact ⟨v, h⟩
  | p :: π, v, t, s, h, e => by
    obtain ⟨x, h1, h2⟩ := Option.bind_eq_some_iff.mp e
    obtain ⟨i, _, h3⟩ := T.kid_some h1
    obtain ⟨vs, k, _⟩ := h.kids (kids_ne h3)
    obtain ⟨u, _, hu⟩ := k.get h3
    exact TAt.focus hu h2
/-- a place within is otherwise -/
theorem TAt.put (st : Stay O O' H H') {s' : T} : ∀ {π : List Stp} {v : V} {t s : T}, TAt K O H v t → t.at π = .some s → (∀ u, TAt K O H u s → TAt K O' H' u s') → (∀ a, t.cnt a ≤ 1) → (∀ a, 0 < t.cnt a → s.cnt a = 0 → H' a = H a) → TAt K O' H' v (t.put π s')
  | [], v, t, s, h, e, hs, _, _ => by cases e; exact hs v h
  | p :: π, v, t, s, h, e, hs, h1, ho => by
    obtain ⟨x, e1, e2⟩ := Option.bind_eq_some_iff.mp e
    obtain ⟨i, e0, e3⟩ := T.kid_some e1
    obtain ⟨vs, k, kk⟩ := h.kids (kids_ne e3)
    obtain ⟨u, eu, hu⟩ := k.get e3
    have le : ∀ a, s.cnt a ≤ x.cnt a := fun a => T.at_cnt e2
    have le2 : ∀ a, x.cnt a ≤ T.cnts a t.kids := fun a => cnts_get e3
    have le3 : ∀ a, T.cnts a t.kids ≤ t.cnt a := fun a => t.kids_cnt
    have hx : TAt K O' H' u (x.put π s') := TAt.put st hu e2 hs (fun a => by have := h1 a; have := le2 a; have := le3 a; omega) fun a z => ho a (by have := le2 a; have := le3 a; omega)
    have hk := k.put st e3 eu hx (fun a z zx => ho a (by have := le3 a; omega) (by have := le a; omega)) fun a => by have := h1 a; have := le3 a; omega
    unfold T.put
    rw [e0]
    dsimp only
    rw [e3]
    dsimp only
    exact kk (by rw [List.length_set]) h1 (fun a z zk => ho a z (by have := le a; have := le2 a; omega)) hk i _ rfl
end

/-! ### slots -/
abbrev Rho := List (Option T)
/-- the ground of a def's run: the heap at its entry, what of it may be changed, the data that are in hand, the trees that are in hand -/
structure Gd where
  H0 : Hp
  io : Addr → Prop
  pins : List (V × D)
  hid : List (V × T)
def cO (a : Addr) : Option T → Nat
  | none => 0
  | some t => t.cnt a
def cR (a : Addr) : Rho → Nat
  | [] => 0
  | x :: ρ => cO a x + cR a ρ
def cH (a : Addr) : List (V × T) → Nat
  | [] => 0
  | q :: l => q.2.cnt a + cH a l
def Own (M : MC) (G : Gd) (ρ : Rho) (a : Addr) : Prop := M.O a ∨ 0 < cR a ρ + cH a G.hid
theorem cR_get {a : Addr} : ∀ {ρ : Rho} {i : Nat} {x : Option T}, ρ[i]? = some x → cO a x ≤ cR a ρ
  | [], _, _, e => by simp at e
  | y :: ρ, 0, _, e => by simp at e; subst e; simp only [cR]; omega
  | y :: ρ, i + 1, _, e => by
    have := cR_get (a := a) (ρ := ρ) (i := i) (by simpa using e)
    simp only [cR]; omega
theorem cR_two {a : Addr} : ∀ {ρ : Rho} {i j : Nat} {x y : Option T}, i ≠ j → ρ[i]? = some x → ρ[j]? = some y → cO a x + cO a y ≤ cR a ρ
  | [], _, _, _, _, _, e, _ => by simp at e
  | z :: ρ, 0, 0, _, _, h, _, _ => absurd rfl h
  | z :: ρ, 0, j + 1, _, _, _, e, e2 => by
    have := cR_get (a := a) (ρ := ρ) (i := j) (by simpa using e2)
    simp at e; subst e; simp only [cR]; omega
  | z :: ρ, i + 1, 0, _, _, _, e, e2 => by
    have := cR_get (a := a) (ρ := ρ) (i := i) (by simpa using e)
    simp at e2; subst e2; simp only [cR]; omega
  | z :: ρ, i + 1, j + 1, _, _, h, e, e2 => by
    have := cR_two (a := a) (ρ := ρ) (i := i) (j := j) (fun q => h (by rw [q])) (by simpa using e) (by simpa using e2)
    simp only [cR]; omega
theorem cR_set {a : Addr} {y : Option T} : ∀ {ρ : Rho} {i : Nat} {x : Option T}, ρ[i]? = some x → cR a (ρ.set i y) + cO a x = cR a ρ + cO a y
  | [], _, _, e => by simp at e
  | z :: ρ, 0, _, e => by simp at e; subst e; simp only [List.set_cons_zero, cR]; omega
  | z :: ρ, i + 1, _, e => by
    have := cR_set (a := a) (y := y) (ρ := ρ) (i := i) (by simpa using e)
    simp only [List.set_cons_succ, cR]; omega
theorem cR_has {a : Addr} : ∀ {ρ : Rho}, 0 < cR a ρ → ∃ (i : Nat) (t : T), ρ[i]? = some (some t) ∧ 0 < t.cnt a
  | [], h => absurd h (Nat.lt_irrefl 0)
  | x :: ρ, h => by
    by_cases q : 0 < cO a x
    · cases x with
      | none => exact absurd q (Nat.lt_irrefl 0)
      | some t => exact ⟨0, t, by simp, q⟩
    · obtain ⟨i, t, h1, h2⟩ := cR_has (a := a) (ρ := ρ) (by simp only [cR] at h; omega)
      exact ⟨i + 1, t, by simpa using h1, h2⟩
theorem cH_has {a : Addr} : ∀ {l : List (V × T)}, 0 < cH a l → ∃ q ∈ l, 0 < q.2.cnt a
  | [], h => absurd h (Nat.lt_irrefl 0)
  | x :: l, h => by
    by_cases q : 0 < x.2.cnt a
    · exact ⟨x, List.mem_cons_self, q⟩
    · obtain ⟨y, h1, h2⟩ := cH_has (a := a) (l := l) (by simp only [cH] at h; omega)
      exact ⟨y, List.mem_cons_of_mem _ h1, h2⟩
theorem cH_mem {a : Addr} : ∀ {l : List (V × T)} {q : V × T}, q ∈ l → q.2.cnt a ≤ cH a l
  | x :: l, q, h => by
    rcases List.mem_cons.mp h with h | h
    · subst h; simp only [cH]; omega
    · have := cH_mem (a := a) h
      simp only [cH]; omega
structure Rel (K : PySem.W.Frag) (M : MC) (G : Gd) (ρ : Rho) (σ : St) (H : Hp) : Prop where
  slot : ∀ (i : Nat) (t : T), ρ[i]? = some (some t) → ∃ v, σ[i]? = some (some v) ∧ TAt K (Own M G ρ) H v t
  nd : ∀ a, cR a ρ + cH a G.hid ≤ 1
  own : ∀ a, 0 < cR a ρ + cH a G.hid → (G.H0 a = none ∨ G.io a) ∧ ¬ M.O a
  base : (∀ a o, ¬ M.O a → ¬ G.io a → G.H0 a = some o → Kp o (H a)) ∧ ∀ a xs, G.H0 a = some (.tup xs) → H a = some (.tup xs)
  mi : M.MI H
  pin : ∀ q ∈ G.pins, DAt K (Own M G ρ) H q.1 q.2
  hid : ∀ q ∈ G.hid, TAt K (Own M G ρ) H q.1 q.2
  len : ρ.length = σ.length
def Gd.pin (G : Gd) (v : V) (d : D) : Gd := ⟨G.H0, G.io, (v, d) :: G.pins, G.hid⟩
def Gd.hide (G : Gd) (v : V) (t : T) : Gd := ⟨G.H0, G.io, G.pins, (v, t) :: G.hid⟩

section
variable {K : PySem.W.Frag} {M : MC} {G : Gd} {ρ : Rho} {σ : St} {H H' : Hp}
theorem Rel.alive (R : Rel K M G ρ σ H) {a : Addr} (h : 0 < cR a ρ + cH a G.hid) : H a ≠ none := by
  by_cases q : 0 < cR a ρ
  · obtain ⟨i, t, h1, h2⟩ := cR_has q
    obtain ⟨v, _, h3⟩ := R.slot i t h1
    exact h3.alive h2
  · obtain ⟨y, h1, h2⟩ := cH_has (a := a) (l := G.hid) (by omega)
    exact (R.hid y h1).alive h2
theorem Rel.ownAt (R : Rel K M G ρ σ H) {a : Addr} (h : Own M G ρ a) : H a ≠ none := by
  rcases h with z | z
  · exact M.al H a R.mi z
  · exact R.alive z
theorem Rel.fresh (R : Rel K M G ρ σ H) {p : Addr} (h : H p = none) : ¬ Own M G ρ p := fun z => R.ownAt z h
theorem Rel.fresh0 (R : Rel K M G ρ σ H) {p : Addr} (h : H p = none) : G.H0 p = none ∨ G.io p := by
  cases e : G.H0 p with
  | none => exact .inl rfl
  | some o =>
    by_cases z : M.O p
    · exact absurd h (M.al H p R.mi z)
    · by_cases i : G.io p
      · exact .inr i
      · exact absurd h (R.base.1 p o z i e).some
theorem stay_new {O : Addr → Prop} {p : Addr} {o : HO} (h : H p = none) : Stay O O H (upd H p o) := ⟨fun a u n e => ⟨n, .inl (by rw [upd_ne (ne_of_none e h)]; exact e)⟩, fun a u e => by rw [upd_ne (ne_of_none e h)]; exact e⟩
theorem stay_sub {O O' : Addr → Prop} {H : Hp} (h : ∀ a, O' a → O a) : Stay O O' H H := ⟨fun a o n e => ⟨fun z => n (h a z), .inl e⟩, fun _ _ e => e⟩
/-- the heap grows, or changes at what is hidden -/
theorem Rel.grow (R : Rel K M G ρ σ H) (k : ∀ a o, ¬ M.O a → H a = some o → H' a = some o) (kt : ∀ a xs, H a = some (.tup xs) → H' a = some (.tup xs)) (mi : M.MI H') : Rel K M G ρ σ H' := by
  have st : Stay (Own M G ρ) (Own M G ρ) H H' := ⟨fun a o n e => ⟨n, .inl (k a o (fun z => n (.inl z)) e)⟩, kt⟩
  have ea : ∀ a, 0 < cR a ρ + cH a G.hid → H' a = H a := fun a z => by
    cases q : H a with
    | none => exact absurd q (R.alive z)
    | some o => exact k a o (R.own a z).2 q
  refine ⟨fun i t e => ?_, R.nd, R.own, ⟨fun a o n i e => (R.base.1 a o n i e).to fun u z => k a u n z, fun a xs e => kt a xs (R.base.2 a xs e)⟩, mi, fun q hq => (R.pin q hq).stay st, fun q hq => (R.hid q hq).stay st fun a z => ea a (by have := cH_mem (a := a) hq; omega), R.len⟩
  obtain ⟨v, h1, h2⟩ := R.slot i t e
  exact ⟨v, h1, h2.stay st fun a z => ea a (by have : cO a (some t) ≤ _ := cR_get e; have : t.cnt a ≤ cR a ρ := this; omega)⟩
/-- a new object that is not owned -/
theorem Rel.new (R : Rel K M G ρ σ H) {p : Addr} {o : HO} (h : H p = none) : Rel K M G ρ σ (upd H p o) := by
  refine R.grow (fun a u _ e => ?_) (fun a xs e => ?_) (M.loc H _ (fun a z => ?_) R.mi)
  · rw [upd_ne (ne_of_none e h)]; exact e
  · rw [upd_ne (ne_of_none e h)]; exact e
  · exact upd_ne fun e => M.al H a R.mi z (e ▸ h)
/-- more in hand -/
theorem Rel.pinned (R : Rel K M G ρ σ H) {v : V} {d : D} (h : DAt K (Own M G ρ) H v d) : Rel K M (G.pin v d) ρ σ H :=
  ⟨R.slot, R.nd, R.own, R.base, R.mi, fun q hq => by
    rcases List.mem_cons.mp hq with e | hq
    · subst e; exact h
    · exact R.pin q hq, R.hid, R.len⟩
theorem Rel.unpin {v : V} {d : D} (R : Rel K M (G.pin v d) ρ σ H) : Rel K M G ρ σ H ∧ DAt K (Own M G ρ) H v d :=
  ⟨⟨R.slot, R.nd, R.own, R.base, R.mi, fun q hq => R.pin q (List.mem_cons_of_mem _ hq), R.hid, R.len⟩, R.pin (v, d) List.mem_cons_self⟩
theorem own_hide {v : V} {t : T} {a : Addr} : Own M (G.hide v t) ρ a ↔ Own M G ρ a ∨ 0 < t.cnt a := by
  unfold Own
  show M.O a ∨ 0 < cR a ρ + (t.cnt a + cH a G.hid) ↔ _
  constructor
  · rintro (z | z)
    · exact .inl (.inl z)
    · by_cases q : 0 < t.cnt a
      · exact .inr q
      · exact .inl (.inr (by omega))
  · rintro ((z | z) | z)
    · exact .inl z
    · exact .inr (by omega)
    · exact .inr (by omega)
/-- a new tree in hand -/
theorem Rel.plus (R : Rel K M G ρ σ H) {v : V} {t : T} (k : ∀ a o, ¬ M.O a → H a = some o → H' a = some o) (kt : ∀ a xs, H a = some (.tup xs) → H' a = some (.tup xs)) (mi : M.MI H') (fr : ∀ a, 0 < t.cnt a → H a = none) (n1 : ∀ a, t.cnt a ≤ 1) (ta : TAt K (fun a => Own M G ρ a ∨ 0 < t.cnt a) H' v t) : Rel K M (G.hide v t) ρ σ H' := by
  have nO : ∀ a, 0 < t.cnt a → ¬ Own M G ρ a := fun a z => R.fresh (fr a z)
  have eO : (fun a => Own M G ρ a ∨ 0 < t.cnt a) = Own M (G.hide v t) ρ := funext fun a => propext own_hide.symm
  rw [eO] at ta
  have st : Stay (Own M G ρ) (Own M (G.hide v t) ρ) H H' := ⟨fun a o n e => ⟨fun z => (own_hide.mp z).elim n fun z => by (rw [fr a z] at e; cases e), .inl (k a o (fun z => n (.inl z)) e)⟩, kt⟩
  have ea : ∀ a, 0 < cR a ρ + cH a G.hid → H' a = H a := fun a z => by
    cases q : H a with
    | none => exact absurd q (R.alive z)
    | some o => exact k a o (R.own a z).2 q
  have nn : ∀ a, 0 < t.cnt a → cR a ρ + cH a G.hid = 0 := fun a z => Nat.eq_zero_of_not_pos fun y => nO a z (.inr y)
  refine ⟨fun i u e => ?_, fun a => ?_, fun a z => ?_, ⟨fun a o n i e => (R.base.1 a o n i e).to fun u z => k a u n z, fun a xs e => kt a xs (R.base.2 a xs e)⟩, mi, fun q hq => (R.pin q hq).stay st, fun q hq => ?_, R.len⟩
  · obtain ⟨w, h1, h2⟩ := R.slot i u e
    exact ⟨w, h1, h2.stay st fun a z => ea a (by have : cO a (some u) ≤ _ := cR_get e; have : u.cnt a ≤ cR a ρ := this; omega)⟩
  · show cR a ρ + (t.cnt a + cH a G.hid) ≤ 1
    have := R.nd a; have := n1 a
    by_cases z : 0 < t.cnt a
    · have := nn a z; omega
    · omega
  · have z : 0 < cR a ρ + (t.cnt a + cH a G.hid) := z
    by_cases y : 0 < t.cnt a
    · exact ⟨R.fresh0 (fr a y), fun x => nO a y (.inl x)⟩
    · exact R.own a (by omega)
  · rcases List.mem_cons.mp hq with e | hq
    · subst e; exact ta
    · exact (R.hid q hq).stay st fun a z => ea a (by have := cH_mem (a := a) hq; omega)
theorem Rel.hidden (R : Rel K M G ρ σ H) {p : Addr} {o : HO} {d : D} (hp : H p = none) (h : Kids K (Own M G ρ) H o d) : Rel K M (G.hide (.ref p) (.top p d)) ρ σ (upd H p o) := by
  have st : Stay (Own M G ρ) (fun a => Own M G ρ a ∨ 0 < (T.top p d).cnt a) H (upd H p o) := ⟨fun a u n e => by
    have ne := ne_of_none e hp
    refine ⟨fun z => z.elim n fun z => ne (one_pos z).symm, .inl (by rw [upd_ne ne]; exact e)⟩, fun a u e => by rw [upd_ne (ne_of_none e hp)]; exact e⟩
  refine R.plus (fun a u _ e => ?_) st.2 (M.loc H _ (fun a z => upd_ne fun e => M.al H a R.mi z (e ▸ hp)) R.mi) (fun a z => ?_) (fun a => ?_) (.top upd_same (h.stay st))
  · rw [upd_ne (ne_of_none e hp)]; exact e
  · rw [← one_pos z]; exact hp
  · show one p a ≤ 1
    unfold one; split <;> omega
/-- a tree out of hand: let go -/
theorem Rel.unhide {v : V} {t : T} (R : Rel K M (G.hide v t) ρ σ H) : Rel K M G ρ σ H ∧ DAt K (Own M G ρ) H v t.val := by
  have st : Stay (Own M (G.hide v t) ρ) (Own M G ρ) H H := stay_sub fun a z => own_hide.mpr (.inl z)
  have nd : ∀ a, cR a ρ + (t.cnt a + cH a G.hid) ≤ 1 := R.nd
  refine ⟨⟨fun i u e => ?_, fun a => by have := nd a; omega, fun a z => R.own a (show 0 < cR a ρ + (t.cnt a + cH a G.hid) by omega), R.base, R.mi, fun q hq => (R.pin q hq).stay st, fun q hq => (R.hid q (List.mem_cons_of_mem _ hq)).stay st fun _ _ => rfl, R.len⟩, ?_⟩
  · obtain ⟨w, h1, h2⟩ := R.slot i u e
    exact ⟨w, h1, h2.stay st fun _ _ => rfl⟩
  · refine (R.hid (v, t) List.mem_cons_self).freeze st fun a z y => ?_
    have z : 0 < t.cnt a := z
    have w := nd a
    rcases y with y | y
    · exact (R.own a (show 0 < cR a ρ + (t.cnt a + cH a G.hid) by omega)).2 y
    · omega
theorem set_none {i : Nat} {x : Option T} (h : ¬ i < ρ.length) : ρ.set i x = ρ := by
  rw [List.set_eq_of_length_le (by omega)]
/-- a slot gets the tree that is in hand -/
theorem Rel.setT {v : V} {t : T} (R : Rel K M (G.hide v t) ρ σ H) (i : Nat) : Rel K M G (ρ.set i (some t)) (σ.set i (some v)) H := by
  by_cases hi : i < ρ.length
  · have hi' : i < σ.length := R.len ▸ hi
    obtain ⟨x, hx⟩ : ∃ x, ρ[i]? = some x := ⟨ρ[i], List.getElem?_eq_getElem hi⟩
    have ce : ∀ a, cR a (ρ.set i (some t)) + cO a x = cR a ρ + t.cnt a := fun a => cR_set hx
    have nd : ∀ a, cR a ρ + (t.cnt a + cH a G.hid) ≤ 1 := R.nd
    have st : Stay (Own M (G.hide v t) ρ) (Own M G (ρ.set i (some t))) H H := stay_sub fun a z => by
      rcases z with z | z
      · exact .inl z
      · exact .inr (show 0 < cR a ρ + (t.cnt a + cH a G.hid) by have := ce a; omega)
    refine ⟨fun j u e => ?_, fun a => by have := nd a; have := ce a; omega, fun a z => R.own a (show 0 < cR a ρ + (t.cnt a + cH a G.hid) by have := ce a; omega), R.base, R.mi, fun q hq => (R.pin q hq).stay st, fun q hq => (R.hid q (List.mem_cons_of_mem _ hq)).stay st fun _ _ => rfl, by simpa using R.len⟩
    by_cases hj : j = i
    · subst hj
      rw [List.getElem?_set_self hi] at e
      cases e
      exact ⟨v, List.getElem?_set_self hi', (R.hid (v, t) List.mem_cons_self).stay st fun _ _ => rfl⟩
    · rw [List.getElem?_set_ne (Ne.symm hj)] at e
      obtain ⟨w, h1, h2⟩ := R.slot j u e
      exact ⟨w, by rw [List.getElem?_set_ne (Ne.symm hj)]; exact h1, h2.stay st fun _ _ => rfl⟩
  · have hi' : ¬ i < σ.length := R.len ▸ hi
    rw [set_none hi, List.set_eq_of_length_le (by omega)]
    exact R.unhide.1
/-- a slot gets a datum -/
theorem Rel.set (R : Rel K M G ρ σ H) {i : Nat} {v : V} {d : D} (h : DAt K (Own M G ρ) H v d) : Rel K M G (ρ.set i (some (.fz d))) (σ.set i (some v)) H := by
  have e : (fun a => Own M G ρ a ∨ 0 < (T.fz d).cnt a) = Own M G ρ := funext fun a => propext ⟨fun z => z.elim id fun z => absurd z (Nat.lt_irrefl 0), .inl⟩
  exact (R.plus (v := v) (t := .fz d) (fun _ _ _ e => e) (fun _ _ e => e) R.mi (fun a z => absurd z (Nat.lt_irrefl 0)) (fun a => Nat.zero_le 1) (by rw [e]; exact .fz h)).setT i
/-- the tree of a slot is changed; w, s in hand is put into it -/
theorem Rel.chg {w : V} {s : T} (R : Rel K M (G.hide w s) ρ σ H) {i : Nat} {t t' : T} (hi : ρ[i]? = some (some t)) (c : ∀ a, t'.cnt a ≤ t.cnt a + s.cnt a) (ch : ∀ a, t.cnt a = 0 → H' a = H a) (kt : ∀ a xs, H a = some (.tup xs) → H' a = some (.tup xs))
    (ta : ∀ v, TAt K (Own M (G.hide w s) ρ) H v t → TAt K (Own M (G.hide w s) ρ) H w s → TAt K (Own M G (ρ.set i (some t'))) H' v t') : Rel K M G (ρ.set i (some t')) σ H' := by
  have hl : i < ρ.length := (List.getElem?_eq_some_iff.mp hi).1
  have ce : ∀ a, cR a (ρ.set i (some t')) + t.cnt a = cR a ρ + t'.cnt a := fun a => cR_set hi
  have nd : ∀ a, cR a ρ + (s.cnt a + cH a G.hid) ≤ 1 := R.nd
  have le : ∀ a, t.cnt a ≤ cR a ρ := fun a => cR_get (a := a) hi
  have sub : ∀ a, Own M G (ρ.set i (some t')) a → Own M (G.hide w s) ρ a := fun a z => by
    rcases z with z | z
    · exact .inl z
    · exact .inr (show 0 < cR a ρ + (s.cnt a + cH a G.hid) by have := ce a; have := c a; omega)
  have st : Stay (Own M (G.hide w s) ρ) (Own M G (ρ.set i (some t'))) H H' := ⟨fun a o n e => ⟨fun z => n (sub a z), .inl (by
    rw [ch a (Nat.eq_zero_of_not_pos fun z => n (.inr (show 0 < cR a ρ + (s.cnt a + cH a G.hid) by have := le a; omega)))]; exact e)⟩, kt⟩
  have ow : ∀ a, 0 < t.cnt a → (G.H0 a = none ∨ G.io a) ∧ ¬ M.O a := fun a z => R.own a (show 0 < cR a ρ + (s.cnt a + cH a G.hid) by have := le a; omega)
  refine ⟨fun j u e => ?_, fun a => by have := nd a; have := ce a; have := c a; omega, fun a z => R.own a (show 0 < cR a ρ + (s.cnt a + cH a G.hid) by have := ce a; have := c a; omega), ⟨fun a o n q e => ?_, fun a xs e => kt a xs (R.base.2 a xs e)⟩, M.loc H _ (fun a z => ch a (Nat.eq_zero_of_not_pos fun y => (ow a y).2 z)) R.mi,
    fun q hq => (R.pin q hq).stay st, fun q hq => ?_, by simpa using R.len⟩
  · by_cases hj : j = i
    · subst hj
      rw [List.getElem?_set_self hl] at e
      cases e
      obtain ⟨v, h1, h2⟩ := R.slot j t hi
      exact ⟨v, h1, ta v h2 (R.hid (w, s) List.mem_cons_self)⟩
    · rw [List.getElem?_set_ne (Ne.symm hj)] at e
      obtain ⟨v, h1, h2⟩ := R.slot j u e
      refine ⟨v, h1, h2.stay st fun a z => ch a ?_⟩
      have : t.cnt a + u.cnt a ≤ cR a ρ := cR_two (a := a) (Ne.symm hj) hi e
      have := nd a
      omega
  · have e2 := R.base.1 a o n q e
    by_cases z : 0 < t.cnt a
    · rcases (ow a z).1 with y | y
      · have e : G.H0 a = some o := e
        rw [y] at e; cases e
      · exact absurd y q
    · rw [ch a (Nat.eq_zero_of_not_pos z)]; exact e2
  · refine (R.hid q (List.mem_cons_of_mem _ hq)).stay st fun a z => ch a ?_
    have := cH_mem (a := a) hq
    have := le a
    have := nd a
    omega
/-- nothing in hand -/
theorem Rel.hold0 (R : Rel K M G ρ σ H) : Rel K M (G.hide .non (.fz .non)) ρ σ H := by
  have e : (fun a => Own M G ρ a ∨ 0 < (T.fz .non).cnt a) = Own M G ρ := funext fun a => propext ⟨fun z => z.elim id fun z => absurd z (Nat.lt_irrefl 0), .inl⟩
  exact R.plus (v := .non) (t := .fz .non) (fun _ _ _ e => e) (fun _ _ e => e) R.mi (fun a z => absurd z (Nat.lt_irrefl 0)) (fun a => Nat.zero_le 1) (.fz .non)
theorem own_hold0 {a : Addr} : Own M (G.hide .non (.fz .non)) ρ a ↔ Own M G ρ a := own_hide.trans ⟨fun z => z.elim id fun z => absurd z (Nat.lt_irrefl 0), .inl⟩
/-- a place's object is written -/
theorem Rel.put (R : Rel K M G ρ σ H) {i : Nat} {t : T} {π : List Stp} {p : Addr} {d d' : D} {o : HO} (hi : ρ[i]? = some (some t)) (hp : t.at π = some (.top p d)) (h : Kids K (Own M G ρ) H o d') : Rel K M G (ρ.set i (some (t.put π (.top p d')))) σ (upd H p o) := by
  have c : ∀ a, (t.put π (.top p d')).cnt a = t.cnt a := fun a => by have := T.put_cnt (a := a) (u := .top p d') hp; have e : (T.top p d).cnt a = (T.top p d').cnt a := rfl; omega
  have tp : 0 < t.cnt p := by have := T.at_cnt (a := p) hp; have e : (T.top p d).cnt p = 1 := one_self; omega
  have le : t.cnt p ≤ cR p ρ := cR_get (a := p) hi
  have eO : ∀ a, Own M G (ρ.set i (some (t.put π (.top p d')))) a ↔ Own M (G.hide .non (.fz .non)) ρ a := fun a => by
    rw [own_hold0]
    unfold Own
    have : cR a (ρ.set i (some (t.put π (.top p d')))) + t.cnt a = cR a ρ + (t.put π (.top p d')).cnt a := cR_set hi
    rw [show cR a (ρ.set i (some (t.put π (.top p d')))) = cR a ρ by have := c a; omega]
  have kt : ∀ a xs, H a = some (.tup xs) → upd H p o a = some (.tup xs) := fun a xs e => by
    by_cases q : a = p
    · subst q
      obtain ⟨v, _, hv⟩ := R.slot i t hi
      obtain ⟨u, hu⟩ := hv.focus hp
      cases hu with
      | top h2 k2 =>
        rw [e] at h2; cases h2
        cases d <;> exact k2.elim
    · rw [upd_ne q]; exact e
  refine R.hold0.chg hi (fun a => by rw [c a]; omega) (fun a z => upd_ne fun e => by rw [e] at z; omega) kt fun v hv _ => ?_
  have st : Stay (Own M (G.hide .non (.fz .non)) ρ) (Own M G (ρ.set i (some (t.put π (.top p d'))))) H (upd H p o) := ⟨fun a u n e => ⟨fun z => n ((eO a).mp z), .inl (by
    have q : a ≠ p := fun q => n (own_hold0.mpr (.inr (by rw [q]; omega)))
    rw [upd_ne q]; exact e)⟩, kt⟩
  refine hv.put st hp (fun u hu => ?_) (fun a => by have := R.nd a; have : t.cnt a ≤ cR a ρ := cR_get (a := a) hi; omega) fun a z y => upd_ne fun e => by
    have e1 : (T.top p d).cnt p = 1 := one_self
    rw [e] at y
    omega
  cases hu with
  | top _ _ => exact .top upd_same (h.stay ⟨fun a u n e => st.1 a u (fun z => n (own_hold0.mp z)) e, st.2⟩)
/-- a place's object is let go -/
theorem Rel.freeze (R : Rel K M G ρ σ H) {i : Nat} {t s : T} {π : List Stp} (hi : ρ[i]? = some (some t)) (hp : t.at π = some s) :
    Rel K M G (ρ.set i (some (t.put π (.fz s.val)))) σ H ∧ ∀ {O : Addr → Prop} {v : V}, TAt K O H v s → (∀ a, Own M G ρ a → O a) → (∀ a, O a → Own M G ρ a) → DAt K (Own M G (ρ.set i (some (t.put π (.fz s.val))))) H v s.val := by
  have c : ∀ a, (t.put π (.fz s.val)).cnt a + s.cnt a = t.cnt a := fun a => T.put_cnt (a := a) (u := .fz s.val) hp
  have le : ∀ a, t.cnt a ≤ cR a ρ := fun a => cR_get (a := a) hi
  have ce : ∀ a, cR a (ρ.set i (some (t.put π (.fz s.val)))) + t.cnt a = cR a ρ + (t.put π (.fz s.val)).cnt a := fun a => cR_set hi
  have sub : ∀ a, Own M G (ρ.set i (some (t.put π (.fz s.val)))) a → Own M G ρ a := fun a z => by
    rcases z with z | z
    · exact .inl z
    · exact .inr (by have := ce a; have := c a; omega)
  have out : ∀ a, 0 < s.cnt a → ¬ Own M G (ρ.set i (some (t.put π (.fz s.val)))) a := fun a z y => by
    have := R.nd a; have := ce a; have := c a; have := le a
    rcases y with y | y
    · exact (R.own a (by omega)).2 y
    · omega
  have fr : ∀ {O : Addr → Prop} {v : V}, TAt K O H v s → (∀ a, Own M G ρ a → O a) → DAt K (Own M G (ρ.set i (some (t.put π (.fz s.val))))) H v s.val := fun h hO => h.freeze (stay_sub fun a z => hO a (sub a z)) out
  refine ⟨R.hold0.chg hi (fun a => by have := c a; omega) (fun _ _ => rfl) (fun _ _ e => e) fun v hv _ => ?_, fun h hO _ => fr h hO⟩
  exact hv.put (stay_sub fun a z => own_hold0.mpr (sub a z)) hp (fun u hu => .fz (fr hu fun a z => own_hold0.mpr z)) (fun a => by have := R.nd a; have := le a; omega) fun _ _ _ => rfl
/-- a dict that is not owned is locked -/
theorem Rel.lock (R : Rel K M G ρ σ H) {d : Addr} {od : Obj} {u : HO} (n : ¬ Own M G ρ d) (hd : H d = some u) (hu : dicO u = true) : Rel K M G ρ σ (upd H d (.frz od u)) := by
  have kp : ∀ a o, H a = some o → Kp o (upd H d (.frz od u) a) := fun a o e => by
    by_cases q : a = d
    · subst q
      rw [hd] at e; cases e
      exact .inr ⟨hu, od, upd_same⟩
    · exact .inl (by rw [upd_ne q]; exact e)
  have st : Stay (Own M G ρ) (Own M G ρ) H (upd H d (.frz od u)) := ⟨fun a o n e => ⟨n, kp a o e⟩, fun a xs e => (kp a _ e).eq rfl⟩
  have ea : ∀ a, Own M G ρ a → upd H d (.frz od u) a = H a := fun a z => upd_ne fun q => n (q ▸ z)
  refine ⟨fun i t e => ?_, R.nd, R.own, ⟨fun a o n i e => (R.base.1 a o n i e).trans fun u e => kp a u e, fun a xs e => (kp a _ (R.base.2 a xs e)).eq rfl⟩, M.loc H _ (fun a z => ea a (.inl z)) R.mi, fun q hq => (R.pin q hq).stay st, fun q hq => (R.hid q hq).stay st fun a z => ea a (.inr (by have := cH_mem (a := a) hq; omega)), R.len⟩
  obtain ⟨v, h1, h2⟩ := R.slot i t e
  exact ⟨v, h1, h2.stay st fun a z => ea a (.inr (by have : cO a (some t) ≤ _ := cR_get e; have : t.cnt a ≤ cR a ρ := this; omega))⟩
end
end El

set_option Elab.async false
set_option linter.all false
set_option maxRecDepth 100000
set_option maxHeartbeats 4000000
/-! EB: readings over data: expressions, tests, statements. -/
namespace El
open PySem L2

/-- what an expression gives: a datum, or an own object at a place of a slot, or a new tree -/
inductive Rs where
  | val (d : D) | pth (i : Nat) (π : List Stp) (p : Addr) | new (t : T) | nw (d : D)
/-- what an operation gives: a datum, or a new object -/
inductive Os where
  | val (d : D) | new (d : D)
def Os.rs : Os → Rs
  | .val d => .val d
  | .new d => .nw d
def T.dat : T → Option D
  | .fz d => some d
  | .top _ d => some d
  | _ => none
/-- the tree of a slot -/
def slotT (ρ : Rho) (i : Nat) : Option T := match ρ[i]? with
  | some (some t) => some t
  | _ => none
theorem slotT_of {ρ : Rho} {i : Nat} {t : T} (h : slotT ρ i = some t) : ρ[i]? = some (some t) := by
  unfold slotT at h
  split at h
  · rename_i e; cases h; exact e
  · cases h
theorem slotT_eq {ρ : Rho} {i : Nat} {t : T} (h : ρ[i]? = some (some t)) : slotT ρ i = some t := by unfold slotT; rw [h]
/-- the own object p at a place of a slot -/
def nodeR (ρ : Rho) (i : Nat) (π : List Stp) (p : Addr) : Option T := (slotT ρ i).bind fun t => (t.at π).bind fun s => if s.root = some p then some s else none
def putN (ρ : Rho) (i : Nat) (π : List Stp) (u : T) : Rho := match slotT ρ i with
  | some t => ρ.set i (some (t.put π u))
  | none => ρ
theorem nodeR_of {ρ : Rho} {i : Nat} {π : List Stp} {p : Addr} {s : T} (h : nodeR ρ i π p = some s) : ∃ t, ρ[i]? = some (some t) ∧ t.at π = some s ∧ s.root = some p ∧ ∀ u, putN ρ i π u = ρ.set i (some (t.put π u)) := by
  unfold nodeR at h
  obtain ⟨t, h1, h⟩ := Option.bind_eq_some_iff.mp h
  obtain ⟨s', h2, h⟩ := Option.bind_eq_some_iff.mp h
  split at h
  · rename_i e
    cases h
    exact ⟨t, slotT_of h1, h2, e, fun u => by unfold putN; rw [h1]⟩
  · cases h
def pk (ρ : Rho) (i : Nat) : Option D := (slotT ρ i).bind T.dat
def Rs.get (ρ : Rho) : Rs → Option D
  | .val d => some d
  | .pth i π p => (nodeR ρ i π p).bind T.dat
  | .new t => t.dat
  | .nw d => some d
/-- what is let go -/
def Rs.out (ρ : Rho) : Rs → Option (D × Rho)
  | .val d => some (d, ρ)
  | .new t => some (t.val, ρ)
  | .nw d => some (d, ρ)
  | .pth i π p => (nodeR ρ i π p).map fun s => (s.val, putN ρ i π (.fz s.val))
/-- an exception: its class, its field, what the field holds -/
structure Ex where
  c : Addr
  f : Str
  d : D
def ExAt (K : PySem.W.Frag) (O : Addr → Prop) (H : Hp) (cls : Value) (dd : Option Addr) (e : Ex) : Prop :=
  cls = .ref e.c ∧ ∃ a, dd = some a ∧ DAt K O H (.ref a) (.xd e.f e.d)
abbrev XD := Ex → Rho → Prop
abbrev WE := Rho → XD → (Rs → Rho → Prop) → Prop
abbrev WT := Rho → XD → (Bool → Rho → Prop) → Prop
abbrev WA := Rho → XD → (List Rs → Rho → Prop) → Prop
structure ED where
  nx : Rho → Prop
  rt : Rs → Rho → Prop
  bk : Rho → Prop
  ct : Rho → Prop
abbrev WS := Rho → XD → ED → Prop

/-- r in hand, v being what it tells -/
def Gd.hold (G : Gd) (v : V) : Rs → Gd
  | .val d => G.pin v d
  | .pth _ _ _ => G
  | .new t => G.hide v t
  | .nw d => match v with
    | .ref p => G.hide (.ref p) (.top p d)
    | _ => G
def RsOk (v : V) : Rs → Prop
  | .pth _ _ p => v = .ref p
  | .nw _ => ∃ p, v = .ref p
  | _ => True
def Gd.holds (G : Gd) : List V → List Rs → Gd
  | v :: vs, r :: rs => (G.hold v r).holds vs rs
  | _, _ => G
inductive RsOks : List V → List Rs → Prop
  | nil : RsOks [] []
  | cons {v : V} {vs : List V} {r : Rs} {rs : List Rs} : RsOk v r → RsOks vs rs → RsOks (v :: vs) (r :: rs)
/-- read as data: owned at the top, perhaps -/
def BAt (K : PySem.W.Frag) (O : Addr → Prop) (H : Hp) (v : V) (d : D) : Prop := DAt K O H v d ∨ ∃ p, v = .ref p ∧ O p ∧ Top K O H p d

theorem TAt.root {K : PySem.W.Frag} {O : Addr → Prop} {H : Hp} {v : V} {t : T} {p : Addr} (h : TAt K O H v t) (e : t.root = some p) : v = .ref p := by
  cases h <;> (cases e; try rfl)
section
variable {K : PySem.W.Frag} {M : MC} {G : Gd} {ρ : Rho} {σ : St} {H H' : Hp} {v : V} {r : Rs} {d : D}
theorem TAt.bat {O : Addr → Prop} {t : T} (h : TAt K O H v t) (hO : ∀ a, 0 < t.cnt a → O a) (e : t.dat = some d) : BAt K O H v d := by
  cases h with
  | fz h => cases e; exact .inl h
  | top h k => cases e; exact .inr ⟨_, rfl, hO _ (by show 0 < one _ _; rw [one_self]; exact Nat.one_pos), _, h, k⟩
  | _ => cases e
theorem Rel.node (R : Rel K M G ρ σ H) {i : Nat} {π : List Stp} {p : Addr} {s : T} (h : nodeR ρ i π p = some s) : TAt K (Own M G ρ) H (.ref p) s ∧ ∀ a, 0 < s.cnt a → Own M G ρ a := by
  obtain ⟨t, h1, h2, h3, _⟩ := nodeR_of h
  obtain ⟨w, _, ht⟩ := R.slot i t h1
  obtain ⟨u, hu⟩ := ht.focus h2
  obtain rfl := hu.root h3
  refine ⟨hu, fun a z => .inr ?_⟩
  have := T.at_cnt (a := a) h2
  have : t.cnt a ≤ cR a ρ := cR_get (a := a) h1
  omega
/-- new objects on the way -/
inductive Nw : Hp → Hp → Prop
  | refl {H : Hp} : Nw H H
  | new {H H1 : Hp} {p : Addr} {o : HO} : Nw H H1 → H1 p = none → Nw H (upd H1 p o)
theorem Nw.one {H : Hp} {p : Addr} {o : HO} (h : H p = none) : Nw H (upd H p o) := .new .refl h
theorem Nw.keep {H H' : Hp} (n : Nw H H') : ∀ a o, H a = some o → H' a = some o := by
  induction n with
  | refl => exact fun _ _ e => e
  | new n h ih => exact fun a o e => by rw [upd_ne (ne_of_none (ih a o e) h)]; exact ih a o e
theorem Nw.stay {O : Addr → Prop} {H H' : Hp} (n : Nw H H') : Stay O O H H' := ⟨fun a o z e => ⟨z, .inl (n.keep a o e)⟩, fun a xs e => n.keep a _ e⟩
theorem Rel.nw (R : Rel K M G ρ σ H) (n : Nw H H') : Rel K M G ρ σ H' := by
  induction n with
  | refl => exact R
  | new n h ih => exact ih.new h
theorem Nw.trans {H H1 H2 : Hp} (a : Nw H H1) (b : Nw H1 H2) : Nw H H2 := by
  induction b with
  | refl => exact a
  | new b h ih => exact .new ih h
theorem Nw.back {H H' : Hp} (n : Nw H H') {p : Addr} (h : H' p = none) : H p = none := by
  cases e : H p with
  | none => rfl
  | some o => rw [n.keep p o e] at h; cases h
theorem own_hold {a : Addr} : Own M G ρ a → Own M (G.hold v r) ρ a := by
  cases r with
  | val d => exact id
  | pth i π p => exact id
  | new t => exact fun z => own_hide.mpr (.inl z)
  | nw d => cases v <;> first | exact id | exact fun z => own_hide.mpr (.inl z)
theorem Rel.unhold (R : Rel K M (G.hold v r) ρ σ H) : Rel K M G ρ σ H := by
  cases r with
  | val d => exact (Rel.unpin R).1
  | pth i π p => exact R
  | new t => exact (Rel.unhide R).1
  | nw d => cases v <;> first | exact R | exact (Rel.unhide R).1
/-- v is in hand as r tells -/
def Held (G : Gd) (v : V) : Rs → Prop
  | .val d => (v, d) ∈ G.pins
  | .pth _ _ _ => True
  | .new t => (v, t) ∈ G.hid
  | .nw d => ∃ p, v = .ref p ∧ (v, .top p d) ∈ G.hid
theorem Held.self (h : RsOk v r) : Held (G.hold v r) v r := by
  cases r with
  | val d => exact List.mem_cons_self
  | pth i π p => trivial
  | new t => exact List.mem_cons_self
  | nw d =>
    obtain ⟨p, rfl⟩ := h
    exact ⟨p, rfl, List.mem_cons_self⟩
theorem Held.hold {u : V} {q : Rs} (h : Held G v r) : Held (G.hold u q) v r := by
  cases r with
  | val d => cases q <;> first | exact List.mem_cons_of_mem _ h | exact h | (cases u <;> exact h)
  | pth i π p => trivial
  | new t => cases q <;> first | exact List.mem_cons_of_mem _ h | exact h | (cases u <;> first | exact h | exact List.mem_cons_of_mem _ h)
  | nw d =>
    obtain ⟨p, e, m⟩ := h
    refine ⟨p, e, ?_⟩
    cases q <;> first | exact m | exact List.mem_cons_of_mem _ m | (cases u <;> first | exact m | exact List.mem_cons_of_mem _ m)
theorem Rel.getH (R : Rel K M G ρ σ H) (hh : Held G v r) (h : RsOk v r) (g : r.get ρ = some d) : BAt K (Own M G ρ) H v d := by
  cases r with
  | val d' => cases g; exact .inl (R.pin _ hh)
  | pth i π p =>
    obtain ⟨s, h1, h2⟩ := Option.bind_eq_some_iff.mp g
    obtain ⟨a, b⟩ := R.node h1
    have h : v = .ref p := h
    subst h
    exact a.bat b h2
  | new t => exact (R.hid (v, t) hh).bat (fun a z => .inr (by have := cH_mem (a := a) (show (v, t) ∈ G.hid from hh); omega)) g
  | nw d' =>
    obtain ⟨p, e, m⟩ := hh
    exact (R.hid (v, .top p d') m).bat (fun a z => .inr (by have := cH_mem (a := a) m; omega)) g
theorem Rel.get (R : Rel K M (G.hold v r) ρ σ H) (h : RsOk v r) (g : r.get ρ = some d) : BAt K (Own M (G.hold v r) ρ) H v d := R.getH (Held.self h) h g
theorem Rel.out (R : Rel K M (G.hold v r) ρ σ H) {ρ' : Rho} (h : RsOk v r) (g : r.out ρ = some (d, ρ')) : DAt K (Own M G ρ') H v d ∧ Rel K M G ρ' σ H := by
  cases r with
  | val d' =>
    cases g
    obtain ⟨R, h⟩ := Rel.unpin R
    exact ⟨h, R⟩
  | new t =>
    cases g
    obtain ⟨R, h⟩ := Rel.unhide R
    exact ⟨h, R⟩
  | nw d' =>
    cases g
    obtain ⟨p, rfl⟩ := h
    obtain ⟨R, h⟩ := Rel.unhide R
    exact ⟨h, R⟩
  | pth i π p =>
    obtain ⟨s, h1, h2⟩ := Option.map_eq_some_iff.mp g
    cases h2
    have R : Rel K M G ρ σ H := R
    have h : v = .ref p := h
    subst h
    obtain ⟨a, _⟩ := R.node h1
    obtain ⟨t, e1, e2, e3, e4⟩ := nodeR_of h1
    rw [e4]
    obtain ⟨R2, k⟩ := R.freeze e1 e2
    exact ⟨k a (fun _ z => z) (fun _ z => z), R2⟩
theorem RsOks.length {vs : List V} {rs : List Rs} (h : RsOks vs rs) : vs.length = rs.length := by
  induction h with
  | nil => rfl
  | cons _ _ ih => rw [List.length_cons, List.length_cons, ih]
theorem own_holds {a : Addr} : ∀ {vs : List V} {rs : List Rs} {G : Gd}, Own M G ρ a → Own M (G.holds vs rs) ρ a
  | [], _, _, z => z
  | _ :: _, [], _, z => z
  | v :: vs, r :: rs, G, z => own_holds (vs := vs) (rs := rs) (G := G.hold v r) (own_hold z)
theorem Rel.unholds : ∀ {vs : List V} {rs : List Rs} {G : Gd}, Rel K M (G.holds vs rs) ρ σ H → Rel K M G ρ σ H
  | [], _, _, R => R
  | _ :: _, [], _, R => R
  | _ :: _, _ :: _, _, R => Rel.unhold (Rel.unholds R)
/-- the object at a place is taken into hand; a pointer stays -/
theorem Rel.take (R : Rel K M G ρ σ H) {i : Nat} {π : List Stp} {p : Addr} {t s : T} (hi : ρ[i]? = some (some t)) (hp : t.at π = some s) (hr : s.root = some p) : Rel K M (G.hide (.ref p) s) (ρ.set i (some (t.put π (.fz (.ref p))))) σ H := by
  have hl : i < ρ.length := (List.getElem?_eq_some_iff.mp hi).1
  have c : ∀ a, (t.put π (.fz (.ref p))).cnt a + s.cnt a = t.cnt a := fun a => T.put_cnt (a := a) (u := .fz (.ref p)) hp
  have le : ∀ a, t.cnt a ≤ cR a ρ := fun a => cR_get (a := a) hi
  have ce : ∀ a, cR a (ρ.set i (some (t.put π (.fz (.ref p))))) + t.cnt a = cR a ρ + (t.put π (.fz (.ref p))).cnt a := fun a => cR_set hi
  have eO : Own M (G.hide (.ref p) s) (ρ.set i (some (t.put π (.fz (.ref p))))) = Own M G ρ := funext fun a => propext (by
    show M.O a ∨ 0 < cR a _ + (s.cnt a + cH a G.hid) ↔ M.O a ∨ 0 < cR a ρ + cH a G.hid
    have := ce a; have := c a; have := le a
    rw [show cR a (ρ.set i (some (t.put π (.fz (.ref p))))) + (s.cnt a + cH a G.hid) = cR a ρ + cH a G.hid by omega])
  obtain ⟨w, hw, ht⟩ := R.slot i t hi
  refine ⟨fun j u e => ?_, fun a => ?_, fun a z => ?_, R.base, R.mi, fun q hq => ?_, fun q hq => ?_, by simpa using R.len⟩
  · rw [eO]
    by_cases hj : j = i
    · subst hj
      rw [List.getElem?_set_self hl] at e
      cases e
      refine ⟨w, hw, ht.put ⟨fun a o n e => ⟨n, .inl e⟩, fun _ _ e => e⟩ hp (fun u hu => ?_) (fun a => by have := R.nd a; have := le a; omega) fun _ _ _ => rfl⟩
      obtain rfl := hu.root hr
      exact .fz (.ref p)
    · rw [List.getElem?_set_ne (Ne.symm hj)] at e
      exact R.slot j u e
  · show cR a _ + (s.cnt a + cH a G.hid) ≤ 1
    have := R.nd a; have := ce a; have := c a; have := le a
    omega
  · have z : 0 < cR a (ρ.set i (some (t.put π (.fz (.ref p))))) + (s.cnt a + cH a G.hid) := z
    exact R.own a (by have := ce a; have := c a; have := le a; omega)
  · rw [eO]; exact R.pin q hq
  · rw [eO]
    rcases List.mem_cons.mp hq with e | hq
    · subst e
      obtain ⟨u, hu⟩ := ht.focus hp
      obtain rfl := hu.root hr
      exact hu
    · exact R.hid q hq
end

/-- exceptions, from data to the heap -/
def Lnk (K : PySem.W.Frag) (M : MC) (G : Gd) (E : WX) (X : XD) : Prop := ∀ ρ σ H cls dd e, Rel K M G ρ σ H → ExAt K (Own M G ρ) H cls dd e → X e ρ → E cls dd σ H
theorem Lnk.hold {K : PySem.W.Frag} {M : MC} {G : Gd} {E : WX} {X : XD} {v : V} {r : Rs} (l : Lnk K M G E X) : Lnk K M (G.hold v r) E X := fun ρ σ H cls dd e R h => by
  obtain ⟨h1, a, h2, h4⟩ := h
  exact l ρ σ H cls dd e R.unhold ⟨h1, a, h2, h4.stay (stay_sub fun a z => own_hold z)⟩

/-! ### the readings -/
def tD (K : PySem.W.Frag) (M : MC) (E : WX) (W : WE) : TE := fun σ H Q => ∃ G ρ X Qd, Rel K M G ρ σ H ∧ Lnk K M G E X ∧ W ρ X Qd ∧
  ∀ ρ' v H' r, Rel K M (G.hold v r) ρ' σ H' → RsOk v r → Qd r ρ' → Q v H'
def tDT (K : PySem.W.Frag) (M : MC) (E : WX) (W : WT) : TT := fun σ H Q => ∃ G ρ X Qd, Rel K M G ρ σ H ∧ Lnk K M G E X ∧ W ρ X Qd ∧
  ∀ ρ' b H', Rel K M G ρ' σ H' → Qd b ρ' → Q b H'
def tDA (K : PySem.W.Frag) (M : MC) (E : WX) (W : WA) : TA := fun σ H Q => ∃ G ρ X Qd, Rel K M G ρ σ H ∧ Lnk K M G E X ∧ W ρ X Qd ∧
  ∀ ρ' vs H' rs, Rel K M (G.holds vs rs) ρ' σ H' → RsOks vs rs → Qd rs ρ' → Q vs H'
def tDS (K : PySem.W.Frag) (M : MC) (E : WX) (W : WS) : TS := fun D σ H => ∃ G ρ X Qd, Rel K M G ρ σ H ∧ Lnk K M G E X ∧ W ρ X Qd ∧
  (∀ ρ' σ' H', Rel K M G ρ' σ' H' → Qd.nx ρ' → D.nx σ' H') ∧ (∀ ρ' σ' v H' r, Rel K M (G.hold v r) ρ' σ' H' → RsOk v r → Qd.rt r ρ' → D.rt v H') ∧
  (∀ ρ' σ' H', Rel K M G ρ' σ' H' → Qd.bk ρ' → D.bk σ' H') ∧ (∀ ρ' σ' H', Rel K M G ρ' σ' H' → Qd.ct ρ' → D.ct σ' H')

section
variable {X : Cx} {M : MC} {E : WX}
theorem PE.weak {e : Expr} {t t' : TE} (h : PE X e t) (w : ∀ σ H Q, t' σ H Q → t σ H Q) : PE X e t' := ⟨fun pins s σ H Q I q => h.run pins s σ H Q I (w σ H Q q)⟩
theorem PT.weak {e : Expr} {t t' : TT} (h : PT X e t) (w : ∀ σ H Q, t' σ H Q → t σ H Q) : PT X e t' := ⟨fun pins s σ H Q I q => h.run pins s σ H Q I (w σ H Q q)⟩
theorem PW.weak {e : Expr} {t t' : TT} (h : PW X e t) (w : ∀ σ H Q, t' σ H Q → t σ H Q) : PW X e t' := ⟨fun wh pins s σ H Q I q => h.run wh pins s σ H Q I (w σ H Q q)⟩
theorem PA.weak {e : List Expr} {t t' : TA} (h : PA X e t) (w : ∀ σ H Q, t' σ H Q → t σ H Q) : PA X e t' := ⟨fun p pins s σ H Q I q => h.run p pins s σ H Q I (w σ H Q q)⟩
theorem PS.weak {e : Stmt} {t t' : TS} (h : PS X e t) (w : ∀ D σ H, t' D σ H → t D σ H) : PS X e t' := ⟨fun pins s σ H D I q => h.run pins s σ H D I (w D σ H q)⟩
theorem PSs.weak {e : List Stmt} {t t' : TS} (h : PSs X e t) (w : ∀ D σ H, t' D σ H → t D σ H) : PSs X e t' := ⟨fun pins s σ H D I q => h.run pins s σ H D I (w D σ H q)⟩

/-! ### names, constants -/
/-- what stands in a slot -/
def rsOf (i : Nat) (π : List Stp) : T → Rs
  | .fz d => .val d
  | .top p _ => .pth i π p
  | .lst p _ => .pth i π p
  | .dic p _ _ _ => .pth i π p
  | .ins p _ _ _ _ => .pth i π p
  | .tup p _ => .pth i π p
def wVar (i : Nat) : WE := fun ρ _ Q => ∃ t, slotT ρ i = some t ∧ Q (rsOf i [] t) ρ
def wC (d : D) : WE := fun ρ _ Q => Q (.val d) ρ
theorem Rel.rsOf {K : PySem.W.Frag} {G : Gd} {ρ : Rho} {σ : St} {H : Hp} {v : V} {t : T} (R : Rel K M G ρ σ H) (i : Nat) (π : List Stp) (h : TAt K (Own M G ρ) H v t) : Rel K M (G.hold v (El.rsOf i π t)) ρ σ H ∧ RsOk v (El.rsOf i π t) := by
  cases h with
  | fz h => exact ⟨R.pinned h, trivial⟩
  | _ => exact ⟨R, rfl⟩
theorem pd_var (i : Nat) {x : Str} {pos : Pos} (hN : X.N[i]? = some x := by rfl) (hv : Vis X.env.scope x := by first | exact Or.inl rfl | exact Or.inr (Or.inl rfl) | exact Or.inr (Or.inr rfl)) (hd : (x == ("__debug__" : Str)) = false := by decide)
    (hcd : (x == ("__classdict__" : Str)) = false := by decide) : PE X (.Name x pos) (tD X.K M E (wVar i)) :=
  PE.weak (pe_var hN hv hd hcd) fun σ H Q ⟨G, ρ, Xd, Qd, R, L, ⟨t, g, w⟩, k⟩ => by
    obtain ⟨v, e, h⟩ := R.slot i t (slotT_of g)
    obtain ⟨R2, h2⟩ := R.rsOf i [] h
    exact ⟨v, e, k ρ v H _ R2 h2 w⟩
theorem pd_val {e : Expr} {v : V} {d : D} (h : PE X e (tC v)) (hd : ∀ O H, DAt X.K O H v d) : PE X e (tD X.K M E (wC d)) :=
  PE.weak h fun σ H Q ⟨G, ρ, Xd, Qd, R, L, w, k⟩ => k ρ v H (.val d) (R.pinned (hd _ _)) trivial w
theorem pd_int {i j pos} : PE X (.Constant (.int i) j pos) (tD X.K M E (wC (.int i))) := pd_val pe_int fun _ _ => .int i
theorem pd_bl {b j pos} : PE X (.Constant (.bool b) j pos) (tD X.K M E (wC (.bl b))) := pd_val pe_bl fun _ _ => .bl b
theorem pd_non {j pos} : PE X (.Constant .none j pos) (tD X.K M E (wC .non)) := pd_val pe_non fun _ _ => .non
theorem pd_str {x j pos} : PE X (.Constant (.str x) j pos) (tD X.K M E (wC (.str x))) := pd_val pe_str fun _ _ => .str x

/-! ### operators -/
/-- what an operation gives: a datum, perhaps a new object -/
def ROut (K : PySem.W.Frag) (O : Addr → Prop) (H H' : Hp) (u : V) : Os → Prop
  | .val d => Nw H H' ∧ DAt K O H' u d
  | .new d => ∃ H1 p o, Nw H H1 ∧ H1 p = none ∧ H' = upd H1 p o ∧ u = .ref p ∧ Kids K O H1 o d
theorem ROut.at {K : PySem.W.Frag} {G : Gd} {ρ : Rho} {σ : St} {H H' : Hp} {u : V} {r : Os} {O : Addr → Prop} (R : Rel K M G ρ σ H) (hO : ∀ a, Own M G ρ a → O a) (h : ROut K O H H' u r) : Rel K M (G.hold u r.rs) ρ σ H' ∧ RsOk u r.rs := by
  cases r with
  | val d => exact ⟨(R.nw h.1).pinned (h.2.stay (stay_sub hO)), trivial⟩
  | new d =>
    obtain ⟨H1, p, o, n, hp, rfl, rfl, k⟩ := h
    exact ⟨(R.nw n).hidden hp (k.stay (stay_sub hO)), p, rfl⟩
/-- an operation on values does on data what op says -/
def OpD (K : PySem.W.Frag) (r : R2) (op : D → D → (Os → Prop) → Prop) : Prop := ∀ (O : Addr → Prop) (H : Hp) (v w : V) (d e : D) (Q : VK) (k : Os → Prop), (∀ p, H p = none → ¬ O p) → BAt K O H v d → BAt K O H w e → op d e k →
  (∀ H' u c, ROut K O H H' u c → k c → Q u H') → r v w H Q
def wOp (op : D → D → (Os → Prop) → Prop) (wa wb : WE) : WE := fun ρ X Q => wa ρ X fun ra ρ1 => wb ρ1 X fun rb ρ2 => ∃ d e, ra.get ρ2 = some d ∧ rb.get ρ2 = some e ∧ op d e fun c => Q c.rs ρ2
theorem op_all {K : PySem.W.Frag} {ta tb : TE} {wa wb : WE} {op : D → D → (Os → Prop) → Prop} {r : R2} (hr : OpD K r op) (ha : ta = tD K M E wa) (hb : tb = tD K M E wb) : ∀ σ H Q, tD K M E (wOp op wa wb) σ H Q → tOp r ta tb σ H Q := by
  subst ha hb
  rintro σ H Q ⟨G, ρ, Xd, Qd, R, L, w, k⟩
  refine ⟨G, ρ, Xd, _, R, L, w, fun ρ1 v H1 ra R1 h1 w1 => ?_⟩
  refine ⟨G.hold v ra, ρ1, Xd, _, R1, L.hold, w1, fun ρ2 u H2 rb R2 h2 w2 => ?_⟩
  obtain ⟨d, e, g1, g2, w2⟩ := w2
  have b1 := R2.getH (Held.self h1).hold h1 g1
  refine hr _ H2 v u d e Q _ (fun p hp => R2.fresh hp) b1 (R2.get h2 g2) w2 fun H3 x c hx q => ?_
  obtain ⟨R3, h3⟩ := ROut.at R2.unhold.unhold (fun a z => own_hold (own_hold z)) hx
  exact k ρ2 x H3 _ R3 h3 q
section
variable {a b : Expr} {pos : Pos} {wa wb : WE}
theorem pd_op {op : Operator} {r : R2} {o : D → D → (Os → Prop) → Prop} (ho : OpR X (binaryOp op) r) (hr : OpD X.K r o) (ha : PE X a (tD X.K M E wa)) (hb : PE X b (tD X.K M E wb)) :
    PE X (.BinOp a op b pos) (tD X.K M E (wOp o wa wb)) := PE.weak (pe_op ho ha hb) (op_all hr rfl rfl)
theorem pd_cmp {op : CmpOp} {r : R2} {o : D → D → (Os → Prop) → Prop} (ho : OpR X (compareOp op) r) (hr : OpD X.K r o) (ha : PE X a (tD X.K M E wa)) (hb : PE X b (tD X.K M E wb))
    (hm : behindInMarks op b = false := by first | exact nobehind _ (by decide) (by decide) | rfl) : PE X (.Compare a [op] [b] pos) (tD X.K M E (wOp o wa wb)) := PE.weak (pe_cmpR ho ha hb hm) (op_all hr rfl rfl)
theorem pd_ix {r : R2} {o : D → D → (Os → Prop) → Prop} (ho : IxR X r) (hr : OpD X.K r o) (ha : PE X a (tD X.K M E wa)) (hb : PE X b (tD X.K M E wb)) (hs : PlainIx b := by exact fun _ _ => rfl) :
    PE X (.Subscript a b pos) (tD X.K M E (wOp o wa wb)) := PE.weak (pe_ix ho ha hb hs) (op_all hr rfl rfl)
end
/-- a one-place operation -/
def UnD (K : PySem.W.Frag) (r : V → Hp → VK → Prop) (op : D → (Os → Prop) → Prop) : Prop := ∀ (O : Addr → Prop) (H : Hp) (v : V) (d : D) (Q : VK) (k : Os → Prop), (∀ p, H p = none → ¬ O p) → BAt K O H v d → op d k →
  (∀ H' u c, ROut K O H H' u c → k c → Q u H') → r v H Q
def wUn (op : D → (Os → Prop) → Prop) (wa : WE) : WE := fun ρ X Q => wa ρ X fun ra ρ1 => ∃ d, ra.get ρ1 = some d ∧ op d fun c => Q c.rs ρ1
theorem un_all {K : PySem.W.Frag} {wa : WE} {op : D → (Os → Prop) → Prop} {r : V → Hp → VK → Prop} (hr : UnD K r op) : ∀ σ H Q, tD K M E (wUn op wa) σ H Q → tD K M E wa σ H fun x H1 => r x H1 Q := by
  rintro σ H Q ⟨G, ρ, Xd, Qd, R, L, w, k⟩
  refine ⟨G, ρ, Xd, _, R, L, w, fun ρ1 v H1 ra R1 h1 w1 => ?_⟩
  obtain ⟨d, g, w1⟩ := w1
  refine hr _ H1 v d Q _ (fun p hp => R1.fresh hp) (R1.get h1 g) w1 fun H3 x c hx q => ?_
  obtain ⟨R3, h3⟩ := ROut.at R1.unhold (fun a z => own_hold z) hx
  exact k ρ1 x H3 _ R3 h3 q
theorem pd_un {a : Expr} {pos : Pos} {op : UnaryOp} {wa : WE} {r : V → Hp → VK → Prop} {o : D → (Os → Prop) → Prop} (ho : UnR X (unaryOp op) r) (hr : UnD X.K r o) (ha : PE X a (tD X.K M E wa)) : PE X (.UnaryOp op a pos) (tD X.K M E (wUn o wa)) :=
  PE.weak (pe_un ho ha) (un_all hr)

/-! ### tests -/
def wB (wa : WE) : WT := fun ρ X Q => wa ρ X fun r ρ1 => ∃ b, r.get ρ1 = some (.bl b) ∧ Q b ρ1
theorem BAt.bl {K : PySem.W.Frag} {O : Addr → Prop} {H : Hp} {v : V} {b : Bool} (h : BAt K O H v (.bl b)) : v = .bl b := by
  rcases h with h | ⟨p, e, _, o, _, h⟩
  · cases h; rfl
  · cases o <;> exact h.elim
theorem BAt.int {K : PySem.W.Frag} {O : Addr → Prop} {H : Hp} {v : V} {b : Int} (h : BAt K O H v (.int b)) : v = .int b := by
  rcases h with h | ⟨p, e, _, o, _, h⟩
  · cases h; rfl
  · cases o <;> exact h.elim
theorem BAt.str {K : PySem.W.Frag} {O : Addr → Prop} {H : Hp} {v : V} {b : Str} (h : BAt K O H v (.str b)) : v = .str b := by
  rcases h with h | ⟨p, e, _, o, _, h⟩
  · cases h; rfl
  · cases o <;> exact h.elim
theorem BAt.non {K : PySem.W.Frag} {O : Addr → Prop} {H : Hp} {v : V} (h : BAt K O H v .non) : v = .non := by
  rcases h with h | ⟨p, e, _, o, _, h⟩
  · cases h; rfl
  · cases o <;> exact h.elim
theorem BAt.tup {K : PySem.W.Frag} {O : Addr → Prop} {H : Hp} {v : V} {ds : List D} (h : BAt K O H v (.tup ds)) : DAt K O H v (.tup ds) := by
  rcases h with h | ⟨p, e, _, o, _, h⟩
  · exact h
  · cases o <;> exact h.elim
theorem BAt.lst {K : PySem.W.Frag} {O : Addr → Prop} {H : Hp} {v : V} {ds : List D} (h : BAt K O H v (.lst ds)) : ∃ a xs, v = .ref a ∧ H a = some (.lst xs) ∧ DAll K O H xs ds := by
  rcases h with h | ⟨p, e, _, o, ho, h⟩
  · obtain ⟨a, xs, e, _, h, t⟩ := h.lst'
    exact ⟨a, xs, e, h, t⟩
  · cases o with
    | lst xs => exact ⟨p, xs, e, ho, h⟩
    | _ => exact h.elim
theorem pd_t {e : Expr} {wa : WE} (h : PE X e (tD X.K M E wa)) (he : ∀ whole, isTrue e X.env whole = (do let v ← whole; standAt e.pos; holding [v] (truthy v)) := by intro _; rfl) : PT X e (tDT X.K M E (wB wa)) :=
  PT.weak (pt_val h he) fun σ H Q ⟨G, ρ, Xd, Qd, R, L, w, k⟩ => ⟨G, ρ, Xd, _, R, L, w, fun ρ1 v H1 r R1 h1 ⟨b, g, w1⟩ => ⟨b, (R1.get h1 g).bl, k ρ1 b H1 R1.unhold w1⟩⟩
theorem pd_tcmp {a b : Expr} {pos : Pos} {op : CmpOp} {wa wb : WE} {r : R2} {o : D → D → (Os → Prop) → Prop} (ho : OpR X (compareOp op) r) (hr : OpD X.K r o) (ha : PE X a (tD X.K M E wa)) (hb : PE X b (tD X.K M E wb))
    (hm : behindInMarks op b = false := by first | exact nobehind _ (by decide) (by decide) | rfl) : PT X (.Compare a [op] [b] pos) (tDT X.K M E (wB (wOp o wa wb))) :=
  PT.weak (pt_cmpR ho ha hb hm) fun σ H Q ⟨G, ρ, Xd, Qd, R, L, w, k⟩ => op_all (M := M) (E := E) hr rfl rfl σ H _ ⟨G, ρ, Xd, _, R, L, w, fun ρ1 v H1 r R1 h1 ⟨b, g, w1⟩ => ⟨b, (R1.get h1 g).bl, k ρ1 b H1 R1.unhold w1⟩⟩
def wAnd (t u : WT) : WT := fun ρ X Q => t ρ X fun b ρ1 => if b = true then u ρ1 X Q else Q false ρ1
def wOr (t u : WT) : WT := fun ρ X Q => t ρ X fun b ρ1 => if b = true then Q true ρ1 else u ρ1 X Q
def wNot (t : WT) : WT := fun ρ X Q => t ρ X fun b ρ1 => Q (!b) ρ1
theorem and_all {K : PySem.W.Frag} {t u : WT} : ∀ σ H Q, tDT K M E (wAnd t u) σ H Q → tAnd (tDT K M E t) (tDT K M E u) σ H Q := by
  rintro σ H Q ⟨G, ρ, Xd, Qd, R, L, w, k⟩
  refine ⟨G, ρ, Xd, _, R, L, w, fun ρ1 b H1 R1 w1 => ?_⟩
  cases b with
  | true => exact ⟨G, ρ1, Xd, Qd, R1, L, w1, k⟩
  | false => exact k ρ1 false H1 R1 w1
theorem or_all {K : PySem.W.Frag} {t u : WT} : ∀ σ H Q, tDT K M E (wOr t u) σ H Q → tOr (tDT K M E t) (tDT K M E u) σ H Q := by
  rintro σ H Q ⟨G, ρ, Xd, Qd, R, L, w, k⟩
  refine ⟨G, ρ, Xd, _, R, L, w, fun ρ1 b H1 R1 w1 => ?_⟩
  cases b with
  | true => exact k ρ1 true H1 R1 w1
  | false => exact ⟨G, ρ1, Xd, Qd, R1, L, w1, k⟩
section
variable {a b : Expr} {rest : List Expr} {pos : Pos} {t u : WT}
theorem pd_and1 (ha : PT X a (tDT X.K M E t)) : PW X (.BoolOp .And [a] pos) (tDT X.K M E t) := pw_and1 ha
theorem pd_or1 (ha : PT X a (tDT X.K M E t)) : PW X (.BoolOp .Or [a] pos) (tDT X.K M E t) := pw_or1 ha
theorem pd_and (ha : PT X a (tDT X.K M E t)) (hb : PW X (.BoolOp .And (b :: rest) pos) (tDT X.K M E u)) : PW X (.BoolOp .And (a :: b :: rest) pos) (tDT X.K M E (wAnd t u)) := PW.weak (pw_and ha hb) and_all
theorem pd_or (ha : PT X a (tDT X.K M E t)) (hb : PW X (.BoolOp .Or (b :: rest) pos) (tDT X.K M E u)) : PW X (.BoolOp .Or (a :: b :: rest) pos) (tDT X.K M E (wOr t u)) := PW.weak (pw_or ha hb) or_all
theorem pd_not (ha : PT X a (tDT X.K M E t)) : PT X (.UnaryOp .Not a pos) (tDT X.K M E (wNot t)) :=
  PT.weak (pt_not ha) fun σ H Q ⟨G, ρ, Xd, Qd, R, L, w, k⟩ => ⟨G, ρ, Xd, _, R, L, w, fun ρ1 b H1 R1 w1 => k ρ1 (!b) H1 R1 w1⟩
end
/-! ### and, or, not, if as values -/
def wAndV (wa wb : WE) : WE := fun ρ X Q => wa ρ X fun r ρ1 => ∃ b, r.get ρ1 = some (.bl b) ∧ if b = true then wb ρ1 X Q else Q (.val (.bl false)) ρ1
def wOrV (wa wb : WE) : WE := fun ρ X Q => wa ρ X fun r ρ1 => ∃ b, r.get ρ1 = some (.bl b) ∧ if b = true then Q (.val (.bl true)) ρ1 else wb ρ1 X Q
def wNotV (wa : WE) : WE := fun ρ X Q => wa ρ X fun r ρ1 => ∃ b, r.get ρ1 = some (.bl b) ∧ Q (.val (.bl (!b))) ρ1
def wIf (t : WT) (wa wb : WE) : WE := fun ρ X Q => t ρ X fun b ρ1 => if b = true then wa ρ1 X Q else wb ρ1 X Q
section
variable {a b c : Expr} {rest : List Expr} {pos : Pos} {wa wb : WE} {t : WT}
theorem pd_oneV {op} (h : PE X a (tD X.K M E wa)) : PE X (.BoolOp op [a] pos) (tD X.K M E wa) := pe_one h
theorem pd_andV (ha : PE X a (tD X.K M E wa)) (hb : PE X (.BoolOp .And (b :: rest) pos) (tD X.K M E wb)) : PE X (.BoolOp .And (a :: b :: rest) pos) (tD X.K M E (wAndV wa wb)) :=
  PE.weak (pe_and ha hb) fun σ H Q ⟨G, ρ, Xd, Qd, R, L, w, k⟩ => ⟨G, ρ, Xd, _, R, L, w, fun ρ1 v H1 r R1 h1 ⟨b, g, w1⟩ => ⟨b, (R1.get h1 g).bl, by
    cases b with
    | true => exact ⟨G, ρ1, Xd, Qd, R1.unhold, L, w1, k⟩
    | false => exact k ρ1 _ H1 (.val (.bl false)) (R1.unhold.pinned (.bl false)) trivial w1⟩⟩
theorem pd_orV (ha : PE X a (tD X.K M E wa)) (hb : PE X (.BoolOp .Or (b :: rest) pos) (tD X.K M E wb)) : PE X (.BoolOp .Or (a :: b :: rest) pos) (tD X.K M E (wOrV wa wb)) :=
  PE.weak (pe_or ha hb) fun σ H Q ⟨G, ρ, Xd, Qd, R, L, w, k⟩ => ⟨G, ρ, Xd, _, R, L, w, fun ρ1 v H1 r R1 h1 ⟨b, g, w1⟩ => ⟨b, (R1.get h1 g).bl, by
    cases b with
    | true => exact k ρ1 _ H1 (.val (.bl true)) (R1.unhold.pinned (.bl true)) trivial w1
    | false => exact ⟨G, ρ1, Xd, Qd, R1.unhold, L, w1, k⟩⟩⟩
theorem pd_notV (ha : PE X a (tD X.K M E wa)) : PE X (.UnaryOp .Not a pos) (tD X.K M E (wNotV wa)) :=
  PE.weak (pe_not ha) fun σ H Q ⟨G, ρ, Xd, Qd, R, L, w, k⟩ => ⟨G, ρ, Xd, _, R, L, w, fun ρ1 v H1 r R1 h1 ⟨b, g, w1⟩ => ⟨b, (R1.get h1 g).bl, k ρ1 _ H1 (.val (.bl !b)) (R1.unhold.pinned (.bl _)) trivial w1⟩⟩
theorem pd_if (hc : PT X c (tDT X.K M E t)) (ha : PE X a (tD X.K M E wa)) (hb : PE X b (tD X.K M E wb)) : PE X (.IfExp c a b pos) (tD X.K M E (wIf t wa wb)) :=
  PE.weak (pe_ifExp hc ha hb) fun σ H Q ⟨G, ρ, Xd, Qd, R, L, w, k⟩ => ⟨G, ρ, Xd, _, R, L, w, fun ρ1 b H1 R1 w1 => by
    cases b with
    | true => exact ⟨G, ρ1, Xd, Qd, R1, L, w1, k⟩
    | false => exact ⟨G, ρ1, Xd, Qd, R1, L, w1, k⟩⟩
end

/-! ### lists of expressions -/
def waNil : WA := fun ρ _ Q => Q [] ρ
def waCons (we : WE) (wr : WA) : WA := fun ρ X Q => we ρ X fun r ρ1 => wr ρ1 X fun rs ρ2 => Q (r :: rs) ρ2
theorem pd_anil : PA X [] (tDA X.K M E waNil) := PA.weak pa_nil fun σ H Q ⟨G, ρ, Xd, Qd, R, L, w, k⟩ => k ρ [] H [] R .nil w
theorem pd_acons {e : Expr} {es : List Expr} {we : WE} {wr : WA} (he : PE X e (tD X.K M E we)) (hr : PA X es (tDA X.K M E wr)) (hs : starEach (e :: es) X.env = (false, eval e X.env) :: starEach es X.env := by rfl) :
    PA X (e :: es) (tDA X.K M E (waCons we wr)) := PA.weak (pa_cons he hr hs) fun σ H Q ⟨G, ρ, Xd, Qd, R, L, w, k⟩ => ⟨G, ρ, Xd, _, R, L, w, fun ρ1 v H1 r R1 h1 w1 =>
      ⟨G.hold v r, ρ1, Xd, _, R1, L.hold, w1, fun ρ2 vs H2 rs R2 h2 w2 => k ρ2 (v :: vs) H2 (r :: rs) R2 (.cons h1 h2) w2⟩⟩
/-- all of them let go -/
def lets (ρ : Rho) : List Rs → Option (List D × Rho)
  | [] => some ([], ρ)
  | r :: rs => (lets ρ rs).bind fun p => (r.out p.2).map fun q => (q.1 :: p.1, q.2)
def pinsOf : List V → List D → List (V × D)
  | v :: vs, d :: ds => (v, d) :: pinsOf vs ds
  | _, _ => []
def Gd.pinl (G : Gd) (vs : List V) (ds : List D) : Gd := ⟨G.H0, G.io, pinsOf vs ds ++ G.pins, G.hid⟩
section
variable {K : PySem.W.Frag} {G : Gd} {ρ ρ' : Rho} {σ : St} {H H' : Hp} {v : V} {r : Rs} {vs : List V} {ds : List D}
theorem Rel.pinsub {G' : Gd} (R : Rel K M G ρ σ H) (h0 : G'.H0 = G.H0) (hi : G'.io = G.io) (h1 : ∀ q ∈ G'.pins, q ∈ G.pins) (h2 : G'.hid = G.hid) : Rel K M G' ρ σ H := by
  obtain ⟨H0, io, ps, hd⟩ := G
  obtain ⟨H0', io', ps', hd'⟩ := G'
  cases h0
  cases hi
  cases h2
  exact ⟨R.slot, R.nd, R.own, R.base, R.mi, fun q hq => R.pin q (h1 q hq), R.hid, R.len⟩
theorem mem_pinsOf {K : PySem.W.Frag} {O : Addr → Prop} {H : Hp} : ∀ {vs : List V} {ds : List D}, DAll K O H vs ds → ∀ q ∈ pinsOf vs ds, DAt K O H q.1 q.2
  | _, _, .nil, _, h => nomatch h
  | _, _, .cons a t, q, h => by
    rcases List.mem_cons.mp h with e | h
    · subst e; exact a
    · exact mem_pinsOf t q h
theorem of_pinsOf {K : PySem.W.Frag} {O O' : Addr → Prop} {H H' : Hp} : ∀ {vs : List V} {ds : List D}, DAll K O H vs ds → (∀ q ∈ pinsOf vs ds, DAt K O' H' q.1 q.2) → DAll K O' H' vs ds
  | _, _, .nil, _ => .nil
  | _, _, .cons a t, h => .cons (h _ List.mem_cons_self) (of_pinsOf t fun q m => h q (List.mem_cons_of_mem _ m))
theorem Rel.pinAll (R : Rel K M G ρ σ H) (h : DAll K (Own M G ρ) H vs ds) : Rel K M (G.pinl vs ds) ρ σ H :=
  ⟨R.slot, R.nd, R.own, R.base, R.mi, fun q hq => (List.mem_append.mp hq).elim (mem_pinsOf h q) (R.pin q), R.hid, R.len⟩
theorem Rel.unpinAll {O : Addr → Prop} {H0 : Hp} (R : Rel K M (G.pinl vs ds) ρ σ H) (h : DAll K O H0 vs ds) : Rel K M G ρ σ H ∧ DAll K (Own M G ρ) H vs ds :=
  ⟨R.pinsub rfl rfl (fun q hq => List.mem_append_right _ hq) rfl, of_pinsOf h fun q hq => R.pin q (List.mem_append_left _ hq)⟩
theorem Rel.swap (R : Rel K M ((G.hold v r).pinl vs ds) ρ σ H) : Rel K M ((G.pinl vs ds).hold v r) ρ σ H := by
  cases r with
  | val d =>
    refine R.pinsub rfl rfl (fun q hq => ?_) rfl
    rcases List.mem_cons.mp hq with e | hq
    · exact List.mem_append_right _ (List.mem_cons.mpr (.inl e))
    · rcases List.mem_append.mp hq with hq | hq
      · exact List.mem_append_left _ hq
      · exact List.mem_append_right _ (List.mem_cons_of_mem _ hq)
  | pth i π p => exact R
  | new t => exact R
  | nw d => cases v <;> exact R
theorem Rel.lets : ∀ {rs : List Rs} {vs : List V} {G : Gd} {ρ ρ' : Rho} {ds : List D}, Rel K M (G.holds vs rs) ρ σ H → RsOks vs rs → El.lets ρ rs = some (ds, ρ') →
    DAll K (Own M G ρ') H vs ds ∧ Rel K M G ρ' σ H
  | [], _, G, ρ, _, _, R, .nil, g => by
    cases g
    exact ⟨.nil, R⟩
  | r :: rs, vs0, G, ρ, ρ', ds, R, h0, g => by
    cases h0 with
    | cons h t =>
      rename_i v vs
      unfold El.lets at g
      obtain ⟨⟨ds1, ρ1⟩, g1, g⟩ := Option.bind_eq_some_iff.mp g
      obtain ⟨⟨d2, ρ2⟩, g2, g⟩ := Option.map_eq_some_iff.mp g
      cases g
      obtain ⟨h1, R1⟩ := Rel.lets (G := G.hold v r) R t g1
      obtain ⟨h2, R2⟩ := Rel.out (Rel.swap (R1.pinAll h1)) h g2
      obtain ⟨R3, h3⟩ := R2.unpinAll h1
      exact ⟨.cons h2 h3, R3⟩
end
def wTup (wa : WA) : WE := fun ρ X Q => wa ρ X fun rs ρ1 => rs.length ≤ 1000 ∧ ∃ ds ρ2, lets ρ1 rs = some (ds, ρ2) ∧ Q (.val (.tup ds)) ρ2
def wLst (wa : WA) : WE := fun ρ X Q => wa ρ X fun rs ρ1 => rs.length ≤ 1000 ∧ ∃ ds ρ2, lets ρ1 rs = some (ds, ρ2) ∧ Q (.nw (.lst ds)) ρ2
theorem le1000 {n : Nat} (h : n ≤ 1000) : n ≤ sizeLine := by rw [sizeLine_eq]; omega
theorem pd_tup {es : List Expr} {pos : Pos} {x1} {wa : WA} (h : PA X es (tDA X.K M E wa)) : PE X (.Tuple es x1 pos) (tD X.K M E (wTup wa)) := by
  refine PE.weak (pe_tup h) fun σ H Q ⟨G, ρ, Xd, Qd, R, L, w, k⟩ => ⟨G, ρ, Xd, _, R, L, w, fun ρ1 vs H1 rs R1 h1 ⟨hz, ds, ρ2, g, w1⟩ => ?_⟩
  obtain ⟨hd, R2⟩ := R1.lets h1 g
  refine ⟨by rw [h1.length]; exact le1000 hz, fun p hp => k ρ2 _ _ (.val (.tup ds)) ((R2.new hp).pinned (.tup upd_same (hd.stay (stay_new hp)))) trivial w1⟩
theorem pd_lst {es : List Expr} {pos : Pos} {wa : WA} (h : PA X es (tDA X.K M E wa)) : PE X (.List es pos) (tD X.K M E (wLst wa)) := by
  refine PE.weak (pe_lst h) fun σ H Q ⟨G, ρ, Xd, Qd, R, L, w, k⟩ => ⟨G, ρ, Xd, _, R, L, w, fun ρ1 vs H1 rs R1 h1 ⟨hz, ds, ρ2, g, w1⟩ => ?_⟩
  obtain ⟨hd, R2⟩ := R1.lets h1 g
  refine ⟨by rw [h1.length]; exact le1000 hz, fun p hp => k ρ2 (.ref p) _ (.nw (.lst ds)) (R2.hidden hp hd) ⟨p, rfl⟩ w1⟩
end

/-! ### statements -/
section
variable {X : Cx} {M : MC} {E : WX}
def wsNext : WS := fun ρ _ D => D.nx ρ
def wsSeq (a b : WS) : WS := fun ρ X D => a ρ X { D with nx := fun ρ1 => b ρ1 X D }
theorem pd_nil : PSs X [] (tDS X.K M E wsNext) := PSs.weak pss_nil fun D σ H ⟨G, ρ, Xd, Qd, R, L, w, k, _⟩ => k ρ σ H R w
theorem pd_cons {st : Stmt} {rest : List Stmt} {a b : WS} (h1 : PS X st (tDS X.K M E a)) (h2 : PSs X rest (tDS X.K M E b)) : PSs X (st :: rest) (tDS X.K M E (wsSeq a b)) :=
  PSs.weak (pss_cons h1 h2) fun D σ H ⟨G, ρ, Xd, Qd, R, L, w, k1, k2, k3, k4⟩ => ⟨G, ρ, Xd, _, R, L, w, fun ρ1 σ1 H1 R1 w1 => ⟨G, ρ1, Xd, Qd, R1, L, w1, k1, k2, k3, k4⟩, k2, k3, k4⟩
theorem pd_last {st : Stmt} {a : WS} (h1 : PS X st (tDS X.K M E a)) : PSs X [st] (tDS X.K M E a) := pss_one h1
theorem pd_pass {pos : Pos} : PS X (.Pass pos) (tDS X.K M E wsNext) := PS.weak ps_pass fun D σ H ⟨G, ρ, Xd, Qd, R, L, w, k, _⟩ => k ρ σ H R w
def wsBrk : WS := fun ρ _ D => D.bk ρ
def wsCont : WS := fun ρ _ D => D.ct ρ
theorem pd_break {pos : Pos} : PS X (.Break pos) (tDS X.K M E wsBrk) := PS.weak ps_break fun D σ H ⟨G, ρ, Xd, Qd, R, L, w, _, _, k, _⟩ => k ρ σ H R w
theorem pd_continue {pos : Pos} : PS X (.Continue pos) (tDS X.K M E wsCont) := PS.weak ps_continue fun D σ H ⟨G, ρ, Xd, Qd, R, L, w, _, _, _, k⟩ => k ρ σ H R w
/-- what is told: an own thing goes with it -/
def Rs.giv (ρ : Rho) : Rs → Option (Rs × Rho)
  | .val d => some (.val d, ρ)
  | .new t => some (.new t, ρ)
  | .nw d => some (.nw d, ρ)
  | .pth i π p => (nodeR ρ i π p).map fun s => (.new s, putN ρ i π (.fz (.ref p)))
theorem Rel.give {K : PySem.W.Frag} {G : Gd} {ρ ρ' : Rho} {σ : St} {H : Hp} {v : V} {r r' : Rs} (R : Rel K M (G.hold v r) ρ σ H) (h : RsOk v r) (g : r.giv ρ = some (r', ρ')) : Rel K M (G.hold v r') ρ' σ H ∧ RsOk v r' := by
  cases r with
  | val d => cases g; exact ⟨R, h⟩
  | new t => cases g; exact ⟨R, h⟩
  | nw t => cases g; exact ⟨R, h⟩
  | pth i π p =>
    obtain ⟨s, h1, h2⟩ := Option.map_eq_some_iff.mp g
    cases h2
    have R : Rel K M G ρ σ H := R
    have h : v = .ref p := h
    subst h
    obtain ⟨t, e1, e2, e3, e4⟩ := nodeR_of h1
    rw [e4]
    exact ⟨R.take e1 e2 e3, trivial⟩
def wsRet (we : WE) : WS := fun ρ X D => we ρ X fun r ρ1 => ∃ r' ρ2, r.giv ρ1 = some (r', ρ2) ∧ D.rt r' ρ2
theorem pd_ret {e : Expr} {pos : Pos} {we : WE} (h : PE X e (tD X.K M E we)) : PS X (.Return (some e) pos) (tDS X.K M E (wsRet we)) :=
  PS.weak (ps_ret h) fun D σ H ⟨G, ρ, Xd, Qd, R, L, w, k1, k2, _⟩ => ⟨G, ρ, Xd, _, R, L, w, fun ρ1 v H1 r R1 h1 ⟨r', ρ2, g, w1⟩ => by
    obtain ⟨R2, h2⟩ := R1.give h1 g
    exact k2 ρ2 σ v H1 r' R2 h2 w1⟩
def wsRetN : WS := fun ρ _ D => D.rt (.val .non) ρ
theorem pd_retN {pos : Pos} : PS X (.Return none pos) (tDS X.K M E wsRetN) := PS.weak ps_retN fun D σ H ⟨G, ρ, Xd, Qd, R, L, w, _, k, _⟩ => k ρ σ .non H (.val .non) (R.pinned .non) trivial w
def wsDrop (we : WE) : WS := fun ρ X D => we ρ X fun _ ρ1 => D.nx ρ1
theorem pd_expr {e : Expr} {pos : Pos} {we : WE} (h : PE X e (tD X.K M E we)) (hs : swapsWith e none pos.line X.env = pure false := by rfl) : PS X (.Expr e pos) (tDS X.K M E (wsDrop we)) :=
  PS.weak (ps_expr h hs) fun D σ H ⟨G, ρ, Xd, Qd, R, L, w, k1, _⟩ => ⟨G, ρ, Xd, _, R, L, w, fun ρ1 v H1 r R1 h1 w1 => k1 ρ1 σ H1 R1.unhold w1⟩
def wsIf (t : WT) (a b : WS) : WS := fun ρ X D => t ρ X fun c ρ1 => if c = true then a ρ1 X D else b ρ1 X D
theorem pd_ifS {c : Expr} {p q : List Stmt} {pos : Pos} {t : WT} {a b : WS} (hc : PT X c (tDT X.K M E t)) (ha : PSs X p (tDS X.K M E a)) (hb : PSs X q (tDS X.K M E b)) : PS X (.If c p q pos) (tDS X.K M E (wsIf t a b)) :=
  PS.weak (ps_if hc ha hb) fun D σ H ⟨G, ρ, Xd, Qd, R, L, w, k1, k2, k3, k4⟩ => ⟨G, ρ, Xd, _, R, L, w, fun ρ1 b H1 R1 w1 => by
    cases b with
    | true => exact ⟨G, ρ1, Xd, Qd, R1, L, w1, k1, k2, k3, k4⟩
    | false => exact ⟨G, ρ1, Xd, Qd, R1, L, w1, k1, k2, k3, k4⟩⟩

/-! ### targets -/
/-- no other slots were set -/
def Same (S : List Nat) (σ σ' : St) : Prop := σ'.length = σ.length ∧ ∀ i, i ∉ S → σ'[i]? = σ[i]?
abbrev WG := D → Rho → (Rho → Prop) → Prop
/-- a target; S: the slots that it sets -/
def tDG (K : PySem.W.Frag) (M : MC) (S : List Nat) (g : WG) : TG := fun v σ H Q => ∃ G ρ d Qd, Rel K M G ρ σ H ∧ DAt K (Own M G ρ) H v d ∧ g d ρ Qd ∧ ∀ ρ' σ', Rel K M G ρ' σ' H → Same S σ σ' → Qd ρ' → Q σ' H
abbrev WGs := List D → Rho → (Rho → Prop) → Prop
def tDGs (K : PySem.W.Frag) (M : MC) (S : List Nat) (g : WGs) : TGs := fun vs σ H Q => ∃ G ρ ds Qd, Rel K M G ρ σ H ∧ DAll K (Own M G ρ) H vs ds ∧ g ds ρ Qd ∧ ∀ ρ' σ', Rel K M G ρ' σ' H → Same S σ σ' → Qd ρ' → Q σ' H
def wgName (i : Nat) : WG := fun d ρ Q => Q (ρ.set i (some (.fz d)))
def wgNil : WGs := fun ds ρ Q => ds = [] ∧ Q ρ
def wgCons (g : WG) (gs : WGs) : WGs := fun ds ρ Q => ∃ d r, ds = d :: r ∧ g d ρ fun ρ1 => gs r ρ1 Q
def wgTup (n : Nat) (gs : WGs) : WG := fun d ρ Q => ∃ ds, d = .tup ds ∧ ds.length = n ∧ gs ds ρ Q
theorem PG.weak {e : Expr} {t t' : TG} (h : PG X e t) (w : ∀ v σ H Q, t' v σ H Q → t v σ H Q) : PG X e t' := ⟨fun pins s σ H x u Q I r q => h.run pins s σ H x u Q I r (w _ _ _ _ q)⟩
theorem PGs.weak {e : List Expr} {t t' : TGs} (h : PGs X e t) (w : ∀ v σ H Q, t' v σ H Q → t v σ H Q) : PGs X e t' := ⟨fun pins s σ H xs us Q I r q => h.run pins s σ H xs us Q I r (w _ _ _ _ q)⟩
theorem pd_gname {x : Str} {pos : Pos} (i : Nat) (hN : X.N.Nodup) (hi : X.N[i]? = some x := by rfl) (hx : Loc X.env.scope x := by first | exact Or.inl rfl | exact Or.inr rfl) (hf : X.fn x = true ∨ X.env.scope.names.lookup x = some .local := by first | exact .inl rfl | exact .inr rfl) :
    PG X (.Name x pos) (tDG X.K M [i] (wgName i)) := PG.weak (pg_name hN hi hx hf) fun v σ H Q ⟨G, ρ, d, Qd, R, hd, w, k⟩ => k _ _ (R.set hd) ⟨List.length_set .., fun j hj => List.getElem?_set_ne fun e => hj (List.mem_singleton.mpr e.symm)⟩ w
theorem pd_gnil : PGs X [] (tDGs X.K M [] wgNil) := PGs.weak pgs_nil fun vs σ H Q ⟨G, ρ, ds, Qd, R, hd, ⟨e, w⟩, k⟩ => by
  subst e
  cases hd
  exact ⟨rfl, k ρ σ R ⟨rfl, fun _ _ => rfl⟩ w⟩
theorem pd_gcons {e : Expr} {es : List Expr} {S T : List Nat} {g : WG} {gs : WGs} (h1 : PG X e (tDG X.K M S g)) (h2 : PGs X es (tDGs X.K M T gs)) (hs : (assignEach (e :: es) X.env).map (·.2) = assign e X.env :: (assignEach es X.env).map (·.2) := by rfl) :
    PGs X (e :: es) (tDGs X.K M (S ++ T) (wgCons g gs)) := by
  refine PGs.weak (pgs_cons h1 h2 hs) fun vs σ H Q ⟨G, ρ, ds, Qd, R, hd, ⟨d, r, e, w⟩, k⟩ => ?_
  subst e
  cases hd with
  | cons a t =>
    refine ⟨_, _, rfl, G.pinl _ r, ρ, d, _, R.pinAll t, a, w, fun ρ1 σ1 R1 s1 w1 => ?_⟩
    obtain ⟨R2, t2⟩ := R1.unpinAll t
    exact ⟨G, ρ1, r, Qd, R2, t2, w1, fun ρ2 σ2 R3 s2 w2 => k ρ2 σ2 R3 ⟨s2.1.trans s1.1, fun i hi => (s2.2 i fun z => hi (List.mem_append_right _ z)).trans (s1.2 i fun z => hi (List.mem_append_left _ z))⟩ w2⟩
theorem pd_gtup {es : List Expr} {k : Nat} {pos : Pos} {S : List Nat} {gs : WGs} (n : Nat) (hc : X.calm = true) (h : PGs X es (tDGs X.K M S gs)) (hn : (assignEach es X.env).length = n := by rfl) (hst : (assignEach es X.env).findIdx? (·.1) = none := by rfl) :
    PG X (.Tuple es k pos) (tDG X.K M S (wgTup n gs)) := by
  refine PG.weak (pg_tup hc h hn hst) fun v σ H Q ⟨G, ρ, d, Qd, R, hd, ⟨ds, e, hl, w⟩, k⟩ => ?_
  subst e
  obtain ⟨a, xs, rfl, hq, t⟩ := hd.sqT
  exact ⟨a, xs, rfl, hq, t.length.trans hl, G, ρ, ds, Qd, R, t, w, k⟩
/-- name = e -/
def wsSet (i : Nat) (we : WE) : WS := fun ρ X D => we ρ X fun r ρ1 => match r with
  | .new t => D.nx (ρ1.set i (some t))
  | .nw d => ∀ p, D.nx (ρ1.set i (some (.top p d)))
  | .val d => D.nx (ρ1.set i (some (.fz d)))
  | .pth j π p => ∃ d ρ2, Rs.out ρ1 (.pth j π p) = some (d, ρ2) ∧ D.nx (ρ2.set i (some (.fz d)))
theorem pd_set {x : Str} {e : Expr} {pos pos' : Pos} {we : WE} (i : Nat) (hN : X.N.Nodup) (he : PE X e (tD X.K M E we)) (hi : X.N[i]? = some x := by rfl) (hx : Loc X.env.scope x := by first | exact Or.inl rfl | exact Or.inr rfl)
    (hs : swapsWith e (some (.Name x pos')) pos.line X.env = pure false := by rfl) (hf : X.fn x = true ∨ X.env.scope.names.lookup x = some .local := by first | exact .inl rfl | exact .inr rfl) : PS X (.Assign [.Name x pos'] e pos) (tDS X.K M E (wsSet i we)) :=
  PS.weak (ps_set hN hi hx he hs hf) fun D σ H ⟨G, ρ, Xd, Qd, R, L, w, k1, _⟩ => ⟨G, ρ, Xd, _, R, L, w, fun ρ1 v H1 r R1 h1 w1 => by
    cases r with
    | val d =>
      obtain ⟨R2, hd⟩ := Rel.unpin R1
      exact k1 _ _ _ (R2.set hd) w1
    | new t => exact k1 _ _ _ (Rel.setT R1 i) w1
    | nw d =>
      obtain ⟨p, rfl⟩ := h1
      exact k1 _ _ _ (Rel.setT R1 i) (w1 p)
    | pth j π p =>
      obtain ⟨d, ρ2, g, w1⟩ := w1
      obtain ⟨hd, R2⟩ := R1.out h1 g
      exact k1 _ _ _ (R2.set hd) w1⟩
/-- target = e -/
def wsAsg (we : WE) (g : WG) : WS := fun ρ X D => we ρ X fun r ρ1 => ∃ d ρ2, r.out ρ1 = some (d, ρ2) ∧ g d ρ2 D.nx
theorem pd_asg {tg e : Expr} {pos : Pos} {we : WE} {S : List Nat} {g : WG} (he : PE X e (tD X.K M E we)) (hg : PG X tg (tDG X.K M S g)) (hs : swapsWithSole [tg] e pos.line X.env = pure false := by rfl) (hw : swappedStores [tg] e X.env = pure none := by rfl)
    (h1 : (assignEach [tg] X.env).map (·.2) = [assign tg X.env] := by rfl) : PS X (.Assign [tg] e pos) (tDS X.K M E (wsAsg we g)) :=
  PS.weak (ps_asg he hg hs hw h1) fun D σ H ⟨G, ρ, Xd, Qd, R, L, w, k1, _⟩ => ⟨G, ρ, Xd, _, R, L, w, fun ρ1 v H1 r R1 h1 ⟨d, ρ2, gd, w1⟩ => by
    obtain ⟨hd, R2⟩ := R1.out h1 gd
    exact ⟨G, ρ2, d, _, R2, hd, w1, fun ρ3 σ3 R3 _ w3 => k1 ρ3 σ3 H1 R3 w3⟩⟩
end
end El

set_option Elab.async false
set_option linter.all false
set_option maxRecDepth 100000
set_option maxHeartbeats 4000000
/-! EC: operations on data. -/
namespace El
open PySem L2

section
variable {K : PySem.W.Frag} {O : Addr → Prop} {H : Hp} {v w : V} {d e : D}
theorem out_v {u : V} {c : D} (h : DAt K O H u c) : ROut K O H H u (.val c) := ⟨.refl, h⟩
theorem out_t {p : Addr} {xs : List V} {ds : List D} (hp : H p = none) (nO : ¬ O p) (h : DAll K O H xs ds) : ROut K O H (upd H p (.tup xs)) (.ref p) (.val (.tup ds)) := ⟨.one hp, .tup upd_same (h.stay (stay_new hp))⟩
theorem out_l {p : Addr} {xs : List V} {ds : List D} (hp : H p = none) (h : DAll K O H xs ds) : ROut K O H (upd H p (.lst xs)) (.ref p) (.new (.lst ds)) := ⟨H, p, _, .refl, hp, rfl, rfl, h⟩
/-- read as a list -/
theorem BAt.seqL {ds : List D} (h : BAt K O H v (.lst ds)) : ∃ a xs, v = .ref a ∧ SqL K H a xs ∧ DAll K O H xs ds := by
  obtain ⟨a, xs, e, h, t⟩ := h.lst
  exact ⟨a, xs, e, SqL.of h, t⟩
theorem BAt.seqF {ds : List D} (h : BAt K O H v (.fls ds)) : ∃ a xs, v = .ref a ∧ SqL K H a xs ∧ DAll K O H xs ds := by
  rcases h with h | ⟨p, e, _, o, ho, h⟩
  · exact h.fls'
  · cases o <;> exact h.elim
theorem BAt.seqT {ds : List D} (h : BAt K O H v (.tup ds)) : ∃ a xs, v = .ref a ∧ SqT K H a xs ∧ DAll K O H xs ds := h.tup.sqT
theorem BAt.val {d : D} (h : BAt K O H v d) (hs : match d with | .lst _ => False | .dic _ _ _ => False | _ => True) : DAt K O H v d := by
  rcases h with h | ⟨p, e, _, o, ho, h⟩
  · exact h
  · cases o <;> cases d <;> first | exact h.elim | exact hs.elim
end

/-! ### sums, products -/
theorem BAt.seqK {K : PySem.W.Frag} {O : Addr → Prop} {H : Hp} {v : V} {ds : List D} (h : BAt K O H v (.kt ds)) : ∃ a xs, v = .ref a ∧ SqT K H a xs ∧ DAll K O H xs ds := (h.val trivial).sqK
def oAdd (d e : D) (k : Os → Prop) : Prop := match d, e with
  | .int i, .int j => k (.val (.int (i + j)))
  | .str x, .str y => x.length + y.length ≤ 16777216 ∧ k (.val (.str (x ++ y)))
  | .lst xs, .lst ys => xs.length + ys.length ≤ 16777216 ∧ k (.new (.lst (xs ++ ys)))
  | .tup xs, .tup ys => xs.length + ys.length ≤ 16777216 ∧ k (.val (.tup (xs ++ ys)))
  | _, _ => False
def rAddA (K : PySem.W.Frag) : R2 := fun x y H Q => (rI0 (fun i j => .int (i + j)) x y H Q ∨ (∃ i j, x = .str i ∧ y = .str j ∧ i.length + j.length ≤ sizeLine ∧ Q (.str (i ++ j)) H)) ∨ (rCat x y H Q ∨ rCatA K x y H Q)
theorem op_addA {X : Cx} : OpR X (binaryOp .Add) (rAddA X.K) := (op_add.or op_add_str).or (op_cat.or op_catA)
theorem od_add {K : PySem.W.Frag} : OpD K (rAddA K) oAdd := by
  intro O H v w d e Q k hf hv hw ho post
  cases d with
  | int i => cases e with
    | int j =>
      rw [hv.int, hw.int]
      exact .inl (.inl ⟨i, j, rfl, rfl, post _ _ _ (out_v (.int _)) ho⟩)
    | _ => exact ho.elim
  | str x => cases e with
    | str y =>
      rw [hv.str, hw.str]
      exact .inl (.inr ⟨x, y, rfl, rfl, by rw [sizeLine_eq]; exact ho.1, post _ _ _ (out_v (.str _)) ho.2⟩)
    | _ => exact ho.elim
  | lst xs => cases e with
    | lst ys =>
      obtain ⟨a, vs, rfl, h1, t1⟩ := hv.lst
      obtain ⟨b, ws, rfl, h2, t2⟩ := hw.lst
      exact .inr (.inl ⟨a, b, vs, ws, rfl, rfl, h1, h2, by rw [t1.length, t2.length, sizeLine_eq]; exact ho.1, fun p hp => post _ _ _ (out_l hp (t1.append t2)) ho.2⟩)
    | _ => exact ho.elim
  | tup xs => cases e with
    | tup ys =>
      obtain ⟨a, vs, rfl, h1, t1⟩ := hv.seqT
      obtain ⟨b, ws, rfl, h2, t2⟩ := hw.seqT
      refine .inr (.inr ⟨a, b, vs, ws, rfl, rfl, h1, h2, by rw [t1.length, t2.length, sizeLine_eq]; exact ho.1, fun z => ?_, fun _ z => ?_, fun _ _ p hp => post _ _ _ (out_t hp (hf p hp) (t1.append t2)) ho.2⟩)
      · subst z
        cases t1
        exact post _ _ _ (out_v hw.tup) ho.2
      · subst z
        cases t2
        exact post _ _ _ (out_v (by rw [List.append_nil]; exact hv.tup)) ho.2
    | _ => exact ho.elim
  | _ => exact ho.elim
def oInt2 (c : Int → Int → Prop) (f : Int → Int → Int) (d e : D) (k : Os → Prop) : Prop := match d, e with
  | .int i, .int j => c i j ∧ k (.val (.int (f i j)))
  | _, _ => False
theorem od_int2 {K : PySem.W.Frag} {c : Int → Int → Prop} {f : Int → Int → Int} {r : R2} (hr : ∀ i j H Q, c i j → Q (.int (f i j)) H → r (.int i) (.int j) H Q) : OpD K r (oInt2 c f) := by
  intro O H v w d e Q k hf hv hw ho post
  cases d with
  | int i => cases e with
    | int j =>
      rw [hv.int, hw.int]
      exact hr i j H Q ho.1 (post _ _ _ (out_v (.int _)) ho.2)
    | _ => exact ho.elim
  | _ => exact ho.elim
def cTrue (_ _ : Int) : Prop := True
abbrev oSub := oInt2 cTrue fun i j => i - j
theorem od_sub {K : PySem.W.Frag} : OpD K (rI0 fun i j => .int (i - j)) oSub := od_int2 fun i j H Q _ q => ⟨i, j, rfl, rfl, q⟩
/-- one factor within 2 ^ 64, or both of less than a million bits -/
def cMul (i j : Int) : Prop := CMul i j ∨ CMulW i j
def oMul (d e : D) (k : Os → Prop) : Prop := match d, e with
  | .int i, .int j => cMul i j ∧ k (.val (.int (i * j)))
  | .lst xs, .int j => (-1000000 ≤ j ∧ j ≤ 1000000) ∧ xs.length * j.toNat ≤ 16777216 ∧ k (.new (.lst (List.replicate j.toNat xs).flatten))
  | .tup xs, .int j => xs ≠ [] ∧ (2 ≤ j ∧ j ≤ 1000) ∧ xs.length ≤ 1000 ∧ k (.val (.tup (List.replicate j.toNat xs).flatten))
  | _, _ => False
def rMulA (K : PySem.W.Frag) : R2 := fun x y H Q => (rI CMul (fun i j => .int (i * j)) x y H Q ∨ rI CMulW (fun i j => .int (i * j)) x y H Q) ∨ (rRep x y H Q ∨ rRepT K x y H Q)
theorem op_mulA {X : Cx} : OpR X (binaryOp .Mult) (rMulA X.K) := (op_mul.or op_mulW).or (op_rep.or op_repT)
theorem od_mul {K : PySem.W.Frag} : OpD K (rMulA K) oMul := by
  intro O H v w d e Q k hf hv hw ho post
  cases d with
  | int i => cases e with
    | int j =>
      rw [hv.int, hw.int]
      have q := post _ _ _ (out_v (.int _)) ho.2
      rcases ho.1 with c | c
      · exact .inl (.inl ⟨i, j, rfl, rfl, c, q⟩)
      · exact .inl (.inr ⟨i, j, rfl, rfl, c, q⟩)
    | _ => exact ho.elim
  | lst xs => cases e with
    | int j =>
      obtain ⟨a, vs, rfl, h1, t1⟩ := hv.lst
      rw [hw.int]
      exact .inr (.inl ⟨a, j, vs, rfl, rfl, h1, by have := ho.1.1; omega, by have := ho.1.2; omega, by rw [t1.length, sizeLine_eq]; exact ho.2.1, fun p hp => post _ _ _ (out_l hp (t1.rep _)) ho.2.2⟩)
    | _ => exact ho.elim
  | tup xs => cases e with
    | int j =>
      obtain ⟨a, vs, rfl, h1, t1⟩ := hv.seqT
      rw [hw.int]
      exact .inr (.inr ⟨a, j, vs, rfl, rfl, h1, fun z => ho.1 (by subst z; cases t1; rfl), ho.2.1.1, ho.2.1.2, by rw [t1.length]; exact ho.2.2.1, fun p hp => post _ _ _ (out_t hp (hf p hp) (t1.rep _)) ho.2.2.2⟩)
    | _ => exact ho.elim
  | _ => exact ho.elim
/-- // by a positive divisor -/
def cDiv (_ j : Int) : Prop := 0 < j ∧ j.natAbs.log2 < 9000
abbrev oFdiv := oInt2 cDiv fun i j => i / j
theorem od_fdiv {K : PySem.W.Frag} : OpD K (rI CDivW fun i j => .int (i / j)) oFdiv := od_int2 fun i j H Q c q => ⟨i, j, rfl, rfl, c, q⟩
def cPos (_ j : Int) : Prop := 0 < j
abbrev oMod := oInt2 cPos fun i j => i % j
theorem od_mod {K : PySem.W.Frag} : OpD K (rI (fun _ j => 0 < j) fun i j => .int (i % j)) oMod := od_int2 fun i j H Q c q => ⟨i, j, rfl, rfl, c, q⟩
abbrev oPow := oInt2 CPow fun i j => i ^ j.toNat
theorem od_pow {K : PySem.W.Frag} : OpD K (rI CPow fun i j => .int (i ^ j.toNat)) oPow := od_int2 fun i j H Q c q => ⟨i, j, rfl, rfl, c, q⟩
def oNeg (d : D) (k : Os → Prop) : Prop := match d with
  | .int i => k (.val (.int (-i)))
  | _ => False
theorem ud_neg {K : PySem.W.Frag} : UnD K (rU fun i => .int (-i)) oNeg := by
  intro O H v d Q k hf hv ho post
  cases d with
  | int i => rw [hv.int]; exact ⟨i, rfl, post _ _ _ (out_v (.int _)) ho⟩
  | _ => exact ho.elim

/-! ### comparisons -/
def oCmp (f : Int → Int → Bool) (g : Str → Str → Bool) (d e : D) (k : Os → Prop) : Prop := match d, e with
  | .int i, .int j => k (.val (.bl (f i j)))
  | .str x, .str y => k (.val (.bl (g x y)))
  | _, _ => False
theorem od_cmp {K : PySem.W.Frag} {f : Int → Int → Bool} {g : Str → Str → Bool} : OpD K (fun x y H Q => rI0 (fun i j => .bl (f i j)) x y H Q ∨ ∃ i j, x = .str i ∧ y = .str j ∧ Q (.bl (g i j)) H) (oCmp f g) := by
  intro O H v w d e Q k hf hv hw ho post
  cases d with
  | int i => cases e with
    | int j => rw [hv.int, hw.int]; exact .inl ⟨i, j, rfl, rfl, post _ _ _ (out_v (.bl _)) ho⟩
    | _ => exact ho.elim
  | str i => cases e with
    | str j => rw [hv.str, hw.str]; exact .inr ⟨i, j, rfl, rfl, post _ _ _ (out_v (.bl _)) ho⟩
    | _ => exact ho.elim
  | _ => exact ho.elim
abbrev oLt := oCmp (fun i j => decide (i < j)) fun x y => decide (x.cps.toList < y.cps.toList)
abbrev oLe := oCmp (fun i j => decide (i ≤ j)) fun x y => !decide (y.cps.toList < x.cps.toList)
abbrev oGt := oCmp (fun i j => decide (j < i)) fun x y => decide (y.cps.toList < x.cps.toList)
abbrev oGe := oCmp (fun i j => decide (j ≤ i)) fun x y => !decide (x.cps.toList < y.cps.toList)
section
variable {X : Cx} {M : MC} {E : WX} {a b : Expr} {pos : Pos} {wa wb : WE}
theorem pd_lt (ha : PE X a (tD X.K M E wa)) (hb : PE X b (tD X.K M E wb)) : PE X (.Compare a [.Lt] [b] pos) (tD X.K M E (wOp oLt wa wb)) := pd_cmp (op_lt.or op_lt_str) od_cmp ha hb
theorem pd_le (ha : PE X a (tD X.K M E wa)) (hb : PE X b (tD X.K M E wb)) : PE X (.Compare a [.LtE] [b] pos) (tD X.K M E (wOp oLe wa wb)) := pd_cmp (op_le.or op_le_str) od_cmp ha hb
theorem pd_gt (ha : PE X a (tD X.K M E wa)) (hb : PE X b (tD X.K M E wb)) : PE X (.Compare a [.Gt] [b] pos) (tD X.K M E (wOp oGt wa wb)) := pd_cmp (op_gt.or op_gt_str) od_cmp ha hb
theorem pd_ge (ha : PE X a (tD X.K M E wa)) (hb : PE X b (tD X.K M E wb)) : PE X (.Compare a [.GtE] [b] pos) (tD X.K M E (wOp oGe wa wb)) := pd_cmp (op_ge.or op_ge_str) od_cmp ha hb
theorem pd_add (ha : PE X a (tD X.K M E wa)) (hb : PE X b (tD X.K M E wb)) : PE X (.BinOp a .Add b pos) (tD X.K M E (wOp oAdd wa wb)) := pd_op op_addA od_add ha hb
theorem pd_sub (ha : PE X a (tD X.K M E wa)) (hb : PE X b (tD X.K M E wb)) : PE X (.BinOp a .Sub b pos) (tD X.K M E (wOp oSub wa wb)) := pd_op op_sub od_sub ha hb
theorem pd_mul (ha : PE X a (tD X.K M E wa)) (hb : PE X b (tD X.K M E wb)) : PE X (.BinOp a .Mult b pos) (tD X.K M E (wOp oMul wa wb)) := pd_op op_mulA od_mul ha hb
theorem pd_fdiv (ha : PE X a (tD X.K M E wa)) (hb : PE X b (tD X.K M E wb)) : PE X (.BinOp a .FloorDiv b pos) (tD X.K M E (wOp oFdiv wa wb)) := pd_op op_fdivW od_fdiv ha hb
theorem pd_mod (ha : PE X a (tD X.K M E wa)) (hb : PE X b (tD X.K M E wb)) : PE X (.BinOp a .Mod b pos) (tD X.K M E (wOp oMod wa wb)) := pd_op op_mod od_mod ha hb
theorem pd_pow (ha : PE X a (tD X.K M E wa)) (hb : PE X b (tD X.K M E wb)) : PE X (.BinOp a .Pow b pos) (tD X.K M E (wOp oPow wa wb)) := pd_op op_pow od_pow ha hb
theorem pd_neg (ha : PE X a (tD X.K M E wa)) : PE X (.UnaryOp .USub a pos) (tD X.K M E (wUn oNeg wa)) := pd_un un_neg ud_neg ha
end

/-! ### == at any depth -/
theorem dp_keys {K : PySem.W.Frag} {H : Hp} : ∀ ks : List Key, DpAll K H (ks.map kV) (ks.map keyPy)
  | [] => .nil
  | .inl i :: ks => .cons (.int i) (dp_keys ks)
  | .inr x :: ks => .cons (.str x) (dp_keys ks)
mutual
theorem DAt.dp {K : PySem.W.Frag} {O : Addr → Prop} {H : Hp} : ∀ {v : V} {d : D}, DAt K O H v d → d.py.canLay0 = true → Dp K H v d.py
  | _, _, .non, _ => .non
  | _, _, .bl b, _ => .bl b
  | _, _, .int i, _ => .int i
  | _, _, .str x, _ => .str x
  | _, _, .ref a, h => by simp [D.py, PyData.canLay0] at h
  | _, _, .ty n, h => by simp [D.py, PyData.canLay0] at h
  | _, _, .lk _ _, h => by simp [D.py, PyData.canLay0] at h
  | _, _, .xd _ _ _, h => by simp [D.py, PyData.canLay0] at h
  | _, _, .exc _ _ _, h => by simp [D.py, PyData.canLay0] at h
  | _, _, .lst n e t, h => .lst (SqL.of e) (DAll.dp t (by simpa [D.py, PyData.canLay0] using h))
  | _, _, .fls e t, h => .lst (by
      rcases e with ⟨n, o, e⟩ | e
      · exact .inl (.inr ⟨o, e⟩)
      · exact SqL.any e) (DAll.dp t (by simpa [D.py, PyData.canLay0] using h))
  | _, _, .tup e t, h => .tup (SqT.of e) (DAll.dp t (by simpa [D.py, PyData.canLay0] using h))
  | _, _, .kt e t, h => .tup (by
      rcases e with (e | ⟨o, e⟩) | e
      · cases e
      · cases e
      · exact .inr e) (DAll.dp t (by simpa [D.py, PyData.canLay0] using h))
  | _, _, .dk n e t, h => by simp [D.py, PyData.canLay0] at h
  | _, _, .dt n e t, h => by simp [D.py, PyData.canLay0] at h
theorem DAll.dp {K : PySem.W.Frag} {O : Addr → Prop} {H : Hp} : ∀ {vs : List V} {ds : List D}, DAll K O H vs ds → PyData.canLayAll0 (D.pys ds) = true → DpAll K H vs (D.pys ds)
  | _, _, .nil, _ => .nil
  | _, _, .cons a t, h => by
    simp only [D.pys, PyData.canLayAll0, Bool.and_eq_true] at h
    exact .cons (DAt.dp a h.1) (DAll.dp t h.2)
end
theorem BAt.dp {K : PySem.W.Frag} {O : Addr → Prop} {H : Hp} {v : V} {d : D} (h : BAt K O H v d) (hl : d.py.canLay0 = true) : Dp K H v d.py := by
  cases d with
  | lst ds =>
    obtain ⟨a, xs, rfl, e, t⟩ := h.lst
    exact .lst (SqL.of e) (t.dp (by simpa [D.py, PyData.canLay0] using hl))
  | dic m ks ds => simp [D.py, PyData.canLay0] at hl
  | _ => exact (h.val trivial).dp hl
/-- what == tells -/
def oEqB (f : Bool → Bool) (d e : D) (k : Os → Prop) : Prop := match d, e with
  | .int i, .int j => k (.val (.bl (f (decide (i = j)))))
  | .str x, .str y => k (.val (.bl (f (decide (x = y)))))
  | .bl x, .bl y => k (.val (.bl (f (decide (x = y)))))
  | .non, .non => k (.val (.bl (f true)))
  | .non, .int _ => k (.val (.bl (f false)))
  | .non, .str _ => k (.val (.bl (f false)))
  | .non, .bl _ => k (.val (.bl (f false)))
  | .int _, .non => k (.val (.bl (f false)))
  | .int _, .str _ => k (.val (.bl (f false)))
  | .str _, .non => k (.val (.bl (f false)))
  | .str _, .int _ => k (.val (.bl (f false)))
  | .str _, .bl _ => k (.val (.bl (f false)))
  | .bl _, .non => k (.val (.bl (f false)))
  | .bl _, .str _ => k (.val (.bl (f false)))
  | d, e => SeqAt.shaped d.py = true ∧ SeqAt.shaped e.py = true ∧ k (.val (.bl (f (PyData.eqv d.py e.py))))
abbrev oEq := oEqB fun b => b
abbrev oNe := oEqB fun b => !b
def rEqA (K : PySem.W.Frag) (f : Bool → Bool) : R2 := fun x y H Q => (scal x y = true ∧ Q (.bl (f (decide (x = y)))) H) ∨ ∃ d e, Dp K H x d ∧ Dp K H y e ∧ SeqAt.shaped d = true ∧ SeqAt.shaped e = true ∧ Q (.bl (f (PyData.eqv d e))) H
theorem op_eqA {X : Cx} (hu : X.A.units + 64 < cLine) : OpR X (compareOp .Eq) (rEqA X.K fun b => b) := op_eq.or (op_eqD hu)
theorem op_neA {X : Cx} (hu : X.A.units + 64 < cLine) : OpR X (compareOp .NotEq) (rEqA X.K fun b => !b) := op_ne.or (op_neD hu)
theorem od_eq {K : PySem.W.Frag} {f : Bool → Bool} : OpD K (rEqA K f) (oEqB f) := by
  intro O H v w d e Q k hf hv hw ho post
  have deep : SeqAt.shaped d.py = true ∧ SeqAt.shaped e.py = true ∧ k (.val (.bl (f (PyData.eqv d.py e.py)))) → rEqA K f v w H Q := fun ⟨h1, h2, h3⟩ =>
    .inr ⟨_, _, hv.dp (SeqAt.canLay_of_shaped h1), hw.dp (SeqAt.canLay_of_shaped h2), h1, h2, post _ _ _ (out_v (.bl _)) h3⟩
  have flat : ∀ {x y : V} {b : Bool}, v = x → w = y → scal x y = true → decide (x = y) = b → k (.val (.bl (f b))) → rEqA K f v w H Q := fun {x y b} e1 e2 h1 h2 h3 => by
    subst e1 e2
    exact .inl ⟨h1, by rw [h2]; exact post _ _ _ (out_v (.bl _)) h3⟩
  cases d with
  | int i => cases e with
    | int j => exact flat hv.int hw.int rfl (by simp) ho
    | non => exact flat hv.int hw.non rfl (by simp) ho
    | str y => exact flat hv.int hw.str rfl (by simp) ho
    | _ => exact deep ho
  | str i => cases e with
    | int j => exact flat hv.str hw.int rfl (by simp) ho
    | non => exact flat hv.str hw.non rfl (by simp) ho
    | str y => exact flat hv.str hw.str rfl (by simp) ho
    | bl y => exact flat hv.str hw.bl rfl (by simp) ho
    | _ => exact deep ho
  | bl i => cases e with
    | non => exact flat hv.bl hw.non rfl (by simp) ho
    | str y => exact flat hv.bl hw.str rfl (by simp) ho
    | bl y => exact flat hv.bl hw.bl rfl (by simp) ho
    | _ => exact deep ho
  | non => cases e with
    | int j => exact flat hv.non hw.int rfl (by simp) ho
    | non => exact flat hv.non hw.non rfl (by simp) ho
    | str y => exact flat hv.non hw.str rfl (by simp) ho
    | bl y => exact flat hv.non hw.bl rfl (by simp) ho
    | _ => exact deep ho
  | _ => cases e <;> exact deep ho
/-- is None -/
def D.isN : D → Bool
  | .non => true
  | _ => false
def oIsN (f : Bool → Bool) (d : D) (k : Os → Prop) : Prop := k (.val (.bl (f d.isN)))
section
variable {X : Cx} {M : MC} {E : WX} {a b : Expr} {pos : Pos} {wa wb : WE}
theorem pd_eq (hu : X.A.units + 64 < cLine) (ha : PE X a (tD X.K M E wa)) (hb : PE X b (tD X.K M E wb)) : PE X (.Compare a [.Eq] [b] pos) (tD X.K M E (wOp oEq wa wb)) := pd_cmp (op_eqA hu) od_eq ha hb
theorem pd_ne (hu : X.A.units + 64 < cLine) (ha : PE X a (tD X.K M E wa)) (hb : PE X b (tD X.K M E wb)) : PE X (.Compare a [.NotEq] [b] pos) (tD X.K M E (wOp oNe wa wb)) := pd_cmp (op_neA hu) od_eq ha hb
theorem BAt.nonB {K : PySem.W.Frag} {O : Addr → Prop} {H : Hp} {v : V} {d : D} (h : BAt K O H v d) : decide (v = .non) = d.isN := by
  rcases h with h | ⟨p, rfl, _, o, ho, h⟩
  · cases h <;> simp [D.isN]
  · cases o <;> cases d <;> first | exact h.elim | simp [D.isN]
theorem pd_isN {j pos'} (ha : PE X a (tD X.K M E wa)) : PE X (.Compare a [.Is] [.Constant .none j pos'] pos) (tD X.K M E (wUn (oIsN fun b => b) wa)) :=
  PE.weak (pe_cmp (pc_isN ha) rfl) (un_all (r := fun x H Q => Q (.bl (decide (x = .non))) H) fun O H v d Q k hf hv ho post => post H _ (.val (.bl d.isN)) (out_v (by rw [hv.nonB]; exact .bl _)) ho)
theorem pd_notN {j pos'} (ha : PE X a (tD X.K M E wa)) : PE X (.Compare a [.IsNot] [.Constant .none j pos'] pos) (tD X.K M E (wUn (oIsN fun b => !b) wa)) :=
  PE.weak (pe_cmp (pc_notN ha) rfl) (un_all (r := fun x H Q => Q (.bl (!decide (x = .non))) H) fun O H v d Q k hf hv ho post => post H _ (.val (.bl !d.isN)) (out_v (by rw [hv.nonB]; exact .bl _)) ho)
end
end El

set_option Elab.async false
set_option linter.all false
set_option maxRecDepth 100000
set_option maxHeartbeats 4000000
/-! ED: subscripts, slices, in; built-in calls; what is walked; loops, comprehensions. -/
namespace El
open PySem L2

/-! ### items -/
def lookD : List DK → List D → DK → Option D
  | k :: ks, d :: ds, y => if k = y then some d else lookD ks ds y
  | _, _, _ => none
/-- a datum as a key -/
def keyOf : D → Option Key
  | .int i => some (.inl i)
  | .str x => some (.inr x)
  | _ => none
def keysOf : List D → Option (List Key)
  | [] => some []
  | d :: ds => (keyOf d).bind fun k => (keysOf ds).map fun ks => k :: ks
def dkOf : D → Option DK
  | .int i => some (.one (.inl i))
  | .str x => some (.one (.inr x))
  | .tup ds => (keysOf ds).map .many
  | _ => none
def oIx (d e : D) (k : Os → Prop) : Prop := match d, e with
  | .lst ds, .int i => ∃ c, atI ds i = some c ∧ k (.val c)
  | .fls ds, .int i => ∃ c, atI ds i = some c ∧ k (.val c)
  | .tup ds, .int i => ∃ c, atI ds i = some c ∧ k (.val c)
  | .kt ds, .int i => ∃ c, atI ds i = some c ∧ k (.val c)
  | .str z, .int i => z.length ≤ 16777216 ∧ ∃ c, atI z.cps.toList i = some c ∧ k (.val (.str ⟨#[c]⟩))
  | _, _ => False
theorem atI_all {K : PySem.W.Frag} {O : Addr → Prop} {H : Hp} {vs : List V} {ds : List D} {i : Int} {c : D} (t : DAll K O H vs ds) (h : atI ds i = some c) : ∃ v, atI vs i = some v ∧ DAt K O H v c := by
  unfold atI at h ⊢
  rw [← t.length] at h
  obtain ⟨j, h1, h2⟩ := Option.bind_eq_some_iff.mp h
  obtain ⟨v, e, a⟩ := t.get h2
  exact ⟨v, by rw [h1]; exact e, a⟩
theorem od_ix {K : PySem.W.Frag} : OpD K (rIx K) oIx := by
  intro O H v w d e Q k hf hv hw ho post
  cases d with
  | lst ds => cases e with
    | int i =>
      obtain ⟨c, h1, h2⟩ := ho
      obtain ⟨a, xs, rfl, hs, t⟩ := hv.seqL
      rw [hw.int]
      obtain ⟨x, h3, h4⟩ := atI_all t h1
      exact .inl ⟨a, xs, i, x, rfl, rfl, hs, h3, post _ _ _ (out_v h4) h2⟩
    | _ => exact ho.elim
  | fls ds => cases e with
    | int i =>
      obtain ⟨c, h1, h2⟩ := ho
      obtain ⟨a, xs, rfl, hs, t⟩ := hv.seqF
      rw [hw.int]
      obtain ⟨x, h3, h4⟩ := atI_all t h1
      exact .inl ⟨a, xs, i, x, rfl, rfl, hs, h3, post _ _ _ (out_v h4) h2⟩
    | _ => exact ho.elim
  | tup ds => cases e with
    | int i =>
      obtain ⟨c, h1, h2⟩ := ho
      obtain ⟨a, xs, rfl, hs, t⟩ := hv.seqT
      rw [hw.int]
      obtain ⟨x, h3, h4⟩ := atI_all t h1
      exact .inr (.inl ⟨a, xs, i, x, rfl, rfl, hs, h3, post _ _ _ (out_v h4) h2⟩)
    | _ => exact ho.elim
  | kt ds => cases e with
    | int i =>
      obtain ⟨c, h1, h2⟩ := ho
      obtain ⟨a, xs, rfl, hs, t⟩ := hv.seqK
      rw [hw.int]
      obtain ⟨x, h3, h4⟩ := atI_all t h1
      exact .inr (.inl ⟨a, xs, i, x, rfl, rfl, hs, h3, post _ _ _ (out_v h4) h2⟩)
    | _ => exact ho.elim
  | str z => cases e with
    | int i =>
      obtain ⟨hz, c, h1, h2⟩ := ho
      rw [hv.str, hw.int]
      exact .inr (.inr ⟨z, i, c, rfl, rfl, by rw [sizeLine_eq]; exact hz, h1, post _ _ _ (out_v (.str _)) h2⟩)
    | _ => exact ho.elim
  | _ => exact ho.elim

/-! ### slices -/
abbrev WO := Rho → XD → (Option Int → Rho → Prop) → Prop
def tDO (K : PySem.W.Frag) (M : MC) (E : WX) (W : WO) : TO := fun σ H Q => ∃ G ρ X Qd, Rel K M G ρ σ H ∧ Lnk K M G E X ∧ W ρ X Qd ∧
  ∀ ρ' o H', Rel K M G ρ' σ H' → Qd o ρ' → Q o H'
def woNone : WO := fun ρ _ Q => Q none ρ
def woSome (we : WE) : WO := fun ρ X Q => we ρ X fun r ρ1 => ∃ i, r.get ρ1 = some (.int i) ∧ Q (some i) ρ1
/-- what a slice tells -/
def cutD (xs : List D) (lo hi : Option Int) : List D := (xs.drop (HT.sIx xs.length 0 lo)).take (HT.sIx xs.length xs.length hi - HT.sIx xs.length 0 lo)
def oSl (d : D) (lo hi : Option Int) (k : Os → Prop) : Prop := match d with
  | .lst ds => k (.new (.lst (cutD ds lo hi)))
  | .fls ds => k (.new (.lst (cutD ds lo hi)))
  | .tup ds => k (.val (.tup (cutD ds lo hi)))
  | .kt ds => ((HT.sIx ds.length 0 lo = 0 ∧ HT.sIx ds.length ds.length hi = ds.length) → k (.val (.kt ds))) ∧ k (.val (.tup (cutD ds lo hi)))
  | .str z => z.length ≤ 16777216 ∧ k (.val (.str (cutS z lo hi)))
  | _ => False
def wSl (we : WE) (wl wh : WO) : WE := fun ρ X Q => we ρ X fun r ρ1 => wl ρ1 X fun lo ρ2 => wh ρ2 X fun hi ρ3 => ∃ d, r.get ρ3 = some d ∧ oSl d lo hi fun c => Q c.rs ρ3
theorem DAll.cut {K : PySem.W.Frag} {O : Addr → Prop} {H : Hp} {vs : List V} {ds : List D} (t : DAll K O H vs ds) (lo hi : Option Int) : DAll K O H (cutV vs lo hi) (cutD ds lo hi) := by
  unfold cutV cutD
  rw [t.length]
  exact (t.drop _).take _
def rSlAny (K : PySem.W.Frag) : V → Option Int → Option Int → Hp → VK → Prop := fun x lo hi H Q => rSlL K x lo hi H Q ∨ (rSlA K x lo hi H Q ∨ rSlS x lo hi H Q)
theorem sl_any {X : Cx} : SlR X (rSlAny X.K) := sl_list.or (sl_tupA.or sl_str)
theorem sl_data {K : PySem.W.Frag} {O : Addr → Prop} {H : Hp} {v : V} {d : D} {lo hi : Option Int} {Q : VK} {k : Os → Prop} (hf : ∀ p, H p = none → ¬ O p) (hv : BAt K O H v d) (ho : oSl d lo hi k) (post : ∀ H' u c, ROut K O H H' u c → k c → Q u H') : rSlAny K v lo hi H Q := by
  cases d with
  | lst ds =>
    obtain ⟨a, xs, rfl, hs, t⟩ := hv.seqL
    exact .inl ⟨a, xs, rfl, hs, fun p hp => post _ _ _ (out_l hp (t.cut lo hi)) ho⟩
  | fls ds =>
    obtain ⟨a, xs, rfl, hs, t⟩ := hv.seqF
    exact .inl ⟨a, xs, rfl, hs, fun p hp => post _ _ _ (out_l hp (t.cut lo hi)) ho⟩
  | tup ds =>
    obtain ⟨a, xs, e, hs, t⟩ := hv.seqT
    subst e
    refine .inr (.inl ⟨a, xs, rfl, hs, fun hw => ?_, fun _ p hp => post _ _ _ (out_t hp (hf p hp) (t.cut lo hi)) ho⟩)
    refine post _ _ _ (out_v ?_) ho
    have e : cutD ds lo hi = ds := by
      unfold cutD
      rw [← t.length, hw.1, hw.2, List.drop_zero, Nat.sub_zero, t.length, List.take_length]
    rw [e]
    exact hv.tup
  | kt ds =>
    obtain ⟨a, xs, e, hs, t⟩ := hv.seqK
    subst e
    refine .inr (.inl ⟨a, xs, rfl, hs, fun hw => ?_, fun _ p hp => post _ _ _ (out_t hp (hf p hp) (t.cut lo hi)) ho.2⟩)
    exact post _ _ _ (out_v (hv.val trivial)) (ho.1 (by rw [← t.length]; exact hw))
  | str z => rw [hv.str]; exact .inr (.inr ⟨z, rfl, by rw [sizeLine_eq]; exact ho.1, post _ _ _ (out_v (.str _)) ho.2⟩)
  | _ => exact ho.elim
section
variable {X : Cx} {M : MC} {E : WX} {a b : Expr} {pos : Pos} {wa wb we : WE}
theorem PO.weak {e : Option Expr} {t t' : TO} (h : PO X e t) (w : ∀ σ H Q, t' σ H Q → t σ H Q) : PO X e t' := ⟨fun pins s σ H Q I q => h.run pins s σ H Q I (w σ H Q q)⟩
theorem pd_onone : PO X none (tDO X.K M E woNone) := PO.weak po_none fun σ H Q ⟨G, ρ, Xd, Qd, R, L, w, k⟩ => k ρ none H R w
theorem pd_osome {e : Expr} (h : PE X e (tD X.K M E we)) : PO X (some e) (tDO X.K M E (woSome we)) := PO.weak (po_some h) fun σ H Q ⟨G, ρ, Xd, Qd, R, L, w, k⟩ =>
  ⟨G, ρ, Xd, _, R, L, w, fun ρ1 v H1 r R1 h1 ⟨i, g, w1⟩ => ⟨i, (R1.get h1 g).int, k ρ1 (some i) H1 R1.unhold w1⟩⟩
theorem pd_slice {e : Expr} {lo hi : Option Expr} {p2 : Pos} {wl wh : WO} (he : PE X e (tD X.K M E we)) (hl : PO X lo (tDO X.K M E wl)) (hu : PO X hi (tDO X.K M E wh)) :
    PE X (.Subscript e (.Slice lo hi none p2) pos) (tD X.K M E (wSl we wl wh)) := by
  refine PE.weak (pe_slice sl_any he hl hu) fun σ H Q ⟨G, ρ, Xd, Qd, R, L, w, k⟩ => ⟨G, ρ, Xd, _, R, L, w, fun ρ1 v H1 r R1 h1 w1 => ?_⟩
  refine ⟨G.hold v r, ρ1, Xd, _, R1, L.hold, w1, fun ρ2 l H2 R2 w2 => ?_⟩
  refine ⟨G.hold v r, ρ2, Xd, _, R2, L.hold, w2, fun ρ3 u H3 R3 ⟨d, g, w3⟩ => ?_⟩
  refine sl_data (fun p hp => R3.fresh hp) (R3.get h1 g) w3 fun H4 x c hx q => ?_
  obtain ⟨R4, h4⟩ := ROut.at R3.unhold (fun a z => own_hold z) hx
  exact k ρ3 x H4 _ R4 h4 q
theorem pd_item (ha : PE X a (tD X.K M E wa)) (hb : PE X b (tD X.K M E wb)) (hs : PlainIx b := by exact fun _ _ => rfl) : PE X (.Subscript a b pos) (tD X.K M E (wOp oIx wa wb)) := pd_ix ix_seq od_ix ha hb hs
end

/-! ### in -/
def eqF (d e : D) : Bool := PyData.eqv d.py e.py
def D.flat : D → Bool
  | .non => true
  | .bl _ => true
  | .int _ => true
  | .str _ => true
  | _ => false
/-- x in y: a sign in a text; in a tuple of plain things; in a list of data -/
def oIn (f : Bool → Bool) (d e : D) (k : Os → Prop) : Prop := match e with
  | .str y => match d with
    | .str x => ∃ c, x = ⟨#[c]⟩ ∧ k (.val (.bl (f (decide (c ∈ y.cps.toList)))))
    | _ => False
  | .tup ds => d.flat = true ∧ ds.all D.flat = true ∧ k (.val (.bl (f (ds.any fun z => eqF z d))))
  | .kt ds => d.flat = true ∧ ds.all D.flat = true ∧ k (.val (.bl (f (ds.any fun z => eqF z d))))
  | .lst ds => SeqAt.shaped d.py = true ∧ SeqAt.shaped (.list (D.pys ds)) = true ∧ k (.val (.bl (f (ds.any fun z => eqF z d))))
  | _ => False
end El

set_option Elab.async false
set_option linter.all false
set_option maxRecDepth 100000
set_option maxHeartbeats 4000000
/-! EE: in, chains of comparisons, built-in calls, repr. -/
namespace El
open PySem L2

section
variable {K : PySem.W.Frag} {O : Addr → Prop} {H : Hp}
theorem DAt.flatV {v : V} {d : D} (h : DAt K O H v d) (f : d.flat = true) : L2.flatV v = true := by
  cases h <;> first | rfl | (simp [D.flat] at f)
theorem eqV_py {v w : V} {d e : D} (hv : DAt K O H v d) (hw : DAt K O H w e) (f : d.flat = true) (g : e.flat = true) : eqV v w = eqF d e := by
  cases hv <;> first | (exact absurd f Bool.false_ne_true) | (cases hw <;> first | (exact absurd g Bool.false_ne_true) | simp [eqV, eqF, D.py, PyData.eqv])
theorem inV_py {v : V} {d : D} (hv : DAt K O H v d) (f : d.flat = true) : ∀ {xs : List V} {ds : List D}, DAll K O H xs ds → ds.all D.flat = true → inV v xs = (ds.any fun z => eqF z d) ∧ xs.all L2.flatV = true
  | _, _, .nil, _ => ⟨rfl, rfl⟩
  | _, _, .cons a t, h => by
    simp only [List.all_cons, Bool.and_eq_true] at h
    obtain ⟨h1, h2⟩ := inV_py hv f t h.2
    refine ⟨?_, ?_⟩
    · unfold inV at h1 ⊢
      rw [List.any_cons, List.any_cons, eqV_py a hv h.1 f, h1]
    · rw [List.all_cons, a.flatV h.1, h2]; rfl
theorem any_pys (x : D) : ∀ ds : List D, ((D.pys ds).any fun z => PyData.eqv z x.py) = ds.any fun z => eqF z x
  | [] => rfl
  | d :: ds => by simp only [D.pys, List.any_cons, any_pys x ds]; rfl
end
def rInA (K : PySem.W.Frag) : R2 := fun x y H Q => (∃ (c : Nat) (z : Str), x = .str ⟨#[c]⟩ ∧ y = .str z ∧ Q (.bl (decide (c ∈ z.cps.toList))) H) ∨ (rIn K false x y H Q ∨ rInD K x y H Q)
def rNotInA (K : PySem.W.Frag) : R2 := fun x y H Q => (∃ (c : Nat) (z : Str), x = .str ⟨#[c]⟩ ∧ y = .str z ∧ Q (.bl (!decide (c ∈ z.cps.toList))) H) ∨ (rIn K true x y H Q ∨ rNotInD K x y H Q)
theorem op_inA {X : Cx} (hu : X.A.units + 65 < cLine) : OpR X (compareOp .In) (rInA X.K) := op_in_sign.or (op_in_seq.or (op_inD hu))
theorem op_notInA {X : Cx} (hu : X.A.units + 65 < cLine) : OpR X (compareOp .NotIn) (rNotInA X.K) := op_notIn_sign.or (op_notIn_seq.or (op_notInD hu))
theorem od_in {K : PySem.W.Frag} : OpD K (rInA K) (oIn fun b => b) := by
  intro O H v w d e Q k hf hv hw ho post
  cases e with
  | str y => cases d with
    | str x =>
      obtain ⟨c, rfl, ho⟩ := ho
      rw [hv.str, hw.str]
      exact .inl ⟨c, y, rfl, rfl, post _ _ _ (out_v (.bl _)) ho⟩
    | _ => exact ho.elim
  | tup ds =>
    obtain ⟨f, g, ho⟩ := ho
    obtain ⟨a, xs, rfl, hs, t⟩ := hw.seqT
    have hv' : DAt K O H v d := hv.val (by cases d <;> first | trivial | (simp [D.flat] at f))
    obtain ⟨h1, h2⟩ := inV_py hv' f t g
    exact .inr (.inl ⟨a, xs, rfl, .inr hs, hv'.flatV f, h2, by rw [if_neg Bool.false_ne_true, h1]; exact post _ _ _ (out_v (.bl _)) ho⟩)
  | kt ds =>
    obtain ⟨f, g, ho⟩ := ho
    obtain ⟨a, xs, rfl, hs, t⟩ := hw.seqK
    have hv' : DAt K O H v d := hv.val (by cases d <;> first | trivial | (simp [D.flat] at f))
    obtain ⟨h1, h2⟩ := inV_py hv' f t g
    exact .inr (.inl ⟨a, xs, rfl, .inr hs, hv'.flatV f, h2, by rw [if_neg Bool.false_ne_true, h1]; exact post _ _ _ (out_v (.bl _)) ho⟩)
  | lst ds =>
    obtain ⟨h1, h2, ho⟩ := ho
    have h2' : SeqAt.shaped (D.lst ds).py = true := by rw [D.py]; exact h2
    refine .inr (.inr ⟨d.py, D.pys ds, hv.dp (SeqAt.canLay_of_shaped h1), ?_, h1, h2, ?_⟩)
    · have := hw.dp (SeqAt.canLay_of_shaped h2')
      rwa [D.py] at this
    · rw [any_pys]; exact post _ _ _ (out_v (.bl _)) ho
  | _ => exact ho.elim
theorem od_notIn {K : PySem.W.Frag} : OpD K (rNotInA K) (oIn fun b => !b) := by
  intro O H v w d e Q k hf hv hw ho post
  cases e with
  | str y => cases d with
    | str x =>
      obtain ⟨c, rfl, ho⟩ := ho
      rw [hv.str, hw.str]
      exact .inl ⟨c, y, rfl, rfl, post _ _ _ (out_v (.bl _)) ho⟩
    | _ => exact ho.elim
  | tup ds =>
    obtain ⟨f, g, ho⟩ := ho
    obtain ⟨a, xs, rfl, hs, t⟩ := hw.seqT
    have hv' : DAt K O H v d := hv.val (by cases d <;> first | trivial | (simp [D.flat] at f))
    obtain ⟨h1, h2⟩ := inV_py hv' f t g
    exact .inr (.inl ⟨a, xs, rfl, .inr hs, hv'.flatV f, h2, by rw [if_pos rfl, h1]; exact post _ _ _ (out_v (.bl _)) ho⟩)
  | kt ds =>
    obtain ⟨f, g, ho⟩ := ho
    obtain ⟨a, xs, rfl, hs, t⟩ := hw.seqK
    have hv' : DAt K O H v d := hv.val (by cases d <;> first | trivial | (simp [D.flat] at f))
    obtain ⟨h1, h2⟩ := inV_py hv' f t g
    exact .inr (.inl ⟨a, xs, rfl, .inr hs, hv'.flatV f, h2, by rw [if_pos rfl, h1]; exact post _ _ _ (out_v (.bl _)) ho⟩)
  | lst ds =>
    obtain ⟨h1, h2, ho⟩ := ho
    have h2' : SeqAt.shaped (D.lst ds).py = true := by rw [D.py]; exact h2
    refine .inr (.inr ⟨d.py, D.pys ds, hv.dp (SeqAt.canLay_of_shaped h1), ?_, h1, h2, ?_⟩)
    · have := hw.dp (SeqAt.canLay_of_shaped h2')
      rwa [D.py] at this
    · rw [any_pys]; exact post _ _ _ (out_v (.bl _)) ho
  | _ => exact ho.elim
section
variable {X : Cx} {M : MC} {E : WX} {a b c : Expr} {pos : Pos} {wa wb wc : WE}
theorem pd_in (hu : X.A.units + 65 < cLine) (ha : PE X a (tD X.K M E wa)) (hb : PE X b (tD X.K M E wb)) (hm : behindInMarks .In b = false := by rfl) : PE X (.Compare a [.In] [b] pos) (tD X.K M E (wOp (oIn fun b => b) wa wb)) := pd_cmp (op_inA hu) od_in ha hb hm
theorem pd_notin (hu : X.A.units + 65 < cLine) (ha : PE X a (tD X.K M E wa)) (hb : PE X b (tD X.K M E wb)) (hm : behindInMarks .NotIn b = false := by rfl) : PE X (.Compare a [.NotIn] [b] pos) (tD X.K M E (wOp (oIn fun b => !b) wa wb)) := pd_cmp (op_notInA hu) od_notIn ha hb hm

/-! ### a op b op c -/
def wChain (o o' : D → D → (Os → Prop) → Prop) (wa wb wc : WE) : WE := fun ρ X Q => wa ρ X fun ra ρ1 => wb ρ1 X fun rb ρ2 => ∃ d e, ra.get ρ2 = some d ∧ rb.get ρ2 = some e ∧ o d e fun r => ∃ b, r = .val (.bl b) ∧
  if b = true then wc ρ2 X fun rc ρ3 => ∃ e' g, rb.get ρ3 = some e' ∧ rc.get ρ3 = some g ∧ o' e' g fun r' => Q r'.rs ρ3 else Q (.val (.bl false)) ρ2
theorem chain_all {K : PySem.W.Frag} {r r' : R2} {o o' : D → D → (Os → Prop) → Prop} (hr : OpD K r o) (hr' : OpD K r' o') : ∀ σ H Q, tD K M E (wChain o o' wa wb wc) σ H Q → tChain r r' (tD K M E wa) (tD K M E wb) (tD K M E wc) σ H Q := by
  rintro σ H Q ⟨G, ρ, Xd, Qd, R, L, w, k⟩
  refine ⟨G, ρ, Xd, _, R, L, w, fun ρ1 v H1 ra R1 h1 w1 => ?_⟩
  refine ⟨G.hold v ra, ρ1, Xd, _, R1, L.hold, w1, fun ρ2 u H2 rb R2 h2 w2 => ?_⟩
  obtain ⟨d, e, g1, g2, w2⟩ := w2
  have b1 := R2.getH (Held.self h1).hold h1 g1
  refine hr _ H2 v u d e _ _ (fun p hp => R2.fresh hp) b1 (R2.get h2 g2) w2 fun H3 x c hx ⟨b, e1, q⟩ => ?_
  subst e1
  obtain ⟨n, hb⟩ := (hx : Nw H2 H3 ∧ DAt K _ H3 x (.bl b))
  have R3 := R2.nw n
  obtain rfl : x = .bl b := by cases hb; rfl
  refine ⟨b, rfl, ?_⟩
  cases b with
  | false => exact k ρ2 _ H3 (.val (.bl false)) (R3.unhold.unhold.pinned (.bl false)) trivial q
  | true =>
    refine ⟨(G.hold v ra).hold u rb, ρ2, Xd, _, R3, L.hold.hold, q, fun ρ4 z H4 rc R4 h4 ⟨e', g, g3, g4, w4⟩ => ?_⟩
    refine hr' _ H4 u z e' g _ _ (fun p hp => R4.fresh hp) (R4.getH (Held.self h2).hold h2 g3) (R4.get h4 g4) w4 fun H5 y c5 hy q5 => ?_
    obtain ⟨R5, h5⟩ := ROut.at R4.unhold.unhold.unhold (fun a z => own_hold (own_hold (own_hold z))) hy
    exact k ρ4 y H5 _ R5 h5 q5
theorem pd_chain {op op' : CmpOp} {r r' : R2} {o o' : D → D → (Os → Prop) → Prop} (ho : OpR X (compareOp op) r) (hr : OpD X.K r o) (ho' : OpR X (compareOp op') r') (hr' : OpD X.K r' o') (ha : PE X a (tD X.K M E wa)) (hb : PE X b (tD X.K M E wb)) (hc : PE X c (tD X.K M E wc))
    (hm : lastMarks [op, op'] [b, c] = false := by with_unfolding_all rfl) : PE X (.Compare a [op, op'] [b, c] pos) (tD X.K M E (wChain o o' wa wb wc)) := PE.weak (pe_chain ho ho' ha hb hc hm) (chain_all hr hr')
theorem pd_tchain {op op' : CmpOp} {r r' : R2} {o o' : D → D → (Os → Prop) → Prop} (ho : OpR X (compareOp op) r) (hr : OpD X.K r o) (ho' : OpR X (compareOp op') r') (hr' : OpD X.K r' o') (ha : PE X a (tD X.K M E wa)) (hb : PE X b (tD X.K M E wb)) (hc : PE X c (tD X.K M E wc))
    (hm : lastMarks [op, op'] [b, c] = false := by with_unfolding_all rfl) : PT X (.Compare a [op, op'] [b, c] pos) (tDT X.K M E (wB (wChain o o' wa wb wc))) :=
  PT.weak (pt_chain ho ho' ha hb hc hm) fun σ H Q ⟨G, ρ, Xd, Qd, R, L, w, k⟩ => chain_all (M := M) (E := E) hr hr' σ H _ ⟨G, ρ, Xd, _, R, L, w, fun ρ1 v H1 r R1 h1 ⟨b, g, w1⟩ => ⟨b, (R1.get h1 g).bl, k ρ1 b H1 R1.unhold w1⟩⟩
end

/-! ### built-in calls -/
inductive BAll (K : PySem.W.Frag) (O : Addr → Prop) (H : Hp) : List V → List D → Prop
  | nil : BAll K O H [] []
  | cons {v : V} {vs : List V} {d : D} {ds : List D} : BAt K O H v d → BAll K O H vs ds → BAll K O H (v :: vs) (d :: ds)
theorem BAll.one {K : PySem.W.Frag} {O : Addr → Prop} {H : Hp} {vs : List V} {d : D} (h : BAll K O H vs [d]) : ∃ v, vs = [v] ∧ BAt K O H v d := by
  cases h with
  | cons a t => cases t; exact ⟨_, rfl, a⟩
theorem BAll.two {K : PySem.W.Frag} {O : Addr → Prop} {H : Hp} {vs : List V} {d e : D} (h : BAll K O H vs [d, e]) : ∃ v w, vs = [v, w] ∧ BAt K O H v d ∧ BAt K O H w e := by
  cases h with
  | cons a t => cases t with
    | cons b t => cases t; exact ⟨_, _, rfl, a, b⟩
def gets (ρ : Rho) : List Rs → Option (List D)
  | [] => some []
  | r :: rs => (r.get ρ).bind fun d => (gets ρ rs).map fun ds => d :: ds
theorem Rel.getsH {K : PySem.W.Frag} {M : MC} {G0 : Gd} {ρ : Rho} {σ : St} {H : Hp} (R : Rel K M G0 ρ σ H) : ∀ {vs : List V} {rs : List Rs} {ds : List D}, (∀ v r, (v, r) ∈ vs.zip rs → Held G0 v r) → RsOks vs rs → gets ρ rs = some ds → BAll K (Own M G0 ρ) H vs ds
  | _, _, _, _, .nil, g => by cases g; exact .nil
  | _, _, _, hh, .cons h t, g => by
    unfold gets at g
    obtain ⟨d, g1, g⟩ := Option.bind_eq_some_iff.mp g
    obtain ⟨ds, g2, g⟩ := Option.map_eq_some_iff.mp g
    cases g
    exact .cons (R.getH (hh _ _ List.mem_cons_self) h g1) (Rel.getsH R (fun v r m => hh v r (List.mem_cons_of_mem _ m)) t g2)
theorem held_holds : ∀ {vs : List V} {rs : List Rs} {G : Gd} {v : V} {r : Rs}, Held G v r → Held (G.holds vs rs) v r
  | [], _, _, _, _, h => h
  | _ :: _, [], _, _, _, h => h
  | u :: vs, q :: rs, G, v, r, h => held_holds (vs := vs) (rs := rs) (G := G.hold u q) h.hold
theorem helds : ∀ {vs : List V} {rs : List Rs} {G : Gd}, RsOks vs rs → ∀ v r, (v, r) ∈ vs.zip rs → Held (G.holds vs rs) v r
  | _, _, _, .nil, _, _, m => by cases m
  | _, _, G, .cons h t, v, r, m => by
    rename_i v0 vs r0 rs
    rw [List.zip_cons_cons] at m
    rcases List.mem_cons.mp m with e | m
    · cases e
      exact held_holds (vs := vs) (rs := rs) (Held.self h)
    · exact helds (G := G.hold v0 r0) t v r m
theorem Rel.gets {K : PySem.W.Frag} {M : MC} {G : Gd} {ρ : Rho} {σ : St} {H : Hp} {vs : List V} {rs : List Rs} {ds : List D} (R : Rel K M (G.holds vs rs) ρ σ H) (h : RsOks vs rs) (g : El.gets ρ rs = some ds) : BAll K (Own M (G.holds vs rs) ρ) H vs ds :=
  R.getsH (helds h) h g
/-- a built-in does on data what op says -/
def CaD (K : PySem.W.Frag) (r : List V → Hp → VK → Prop) (op : List D → (Os → Prop) → Prop) : Prop := ∀ (O : Addr → Prop) (H : Hp) (vs : List V) (ds : List D) (Q : VK) (k : Os → Prop), (∀ p, H p = none → ¬ O p) → BAll K O H vs ds → op ds k →
  (∀ H' u c, ROut K O H H' u c → k c → Q u H') → r vs H Q
def wCa (op : List D → (Os → Prop) → Prop) (wa : WA) : WE := fun ρ X Q => wa ρ X fun rs ρ1 => ∃ ds, gets ρ1 rs = some ds ∧ op ds fun c => Q c.rs ρ1
section
variable {X : Cx} {M : MC} {E : WX}
theorem ca_all {K : PySem.W.Frag} {op : List D → (Os → Prop) → Prop} {r : List V → Hp → VK → Prop} {wa : WA} (hr : CaD K r op) : ∀ σ H Q, tD K M E (wCa op wa) σ H Q → tCB r (tDA K M E wa) σ H Q := by
  rintro σ H Q ⟨G, ρ, Xd, Qd, R, L, w, k⟩
  refine ⟨G, ρ, Xd, _, R, L, w, fun ρ1 vs H1 rs R1 h1 ⟨ds, g, w1⟩ => ?_⟩
  refine hr _ H1 vs ds Q _ (fun p hp => R1.fresh hp) (R1.gets h1 g) w1 fun H3 x c hx q => ?_
  obtain ⟨R3, h3⟩ := ROut.at R1.unholds (fun a z => own_holds z) hx
  exact k ρ1 x H3 _ R3 h3 q
theorem pd_callB {x : Str} {p pos : Pos} {e : Expr} {es : List Expr} {id : String} {r : List V → Hp → VK → Prop} {op : List D → (Os → Prop) → Prop} {wa : WA} (hc : CallR X (.builtin id) r) (hr : CaD X.K r op) (hg : Gl X x) (hm : X.mg x = none) (hv : bootBuiltins x = some (.builtin id)) (ha : PA X (e :: es) (tDA X.K M E wa)) (hn : x ≠ "__name__" := by decide) (hdb : (x == ("__debug__" : Str)) = false := by decide)
    (he : starEach (e :: es) X.env = (false, eval e X.env) :: starEach es X.env := by rfl) (hpl : (backTo pos (starEach es X.env)).any (·.1) = false := by rfl) : PE X (.Call (.Name x p) (e :: es) [] pos) (tD X.K M E (wCa op wa)) :=
  PE.weak (pe_callB hc hg hm hv ha hn hdb he hpl) (ca_all hr)
theorem pd_callTy {x : Str} {p pos : Pos} {e : Expr} {es : List Expr} {T : String} {r : List V → Hp → VK → Prop} {op : List D → (Os → Prop) → Prop} {wa : WA} (hc : CallR X (.type T) r) (hr : CaD X.K r op) (hg : Gl X x) (hm : X.mg x = none) (hv : bootBuiltins x = some (.type T)) (ha : PA X (e :: es) (tDA X.K M E wa)) (hn : x ≠ "__name__" := by decide) (hdb : (x == ("__debug__" : Str)) = false := by decide)
    (he : starEach (e :: es) X.env = (false, eval e X.env) :: starEach es X.env := by rfl) (hpl : (backTo pos (starEach es X.env)).any (·.1) = false := by rfl) : PE X (.Call (.Name x p) (e :: es) [] pos) (tD X.K M E (wCa op wa)) :=
  PE.weak (pe_callTy hc hg hm hv ha hn hdb he hpl) (ca_all hr)
end

/-! ### len -/
def oLen (ds : List D) (k : Os → Prop) : Prop := match ds with
  | [.str x] => x.length ≤ 16777216 ∧ k (.val (.int x.length))
  | [.lst xs] => k (.val (.int xs.length))
  | [.fls xs] => k (.val (.int xs.length))
  | [.tup xs] => k (.val (.int xs.length))
  | [.kt xs] => k (.val (.int xs.length))
  | [.dic false _ vs] => k (.val (.int vs.length))
  | _ => False
theorem BAt.dic {K : PySem.W.Frag} {O : Addr → Prop} {H : Hp} {v : V} {m : Bool} {ks : List DK} {vs : List D} (h : BAt K O H v (.dic m ks vs)) :
    ∃ a, v = .ref a ∧ ((∃ kvs : List (Key × V), m = false ∧ Rd H a (.dK kvs) ∧ ks = kvs.map (fun p => .one p.1) ∧ DAll K O H (kvs.map (·.2)) vs) ∨ ∃ kvs : List (List Key × V), m = true ∧ Rd H a (.dT kvs) ∧ ks = kvs.map (fun p => .many p.1) ∧ DAll K O H (kvs.map (·.2)) vs) := by
  rcases h with h | ⟨p, e, _, o, ho, h⟩
  · cases h with
    | dk n e t => exact ⟨_, rfl, .inl ⟨_, rfl, e, rfl, t⟩⟩
    | dt n e t => exact ⟨_, rfl, .inr ⟨_, rfl, e, rfl, t⟩⟩
  · cases o with
    | dK kvs => cases m with
      | false => exact ⟨p, e, .inl ⟨kvs, rfl, .inl ho, h.1, h.2⟩⟩
      | true => exact h.elim
    | dT kvs => cases m with
      | true => exact ⟨p, e, .inr ⟨kvs, rfl, .inl ho, h.1, h.2⟩⟩
      | false => exact h.elim
    | _ => exact h.elim
def rLenA (K : PySem.W.Frag) : List V → Hp → VK → Prop := fun xs H Q => (∃ x n, xs = [x] ∧ LenV K x H n ∧ Q (.int n) H) ∨ ∃ a kvs, xs = [V.ref a] ∧ Rd H a (.dK kvs) ∧ Q (.int kvs.length) H
theorem call_lenR {X : Cx} : CallR X (.builtin "len") fun xs H Q => ∃ (a : Addr) (kvs : List (Key × V)), xs = [V.ref a] ∧ Rd H a (.dK kvs) ∧ Q (.int kvs.length) H := by
  rintro pins s σ H xs us Q I r ⟨a, kvs, rfl, e, q⟩
  obtain rfl := r.ref1
  exact d_len I e fun t s' I' => ⟨.int _, H, I', ⟨t, rfl⟩, q⟩
theorem call_lenA {X : Cx} : CallR X (.builtin "len") (rLenA X.K) := call_len.or call_lenR
theorem cd_len {K : PySem.W.Frag} : CaD K (rLenA K) oLen := by
  intro O H vs ds Q k hf hv ho post
  unfold oLen at ho
  split at ho
  · obtain ⟨v, rfl, b⟩ := hv.one
    rw [b.str]
    exact .inl ⟨_, _, rfl, ⟨by rw [sizeLine_eq]; exact ho.1, rfl⟩, post _ _ _ (out_v (.int _)) ho.2⟩
  · obtain ⟨v, rfl, b⟩ := hv.one
    obtain ⟨a, xs, rfl, hs, t⟩ := b.seqL
    exact .inl ⟨_, _, rfl, .inl ⟨xs, hs, rfl⟩, post _ _ _ (out_v (by rw [t.length]; exact .int _)) ho⟩
  · obtain ⟨v, rfl, b⟩ := hv.one
    obtain ⟨a, xs, rfl, hs, t⟩ := b.seqF
    exact .inl ⟨_, _, rfl, .inl ⟨xs, hs, rfl⟩, post _ _ _ (out_v (by rw [t.length]; exact .int _)) ho⟩
  · obtain ⟨v, rfl, b⟩ := hv.one
    obtain ⟨a, xs, rfl, hs, t⟩ := b.seqT
    exact .inl ⟨_, _, rfl, .inr ⟨xs, hs, rfl⟩, post _ _ _ (out_v (by rw [t.length]; exact .int _)) ho⟩
  · obtain ⟨v, rfl, b⟩ := hv.one
    obtain ⟨a, xs, rfl, hs, t⟩ := b.seqK
    exact .inl ⟨_, _, rfl, .inr ⟨xs, hs, rfl⟩, post _ _ _ (out_v (by rw [t.length]; exact .int _)) ho⟩
  · obtain ⟨v, rfl, b⟩ := hv.one
    obtain ⟨a, rfl, hd⟩ := b.dic
    rcases hd with ⟨kvs, _, e, hk, t⟩ | ⟨kvs, hm, e, hk, t⟩
    · exact .inr ⟨a, kvs, rfl, e, post _ _ _ (out_v (by rw [show kvs.length = _ from (List.length_map ..).symm.trans t.length]; exact .int _)) ho⟩
    · cases hm
  · exact ho.elim

/-! ### sum, min, max, any, all, list, tuple -/
def asInts : List D → Option (List Int)
  | [] => some []
  | .int i :: ds => (asInts ds).map fun is => i :: is
  | _ :: _ => none
theorem asInts_eq : ∀ {ds : List D} {is : List Int}, asInts ds = some is → ds = is.map D.int
  | [], _, h => by cases h; rfl
  | d :: ds, is, h => by
    cases d with
    | int i =>
      unfold asInts at h
      obtain ⟨js, h1, h2⟩ := Option.map_eq_some_iff.mp h
      cases h2
      rw [asInts_eq h1]; rfl
    | _ => cases h
theorem asInts_map : ∀ is : List Int, asInts (is.map D.int) = some is
  | [] => rfl
  | i :: is => by show (asInts (is.map D.int)).map _ = _; rw [asInts_map is]; rfl
def asBls : List D → Option (List Bool)
  | [] => some []
  | .bl i :: ds => (asBls ds).map fun is => i :: is
  | _ :: _ => none
theorem asBls_eq : ∀ {ds : List D} {is : List Bool}, asBls ds = some is → ds = is.map D.bl
  | [], _, h => by cases h; rfl
  | d :: ds, is, h => by
    cases d with
    | bl i =>
      unfold asBls at h
      obtain ⟨js, h1, h2⟩ := Option.map_eq_some_iff.mp h
      cases h2
      rw [asBls_eq h1]; rfl
    | _ => cases h
theorem asBls_map : ∀ is : List Bool, asBls (is.map D.bl) = some is
  | [] => rfl
  | i :: is => by show (asBls (is.map D.bl)).map _ = _; rw [asBls_map is]; rfl
def oSum (ds : List D) (k : Os → Prop) : Prop := match ds with
  | [.lst xs] => ∃ is, asInts xs = some is ∧ k (.val (.int is.sum))
  | _ => False
theorem cd_sum {K : PySem.W.Frag} : CaD K (rSum K) oSum := by
  intro O H vs ds Q k hf hv ho post
  unfold oSum at ho
  split at ho
  case h_2 => exact ho.elim
  obtain ⟨is, e, ho⟩ := ho
  obtain rfl := asInts_eq e
  obtain ⟨v, rfl, b⟩ := hv.one
  obtain ⟨a, xs, rfl, hs, t⟩ := b.seqL
  rw [t.ints] at hs
  exact ⟨a, is, rfl, hs, post _ _ _ (out_v (.int _)) ho⟩
def oAny (ds : List D) (k : Os → Prop) : Prop := match ds with
  | [.lst xs] => ∃ is, asBls xs = some is ∧ k (.val (.bl (is.any id)))
  | _ => False
def oAll (ds : List D) (k : Os → Prop) : Prop := match ds with
  | [.lst xs] => ∃ is, asBls xs = some is ∧ k (.val (.bl (is.all id)))
  | _ => False
theorem cd_any {K : PySem.W.Frag} : CaD K (rAny K) oAny := by
  intro O H vs ds Q k hf hv ho post
  unfold oAny at ho
  split at ho
  case h_2 => exact ho.elim
  obtain ⟨is, e, ho⟩ := ho
  obtain rfl := asBls_eq e
  obtain ⟨v, rfl, b⟩ := hv.one
  obtain ⟨a, xs, rfl, hs, t⟩ := b.seqL
  rw [t.bls] at hs
  exact ⟨a, is, rfl, hs, post _ _ _ (out_v (.bl _)) ho⟩
theorem cd_all {K : PySem.W.Frag} : CaD K (rAll K) oAll := by
  intro O H vs ds Q k hf hv ho post
  unfold oAll at ho
  split at ho
  case h_2 => exact ho.elim
  obtain ⟨is, e, ho⟩ := ho
  obtain rfl := asBls_eq e
  obtain ⟨v, rfl, b⟩ := hv.one
  obtain ⟨a, xs, rfl, hs, t⟩ := b.seqL
  rw [t.bls] at hs
  exact ⟨a, is, rfl, hs, post _ _ _ (out_v (.bl _)) ho⟩
def oMin (ds : List D) (k : Os → Prop) : Prop := match ds with
  | [.int i, .int j] => k (.val (.int (if j < i then j else i)))
  | _ => False
def oMax (ds : List D) (k : Os → Prop) : Prop := match ds with
  | [.int i, .int j] => k (.val (.int (if j > i then j else i)))
  | _ => False
theorem cd_min {K : PySem.W.Frag} : CaD K (fun xs H Q => ∃ i j, xs = [.int i, .int j] ∧ Q (.int (if j < i then j else i)) H) oMin := by
  intro O H vs ds Q k hf hv ho post
  unfold oMin at ho
  split at ho
  · obtain ⟨v, w, rfl, b, c⟩ := hv.two
    exact ⟨_, _, by rw [b.int, c.int], post _ _ _ (out_v (.int _)) ho⟩
  · exact ho.elim
theorem cd_max {K : PySem.W.Frag} : CaD K (fun xs H Q => ∃ i j, xs = [.int i, .int j] ∧ Q (.int (if j > i then j else i)) H) oMax := by
  intro O H vs ds Q k hf hv ho post
  unfold oMax at ho
  split at ho
  · obtain ⟨v, w, rfl, b, c⟩ := hv.two
    exact ⟨_, _, by rw [b.int, c.int], post _ _ _ (out_v (.int _)) ho⟩
  · exact ho.elim
def oAbs (ds : List D) (k : Os → Prop) : Prop := match ds with
  | [.int i] => k (.val (.int (if i < 0 then -i else i)))
  | _ => False
theorem cd_abs {K : PySem.W.Frag} : CaD K (fun xs H Q => ∃ i, xs = [.int i] ∧ Q (.int (if i < 0 then -i else i)) H) oAbs := by
  intro O H vs ds Q k hf hv ho post
  unfold oAbs at ho
  split at ho
  · obtain ⟨v, rfl, b⟩ := hv.one
    exact ⟨_, by rw [b.int], post _ _ _ (out_v (.int _)) ho⟩
  · exact ho.elim
def oList (ds : List D) (k : Os → Prop) : Prop := match ds with
  | [.lst xs] => k (.new (.lst xs))
  | [.fls xs] => k (.new (.lst xs))
  | [.tup xs] => k (.new (.lst xs))
  | _ => False
theorem cd_list {K : PySem.W.Frag} : CaD K (fun xs H Q => ∃ p ys, xs = [.ref p] ∧ (SqL K H p ys ∨ SqT K H p ys) ∧ ∀ l, H l = none → Q (.ref l) (upd H l (.lst ys))) oList := by
  intro O H vs ds Q k hf hv ho post
  unfold oList at ho
  split at ho
  · obtain ⟨v, rfl, b⟩ := hv.one
    obtain ⟨a, xs, rfl, hs, t⟩ := b.seqL
    exact ⟨a, xs, rfl, .inl hs, fun l hl => post _ _ _ (out_l hl t) ho⟩
  · obtain ⟨v, rfl, b⟩ := hv.one
    obtain ⟨a, xs, rfl, hs, t⟩ := b.seqF
    exact ⟨a, xs, rfl, .inl hs, fun l hl => post _ _ _ (out_l hl t) ho⟩
  · obtain ⟨v, rfl, b⟩ := hv.one
    obtain ⟨a, xs, rfl, hs, t⟩ := b.seqT
    exact ⟨a, xs, rfl, .inr hs, fun l hl => post _ _ _ (out_l hl t) ho⟩
  · exact ho.elim
def oTuple (ds : List D) (k : Os → Prop) : Prop := match ds with
  | [.lst xs] => k (.val (.tup xs))
  | [.fls xs] => k (.val (.tup xs))
  | [.tup xs] => k (.val (.tup xs))
  | _ => False
theorem cd_tuple {K : PySem.W.Frag} : CaD K (fun xs H Q => ∃ p ys, xs = [.ref p] ∧ ((SqL K H p ys ∧ ∀ l, H l = none → Q (.ref l) (upd H l (.tup ys))) ∨ (SqT K H p ys ∧ Q (.ref p) H))) oTuple := by
  intro O H vs ds Q k hf hv ho post
  unfold oTuple at ho
  split at ho
  · obtain ⟨v, rfl, b⟩ := hv.one
    obtain ⟨a, xs, rfl, hs, t⟩ := b.seqL
    exact ⟨a, xs, rfl, .inl ⟨hs, fun l hl => post _ _ _ (out_t hl (hf l hl) t) ho⟩⟩
  · obtain ⟨v, rfl, b⟩ := hv.one
    obtain ⟨a, xs, rfl, hs, t⟩ := b.seqF
    exact ⟨a, xs, rfl, .inl ⟨hs, fun l hl => post _ _ _ (out_t hl (hf l hl) t) ho⟩⟩
  · obtain ⟨v, rfl, b⟩ := hv.one
    obtain ⟨a, xs, e, hs, t⟩ := b.seqT
    subst e
    exact ⟨a, xs, rfl, .inr ⟨hs, post _ _ _ (out_v b.tup) ho⟩⟩
  · exact ho.elim

/-! ### int, str -/
def oInt (ds : List D) (k : Os → Prop) : Prop := match ds with
  | [.int i] => k (.val (.int i))
  | [.bl b] => k (.val (.int (if b then 1 else 0)))
  | [.str x] => x.length ≤ 640 ∧ ∃ n, PySem.intText? x = some n ∧ k (.val (.int n))
  | _ => False
def rIntA : List V → Hp → VK → Prop := fun xs H Q => ((∃ i, xs = [.int i] ∧ Q (.int i) H) ∨ ∃ k, xs = [.bl k] ∧ Q (.int (if k then 1 else 0)) H) ∨ ∃ a n, xs = [.str a] ∧ PySem.intText? a = some n ∧ a.length ≤ 640 ∧ Q (.int n) H
theorem call_intA {X : Cx} : CallR X (.type "int") rIntA := call_int1.or call_int_str
theorem cd_int {K : PySem.W.Frag} : CaD K rIntA oInt := by
  intro O H vs ds Q k hf hv ho post
  unfold oInt at ho
  split at ho
  · obtain ⟨v, rfl, b⟩ := hv.one
    exact .inl (.inl ⟨_, by rw [b.int], post _ _ _ (out_v (.int _)) ho⟩)
  · obtain ⟨v, rfl, b⟩ := hv.one
    exact .inl (.inr ⟨_, by rw [b.bl], post _ _ _ (out_v (.int _)) ho⟩)
  · obtain ⟨v, rfl, b⟩ := hv.one
    obtain ⟨hl, n, h1, ho⟩ := ho
    exact .inr ⟨_, n, by rw [b.str], h1, hl, post _ _ _ (out_v (.int _)) ho⟩
  · exact ho.elim
def oStr (ds : List D) (k : Os → Prop) : Prop := match ds with
  | [.int i] => i.natAbs.log2 < 1920 ∧ k (.val (.str (toString i)))
  | _ => False
theorem cd_str {K : PySem.W.Frag} : CaD K (fun xs H Q => ∃ i, xs = [.int i] ∧ i.natAbs.log2 < 1920 ∧ Q (.str (toString i)) H) oStr := by
  intro O H vs ds Q k hf hv ho post
  unfold oStr at ho
  split at ho
  · obtain ⟨v, rfl, b⟩ := hv.one
    exact ⟨_, by rw [b.int], ho.1, post _ _ _ (out_v (.str _)) ho.2⟩
  · exact ho.elim

/-! ### repr of what is nested -/
def rRepr (K : PySem.W.Frag) (n : Nat) : List V → Hp → VK → Prop := fun xs H Q => ∃ a d, xs = [.ref a] ∧ Dp K H (.ref a) d ∧ d.canLay0 = true ∧ d.showable = true ∧ d.depth ≤ n ∧ d.shown.length ≤ sizeLine ∧ Q (.str d.shown) H
theorem call_reprA {X : Cx} {n : Nat} (hg : X.A.guards = some []) (hu : X.A.units + (n + 1) < cLine) : CallR X (.builtin "repr") (rRepr X.K n) := by
  intro pins s σ H xs us Q I r h
  obtain ⟨a, d, rfl, hd, hl, hs, hn, hz, q⟩ := h
  obtain rfl := r.ref1
  obtain ⟨as, rd⟩ := Dp.reads I d (.ref a) (.ref a) hd rfl
  exact repr_of_reads' rd hs (PyData.noDict_hsm (PyData.hasDict_of_canLay d hl)) hg (by omega) (fun b o e => e) (fun h' u tk hk => ⟨.str d.shown, H, I.kept hk, ⟨u, rfl⟩, q⟩) hz
def oRepr (n : Nat) (ds : List D) (k : Os → Prop) : Prop := ∃ d, ds = [d] ∧ (match d with | .lst _ => True | .fls _ => True | .tup _ => True | _ => False) ∧ d.py.canLay0 = true ∧ d.py.showable = true ∧ d.py.depth ≤ n ∧ d.py.shown.length ≤ 16777216 ∧ k (.val (.str d.py.shown))
theorem cd_repr {K : PySem.W.Frag} {n : Nat} : CaD K (rRepr K n) (oRepr n) := by
  rintro O H vs ds Q k hf hv ⟨d, rfl, hd, h1, h2, h3, h4, ho⟩ post
  obtain ⟨v, rfl, b⟩ := hv.one
  have e : ∃ a, v = .ref a := by
    cases d with
    | lst ds => obtain ⟨a, _, e, _⟩ := b.seqL; exact ⟨a, e⟩
    | fls ds => obtain ⟨a, _, e, _⟩ := b.seqF; exact ⟨a, e⟩
    | tup ds => obtain ⟨a, _, e, _⟩ := b.seqT; exact ⟨a, e⟩
    | _ => exact hd.elim
  obtain ⟨a, rfl⟩ := e
  exact ⟨a, d.py, rfl, b.dp h1, h1, h2, h3, by rw [sizeLine_eq]; exact h4, post _ _ _ (out_v (.str _)) ho⟩

/-! ### isinstance -/
inductive TN where
  | non | bl | int | str | lst | tup | dic
  deriving DecidableEq
def TN.name : TN → String
  | .non => "NoneType" | .bl => "bool" | .int => "int" | .str => "str" | .lst => "list" | .tup => "tuple" | .dic => "dict"
/-- a thing of the one is one of the other -/
def TN.is (a b : TN) : Bool := match a, b with
  | .bl, .int => true
  | .non, .non => true | .bl, .bl => true | .int, .int => true | .str, .str => true | .lst, .lst => true | .tup, .tup => true | .dic, .dic => true
  | _, _ => false
def D.tn : D → Option TN
  | .non => some .non | .bl _ => some .bl | .int _ => some .int | .str _ => some .str | .tup _ => some .tup | .lst _ => some .lst | .fls _ => some .lst | .dic false _ _ => some .dic | .dic true _ _ => none
  | .ref _ => none | .ty _ => none | .kt _ => some .tup | .xd _ _ => none | .lk _ _ => none | .exc _ _ _ => none
theorem kit_is (a b : TN) (hb : b ≠ .non) : kitB a.name b.name = some (a.is b) := by
  cases b <;> first | exact absurd rfl hb | (cases a <;> decide +kernel)
theorem BAt.tyx {K : PySem.W.Frag} {O : Addr → Prop} {H : Hp} {v : V} {d : D} {a : TN} (h : BAt K O H v d) (e : d.tn = some a) : TyX K H v (.type a.name) := by
  have sqL : ∀ {p : Addr} {xs : List V}, SqL K H p xs → TyX K H (.ref p) (.type "list") := fun {p xs} h => by
    rcases h with (h | ⟨o, h⟩) | ⟨o, its, n, h1, h2, _⟩
    · exact .base (.lst h)
    · exact .base (.frz h)
    · exact .kList h1 h2
  have sqT : ∀ {p : Addr} {xs : List V}, SqT K H p xs → TyX K H (.ref p) (.type "tuple") := fun {p xs} h => by
    rcases h with (h | ⟨o, h⟩) | ⟨o, its, n, h1, h2, _⟩
    · exact .base (.tup h)
    · exact .fTuple h
    · exact .kTuple h1 h2
  cases d with
  | non => cases e; rw [h.non]; exact .base .non
  | bl b => cases e; rw [h.bl]; exact .base (.bl b)
  | int b => cases e; rw [h.int]; exact .base (.int b)
  | str b => cases e; rw [h.str]; exact .base (.str b)
  | tup ds => cases e; obtain ⟨p, xs, rfl, hs, t⟩ := h.seqT; exact sqT hs
  | lst ds => cases e; obtain ⟨p, xs, rfl, hs, t⟩ := h.seqL; exact sqL hs
  | fls ds => cases e; obtain ⟨p, xs, rfl, hs, t⟩ := h.seqF; exact sqL hs
  | dic m ks vs =>
    cases m with
    | true => cases e
    | false =>
      cases e
      obtain ⟨p, rfl, ⟨kvs, _, hs, _⟩ | ⟨kvs, hm, _⟩⟩ := h.dic
      · rcases hs with hs | ⟨o, hs⟩
        · exact .base (.dK hs)
        · exact .fDict hs
      · cases hm
  | ref a => cases e
  | ty n => cases e
  | kt ds => cases e; obtain ⟨p, xs, rfl, hs, t⟩ := h.seqK; exact sqT hs
  | xd f d => cases e
  | lk _ _ => cases e
  | exc C f d => cases e
def wIsi (cs : List TN) (we : WE) : WE := fun ρ X Q => we ρ X fun r ρ1 => ∃ d a, r.get ρ1 = some d ∧ d.tn = some a ∧ Q (.val (.bl (cs.any fun c => a.is c))) ρ1
section
variable {X : Cx} {M : MC} {E : WX} {e : Expr} {we : WE} {p p2 pos : Pos}
theorem pd_isi {T : Str} {c : TN} (hc : c ≠ .non) (hg : Gl X "isinstance") (hm : X.mg "isinstance" = none) (he : PE X e (tD X.K M E we)) (hT : PE X (.Name T p2) (tC (.ty c.name)))
    (hs : starEach (e :: [.Name T p2]) X.env = (false, eval e X.env) :: starEach [.Name T p2] X.env := by rfl) (hs2 : starEach [.Name T p2] X.env = (false, eval (.Name T p2) X.env) :: starEach [] X.env := by rfl) (hpl : (backTo pos (starEach [.Name T p2] X.env)).any (·.1) = false := by rfl) :
    PE X (.Call (.Name "isinstance" p) [e, .Name T p2] [] pos) (tD X.K M E (wIsi [c] we)) := by
  refine PE.weak (pe_callB call_isi hg hm rfl (pa_cons he (pa_cons hT pa_nil hs2) hs) (by decide) (by decide) hs hpl) fun σ H Q ⟨G, ρ, Xd, Qd, R, L, w, k⟩ => ⟨G, ρ, Xd, _, R, L, w, fun ρ1 v H1 r R1 h1 ⟨d, a, g, ha, w1⟩ => ?_⟩
  refine ⟨v, .ty c.name, .type a.name, .type c.name, a.is c, rfl, .ty _, (R1.get h1 g).tyx ha, kit_ty (kit_is a c hc), ?_⟩
  have e : (List.any [c] fun c => a.is c) = a.is c := by simp
  rw [e] at w1
  exact k ρ1 _ H1 (.val (.bl (a.is c))) (R1.unhold.pinned (.bl _)) trivial w1
theorem pd_isi2 {T U : Str} {c c' : TN} {x1} {p3 p4 : Pos} (hc : c ≠ .non) (hc' : c' ≠ .non) (hg : Gl X "isinstance") (hm : X.mg "isinstance" = none) (he : PE X e (tD X.K M E we)) (hT : PE X (.Name T p2) (tC (.ty c.name))) (hU : PE X (.Name U p3) (tC (.ty c'.name)))
    (hs : starEach (e :: [.Tuple [.Name T p2, .Name U p3] x1 p4]) X.env = (false, eval e X.env) :: starEach [.Tuple [.Name T p2, .Name U p3] x1 p4] X.env := by rfl) (hs2 : starEach [.Tuple [.Name T p2, .Name U p3] x1 p4] X.env = (false, eval (.Tuple [.Name T p2, .Name U p3] x1 p4) X.env) :: starEach [] X.env := by rfl)
    (hs3 : starEach [.Name T p2, .Name U p3] X.env = (false, eval (.Name T p2) X.env) :: starEach [.Name U p3] X.env := by rfl) (hs4 : starEach [.Name U p3] X.env = (false, eval (.Name U p3) X.env) :: starEach [] X.env := by rfl)
    (hpl : (backTo pos (starEach [.Tuple [.Name T p2, .Name U p3] x1 p4] X.env)).any (·.1) = false := by rfl) :
    PE X (.Call (.Name "isinstance" p) [e, .Tuple [.Name T p2, .Name U p3] x1 p4] [] pos) (tD X.K M E (wIsi [c, c'] we)) := by
  refine PE.weak (pe_callB call_isiT hg hm rfl (pa_cons he (pa_cons (pe_tup (pa_cons hT (pa_cons hU pa_nil hs4) hs3)) pa_nil hs2) hs) (by decide) (by decide) hs hpl) fun σ H Q ⟨G, ρ, Xd, Qd, R, L, w, k⟩ => ⟨G, ρ, Xd, _, R, L, w, fun ρ1 v H1 r R1 h1 ⟨d, a, g, ha, w1⟩ => ?_⟩
  refine ⟨le1000 (n := 2) (by decide), fun tp hp => ?_⟩
  have R2 := R1.new (o := .tup [.ty c.name, .ty c'.name]) hp
  refine ⟨v, tp, [.ty c.name, .ty c'.name], .type a.name, [.type c.name, .type c'.name], a.is c || a.is c', rfl, upd_same, .cons (.ty _) (.cons (.ty _) .nil), (R2.get h1 g).tyx ha, ?_, ?_⟩
  · refine kitAny_cons (kit_ty (kit_is a c hc)) (fun h => ?_) fun h => by rw [h]; rfl
    refine kitAny_cons (kit_ty (kit_is a c' hc')) (fun h' => ?_) fun h' => by rw [h, h']; rfl
    rw [h, h']; exact kitAny_nil
  · have e : (List.any [c, c'] fun c => a.is c) = (a.is c || a.is c') := by simp
    rw [e] at w1
    exact k ρ1 _ _ (.val (.bl (a.is c || a.is c'))) (R2.unhold.pinned (.bl _)) trivial w1
end
end El

set_option Elab.async false
set_option linter.all false
set_option maxRecDepth 100000
set_option maxHeartbeats 4000000
/-! EF: what is walked; for, while, list comprehensions. -/
namespace El
open PySem L2

/-- more in hand -/
structure More (G G' : Gd) : Prop where
  h0 : G.H0 = G'.H0
  io : G.io = G'.io
  pins : ∀ q ∈ G.pins, q ∈ G'.pins
  hid : G.hid = G'.hid
theorem More.refl {G : Gd} : More G G := ⟨rfl, rfl, fun _ h => h, rfl⟩
theorem More.pin {G : Gd} {v : V} {d : D} : More G (G.pin v d) := ⟨rfl, rfl, fun _ h => List.mem_cons_of_mem _ h, rfl⟩
theorem More.trans {G G' G2 : Gd} (a : More G G') (b : More G' G2) : More G G2 := ⟨a.h0.trans b.h0, a.io.trans b.io, fun q h => b.pins q (a.pins q h), a.hid.trans b.hid⟩
section
variable {K : PySem.W.Frag} {M : MC} {G G' : Gd} {ρ : Rho} {σ : St} {H : Hp} {E : WX} {X : XD}
theorem More.own (m : More G G') : Own M G ρ = Own M G' ρ := by
  funext a
  unfold Own
  rw [m.hid]
theorem More.rel (m : More G G') (R : Rel K M G' ρ σ H) : Rel K M G ρ σ H := R.pinsub m.h0 m.io m.pins m.hid
theorem More.lnk (m : More G G') (L : Lnk K M G E X) : Lnk K M G' E X := fun ρ σ H cls dd e R h => L ρ σ H cls dd e (m.rel R) (by rw [m.own]; exact h)
end
/-- what J walks: the data ds, while the ground stands -/
structure DWalk (K : PySem.W.Frag) (M : MC) (G : Gd) (J : It) (ds : List D) : Prop where
  goes : ∀ G2 i ρ σ H, (∀ q ∈ G.pins, q ∈ G2.pins) → i < ds.length → Rel K M G2 ρ σ H → J.go i H
  stops : ∀ G2 ρ σ H, (∀ q ∈ G.pins, q ∈ G2.pins) → Rel K M G2 ρ σ H → J.stop ds.length H
  ylds : ∀ G2 i ρ σ H x H' d, (∀ q ∈ G.pins, q ∈ G2.pins) → ds[i]? = some d → Rel K M G2 ρ σ H → J.yld i H x H' → Nw H H' ∧ DAt K (Own M G2 ρ) H' x d
abbrev WI := Rho → XD → (List D → Rho → Prop) → Prop
def tDI (K : PySem.W.Frag) (M : MC) (E : WX) (W : WI) : TI := fun σ H R => ∃ G ρ X Qd, Rel K M G ρ σ H ∧ Lnk K M G E X ∧ W ρ X Qd ∧
  ∀ ρ' H' G' ds J, More G G' → Rel K M G' ρ' σ H' → DWalk K M G' J ds → Qd ds ρ' → R J H'
/-- what a thing gives item by item -/
def keyD1 : Key → D
  | .inl i => .int i
  | .inr x => .str x
/-- a dict's key as a thing -/
def keyD : DK → D
  | .one k => keyD1 k
  | .many ks => .tup (ks.map keyD1)
theorem keyD1_at {K : PySem.W.Frag} {O : Addr → Prop} {H : Hp} : ∀ k : Key, DAt K O H (kV k) (keyD1 k)
  | .inl i => .int i
  | .inr x => .str x
theorem keyD1_all {K : PySem.W.Frag} {O : Addr → Prop} {H : Hp} : ∀ ks : List Key, DAll K O H (ks.map kV) (ks.map keyD1)
  | [] => .nil
  | k :: ks => .cons (keyD1_at k) (keyD1_all ks)
def itemsD : D → Option (List D)
  | .lst ds => some ds
  | .fls ds => some ds
  | .tup ds => some ds
  | .kt ds => some ds
  | .str x => some (x.cps.toList.map fun c => .str ⟨#[c]⟩)
  | .dic _ ks _ => some (ks.map keyD)
  | _ => none
def wiSeq (we : WE) : WI := fun ρ X Q => we ρ X fun r ρ1 => ∃ d ρ2 ds, r.out ρ1 = some (d, ρ2) ∧ itemsD d = some ds ∧ Q ds ρ2
section
variable {X : Cx} {M : MC} {E : WX} {tg e : Expr} {we : WE} {pins : List (Addr × Obj)} {σ : St} {H : Hp} {s : Shared} {R : It → Hp → Prop} {a : Addr} {xs : List V} {F : Value → Shared → Prop}
theorem it_list (I : Inv X pins σ H s) (hq : SqL X.K H a xs) (q : R (Itl X.K a) H) : wpAny (model X.prog X.w) X.A (pyIter (.ref a)) (PIE X pins σ tg R) F s := by
  obtain ⟨us, _, pl, _⟩ := I.list hq
  exact wpAny_pyIter_list pl.isList (pi_one (tk := s.toks) I _ (turn_list a _) ⟨_, Heap.get?_push_size _ rfl, rfl, rfl⟩ q)
theorem it_tup (I : Inv X pins σ H s) (hq : SqT X.K H a xs) (q : R (Itt X.K a) H) : wpAny (model X.prog X.w) X.A (pyIter (.ref a)) (PIE X pins σ tg R) F s := by
  obtain ⟨us, _, pl, _⟩ := I.tuple hq
  exact wpAny_pyIter_tuple (show s.heap.IsTuple a us.toArray from pl) (pi_one (tk := s.toks) I _ (turn_tuple a _) ⟨_, Heap.get?_push_size _ rfl, rfl, rfl⟩ q)
theorem it_str {x : Str} {t : Tok} (I : Inv X pins σ H s) (q : R (Its x) H) : wpAny (model X.prog X.w) X.A (pyIter (.str x t)) (PIE X pins σ tg R) F s := by
  cases ha : x.cps.all (· < 128) with
  | false => exact wpAny_pyIter_wide ha (pi_one (tk := s.toks) I _ (turn_str _ x t _ (.inr rfl)) ⟨_, Heap.get?_push_size _ rfl, rfl, rfl⟩ q)
  | true => exact wpAny_pyIter_ascii ha (pi_one (tk := s.toks) I _ (turn_str _ x t _ (.inl rfl)) ⟨_, Heap.get?_push_size _ rfl, rfl, rfl⟩ q)
theorem walk_lst {K : PySem.W.Frag} {G : Gd} {ds : List D} (hG : (V.ref a, D.lst ds) ∈ G.pins ∨ (V.ref a, D.fls ds) ∈ G.pins) : DWalk K M G (Itl K a) ds := by
  have look : ∀ {G2 : Gd} {ρ : Rho} {σ : St} {H : Hp}, (∀ q ∈ G.pins, q ∈ G2.pins) → Rel K M G2 ρ σ H → ∃ xs, SqL K H a xs ∧ DAll K (Own M G2 ρ) H xs ds := fun s R => by
    rcases hG with hG | hG
    · obtain ⟨a', xs, e, _, h, t⟩ := (R.pin _ (s _ hG)).lst'
      cases e
      exact ⟨xs, SqL.of h, t⟩
    · obtain ⟨a', xs, e, h, t⟩ := (R.pin _ (s _ hG)).fls'
      cases e
      exact ⟨xs, h, t⟩
  refine ⟨fun G2 i ρ σ H s hi R => ?_, fun G2 ρ σ H s R => ?_, fun G2 i ρ σ H x H' d s hd R y => ?_⟩
  · obtain ⟨xs, h, t⟩ := look s R
    have hx : i < xs.length := by rw [t.length]; exact hi
    exact ⟨xs, xs[i], h, by simp [hx]⟩
  · obtain ⟨xs, h, t⟩ := look s R
    exact ⟨xs, h, by rw [t.length]; exact Nat.le_refl _⟩
  · obtain ⟨xs, h, t⟩ := look s R
    obtain ⟨rfl, y⟩ := y
    obtain ⟨d', h1, h2⟩ := t.getV (y xs h)
    rw [hd] at h1; cases h1
    exact ⟨.refl, h2⟩
theorem walk_tpl {K : PySem.W.Frag} {G : Gd} {ds : List D} (hG : (V.ref a, D.tup ds) ∈ G.pins ∨ (V.ref a, D.kt ds) ∈ G.pins) : DWalk K M G (Itt K a) ds := by
  have look : ∀ {G2 : Gd} {ρ : Rho} {σ : St} {H : Hp}, (∀ q ∈ G.pins, q ∈ G2.pins) → Rel K M G2 ρ σ H → ∃ xs, SqT K H a xs ∧ DAll K (Own M G2 ρ) H xs ds := fun s R => by
    rcases hG with hG | hG
    · obtain ⟨a', xs, e, h, t⟩ := (R.pin _ (s _ hG)).sqT
      cases e
      exact ⟨xs, h, t⟩
    · obtain ⟨a', xs, e, h, t⟩ := (R.pin _ (s _ hG)).sqK
      cases e
      exact ⟨xs, h, t⟩
  refine ⟨fun G2 i ρ σ H s hi R => ?_, fun G2 ρ σ H s R => ?_, fun G2 i ρ σ H x H' d s hd R y => ?_⟩
  · obtain ⟨xs, h, t⟩ := look s R
    have hx : i < xs.length := by rw [t.length]; exact hi
    exact ⟨xs, xs[i], h, by simp [hx]⟩
  · obtain ⟨xs, h, t⟩ := look s R
    exact ⟨xs, h, by rw [t.length]; exact Nat.le_refl _⟩
  · obtain ⟨xs, h, t⟩ := look s R
    obtain ⟨rfl, y⟩ := y
    obtain ⟨d', h1, h2⟩ := t.getV (y xs h)
    rw [hd] at h1; cases h1
    exact ⟨.refl, h2⟩
theorem walk_sgn {K : PySem.W.Frag} {G : Gd} {x : Str} : DWalk K M G (Its x) (x.cps.toList.map fun c => .str ⟨#[c]⟩) := by
  refine ⟨fun G2 i ρ σ H s hi R => ?_, fun G2 ρ σ H s R => ?_, fun G2 i ρ σ H v H' d s hd R y => ?_⟩
  · have : i < x.cps.size := by simpa using hi
    exact this
  · show x.cps.size ≤ _
    simp
  · obtain ⟨rfl, c, h1, rfl⟩ := y
    rw [List.getElem?_map, Array.getElem?_toList, h1] at hd
    cases hd
    exact ⟨.refl, .str _⟩
theorem it_dk {o : Obj} {kvs : List (Key × V)} (I : Inv X pins σ H s) (e : H a = some (.frz o (.dK kvs))) (q : R (Itk a o kvs) H) : wpAny (model X.prog X.w) X.A (pyIter (.ref a)) (PIE X pins σ tg R) F s := by
  obtain ⟨sm, at_, cl, ents, ver, _, dat, sz, _⟩ := I.frzK e
  refine iter_keys sm at_ cl dat (pi_one (tk := s.toks) I _ (turn_keys _ dat) ⟨_, Heap.get?_push_size _ rfl, rfl, ?_⟩ q)
  rw [sz] <;> rfl
theorem it_dt {o : Obj} {kvs : List (List Key × V)} (I : Inv X pins σ H s) (e : H a = some (.frz o (.dT kvs))) (q : R (Itkt a o kvs) H) : wpAny (model X.prog X.w) X.A (pyIter (.ref a)) (PIE X pins σ tg R) F s := by
  obtain ⟨sm, at_, cl, ents, ver, dat, sz, _⟩ := I.frzT e
  refine iter_keys sm at_ cl dat (pi_one (tk := s.toks) I _ (turn_keysT _ dat) ⟨_, Heap.get?_push_size _ rfl, rfl, ?_⟩ q)
  rw [sz] <;> rfl
theorem pin_lk {K : PySem.W.Frag} {G G2 : Gd} {ρ : Rho} {σ : St} {H : Hp} {o : Obj} {u : HO} (hG : (V.ref a, D.lk o u) ∈ G.pins) (s : ∀ q ∈ G.pins, q ∈ G2.pins) (R : Rel K M G2 ρ σ H) : H a = some (.frz o u) := by
  cases R.pin _ (s _ hG) with
  | lk n e => exact e
theorem walk_dk {K : PySem.W.Frag} {G : Gd} {o : Obj} {kvs : List (Key × V)} (hG : (V.ref a, D.lk o (.dK kvs)) ∈ G.pins) : DWalk K M G (Itk a o kvs) ((kvs.map fun p => DK.one p.1).map keyD) := by
  refine ⟨fun G2 i ρ σ H s hi R => ⟨pin_lk hG s R, by simpa using hi⟩, fun G2 ρ σ H s R => ⟨pin_lk hG s R, by simp⟩, fun G2 i ρ σ H x H' d s hd R ⟨e, k, v, h1, h2⟩ => ?_⟩
  subst e h2
  rw [List.map_map, List.getElem?_map, h1] at hd
  cases hd
  exact ⟨.refl, keyD1_at k⟩
theorem walk_dt {K : PySem.W.Frag} {G : Gd} {o : Obj} {kvs : List (List Key × V)} (hG : (V.ref a, D.lk o (.dT kvs)) ∈ G.pins) : DWalk K M G (Itkt a o kvs) ((kvs.map fun p => DK.many p.1).map keyD) := by
  refine ⟨fun G2 i ρ σ H s hi R => ⟨pin_lk hG s R, by simpa using hi⟩, fun G2 ρ σ H s R => ⟨pin_lk hG s R, by simp⟩, fun G2 i ρ σ H x H' d s hd R ⟨e, k, v, q, h1, h2, h3⟩ => ?_⟩
  subst e h2
  rw [List.map_map, List.getElem?_map, h1] at hd
  cases hd
  exact ⟨.refl, .tup h3 (keyD1_all k)⟩
theorem pd_iseq (he : PE X e (tD X.K M E we)) : PI X tg e (tDI X.K M E (wiSeq we)) := by
  refine ⟨fun pins s σ H Rr I ⟨G, ρ, Xd, Qd, R, L, w, k⟩ => ?_⟩
  refine thn (he.run pins s σ H (fun x H1 => ∃ ρ1 r, Rel X.K M (G.hold x r) ρ1 σ H1 ∧ RsOk x r ∧ ∃ d ρ2 ds, r.out ρ1 = some (d, ρ2) ∧ itemsD d = some ds ∧ Qd ds ρ2) I ⟨G, ρ, Xd, _, R, L, w, fun ρ1 v H1 r R1 h1 w1 => ⟨ρ1, r, R1, h1, w1⟩⟩) fun v s1 ⟨x, H1, I1, r1, ρ1, r, R1, h1, d, ρ2, ds, g, gi, w1⟩ => ?_
  obtain ⟨hd, R2⟩ := R1.out h1 g
  have R3 := R2.pinned hd
  cases d with
  | lst zs =>
    cases gi
    obtain ⟨a, xs, rfl, _, h, t⟩ := hd.lst'
    obtain rfl : v = Value.ref a := r1
    exact it_list I1 (SqL.of h) (k ρ2 H1 (G.pin (.ref a) (.lst ds)) ds _ .pin R3 (walk_lst (.inl List.mem_cons_self)) w1)
  | fls zs =>
    cases gi
    obtain ⟨a, xs, rfl, h, t⟩ := hd.fls'
    obtain rfl : v = Value.ref a := r1
    exact it_list I1 h (k ρ2 H1 (G.pin (.ref a) (.fls ds)) ds _ .pin R3 (walk_lst (.inr List.mem_cons_self)) w1)
  | tup zs =>
    cases gi
    obtain ⟨a, xs, rfl, h, t⟩ := hd.sqT
    obtain rfl : v = Value.ref a := r1
    exact it_tup I1 h (k ρ2 H1 (G.pin (.ref a) (.tup ds)) ds _ .pin R3 (walk_tpl (.inl List.mem_cons_self)) w1)
  | kt zs =>
    cases gi
    obtain ⟨a, xs, rfl, h, t⟩ := hd.sqK
    obtain rfl : v = Value.ref a := r1
    exact it_tup I1 h (k ρ2 H1 (G.pin (.ref a) (.kt ds)) ds _ .pin R3 (walk_tpl (.inr List.mem_cons_self)) w1)
  | dic m ks vs =>
    cases gi
    cases hd with
    | dk n e t =>
      rename_i a kvs
      obtain rfl : v = Value.ref a := r1
      rcases e with e | ⟨od, e⟩
      · obtain ⟨od, I2⟩ := I1.lock e trivial
        exact it_dk I2 upd_same (k ρ2 _ (G.pin (.ref a) (.lk od (.dK kvs))) _ _ .pin ((R2.lock n e rfl).pinned (.lk n upd_same)) (walk_dk List.mem_cons_self) w1)
      · exact it_dk I1 e (k ρ2 _ (G.pin (.ref a) (.lk od (.dK kvs))) _ _ .pin (R2.pinned (.lk n e)) (walk_dk List.mem_cons_self) w1)
    | dt n e t =>
      rename_i a kvs
      obtain rfl : v = Value.ref a := r1
      rcases e with e | ⟨od, e⟩
      · obtain ⟨od, I2⟩ := I1.lock e trivial
        exact it_dt I2 upd_same (k ρ2 _ (G.pin (.ref a) (.lk od (.dT kvs))) _ _ .pin ((R2.lock n e rfl).pinned (.lk n upd_same)) (walk_dt List.mem_cons_self) w1)
      · exact it_dt I1 e (k ρ2 _ (G.pin (.ref a) (.lk od (.dT kvs))) _ _ .pin (R2.pinned (.lk n e)) (walk_dt List.mem_cons_self) w1)
  | str z =>
    cases gi
    cases hd
    obtain ⟨t, rfl⟩ := r1
    exact it_str I1 (k ρ2 H1 _ _ _ .refl R2 walk_sgn w1)
  | _ => cases gi
end

/-! ### range -/
def rangeD (lo : Int) (n : Nat) : List D := (List.range n).map fun (i : Nat) => .int (lo + i)
def rangeC (lo c : Int) (n : Nat) : List D := (List.range n).map fun (i : Nat) => .int (lo + (i : Nat) * c)
theorem walk_rng {K : PySem.W.Frag} {M : MC} {G : Gd} {lo : Int} {n : Nat} : DWalk K M G (Itr lo n) (rangeD lo n) := by
  refine ⟨fun G2 i ρ σ H s hi R => ?_, fun G2 ρ σ H s R => ?_, fun G2 i ρ σ H v H' d s hd R y => ?_⟩
  · have : i < n := by simpa [rangeD] using hi
    exact this
  · show n ≤ _
    simp [rangeD]
  · obtain ⟨rfl, rfl⟩ := y
    have hi : i < n := by simpa [rangeD] using (List.getElem?_eq_some_iff.mp hd).1
    rw [show (rangeD lo n)[i]? = some (.int (lo + i)) by simp [rangeD, hi]] at hd
    cases hd
    exact ⟨.refl, .int _⟩
theorem walk_rngC {K : PySem.W.Frag} {M : MC} {G : Gd} {lo c : Int} {n : Nat} : DWalk K M G (Itc lo c n) (rangeC lo c n) := by
  refine ⟨fun G2 i ρ σ H s hi R => ?_, fun G2 ρ σ H s R => ?_, fun G2 i ρ σ H v H' d s hd R y => ?_⟩
  · have : i < n := by simpa [rangeC] using hi
    exact this
  · show n ≤ _
    simp [rangeC]
  · obtain ⟨rfl, rfl⟩ := y
    have hi : i < n := by simpa [rangeC] using (List.getElem?_eq_some_iff.mp hd).1
    rw [show (rangeC lo c n)[i]? = some (.int (lo + (i : Nat) * c)) by simp [rangeC, hi]] at hd
    cases hd
    exact ⟨.refl, .int _⟩
def sm62 (i : Int) : Prop := -4611686018427387904 ≤ i ∧ i < 4611686018427387904
def wiR1 (wa : WA) : WI := fun ρ X Q => wa ρ X fun rs ρ1 => ∃ j, gets ρ1 rs = some [.int j] ∧ sm62 j ∧ Q (rangeD 0 j.toNat) ρ1
def wiR2 (wa : WA) : WI := fun ρ X Q => wa ρ X fun rs ρ1 => ∃ i j, gets ρ1 rs = some [.int i, .int j] ∧ sm62 i ∧ sm62 j ∧ Q (rangeD i (j - i).toNat) ρ1
def wiR3 (wa : WA) : WI := fun ρ X Q => wa ρ X fun rs ρ1 => ∃ i j c n, gets ρ1 rs = some [.int i, .int j, .int c] ∧ RgC i j c n ∧ Q (rangeC i c n) ρ1
theorem BAll.ints1 {K : PySem.W.Frag} {O : Addr → Prop} {H : Hp} {vs : List V} {i : Int} (h : BAll K O H vs [.int i]) : vs = [.int i] := by
  obtain ⟨v, rfl, b⟩ := h.one
  rw [b.int]
theorem BAll.ints2 {K : PySem.W.Frag} {O : Addr → Prop} {H : Hp} {vs : List V} {i j : Int} (h : BAll K O H vs [.int i, .int j]) : vs = [.int i, .int j] := by
  obtain ⟨v, w, rfl, b, c⟩ := h.two
  rw [b.int, c.int]
theorem BAll.ints3 {K : PySem.W.Frag} {O : Addr → Prop} {H : Hp} {vs : List V} {i j c : Int} (h : BAll K O H vs [.int i, .int j, .int c]) : vs = [.int i, .int j, .int c] := by
  cases h with
  | cons a t => rw [a.int, t.ints2]
section
variable {X : Cx} {M : MC} {E : WX} {tg a b c : Expr} {wa : WA} {p pos : Pos}
theorem PI.weak {e : Expr} {t t' : TI} (h : PI X tg e t) (w : ∀ σ H R, t' σ H R → t σ H R) : PI X tg e t' := ⟨fun pins s σ H R I q => h.run pins s σ H R I (w σ H R q)⟩
theorem pd_r1 (hg : Gl X "range") (hm : X.mg "range" = none) (ha : PA X [a] (tDA X.K M E wa)) (hs : starEach [a] X.env = [(false, eval a X.env)] := by rfl) : PI X tg (.Call (.Name "range" p) [a] [] pos) (tDI X.K M E (wiR1 wa)) :=
  PI.weak (pi_range1 hg hm ha hs) fun σ H Rr ⟨G, ρ, Xd, Qd, R, L, w, k⟩ => ⟨G, ρ, Xd, _, R, L, w, fun ρ1 vs H1 rs R1 h1 ⟨j, g, ⟨b1, b2⟩, w1⟩ => ⟨j, (R1.gets h1 g).ints1, by omega, by omega, k ρ1 H1 _ _ _ .refl R1.unholds walk_rng w1⟩⟩
theorem pd_r2 (hg : Gl X "range") (hm : X.mg "range" = none) (ha : PA X [a, b] (tDA X.K M E wa)) (hs : starEach [a, b] X.env = [(false, eval a X.env), (false, eval b X.env)] := by rfl) (hs2 : starEach [b] X.env = [(false, eval b X.env)] := by rfl) :
    PI X tg (.Call (.Name "range" p) [a, b] [] pos) (tDI X.K M E (wiR2 wa)) :=
  PI.weak (pi_range2 hg hm ha hs hs2) fun σ H Rr ⟨G, ρ, Xd, Qd, R, L, w, k⟩ => ⟨G, ρ, Xd, _, R, L, w, fun ρ1 vs H1 rs R1 h1 ⟨i, j, g, ⟨b1, b2⟩, ⟨b3, b4⟩, w1⟩ => ⟨i, j, (R1.gets h1 g).ints2, ⟨by omega, by omega, by omega, by omega⟩, k ρ1 H1 _ _ _ .refl R1.unholds walk_rng w1⟩⟩
theorem pd_r3 (hg : Gl X "range") (hm : X.mg "range" = none) (ha : PA X [a, b, c] (tDA X.K M E wa)) (hs : starEach [a, b, c] X.env = (false, eval a X.env) :: starEach [b, c] X.env := by rfl) (hpl : (backTo pos (starEach [b, c] X.env)).any (·.1) = false := by rfl) :
    PI X tg (.Call (.Name "range" p) [a, b, c] [] pos) (tDI X.K M E (wiR3 wa)) :=
  PI.weak (pi_range3 hg hm ha hs hpl) fun σ H Rr ⟨G, ρ, Xd, Qd, R, L, w, k⟩ => ⟨G, ρ, Xd, _, R, L, w, fun ρ1 vs H1 rs R1 h1 ⟨i, j, c, n, g, hr, w1⟩ => ⟨i, j, c, n, (R1.gets h1 g).ints3, hr, k ρ1 H1 _ _ _ .refl R1.unholds walk_rngC w1⟩⟩
end

/-! ### for -/
def forD (g : WG) (tb : WS) : List D → WS
  | [] => fun ρ _ D => D.nx ρ
  | d :: ds => fun ρ X D => g d ρ fun ρ1 => tb ρ1 X { D with nx := fun ρ2 => forD g tb ds ρ2 X D, ct := fun ρ2 => forD g tb ds ρ2 X D, bk := D.nx }
def wsFor (wi : WI) (g : WG) (tb : WS) : WS := fun ρ X D => wi ρ X fun ds ρ1 => forD g tb ds ρ1 X D
section
variable {X : Cx} {M : MC} {E : WX} {tg iter : Expr} {body : List Stmt} {pos : Pos} {wi : WI} {S : List Nat} {g : WG} {tb : WS}
theorem More.hold {G G' : Gd} (m : More G G') (v : V) (r : Rs) : More (G.hold v r) (G'.hold v r) := by
  cases r with
  | val d => exact ⟨m.h0, m.io, fun q hq => (List.mem_cons.mp hq).elim (fun z => z ▸ List.mem_cons_self) fun z => List.mem_cons_of_mem _ (m.pins q z), m.hid⟩
  | pth i π p => exact m
  | new t => exact ⟨m.h0, m.io, m.pins, congrArg (List.cons _) m.hid⟩
  | nw d => cases v <;> first | exact m | exact ⟨m.h0, m.io, m.pins, congrArg (List.cons _) m.hid⟩
theorem for_all {K : PySem.W.Frag} : ∀ D σ H, tDS K M E (wsFor wi g tb) D σ H → tFor (tDI K M E wi) (tDG K M S g) (tDS K M E tb) D σ H := by
  rintro D σ H ⟨G, ρ, Xd, Qd, R, L, w, k1, k2, k3, k4⟩
  refine ⟨G, ρ, Xd, _, R, L, w, fun ρ1 H1 G1 ds J m R1 wk w1 => ?_⟩
  have R1' : Rel K M G1 ρ1 σ H1 := R1
  refine ⟨fun i n σ H => n = ds.length - i ∧ i ≤ ds.length ∧ ∃ ρ, Rel K M G1 ρ σ H ∧ forD g tb (ds.drop i) ρ Xd Qd, ⟨ds.length, by simp, Nat.zero_le _, ρ1, R1', by simpa using w1⟩, ?_⟩
  rintro i n σ2 H2 ⟨rfl, hi, ρ2, R2, w2⟩
  by_cases hl : i < ds.length
  · refine .inr ⟨wk.goes G1 i _ _ _ (fun _ h => h) hl R2, fun σ3 H3 => ∃ ρ, Rel K M G1 ρ σ3 H3 ∧ forD g tb (ds.drop (i + 1)) ρ Xd Qd, fun σ3 H3 ⟨ρ3, R3, w3⟩ => ⟨ds.length - (i + 1), by omega, rfl, hl, ρ3, R3, w3⟩, fun x H3 y => ?_⟩
    have e : ds.drop i = ds[i] :: ds.drop (i + 1) := (List.getElem_cons_drop hl).symm
    rw [e] at w2
    obtain ⟨n, hd⟩ := wk.ylds G1 i _ _ _ x H3 ds[i] (fun _ h => h) (by simp [hl]) R2 y
    refine ⟨G1, ρ2, ds[i], _, R2.nw n, hd, w2, fun ρ3 σ3 R3 _ w3 => ?_⟩
    exact ⟨G1, ρ3, Xd, _, R3, m.lnk L, w3, fun ρ4 σ4 H4 R4 w4 => ⟨ρ4, R4, w4⟩, fun ρ4 σ4 v H4 r R4 h4 w4 => k2 ρ4 σ4 v H4 r ((m.hold v r).rel R4) h4 w4, fun ρ4 σ4 H4 R4 w4 => k1 ρ4 σ4 H4 (m.rel R4) w4, fun ρ4 σ4 H4 R4 w4 => ⟨ρ4, R4, w4⟩⟩
  · have e : i = ds.length := by omega
    subst e
    rw [List.drop_length] at w2
    exact .inl ⟨wk.stops G1 _ _ _ (fun _ h => h) R2, k1 ρ2 σ2 H2 (m.rel R2) w2⟩
theorem pd_for (hp : PassesOwn (model X.prog X.w) X.A X.env X.xe) (hc : X.calm = true) (hi : PI X tg iter (tDI X.K M E wi)) (hg : PG X tg (tDG X.K M S g)) (hb : PSs X body (tDS X.K M E tb))
    (hs : ∀ x, foldedSetIterable iter X.env x = pure x := by intro _; rfl) : PS X (.For tg iter body [] pos) (tDS X.K M E (wsFor wi g tb)) := PS.weak (ps_for hp hc hi hg hb hs) for_all

/-! ### while -/
def whD (c : WT) (tb : WS) : Nat → WS
  | 0 => fun _ _ _ => False
  | n + 1 => fun ρ X D => c ρ X fun b ρ1 => if b = true then tb ρ1 X { D with nx := fun ρ2 => whD c tb n ρ2 X D, ct := fun ρ2 => whD c tb n ρ2 X D, bk := D.nx } else D.nx ρ1
def wsWh (c : WT) (tb : WS) : WS := fun ρ X D => ∃ n, whD c tb n ρ X D
theorem wh_all {K : PySem.W.Frag} {c : WT} : ∀ D σ H, tDS K M E (wsWh c tb) D σ H → tWhile (tDT K M E c) (tDS K M E tb) D σ H := by
  rintro D σ H ⟨G, ρ, Xd, Qd, R, L, ⟨n, w⟩, k1, k2, k3, k4⟩
  refine ⟨fun n σ H => ∃ ρ, Rel K M G ρ σ H ∧ whD c tb n ρ Xd Qd, ⟨n, ρ, R, w⟩, ?_⟩
  rintro n σ2 H2 ⟨ρ2, R2, w2⟩
  cases n with
  | zero => exact w2.elim
  | succ n =>
    refine ⟨G, ρ2, Xd, _, R2, L, w2, fun ρ3 b H3 R3 w3 => ?_⟩
    cases b with
    | false => exact k1 ρ3 σ2 H3 R3 w3
    | true =>
      refine ⟨fun σ4 H4 => ∃ ρ, Rel K M G ρ σ4 H4 ∧ whD c tb n ρ Xd Qd, fun σ4 H4 q => ⟨n, Nat.lt_succ_self n, q⟩, ?_⟩
      exact ⟨G, ρ3, Xd, _, R3, L, w3, fun ρ4 σ4 H4 R4 w4 => ⟨ρ4, R4, w4⟩, k2, fun ρ4 σ4 H4 R4 w4 => k1 ρ4 σ4 H4 R4 w4, fun ρ4 σ4 H4 R4 w4 => ⟨ρ4, R4, w4⟩⟩
theorem pd_while {c : Expr} {t : WT} (hp : PassesOwn (model X.prog X.w) X.A X.env X.xe) (hc : PT X c (tDT X.K M E t)) (hb : PSs X body (tDS X.K M E tb)) : PS X (.While c body [] pos) (tDS X.K M E (wsWh t tb)) := PS.weak (ps_while hp hc hb) wh_all
end

/-! ### list comprehensions -/
def wipeR (ρ : Rho) : List Nat → Rho
  | [] => ρ
  | i :: is => wipeR (ρ.set i none) is
def noX : XD := fun _ _ => False
def noE : WX := fun _ _ _ _ => False
def lcD (g : WG) (tt : WT) (te : WE) (vs : List Nat) : List D → List D → Rho → (Rs → Rho → Prop) → Prop
  | [], acc, ρ, Q => Q (.nw (.lst acc)) ρ
  | d :: ds, acc, ρ, Q => g d ρ fun ρ2 => tt ρ2 noX fun b ρ3 => if b = true then te ρ3 noX fun r ρ4 => ∃ d' ρ5, r.out ρ4 = some (d', ρ5) ∧ acc.length < 16777216 ∧ lcD g tt te vs ds (acc ++ [d']) (wipeR ρ5 vs) Q
    else lcD g tt te vs ds acc (wipeR ρ3 vs) Q
def wLc (wi : WI) (g : WG) (tt : WT) (te : WE) (vs : List Nat) : WE := fun ρ X Q => wi ρ X fun ds ρ1 => lcD g tt te vs ds [] (wipeR ρ1 vs) Q
def wYes : WT := fun ρ _ Q => Q true ρ
theorem wipeR_len : ∀ (vs : List Nat) (ρ : Rho), (wipeR ρ vs).length = ρ.length
  | [], _ => rfl
  | i :: is, ρ => by unfold wipeR; rw [wipeR_len is, List.length_set]
theorem wipeR_get : ∀ (vs : List Nat) (ρ : Rho) (i : Nat) (c : T), (wipeR ρ vs)[i]? = some (some c) → ρ[i]? = some (some c) ∧ i ∉ vs
  | [], _, _, _, h => ⟨h, by simp⟩
  | j :: js, ρ, i, c, h => by
    unfold wipeR at h
    obtain ⟨h1, h2⟩ := wipeR_get js _ i c h
    by_cases e : j = i
    · subst e
      by_cases hl : j < ρ.length
      · rw [List.getElem?_set_self hl] at h1; cases h1
      · rw [List.getElem?_eq_none (by simpa using hl)] at h1; cases h1
    · rw [List.getElem?_set_ne e] at h1
      exact ⟨h1, by simp [Ne.symm e, h2]⟩
theorem wipe_cons (σ : St) (j : Nat) (js : List Nat) : wipe σ (j :: js) = (wipe σ js).set j none := rfl
theorem wipe_len (σ : St) : ∀ vs : List Nat, (wipe σ vs).length = σ.length
  | [] => rfl
  | i :: is => by rw [wipe_cons, List.length_set, wipe_len σ is]
theorem wipe_get (σ : St) : ∀ (vs : List Nat) (i : Nat), i ∉ vs → (wipe σ vs)[i]? = σ[i]?
  | [], _, _ => rfl
  | j :: js, i, h => by
    rw [wipe_cons, List.getElem?_set_ne fun z => h (List.mem_cons.mpr (.inl z.symm))]
    exact wipe_get σ js i fun z => h (List.mem_cons_of_mem _ z)
theorem wipe_in (σ : St) : ∀ (vs : List Nat) (i : Nat), i ∈ vs → i < σ.length → (wipe σ vs)[i]? = some none
  | j :: js, i, h, hl => by
    rw [wipe_cons]
    by_cases e : j = i
    · subst e
      rw [List.getElem?_set_self (by rw [wipe_len]; exact hl)]
    · rw [List.getElem?_set_ne e]
      exact wipe_in σ js i ((List.mem_cons.mp h).resolve_left (Ne.symm e)) hl
/-- the block's own slots alone were set -/
theorem wipe_same {S vs : List Nat} {σ σ' : St} (hS : ∀ i ∈ S, i ∈ vs) (hl : σ'.length = σ.length) (h : ∀ i, i ∉ S → σ'[i]? = (wipe σ vs)[i]?) : wipe σ' vs = wipe σ vs := by
  apply List.ext_getElem?
  intro i
  by_cases hi : i ∈ vs
  · by_cases hlt : i < σ.length
    · rw [wipe_in σ vs i hi hlt, wipe_in σ' vs i hi (by omega)]
    · rw [List.getElem?_eq_none (by rw [wipe_len]; omega), List.getElem?_eq_none (by rw [wipe_len]; omega)]
  · rw [wipe_get σ' vs i hi, h i fun z => hi (hS i z)]
theorem cR_le {a : Addr} : ∀ {ρ ρ' : Rho}, ρ'.length = ρ.length → (∀ (i : Nat) (c : T), ρ'[i]? = some (some c) → ρ[i]? = some (some c)) → cR a ρ' ≤ cR a ρ
  | [], [], _, _ => Nat.le_refl _
  | [], _ :: _, h, _ => nomatch h
  | _ :: _, [], h, _ => nomatch h
  | x :: ρ, y :: ρ', h, e => by
    have ih := cR_le (a := a) (ρ := ρ) (ρ' := ρ') (Nat.succ.inj h) fun i c q => by
      have := e (i + 1) c (by simpa using q)
      simpa using this
    have : cO a y ≤ cO a x := by
      cases y with
      | none => exact Nat.zero_le _
      | some c =>
        have := e 0 c (by simp)
        simp at this
        rw [this]; exact Nat.le_refl _
    simp only [cR]; omega
/-- some slots are forgotten -/
theorem Rel.forget {K : PySem.W.Frag} {M : MC} {G : Gd} {ρ ρ' : Rho} {σ σ' : St} {H : Hp} (R : Rel K M G ρ σ H) (hl : ρ'.length = σ'.length) (hl2 : σ'.length = σ.length) (h : ∀ (i : Nat) (c : T), ρ'[i]? = some (some c) → ρ[i]? = some (some c) ∧ σ'[i]? = σ[i]?) : Rel K M G ρ' σ' H := by
  have le : ∀ a, cR a ρ' ≤ cR a ρ := fun a => cR_le (by rw [hl, hl2, R.len]) fun i c e => (h i c e).1
  have st : Stay (Own M G ρ) (Own M G ρ') H H := stay_sub fun a z => z.elim .inl fun z => .inr (by have := le a; omega)
  refine ⟨fun i t e => ?_, fun a => by have := le a; have := R.nd a; omega, fun a z => R.own a (by have := le a; omega), R.base, R.mi, fun q hq => (R.pin q hq).stay st, fun q hq => (R.hid q hq).stay st fun _ _ => rfl, hl⟩
  obtain ⟨h1, h2⟩ := h i t e
  obtain ⟨v, a, b⟩ := R.slot i t h1
  exact ⟨v, h2.trans a, b.stay st fun _ _ => rfl⟩
/-- the object in hand is written -/
theorem Rel.hidPut {K : PySem.W.Frag} {M : MC} {G : Gd} {ρ : Rho} {σ : St} {H : Hp} {p : Addr} {d d' : D} {o : HO} (R : Rel K M (G.hide (.ref p) (.top p d)) ρ σ H) (h : Kids K (Own M (G.hide (.ref p) (.top p d)) ρ) H o d') : Rel K M (G.hide (.ref p) (.top p d')) ρ σ (upd H p o) := by
  have c1 : (T.top p d).cnt p = 1 := one_self
  have nd : ∀ a, cR a ρ + ((T.top p d).cnt a + cH a G.hid) ≤ 1 := R.nd
  have op : Own M (G.hide (.ref p) (.top p d)) ρ p := .inr (show 0 < cR p ρ + ((T.top p d).cnt p + cH p G.hid) by omega)
  have nM : ¬ M.O p := (R.own p (show 0 < cR p ρ + ((T.top p d).cnt p + cH p G.hid) by omega)).2
  have kt : ∀ a xs, H a = some (.tup xs) → upd H p o a = some (.tup xs) := fun a xs e => by
    by_cases q : a = p
    · subst q
      cases R.hid _ List.mem_cons_self with
      | top h2 k2 =>
        rw [e] at h2; cases h2
        cases d <;> exact k2.elim
    · rw [upd_ne q]; exact e
  have st : Stay (Own M (G.hide (.ref p) (.top p d)) ρ) (Own M (G.hide (.ref p) (.top p d')) ρ) H (upd H p o) := ⟨fun a u n e => ⟨n, .inl (by
    have : a ≠ p := fun q => n (q ▸ op)
    rw [upd_ne this]; exact e)⟩, kt⟩
  refine ⟨fun i t e => ?_, R.nd, R.own, ⟨fun a u n i e => ?_, fun a xs e => kt a xs (R.base.2 a xs e)⟩, M.loc H _ (fun a z => upd_ne fun e => nM (e ▸ z)) R.mi, fun q hq => (R.pin q hq).stay st, fun q hq => ?_, R.len⟩
  · obtain ⟨v, a, b⟩ := R.slot i t e
    refine ⟨v, a, b.stay st fun x z => upd_ne fun e1 => ?_⟩
    subst e1
    have : t.cnt x ≤ cR x ρ := cR_get (a := x) e
    have := nd x
    omega
  · have z := R.base.1 a u n i e
    by_cases q : a = p
    · subst q
      rcases (R.own a (show 0 < cR a ρ + ((T.top a d).cnt a + cH a G.hid) by omega)).1 with y | y
      · have e : G.H0 a = some u := e
        have y : G.H0 a = none := y
        rw [y] at e; cases e
      · exact absurd y i
    · rw [upd_ne q]; exact z
  · rcases List.mem_cons.mp hq with e | hq2
    · subst e
      exact .top upd_same (h.stay st)
    · refine (R.hid q (List.mem_cons_of_mem _ hq2)).stay st fun x z => upd_ne fun e1 => ?_
      subst e1
      have := cH_mem (a := x) hq2
      have := nd x
      omega
theorem Rel.wipes {K : PySem.W.Frag} {M : MC} {G : Gd} {ρ : Rho} {σ σ' : St} {H : Hp} {vs : List Nat} (R : Rel K M G ρ σ H) (hl : σ'.length = σ.length) (h : ∀ i, i ∉ vs → σ'[i]? = σ[i]?) : Rel K M G (wipeR ρ vs) σ' H :=
  R.forget (by rw [wipeR_len, R.len, hl]) hl fun i c e => by
    obtain ⟨h1, h2⟩ := wipeR_get vs ρ i c e
    exact ⟨h1, h i h2⟩
theorem More.hide {G G' : Gd} (m : More G G') {v : V} {t : T} : More (G.hide v t) (G'.hide v t) := ⟨m.h0, m.io, m.pins, congrArg (List.cons _) m.hid⟩
theorem Lnk.no {K : PySem.W.Frag} {M : MC} {G : Gd} {E : WX} : Lnk K M G E noX := fun _ _ _ _ _ _ _ _ h => h.elim
section
variable {X : Cx} {M : MC} {E : WX} {wi : WI} {S : List Nat} {g : WG} {tt : WT} {te : WE} {vs : List Nat}
theorem lc_all {K : PySem.W.Frag} (hS : ∀ i ∈ S, i ∈ vs) : ∀ σ H Q, tD K M E (wLc wi g tt te vs) σ H Q → tLc (tDI K M E wi) (tDG K M S g) (tDT K M noE tt) (tD K M noE te) vs σ H Q := by
  rintro σ H Q ⟨G, ρ, Xd, Qd, R, L, w, k⟩
  refine ⟨G, ρ, Xd, _, R, L, w, fun ρ1 H1 G1 ds J m R1 wk w1 p hp => ?_⟩
  have R2 : Rel K M (G1.hide (.ref p) (.top p (.lst []))) (wipeR ρ1 vs) σ (upd H1 p (.lst [])) := (R1.wipes rfl fun _ _ => rfl).hidden hp .nil
  refine ⟨fun i n H => n = ds.length - i ∧ i ≤ ds.length ∧ ∃ ρ acc, Rel K M (G1.hide (.ref p) (.top p (.lst acc))) (wipeR ρ vs) σ H ∧ lcD g tt te vs (ds.drop i) acc (wipeR ρ vs) Qd, ⟨ds.length, by simp, Nat.zero_le _, ρ1, [], R2, by simpa using w1⟩, ?_⟩
  rintro i n H3 ⟨rfl, hi, ρ3, acc, R3, w3⟩
  by_cases hl : i < ds.length
  · refine .inr ⟨wk.goes (G1.hide (.ref p) (.top p (.lst acc))) i _ _ _ (fun _ h => h) hl R3, fun H4 => ∃ ρ acc, Rel K M (G1.hide (.ref p) (.top p (.lst acc))) (wipeR ρ vs) σ H4 ∧ lcD g tt te vs (ds.drop (i + 1)) acc (wipeR ρ vs) Qd, fun H4 ⟨ρ4, acc4, R4, w4⟩ => ⟨ds.length - (i + 1), by omega, rfl, hl, ρ4, acc4, R4, w4⟩, fun x H4 y => ?_⟩
    have e : ds.drop i = ds[i] :: ds.drop (i + 1) := (List.getElem_cons_drop hl).symm
    rw [e] at w3
    obtain ⟨nw, hd⟩ := wk.ylds (G1.hide (.ref p) (.top p (.lst acc))) i _ _ _ x H4 ds[i] (fun _ h => h) (by simp [hl]) R3 y
    have R4 : Rel K M (G1.hide (.ref p) (.top p (.lst acc))) (wipeR ρ3 vs) (wipe σ vs) H4 := (R3.nw nw).forget (by rw [wipe_len, ← R3.len]) (wipe_len σ vs) fun j c ej => ⟨ej, wipe_get σ vs j (wipeR_get vs ρ3 j c ej).2⟩
    have back : ∀ {ρ : _} {σ5 : St} {H : Hp} {acc : List El.D}, σ5.length = σ.length → (∀ j, j ∉ vs → σ5[j]? = σ[j]?) → Rel K M (G1.hide (.ref p) (.top p (.lst acc))) ρ σ5 H → Rel K M (G1.hide (.ref p) (.top p (.lst acc))) (wipeR ρ vs) σ H := fun e1 e2 R => R.wipes e1.symm fun j hj => (e2 j hj).symm
    refine ⟨G1.hide (.ref p) (.top p (.lst acc)), _, ds[i], _, R4, hd, w3, fun ρ5 σ5 R5 s5 w5 => ?_⟩
    have l5 : σ5.length = σ.length := s5.1.trans (wipe_len σ vs)
    have g5 : ∀ j, j ∉ vs → σ5[j]? = σ[j]? := fun j hj => (s5.2 j fun z => hj (hS j z)).trans (wipe_get σ vs j hj)
    refine ⟨wipe_same hS l5 s5.2, G1.hide (.ref p) (.top p (.lst acc)), ρ5, noX, _, R5, Lnk.no, w5, fun ρ6 b H6 R6 w6 => ?_⟩
    cases b with
    | false => exact ⟨ρ6, acc, back l5 g5 R6, w6⟩
    | true =>
      refine ⟨G1.hide (.ref p) (.top p (.lst acc)), ρ6, noX, _, R6, Lnk.no, w6, fun ρ7 v H7 r R7 h7 ⟨d', ρ8, gd, hz, w7⟩ => ?_⟩
      obtain ⟨hd8, R8⟩ := R7.out h7 gd
      obtain ⟨o, ho, ko⟩ : ∃ o, H7 p = some o ∧ Kids K (Own M (G1.hide (.ref p) (.top p (.lst acc))) ρ8) H7 o (.lst acc) := by
        have z := R8.hid (.ref p, .top p (.lst acc)) List.mem_cons_self
        cases z with
        | top h k => exact ⟨_, h, k⟩
      cases o with
      | lst xs =>
        have ko : DAll K (Own M (G1.hide (.ref p) (.top p (.lst acc))) ρ8) H7 xs acc := ko
        refine ⟨xs, ho, by rw [ko.length, sizeLine_eq]; exact hz, ρ8, acc ++ [d'], back l5 g5 (R8.hidPut (d' := .lst (acc ++ [d'])) (ko.append (.cons hd8 .nil))), w7⟩
      | _ => exact ko.elim
  · have e : i = ds.length := by omega
    subst e
    rw [List.drop_length] at w3
    exact .inl ⟨wk.stops (G1.hide (.ref p) (.top p (.lst acc))) _ _ _ (fun _ h => h) R3, k _ (.ref p) H3 (.nw (.lst acc)) (m.hide.rel R3) ⟨p, rfl⟩ w3⟩
end
end El

set_option Elab.async false
set_option linter.all false
set_option maxRecDepth 100000
set_option maxHeartbeats 4000000
/-! EG: defs and their promises over data. -/
namespace El
open PySem L2
open PyProof.Rows (envOfC)

/-- a def's promise where no repr runs around -/
structure FnG (P : Program) (w : World) (K : PySem.W.Frag) (mg : Str → Option Value) (base : Heap) (k : Nat) (f : Addr) (fd : FuncData) (ps : List Str) (sp : Sp) : Prop where
  len : ∀ vs H Q E, sp vs H Q E → vs.length = ps.length
  run : ∀ (A : Around) (outer : List Env) (s : Shared) (H : Hp) (args : Args) (us : List Value) (vs : List V) (Q : VK) (E : XK), A.guards = some [] → Room k A → Env0 P w K mg base A outer s H →
    BindsTo s fd args (ps.zip us) → Vals vs us → sp vs H Q E → codeAny (model P w) A (.call (.ref f) args) (CR (L2.CX P w) outer P w H s Q E) s
section
variable {P : Program} {w : World} {K : PySem.W.Frag} {mg : Str → Option Value} {base : Heap} {f : Addr} {fd : FuncData} {ps : List Str} {sp : Sp}
theorem FnG.mono {j k : Nat} (F : FnG P w K mg base j f fd ps sp) (h : j ≤ k) : FnG P w K mg base k f fd ps sp :=
  ⟨F.len, fun A outer s H args us vs Q E hg hr => F.run A outer s H args us vs Q E hg (hr.mono h)⟩
abbrev cxG (P : Program) (w : World) (K : PySem.W.Frag) (mg : Str → Option Value) (base : Heap) (N : List Str) (qual : Str) (sc : Scope) (f : Addr) (cd : Value) (A : Around) (outer : List Env) (s : Shared) (H : Hp) (E : XK) : Cx :=
  cxOf (L2.CX P w) P w K mg base N qual sc f cd A outer s H E
/-- by the body -/
theorem fnG_of {x qual : Str} {st : Stmt} {N : List Str} {k : Nat} (F : Fun K x qual st f fd) (S : FnScope N ps (defScope st)) (len : ∀ vs H Q E, sp vs H Q E → vs.length = ps.length)
    (body : ∀ (cd : Value) (A : Around) (outer : List Env) (s : Shared) (H : Hp) (vs : List V) (Q : VK) (E : XK), A.guards = some [] → Room k (A.deeper (envOfC qual (defScope st) s.heap.objs.size f cd)) → sp vs H Q E →
      ∃ t, PSs (cxG P w K mg base N qual (defScope st) f cd A outer s H E) (defBody st) t ∧ t { nx := fun _ H1 => Q .non H1, rt := Q } (start N vs) H) : FnG P w K mg base (k + 1) f fd ps sp := by
  obtain ⟨oc, od, kV, doc, pm, an, cd, ct, osl, rfl, lk, hcd⟩ := F.ex
  refine ⟨len, fun A outer s H args us vs Q E hG hr e0 hb rv hsp => ?_⟩
  have inK : K.In s.heap := e0.mod.kin.keeps fun b o e => (e0.bs b o e).1
  have noL : s.heap.NoLimit := e0.mod.nolimit.keeps fun b o e => (e0.bs b o e).1
  have kinds : ∀ y ∈ ps.zip us, (defScope st).names.lookup y.1 = some .local ∨ ((defScope st).names.lookup y.1 = some .cell ∧ ((cellsFrom (s.heap.objs.size + 1) (defScope st).names []).lookup y.1).isSome = true) := by
    rintro ⟨n, v⟩ hy
    cases S.par n (List.of_mem_zip hy).1 with
    | inl q => exact .inl q
    | inr q => exact .inr ⟨q, PySem.W.cellsFrom_some _ _ _ (.inl q)⟩
  apply codeAny_call_function hr.depth (inK _ _ lk) rfl S.co S.gen rfl (PySem.W.codeRec_of inK hcd)
  apply hb
  apply wpAny_newFunctionEnv_cells S.kind kinds
  intro env he s1 x
  subst he
  refine ⟨noL.keeps x.toInCall.keep, codeAny_func ?_⟩
  obtain ⟨t, ht, hq⟩ := body cd A outer s H vs Q E hG (hr.deeper _) hsp
  have I := inv_start (CX := L2.CX P w) (f := f) (cd := cd) (qual := qual) (E := E) S hr.hd e0 (len _ _ _ _ hsp) rv x
  refine wpAny_mono (ht.run [] s1 (start N vs) H _ I hq) (fun fl s2 hs => ?_) fun e s2 hs => hs
  cases fl with
  | ret u =>
    obtain ⟨v, σ2, H2, J, r2, q⟩ := hs
    exact ⟨v, H2, J.os, J.bare, J.base, J.hok, r2, q⟩
  | next =>
    obtain ⟨σ2, H2, J, q⟩ := hs
    exact ⟨.non, H2, J.os, J.bare, J.base, J.hok, rfl, q⟩
  | brk => obtain ⟨_, _, _, q⟩ := hs; exact q.elim
  | cont => obtain ⟨_, _, _, q⟩ := hs; exact q.elim
end
section
variable {X : Cx} {k : Nat} {f : Addr} {fd : FuncData} {ps ks : List Str} {sp : Sp} {E : XK} {pins : List (Addr × Obj)} {σ : St} {H : Hp} {s : Shared} {Q : VK} {us ws : List Value} {vs zs : List V} {g : List Value → List Value → List Value} {gV : List V → List V → List V}
/-- the callee runs, its arguments in the parameters' order -/
theorem run_G {args : Args} (F : FnG X.prog X.w X.K X.mg X.base k f fd ps sp) (hG : X.A.guards = some []) (hr : Room k X.A) (hx : Passes (L2.CX X.prog X.w) X E) (hb : BindsTo s fd args (ps.zip us)) (I : Inv X pins σ H s) (r : Vals vs us) (h : sp vs H Q E) :
    codeAny (model X.prog X.w) X.A (.call (.ref f) args) (fun r s1 => match r with | .ok (.ret v) => EP X pins σ Q v s1 | .ok _ => False | .error e => X.xe e s1) s := by
  refine codeAny_mono (F.run X.A X.stack s H args us vs Q E hG hr I.env0 hb r h) fun q s1 z => ?_
  match q, z with
  | .error e, z => exact hx pins σ H s e s1 I z
  | .ok (.ret u), z => exact I.after z
  | .ok .next, z => exact z
  | .ok .brk, z => exact z
  | .ok .cont, z => exact z
theorem run_GP (F : FnG X.prog X.w X.K X.mg X.base k f fd ps sp) (hG : X.A.guards = some []) (hr : Room k X.A) (hx : Passes (L2.CX X.prog X.w) X E) (hb : Binds X.K fd ps []) (I : Inv X pins σ H s) (r : Vals vs us) (h : sp vs H Q E) :
    wpAny (model X.prog X.w) X.A (call (.ref f) us) (EP X pins σ Q) X.xe s := by
  have hl : us.length = ps.length := r.length.symm.trans (F.len _ _ _ _ h)
  have hb2 := hb s us I.kIn (by rw [List.append_nil]; exact hl)
  rw [List.append_nil] at hb2
  refine wpAny_call (codeAny_mono (run_G F hG hr hx hb2 I r h) fun q s1 z => ?_)
  match q, z with
  | .error e, z => exact z
  | .ok (.ret u), z => exact z
theorem run_GK (F : FnG X.prog X.w X.K X.mg X.base k f fd ps sp) (hG : X.A.guards = some []) (hr : Room k X.A) (hx : Passes (L2.CX X.prog X.w) X E) (hb : KBn X.K fd ps vs.length ks g gV) (I : Inv X pins σ H s) (r : Vals vs us) (rz : Vals zs ws) (hz : zs.length = ks.length) (h : sp (gV vs zs) H Q E) :
    wpAny (model X.prog X.w) X.A (call (.ref f) us (ks.zip ws)) (EP X pins σ Q) X.xe s := by
  have hb2 := hb.to s us ws I.kIn r.length.symm (rz.length.symm.trans hz)
  refine wpAny_call (codeAny_mono (run_G F hG hr hx hb2 I (hb.rel r rz) h) fun q s1 z => ?_)
  match q, z with
  | .error e, z => exact z
  | .ok (.ret u), z => exact z
end

/-! ### promises over data -/
/-- what a def leaves as it was: ts, which it was lent, may be changed -/
def Keeps (M : MC) (ts : List T) (H H' : Hp) : Prop := (∀ a o, ¬ M.O a → T.cnts a ts = 0 → H a = some o → Kp o (H' a)) ∧ (∀ a xs, H a = some (.tup xs) → H' a = some (.tup xs)) ∧ M.MI H'
/-- what is told, as a tree -/
def Rs.tr : Rs → T
  | .val d => .fz d
  | .new t => t
  | .pth _ _ p => .fz (.ref p)
  | .nw d => .fz d
/-- the asker's things and those that are told or given back -/
def OutO (M : MC) (u : T) (ts' : List T) (a : Addr) : Prop := M.O a ∨ 0 < u.cnt a + T.cnts a ts'
structure Own1 (M : MC) (ts : List T) (H : Hp) (u : T) (ts' : List T) : Prop where
  nd : ∀ a, u.cnt a + T.cnts a ts' ≤ 1
  out : ∀ a, 0 < u.cnt a + T.cnts a ts' → ¬ M.O a ∧ (H a = none ∨ 0 < T.cnts a ts)
/-- what a call tells: a datum, or a new tree that is the asker's own; ts': what was lent, given back -/
structure ResAt (K : PySem.W.Frag) (M : MC) (ts : List T) (ws : List V) (H H' : Hp) (v : V) (r : Rs) (ts' : List T) : Prop where
  npth : ∀ i π p, r ≠ .pth i π p
  nnw : ∀ d, r ≠ .nw d
  res : TAt K (OutO M r.tr ts') H' v r.tr
  bk : TAll K (OutO M r.tr ts') H' ws ts'
  own : Own1 M ts H r.tr ts'
/-- the bound arguments, by their places among what is written -/
def pick {α : Type} (ix : List Nat) (l : List α) : List α := ix.filterMap fun i => l[i]?
abbrev DSp := MC → List T → (Rs → List T → Prop) → (Ex → List T → Prop) → Prop
/-- what a def is lent at its places io -/
structure LentAt (K : PySem.W.Frag) (M : MC) (H : Hp) (vs : List V) (ts : List T) : Prop where
  mi : M.MI H
  all : TAll K (fun a => M.O a ∨ 0 < T.cnts a ts) H vs ts
  nd : ∀ a, T.cnts a ts ≤ 1
  nM : ∀ a, 0 < T.cnts a ts → ¬ M.O a
def spD (K : PySem.W.Frag) (n : Nat) (io : List Nat) (sp : DSp) : Sp := fun vs H Q E => ∃ M ts Qd Ed, LentAt K M H vs ts ∧ ts.length = n ∧ sp M ts Qd Ed ∧ (∀ v H' r ts', Keeps M ts H H' → ResAt K M ts (pick io vs) H H' v r ts' → Qd r ts' → Q v H') ∧
  ∀ cls dd H' e ts', Keeps M ts H H' → ExAt K (OutO M (.fz .non) ts') H' cls dd e → TAll K (OutO M (.fz .non) ts') H' (pick io vs) ts' → Own1 M ts H (.fz .non) ts' → Ed e ts' → E cls dd H'
/-- the parameters' slots -/
def rho0 (n : Nat) (ts : List T) : Rho := ts.map some ++ List.replicate (n - ts.length) none
/-- what is given back: by the same pointers as it was lent -/
def backs (ts : List T) (ρ : Rho) : List Nat → Option (List T)
  | [] => some []
  | i :: io => (slotT ρ i).bind fun t => if t.root ≠ none ∧ (ts[i]?).bind T.root = t.root then (backs ts ρ io).map fun r => t :: r else none
/-- the ends of a def's body: told anew where just the datum is asked -/
def endD (io : List Nat) (ts : List T) (Qd : Rs → List T → Prop) : ED where
  nx := fun ρ => ∃ r, backs ts ρ io = some r ∧ Qd (.val .non) r
  rt := fun q ρ => ∃ r, backs ts ρ io = some r ∧ match q with | .val d => Qd (.val d) r | .new t => Qd (.new t) r ∨ Qd (.val t.val) r | .nw d => (∀ p, Qd (.new (.top p d)) r) ∨ Qd (.val d) r | .pth _ _ _ => False
  bk := fun _ => False
  ct := fun _ => False
def excD (io : List Nat) (ts : List T) (Ed : Ex → List T → Prop) : XD := fun e ρ => ∃ r, backs ts ρ io = some r ∧ Ed e r
theorem cR_append {a : Addr} : ∀ ρ ρ' : Rho, cR a (ρ ++ ρ') = cR a ρ + cR a ρ'
  | [], _ => (Nat.zero_add _).symm
  | x :: ρ, ρ' => by simp only [List.cons_append, cR]; rw [cR_append ρ ρ']; omega
theorem cR_some {a : Addr} : ∀ ts : List T, cR a (ts.map some) = T.cnts a ts
  | [] => rfl
  | t :: ts => by simp only [List.map_cons, cR, T.cnts]; rw [cR_some ts]; rfl
theorem cR_none {a : Addr} : ∀ n : Nat, cR a (List.replicate n none) = 0
  | 0 => rfl
  | n + 1 => by simp only [List.replicate_succ, cR]; rw [cR_none n]; rfl
theorem cR_rho0 {a : Addr} {n : Nat} {ts : List T} : cR a (rho0 n ts) = T.cnts a ts := by
  unfold rho0
  rw [cR_append, cR_some, cR_none]; rfl
/-- the ground of a def's run -/
def gd0 (H : Hp) (ts : List T) : Gd := ⟨H, fun a => 0 < T.cnts a ts, [], []⟩
theorem Rel.start {K : PySem.W.Frag} {M : MC} {H : Hp} {vs : List V} {ts : List T} {N : List Str} (h : LentAt K M H vs ts) (hl : ts.length ≤ N.length) : Rel K M (gd0 H ts) (rho0 N.length ts) (start N vs) H := by
  have own : ∀ a, Own M (gd0 H ts) (rho0 N.length ts) a ↔ M.O a ∨ 0 < T.cnts a ts := fun a => by
    unfold Own
    rw [cR_rho0]; rfl
  have eO : Own M (gd0 H ts) (rho0 N.length ts) = fun a => M.O a ∨ 0 < T.cnts a ts := funext fun a => propext (own a)
  refine ⟨fun i t e => ?_, fun a => ?_, fun a z => ?_, ⟨fun a o _ _ e => .inl e, fun _ _ e => e⟩, h.mi, fun q hq => (nomatch hq), fun q hq => (nomatch hq), ?_⟩
  · unfold rho0 at e
    by_cases hi : i < ts.length
    · rw [List.getElem?_append_left (by simpa using hi), List.getElem?_map] at e
      obtain ⟨d, hd⟩ : ∃ d, ts[i]? = some d := ⟨ts[i], List.getElem?_eq_getElem hi⟩
      rw [hd] at e
      cases e
      obtain ⟨v, hv, a⟩ := h.all.get hd
      refine ⟨v, ?_, ?_⟩
      · unfold L2.start
        rw [List.getElem?_append_left (by simp; exact (List.getElem?_eq_some_iff.mp hv).1), List.getElem?_map, hv]
        rfl
      · rw [eO]; exact a
    · rw [List.getElem?_append_right (by simpa using hi), List.getElem?_replicate] at e
      split at e <;> cases e
  · rw [cR_rho0]; exact h.nd a
  · rw [cR_rho0] at z
    exact ⟨.inr z, h.nM a z⟩
  · unfold rho0 L2.start
    rw [List.length_append, List.length_append, List.length_map, List.length_map, List.length_replicate, List.length_replicate, h.all.length]
theorem backs_all {K : PySem.W.Frag} {M : MC} {G : Gd} {ρ : Rho} {σ : St} {H H0 : Hp} {vs : List V} {ts : List T} {O O0 : Addr → Prop} (R : Rel K M G ρ σ H) (h : TAll K O0 H0 vs ts) (st : Stay (Own M G ρ) O H H) : ∀ {io : List Nat} {r : List T}, backs ts ρ io = some r → TAll K O H (pick io vs) r
  | [], _, g => by cases g; exact .nil
  | i :: io, _, g => by
    unfold backs at g
    obtain ⟨t, h1, g⟩ := Option.bind_eq_some_iff.mp g
    split at g
    · rename_i c
      obtain ⟨r, h2, g⟩ := Option.map_eq_some_iff.mp g
      cases g
      obtain ⟨c1, c2⟩ := c
      obtain ⟨p, hp⟩ := Option.ne_none_iff_exists'.mp c1
      rw [hp] at c2
      obtain ⟨t0, h3, h4⟩ := Option.bind_eq_some_iff.mp c2
      obtain ⟨v, h5, h6⟩ := h.get h3
      obtain rfl := h6.root h4
      obtain ⟨w, _, h7⟩ := R.slot i t (slotT_of h1)
      obtain rfl := h7.root hp
      have ih := backs_all R h st (io := io) h2
      unfold pick at ih ⊢
      rw [List.filterMap_cons_some h5]
      exact .cons (h7.stay st fun _ _ => rfl) ih
    · cases g
theorem backs_set {ts : List T} {ρ : Rho} {i : Nat} {x : Option T} : ∀ {io : List Nat}, i ∉ io → backs ts (ρ.set i x) io = backs ts ρ io
  | [], _ => rfl
  | j :: io, h => by
    have e : slotT (ρ.set i x) j = slotT ρ j := by
      unfold slotT
      rw [List.getElem?_set_ne fun q => h (by rw [q]; exact List.mem_cons_self)]
    unfold backs
    rw [e, backs_set fun z => h (List.mem_cons_of_mem _ z)]
theorem backs_cnt {a : Addr} {ts : List T} : ∀ {io : List Nat} {ρ : Rho} {r : List T}, io.Nodup → backs ts ρ io = some r → T.cnts a r ≤ cR a ρ
  | [], _, _, _, g => by cases g; exact Nat.zero_le _
  | i :: io, ρ, _, hn, g => by
    obtain ⟨n1, n2⟩ := List.nodup_cons.mp hn
    unfold backs at g
    obtain ⟨t, h1, g⟩ := Option.bind_eq_some_iff.mp g
    split at g
    · obtain ⟨r, h2, g⟩ := Option.map_eq_some_iff.mp g
      cases g
      have ih := backs_cnt (a := a) (ρ := ρ.set i none) n2 ((backs_set n1).trans h2)
      have c : cR a (ρ.set i none) + cO a (some t) = cR a ρ + cO a none := cR_set (slotT_of h1)
      have c1 : cO a (some t) = t.cnt a := rfl
      have c2 : cO a none = 0 := rfl
      show t.cnt a + T.cnts a r ≤ _
      omega
    · cases g
/-- at a def's end -/
theorem Rel.ended {K : PySem.W.Frag} {M : MC} {H H1 : Hp} {vs : List V} {ts r : List T} {ρ : Rho} {σ : St} {io : List Nat} {v : V} {q : Rs} (L : LentAt K M H vs ts) (hio : io.Nodup) (R : Rel K M ((gd0 H ts).hold v q) ρ σ H1) (hq : ∀ i π p, q ≠ .pth i π p) (hw : ∀ d, q ≠ .nw d) (g : backs ts ρ io = some r) :
    Keeps M ts H H1 ∧ ResAt K M ts (pick io vs) H H1 v q r := by
  have kp : Keeps M ts H H1 := by
    have R := R.unhold
    exact ⟨fun a o n c e => R.base.1 a o n (show ¬ 0 < T.cnts a ts by omega) e, R.base.2, R.mi⟩
  have hc : ∀ a, cH a ((gd0 H ts).hold v q).hid = q.tr.cnt a := fun a => by
    cases q with
    | val d => rfl
    | new t => exact Nat.add_zero _
    | pth i π p => exact absurd rfl (hq i π p)
    | nw d => exact absurd rfl (hw d)
  have bc : ∀ a, T.cnts a r ≤ cR a ρ := fun a => backs_cnt hio g
  have st : Stay (Own M ((gd0 H ts).hold v q) ρ) (OutO M q.tr r) H1 H1 := stay_sub fun a z => z.elim .inl fun z => .inr (by have := hc a; have := bc a; omega)
  refine ⟨kp, hq, hw, ?_, backs_all R L.all st g, fun a => ?_, fun a z => ?_⟩
  · cases q with
    | val d => exact .fz ((R.pin (v, d) List.mem_cons_self).stay st)
    | new t => exact (R.hid (v, t) List.mem_cons_self).stay st fun _ _ => rfl
    | pth i π p => exact absurd rfl (hq i π p)
    | nw d => exact absurd rfl (hw d)
  · have := R.nd a; have := hc a; have := bc a; omega
  · have o := R.own a (by have := hc a; have := bc a; omega)
    refine ⟨o.2, ?_⟩
    cases q with
    | val d => exact o.1
    | new t => exact o.1
    | pth i π p => exact absurd rfl (hq i π p)
    | nw d => exact absurd rfl (hw d)
theorem Rel.endedX {K : PySem.W.Frag} {M : MC} {H H1 : Hp} {vs : List V} {ts r : List T} {ρ : Rho} {σ : St} {io : List Nat} (L : LentAt K M H vs ts) (hio : io.Nodup) (R : Rel K M (gd0 H ts) ρ σ H1) (g : backs ts ρ io = some r) :
    Keeps M ts H H1 ∧ TAll K (OutO M (.fz .non) r) H1 (pick io vs) r ∧ Own1 M ts H (.fz .non) r ∧ ∀ a, OutO M (.fz .non) r a → Own M (gd0 H ts) ρ a := by
  obtain ⟨k, w⟩ := Rel.ended (v := .non) (q := .val .non) L hio (R.pinned .non) nofun nofun g
  exact ⟨k, w.bk, w.own, fun a z => z.elim .inl fun z => .inr (by have := backs_cnt (a := a) hio g; have e : (T.fz .non).cnt a = 0 := rfl; have e2 : cH a (gd0 H ts).hid = 0 := rfl; omega)⟩
section
variable {P : Program} {w : World} {K : PySem.W.Frag} {mg : Str → Option Value} {base : Heap} {f : Addr} {fd : FuncData} {ps : List Str} {io : List Nat} {sp : DSp} {x qual : Str} {st : Stmt} {N : List Str} {k : Nat} {W : MC → WS}
theorem body_run (S : FnScope N ps (defScope st)) (hio : io.Nodup)
    (body : ∀ (M : MC) (cd : Value) (A : Around) (outer : List Env) (s : Shared) (H : Hp) (E : XK), A.guards = some [] → Room k (A.deeper (envOfC qual (defScope st) s.heap.objs.size f cd)) →
      PSs (cxG P w K mg base N qual (defScope st) f cd A outer s H E) (defBody st) (tDS K M (fun cls dd _ H => E cls dd H) (W M)))
    (law : ∀ M ts Qd Ed, ts.length = ps.length → sp M ts Qd Ed → W M (rho0 N.length ts) (excD io ts Ed) (endD io ts Qd))
    (cd : Value) (A : Around) (outer : List Env) (s : Shared) (H : Hp) (vs : List V) (Q : VK) (E : XK) (hG : A.guards = some []) (hr : Room k (A.deeper (envOfC qual (defScope st) s.heap.objs.size f cd))) (h : spD K ps.length io sp vs H Q E) :
    ∃ t, PSs (cxG P w K mg base N qual (defScope st) f cd A outer s H E) (defBody st) t ∧ t { nx := fun _ H1 => Q .non H1, rt := Q } (start N vs) H := by
  obtain ⟨M, ts, Qd, Ed, L, hl, hs, k1, k2⟩ := h
  have hlN : ts.length ≤ N.length := by
    have e := congrArg List.length S.pre
    rw [List.length_take] at e
    omega
  refine ⟨_, body M cd A outer s H E hG hr, gd0 H ts, _, excD io ts Ed, endD io ts Qd, Rel.start L hlN, fun ρ σ H1 cls dd e R ⟨h1, a, h2, h4⟩ ⟨r, g, he⟩ => ?_, law M ts Qd Ed hl hs, fun ρ σ H1 R ⟨r, g, q⟩ => ?_, fun ρ σ v H1 q R hr ⟨r, g, w⟩ => ?_, fun _ _ _ _ q => q.elim, fun _ _ _ _ q => q.elim⟩
  · obtain ⟨kp, b1, b2, b3⟩ := Rel.endedX L hio R g
    exact k2 cls dd H1 e r kp ⟨h1, a, h2, h4.stay (stay_sub b3)⟩ b1 b2 he
  · obtain ⟨kp, ra⟩ := Rel.ended (v := .non) (q := .val .non) L hio (R.pinned .non) nofun nofun g
    exact k1 .non H1 _ r kp ra q
  · cases q with
    | val d =>
      obtain ⟨kp, ra⟩ := Rel.ended L hio R nofun nofun g
      exact k1 v H1 _ r kp ra w
    | new t =>
      rcases w with w | w
      · obtain ⟨kp, ra⟩ := Rel.ended L hio R nofun nofun g
        exact k1 v H1 _ r kp ra w
      · obtain ⟨R2, a⟩ := Rel.unhide R
        obtain ⟨kp, ra⟩ := Rel.ended (q := .val t.val) L hio (R2.pinned a) nofun nofun g
        exact k1 v H1 _ r kp ra w
    | nw d =>
      obtain ⟨p, rfl⟩ := hr
      have R : Rel K M ((gd0 H ts).hold (.ref p) (.new (.top p d))) ρ σ H1 := R
      rcases w with w | w
      · obtain ⟨kp, ra⟩ := Rel.ended L hio R nofun nofun g
        exact k1 _ H1 _ r kp ra (w p)
      · obtain ⟨R2, a⟩ := Rel.unhide R
        obtain ⟨kp, ra⟩ := Rel.ended (q := .val d) L hio (R2.pinned a) nofun nofun g
        exact k1 _ H1 _ r kp ra w
    | pth i π p => exact w.elim
theorem spD_len {n : Nat} : ∀ vs H Q E, spD K n io sp vs H Q E → vs.length = n := fun vs H Q E ⟨M, ts, Qd, Ed, L, hl, _⟩ => L.all.length.trans hl
/-- THE RULE -/
theorem fnD (F : Fun K x qual st f fd) (S : FnScope N ps (defScope st)) (hio : io.Nodup)
    (body : ∀ (M : MC) (cd : Value) (A : Around) (outer : List Env) (s : Shared) (H : Hp) (E : XK), A.guards = some [] → Room k (A.deeper (envOfC qual (defScope st) s.heap.objs.size f cd)) →
      PSs (cxG P w K mg base N qual (defScope st) f cd A outer s H E) (defBody st) (tDS K M (fun cls dd _ H => E cls dd H) (W M)))
    (law : ∀ M ts Qd Ed, ts.length = ps.length → sp M ts Qd Ed → W M (rho0 N.length ts) (excD io ts Ed) (endD io ts Qd)) : FnG P w K mg base (k + 1) f fd ps (spD K ps.length io sp) :=
  fnG_of F S spD_len fun cd A outer s H vs Q E hG hr h => body_run S hio body law cd A outer s H vs Q E hG hr h
end
end El

set_option Elab.async false
set_option linter.all false
set_option maxRecDepth 100000
set_option maxHeartbeats 4000000
/-! EH: calls of the program's own defs, over data. -/
namespace El
open PySem L2

/-! ### the hidden objects grow -/
structure Mext (M M' : MC) : Prop where
  sub : ∀ a, M.O a → M'.O a
  get : ∀ H, M'.MI H → M.MI H
  put : ∀ H H', M'.MI H → (∀ a, M'.O a → ¬ M.O a → H' a = H a) → M.MI H' → M'.MI H'
theorem Mext.refl (M : MC) : Mext M M := ⟨fun _ h => h, fun _ h => h, fun _ _ _ _ h => h⟩
theorem Mext.trans {M M1 M2 : MC} (a : Mext M M1) (b : Mext M1 M2) : Mext M M2 :=
  ⟨fun x h => b.sub x (a.sub x h), fun H h => a.get H (b.get H h), fun H H' h k m => b.put H H' h (fun x h1 h2 => k x h1 fun z => h2 (a.sub x z)) (a.put H H' (b.get H h) (fun x h1 h2 => k x (b.sub x h1) h2) m)⟩
section
variable {K : PySem.W.Frag} {M : MC} {G : Gd} {ρ ρ' : Rho} {σ : St} {H H' : Hp}
/-- all that is owned, hidden from a callee -/
def mcAt (M : MC) (O : Addr → Prop) (H : Hp) (h1 : ∀ a, M.O a → O a) (h2 : ∀ a, O a → H a ≠ none) : MC where
  O := O
  MI := fun H' => M.MI H' ∧ ∀ a, O a → ¬ M.O a → H' a = H a
  loc := fun H1 H2 e ⟨m, k⟩ => ⟨M.loc H1 H2 (fun a z => e a (h1 a z)) m, fun a z n => (e a z).trans (k a z n)⟩
  al := fun H1 a ⟨m, k⟩ z => by
    by_cases n : M.O a
    · exact M.al H1 a m n
    · rw [k a z n]; exact h2 a z
theorem mcAt_ext {O : Addr → Prop} {h1 : ∀ a, M.O a → O a} {h2 : ∀ a, O a → H a ≠ none} : Mext M (mcAt M O H h1 h2) :=
  ⟨h1, fun _ h => h.1, fun H1 H2 h k m => ⟨m, fun a z n => (k a z n).trans (h.2 a z n)⟩⟩
end
theorem pick_vals {vs : List V} {us : List Value} (r : Vals vs us) : ∀ ix : List Nat, Vals (pick ix vs) (pick ix us)
  | [] => .nil
  | i :: ix => by
    have ih := pick_vals r ix
    unfold pick at ih ⊢
    cases e : vs[i]? with
    | none => rw [List.filterMap_cons_none e, List.filterMap_cons_none (Vals.none_of r e)]; exact ih
    | some v =>
      obtain ⟨u, h, rv⟩ := Vals.get r e
      rw [List.filterMap_cons_some e, List.filterMap_cons_some h]
      exact .cons rv ih
theorem pick_all {K : PySem.W.Frag} {O : Addr → Prop} {H : Hp} {vs : List V} {ts : List T} (t : TAll K O H vs ts) : ∀ ix : List Nat, TAll K O H (pick ix vs) (pick ix ts)
  | [] => .nil
  | i :: ix => by
    have ih := pick_all t ix
    unfold pick at ih ⊢
    cases e : ts[i]? with
    | none =>
      have e2 : vs[i]? = none := by
        have := List.getElem?_eq_none_iff.mp e
        exact List.getElem?_eq_none (by rw [t.length]; exact this)
      rw [List.filterMap_cons_none e, List.filterMap_cons_none e2]; exact ih
    | some d =>
      obtain ⟨v, h, a⟩ := t.get e
      rw [List.filterMap_cons_some e, List.filterMap_cons_some h]
      exact .cons a ih
theorem pick_cnt {a : Addr} : ∀ {ix : List Nat} {ts : List T}, ix.Nodup → T.cnts a (pick ix ts) ≤ T.cnts a ts
  | [], ts, _ => Nat.zero_le _
  | i :: ix, ts, hn => by
    obtain ⟨n1, n2⟩ := List.nodup_cons.mp hn
    unfold pick
    cases e : ts[i]? with
    | none => rw [List.filterMap_cons_none e]; exact pick_cnt n2
    | some t =>
      rw [List.filterMap_cons_some e]
      have c := cnts_set (a := a) (u := .fz .non) e
      have es : ∀ l : List Nat, i ∉ l → List.filterMap (fun i_1 => (ts.set i (.fz .non))[i_1]?) l = List.filterMap (fun i => ts[i]?) l := by
        intro l
        induction l with
        | nil => intro _; rfl
        | cons j l ih =>
          intro h
          have hj : i ≠ j := fun q => h (by rw [q]; exact List.mem_cons_self)
          have ih := ih fun z => h (List.mem_cons_of_mem _ z)
          cases ej : ts[j]? with
          | none => rw [List.filterMap_cons_none ej, List.filterMap_cons_none (by rw [List.getElem?_set_ne hj]; exact ej), ih]
          | some y => rw [List.filterMap_cons_some ej, List.filterMap_cons_some (by rw [List.getElem?_set_ne hj]; exact ej), ih]
      have ih := pick_cnt (a := a) (ts := ts.set i (.fz .non)) n2
      unfold pick at ih
      rw [es ix n1] at ih
      have z : (T.fz .non).cnt a = 0 := rfl
      show t.cnt a + T.cnts a (List.filterMap (fun i => ts[i]?) ix) ≤ _
      omega
/-- how a call binds: n by place, ks by name -/
def KB (K : PySem.W.Frag) (fd : FuncData) (ps : List Str) (n : Nat) (ks : List Str) (ix : List Nat) : Prop :=
  ∀ us ws : List Value, us.length = n → ws.length = ks.length → bindArgs fd ⟨us, ks.zip ws⟩ = pure (ps.zip (pick ix (us ++ ws)))
theorem kb_of {K : PySem.W.Frag} {x qual : Str} {st : Stmt} {f : Addr} {fd : FuncData} {ps ks : List Str} {n : Nat} {ix : List Nat} (F : Fun K x qual st f fd)
    (h : ∀ (kV doc pm : Value) (an : Option Addr) (cdv ct : Value) (us ws : List Value), us.length = n → ws.length = ks.length → bindArgs (PySem.W.fnOf x qual (defArgs st) (defBody st) (defScope st) .none kV doc pm an cdv ct) ⟨us, ks.zip ws⟩ = pure (ps.zip (pick ix (us ++ ws)))) : KB K fd ps n ks ix := by
  obtain ⟨oc, od, kV, doc, pm, an, cdv, ct, osl, rfl, lk, hcd⟩ := F.ex
  exact h kV doc pm an cdv ct
section
variable {X : Cx} {k n : Nat} {f : Addr} {fd : FuncData} {ps ks : List Str} {ix : List Nat} {sp : Sp} {W : WX} {pins : List (Addr × Obj)} {σ : St} {H : Hp} {s : Shared} {Q : VK} {us ws : List Value} {vs zs : List V}
theorem run_B (F : FnG X.prog X.w X.K X.mg X.base k f fd ps sp) (hG : X.A.guards = some []) (hr : Room k X.A) (tk : Takes X W) (hb : KB X.K fd ps n ks ix) (I : Inv X pins σ H s) (r : Vals vs us) (rz : Vals zs ws) (l1 : vs.length = n) (l2 : zs.length = ks.length)
    (h : sp (pick ix (vs ++ zs)) H Q fun cls d H' => W cls d σ H') : wpAny (model X.prog X.w) X.A (call (.ref f) us (ks.zip ws)) (EP X pins σ Q) X.xe s := by
  refine wpAny_call (codeAny_mono (F.run X.A X.stack s H ⟨us, ks.zip ws⟩ (pick ix (us ++ ws)) (pick ix (vs ++ zs)) Q _ hG hr I.env0 (.of_eq (hb us ws (r.length.symm.trans l1) (rz.length.symm.trans l2))) (pick_vals (r.append rz) ix) h) fun q s1 z => ?_)
  match q, z with
  | .error e, z => exact tk e s1 (XE.of_call I (fun _ _ _ h => h) z)
  | .ok (.ret u), z => exact I.after z
def tCallG (W : WX) (n m : Nat) (ix : List Nat) (sp : Sp) (t tk : TA) : TE := fun σ H Q => t σ H fun vs H1 => tk σ H1 fun zs H2 => vs.length = n ∧ zs.length = m ∧ sp (pick ix (vs ++ zs)) H2 Q fun cls d H' => W cls d σ H'
variable {x : Str} {p pos : Pos} {e : Expr} {es : List Expr} {kws : List Keyword} {t tk : TA}
theorem pe_callG (F : FnG X.prog X.w X.K X.mg X.base k f fd ps sp) (hG : X.A.guards = some []) (hr : Room k X.A) (tkx : Takes X W) (hb : KB X.K fd ps n ks ix) (hk : PySem.W.keepIn X.K (.ref f) = true) (hm : X.mg x = some (.ref f)) (hg : Gl X x)
    (ha : PA X (e :: es) t) (hkw : PK X kws tk) (hall : (backToKw pos (keywordEach kws X.env)).all (·.1.isSome) = true := by rfl) (hks : (backToKw pos (keywordEach kws X.env)).filterMap (·.1) = ks := by rfl)
    (hdb : (x == ("__debug__" : Str)) = false := by decide) (he : starEach (e :: es) X.env = (false, eval e X.env) :: starEach es X.env := by rfl)
    (hpl : ((backTo pos (starEach (e :: es) X.env)).any (·.1) || (backToKw pos (keywordEach kws X.env)).any (·.1.isNone)) = false := by rfl) : PE X (.Call (.Name x p) (e :: es) kws pos) (tCallG W n ks.length ix sp t tk) := by
  constructor
  intro pins s σ H Q I h
  apply wpAny_Call_Name_kw
  apply ld_glob I hg hm (hd := hdb)
  apply PySem.W.callWith_KW (h₀ := X.base) I.ok.mod.kin hk hall (hplain := hpl) (he := he)
  refine thn (ha.run pos pins s σ H _ I h) fun us s1 ⟨vs, H1, I1, r, q⟩ => ?_
  refine thn (hkw.run pos pins s1 σ H1 _ I1 q) fun ws s2 ⟨zs, H2, I2, rz, l1, l2, q2⟩ => ⟨I2.kIn, ?_⟩
  rw [hks]
  exact run_B F hG hr tkx hb I2 r rz l1 l2 q2
theorem pe_callG0 (F : FnG X.prog X.w X.K X.mg X.base k f fd ps sp) (hG : X.A.guards = some []) (hr : Room k X.A) (tkx : Takes X W) (hb : KB X.K fd ps 0 ks ix) (hk : PySem.W.keepIn X.K (.ref f) = true) (hm : X.mg x = some (.ref f)) (hg : Gl X x)
    (hkw : PK X kws tk) (hall : (backToKw pos (keywordEach kws X.env)).all (·.1.isSome) = true := by rfl) (hks : (backToKw pos (keywordEach kws X.env)).filterMap (·.1) = ks := by rfl)
    (hdb : (x == ("__debug__" : Str)) = false := by decide) (hpl : ((backTo pos (starEach [] X.env)).any (·.1) || (backToKw pos (keywordEach kws X.env)).any (·.1.isNone)) = false := by rfl) : PE X (.Call (.Name x p) [] kws pos) (tCallG W 0 ks.length ix sp tNil tk) := by
  constructor
  intro pins s σ H Q I h
  apply wpAny_Call_Name_kw
  apply ld_glob I hg hm (hd := hdb)
  apply PySem.W.callWith_KW0 (h₀ := X.base) I.ok.mod.kin hk hall (hplain := hpl)
  refine thn (hkw.run pos pins s σ H _ I h) fun ws s2 ⟨zs, H2, I2, rz, l1, l2, q2⟩ => ⟨I2.kIn, ?_⟩
  rw [hks]
  exact run_B (us := []) (vs := []) F hG hr tkx hb I2 .nil rz l1 l2 q2
end
/-! ### over data -/
/-- a place that is lent -/
abbrev Pl := Nat × List Stp × Addr
/-- what is written in a call: let go, or lent (by flags) -/
def lend (ρ : Rho) : List Bool → List Rs → Option (List T × List (Option Pl) × Rho)
  | _, [] => some ([], [], ρ)
  | true :: lb, .pth i π p :: rs => (lend ρ lb rs).bind fun q => (nodeR q.2.2 i π p).map fun s => (s :: q.1, some (i, π, p) :: q.2.1, putN q.2.2 i π (.fz (.ref p)))
  | true :: _, _ :: _ => none
  | false :: lb, r :: rs => (lend ρ lb rs).bind fun q => (r.out q.2.2).map fun z => (.fz z.1 :: q.1, none :: q.2.1, z.2)
  | [], r :: rs => (lend ρ [] rs).bind fun q => (r.out q.2.2).map fun z => (.fz z.1 :: q.1, none :: q.2.1, z.2)
/-- what was lent comes back to its places -/
def giveb (ρ : Rho) : List (Option Pl) → List T → Option Rho
  | some (i, π, p) :: bs, t :: ts => (slotT ρ i).bind fun u => match u.at π with
    | some (.fz (.ref q)) => if q = p then giveb (ρ.set i (some (u.put π t))) bs ts else none
    | _ => none
  | [], [] => some ρ
  | _, _ => none
def wCall (M : MC) (n m : Nat) (ix : List Nat) (np : Nat) (lb : List Bool) (io : List Nat) (sp : DSp) (wa wk : WA) : WE := fun ρ X Q => wa ρ X fun rs ρ1 => wk ρ1 X fun qs ρ2 => rs.length = n ∧ qs.length = m ∧ ∃ q, lend ρ2 lb (rs ++ qs) = some q ∧ (pick ix q.1).length = np ∧
  ∀ M', Mext M M' → sp M' (pick ix q.1) (fun r ts' => ∃ ρ', giveb q.2.2 (pick io (pick ix q.2.1)) ts' = some ρ' ∧ Q r ρ') fun e ts' => ∃ ρ', giveb q.2.2 (pick io (pick ix q.2.1)) ts' = some ρ' ∧ X e ρ'
/-- in hand: data, trees -/
def Gd.plus (G : Gd) (ps : List (V × D)) (hs : List (V × T)) : Gd := ⟨G.H0, G.io, ps ++ G.pins, hs ++ G.hid⟩
def lentP : List V → List T → List (Option Pl) → List (V × D)
  | v :: vs, t :: ts, none :: bs => (v, t.val) :: lentP vs ts bs
  | _ :: vs, _ :: ts, some _ :: bs => lentP vs ts bs
  | _, _, _ => []
def lentH : List V → List T → List (Option Pl) → List (V × T)
  | v :: vs, t :: ts, some _ :: bs => (v, t) :: lentH vs ts bs
  | _ :: vs, _ :: ts, none :: bs => lentH vs ts bs
  | _, _, _ => []
inductive Forms : List V → List T → List (Option Pl) → Prop
  | nil : Forms [] [] []
  | fz {v : V} {vs : List V} {d : D} {ts : List T} {bs : List (Option Pl)} : Forms vs ts bs → Forms (v :: vs) (.fz d :: ts) (none :: bs)
  | pl {p : Addr} {i : Nat} {π : List Stp} {vs : List V} {t : T} {ts : List T} {bs : List (Option Pl)} : t.root = some p → Forms vs ts bs → Forms (.ref p :: vs) (t :: ts) (some (i, π, p) :: bs)
theorem cH_append {a : Addr} : ∀ l l' : List (V × T), cH a (l ++ l') = cH a l + cH a l'
  | [], _ => (Nat.zero_add _).symm
  | x :: l, l' => by simp only [List.cons_append, cH]; rw [cH_append l l']; omega
theorem Forms.cnt {a : Addr} {vs : List V} {ts : List T} {bs : List (Option Pl)} (f : Forms vs ts bs) : cH a (lentH vs ts bs) = T.cnts a ts := by
  induction f with
  | nil => rfl
  | fz _ ih => exact ih.trans (Nat.zero_add _).symm
  | pl _ _ ih => simp only [lentH, cH, T.cnts, ih]
section
variable {K : PySem.W.Frag} {M : MC} {G : Gd} {ρ ρ' : Rho} {σ : St} {H H' : Hp} {v : V} {r : Rs}
/-- what is in hand in another order -/
theorem Rel.perm {G' : Gd} (R : Rel K M G ρ σ H) (h0 : G'.H0 = G.H0) (hi : G'.io = G.io) (h1 : ∀ q ∈ G'.pins, q ∈ G.pins) (h2 : ∀ a, cH a G'.hid = cH a G.hid) (h3 : ∀ q ∈ G'.hid, q ∈ G.hid) : Rel K M G' ρ σ H := by
  obtain ⟨H0, io, ps, hd⟩ := G
  obtain ⟨H0', io', ps', hd'⟩ := G'
  cases h0
  cases hi
  have eO : Own M ⟨H0, io, ps', hd'⟩ ρ = Own M ⟨H0, io, ps, hd⟩ ρ := funext fun a => by
    unfold Own
    rw [show cH a hd' = cH a hd from h2 a]
  refine ⟨fun i t e => ?_, fun a => ?_, fun a z => ?_, R.base, R.mi, fun q hq => ?_, fun q hq => ?_, R.len⟩
  · rw [eO]; exact R.slot i t e
  · rw [show cH a hd' = cH a hd from h2 a]; exact R.nd a
  · rw [show cH a hd' = cH a hd from h2 a] at z; exact R.own a z
  · rw [eO]; exact R.pin q (h1 q hq)
  · rw [eO]; exact R.hid q (h3 q hq)
theorem lent_swapT {vs : List V} {ts : List T} {bs : List (Option Pl)} {t : T} (R : Rel K M ((G.hold v (.new t)).plus (lentP vs ts bs) (lentH vs ts bs)) ρ σ H) : Rel K M ((G.plus (lentP vs ts bs) (lentH vs ts bs)).hold v (.new t)) ρ σ H := by
  refine R.perm rfl rfl (fun _ h => h) (fun a => ?_) fun q hq => ?_
  · show t.cnt a + cH a (lentH vs ts bs ++ G.hid) = cH a (lentH vs ts bs ++ (v, t) :: G.hid)
    rw [cH_append, cH_append]
    simp only [cH]
    omega
  · rcases List.mem_cons.mp hq with e | hq
    · exact List.mem_append_right _ (List.mem_cons.mpr (.inl e))
    · exact (List.mem_append.mp hq).elim (List.mem_append_left _) fun z => List.mem_append_right _ (List.mem_cons_of_mem _ z)
theorem lent_swap {vs : List V} {ts : List T} {bs : List (Option Pl)} (R : Rel K M ((G.hold v r).plus (lentP vs ts bs) (lentH vs ts bs)) ρ σ H) : Rel K M ((G.plus (lentP vs ts bs) (lentH vs ts bs)).hold v r) ρ σ H := by
  cases r with
  | val d =>
    refine R.perm rfl rfl (fun q hq => ?_) (fun _ => rfl) fun _ h => h
    rcases List.mem_cons.mp hq with e | hq
    · exact List.mem_append_right _ (List.mem_cons.mpr (.inl e))
    · exact (List.mem_append.mp hq).elim (List.mem_append_left _) fun z => List.mem_append_right _ (List.mem_cons_of_mem _ z)
  | pth i π p => exact R
  | new t => exact lent_swapT R
  | nw d =>
    cases v with
    | ref p =>
      have R : Rel K M ((G.hold (.ref p) (.new (.top p d))).plus (lentP vs ts bs) (lentH vs ts bs)) ρ σ H := R
      exact lent_swapT R
    | _ => exact R
theorem Rel.lend : ∀ {rs : List Rs} {vs : List V} {lb : List Bool} {G : Gd} {ρ : Rho} {q : List T × List (Option Pl) × Rho}, Rel K M (G.holds vs rs) ρ σ H → RsOks vs rs → El.lend ρ lb rs = some q →
    Rel K M (G.plus (lentP vs q.1 q.2.1) (lentH vs q.1 q.2.1)) q.2.2 σ H ∧ Forms vs q.1 q.2.1
  | [], _, lb, G, ρ, q, R, .nil, g => by
    have e : El.lend ρ lb [] = some ([], [], ρ) := by cases lb with | nil => rfl | cons b lb => cases b <;> rfl
    rw [e] at g
    cases g
    exact ⟨R, .nil⟩
  | r :: rs, vs0, lb, G, ρ, q, R, h0, g => by
    cases h0 with
    | cons h t =>
      rename_i v vs
      have out : ∀ {lb : List Bool}, ((El.lend ρ lb rs).bind fun q => (r.out q.2.2).map fun z => (T.fz z.1 :: q.1, none :: q.2.1, z.2)) = some q → Rel K M (G.plus (lentP (v :: vs) q.1 q.2.1) (lentH (v :: vs) q.1 q.2.1)) q.2.2 σ H ∧ Forms (v :: vs) q.1 q.2.1 := by
        intro lb g
        obtain ⟨⟨ts1, bs1, ρ1⟩, g1, g⟩ := Option.bind_eq_some_iff.mp g
        obtain ⟨⟨d, ρ2⟩, g2, g⟩ := Option.map_eq_some_iff.mp g
        cases g
        obtain ⟨R1, f1⟩ := Rel.lend (G := G.hold v r) (rs := rs) (vs := vs) R t g1
        obtain ⟨hd, R2⟩ := Rel.out (lent_swap R1) h g2
        exact ⟨R2.pinned hd, .fz f1⟩
      cases lb with
      | nil => unfold El.lend at g; exact out (lb := []) (by cases r <;> exact g)
      | cons b lb =>
        cases b with
        | false => unfold El.lend at g; exact out (lb := lb) (by cases r <;> exact g)
        | true =>
          cases r with
          | val d => unfold El.lend at g; cases g
          | new d => unfold El.lend at g; cases g
          | nw d => unfold El.lend at g; cases g
          | pth i π p =>
            unfold El.lend at g
            obtain ⟨⟨ts1, bs1, ρ1⟩, g1, g⟩ := Option.bind_eq_some_iff.mp g
            obtain ⟨s, g2, g⟩ := Option.map_eq_some_iff.mp g
            cases g
            obtain ⟨R1, f1⟩ := Rel.lend (G := G.hold v (.pth i π p)) (rs := rs) (vs := vs) R t g1
            have h : v = .ref p := h
            subst h
            obtain ⟨t0, e1, e2, e3, e4⟩ := nodeR_of g2
            refine ⟨?_, .pl e3 f1⟩
            rw [e4]
            exact Rel.take R1 e1 e2 e3
/-- behind a call: what was lent (ls) is otherwise, hs are in hand -/
theorem Rel.after {ps : List (V × D)} {ls hs : List (V × T)} (R : Rel K M (G.plus ps ls) ρ σ H) (k : ∀ a o, ¬ M.O a → cH a ls = 0 → H a = some o → Kp o (H' a)) (kt : ∀ a xs, H a = some (.tup xs) → H' a = some (.tup xs)) (ke : ∀ a, 0 < cR a ρ + cH a G.hid → H' a = H a) (mi : M.MI H') (fr : ∀ a, 0 < cH a hs → 0 < cH a ls ∨ H a = none) (n1 : ∀ a, cH a hs ≤ 1)
    (ta : ∀ q ∈ hs, TAt K (fun a => Own M G ρ a ∨ 0 < cH a hs) H' q.1 q.2) : Rel K M (G.plus [] hs) ρ σ H' := by
  have nd : ∀ a, cR a ρ + (cH a ls + cH a G.hid) ≤ 1 := fun a => by rw [← cH_append]; exact R.nd a
  have ow : ∀ a, 0 < cR a ρ + (cH a ls + cH a G.hid) → (G.H0 a = none ∨ G.io a) ∧ ¬ M.O a := fun a z => R.own a (show 0 < cR a ρ + cH a (ls ++ G.hid) by rw [cH_append]; exact z)
  have eO : Own M (G.plus [] hs) ρ = fun a => Own M G ρ a ∨ 0 < cH a hs := funext fun a => propext (by
    show M.O a ∨ 0 < cR a ρ + cH a (hs ++ G.hid) ↔ (M.O a ∨ 0 < cR a ρ + cH a G.hid) ∨ 0 < cH a hs
    rw [cH_append]
    constructor
    · rintro (z | z)
      · exact .inl (.inl z)
      · by_cases q : 0 < cH a hs
        · exact .inr q
        · exact .inl (.inr (by omega))
    · rintro ((z | z) | z)
      · exact .inl z
      · exact .inr (by omega)
      · exact .inr (by omega))
  have inO : ∀ a, 0 < cR a ρ + (cH a ls + cH a G.hid) → Own M (G.plus ps ls) ρ a := fun a z => .inr (show 0 < cR a ρ + cH a (ls ++ G.hid) by rw [cH_append]; exact z)
  have nn : ∀ a, 0 < cH a hs → cR a ρ + cH a G.hid = 0 := fun a z => by
    rcases fr a z with y | y
    · have := nd a; omega
    · exact Nat.eq_zero_of_not_pos fun x => R.ownAt (inO a (by omega)) y
  have st : Stay (Own M (G.plus ps ls) ρ) (Own M (G.plus [] hs) ρ) H H' := ⟨(fun a o n e => by
    rw [eO]
    refine ⟨?_, k a o (fun z => n (.inl z)) (Nat.eq_zero_of_not_pos fun z => n (inO a (by omega))) e⟩
    rintro ((z | z) | z)
    · exact n (.inl z)
    · exact n (inO a (by omega))
    · rcases fr a z with y | y
      · exact n (inO a (by omega))
      · rw [y] at e; cases e), kt⟩
  have ea := ke
  refine ⟨fun i t e => ?_, fun a => ?_, fun a z => ?_, ⟨fun a o n i e => ?_, fun a xs e => kt a xs (R.base.2 a xs e)⟩, mi, fun q hq => (R.pin q (List.mem_append_right _ hq)).stay st, fun q hq => ?_, R.len⟩
  · obtain ⟨v, h1, h2⟩ := R.slot i t e
    exact ⟨v, h1, h2.stay st fun a z => ea a (by have : t.cnt a ≤ cR a ρ := cR_get (a := a) e; omega)⟩
  · show cR a ρ + cH a (hs ++ G.hid) ≤ 1
    rw [cH_append]
    have := nd a; have := n1 a
    by_cases z : 0 < cH a hs
    · have := nn a z; omega
    · omega
  · have z : 0 < cR a ρ + cH a (hs ++ G.hid) := z
    rw [cH_append] at z
    by_cases y : 0 < cH a hs
    · rcases fr a y with x | x
      · exact ow a (by omega)
      · exact ⟨R.fresh0 x, fun w => M.al H a R.mi w x⟩
    · exact ow a (by omega)
  · have e2 := R.base.1 a o n i e
    refine e2.trans fun u e2 => k a u n (Nat.eq_zero_of_not_pos fun z => ?_) e2
    rcases (ow a (by omega)).1 with y | y
    · have e : G.H0 a = some o := e
      rw [y] at e; cases e
    · exact i y
  · rcases List.mem_append.mp hq with hq | hq
    · rw [eO]; exact ta q hq
    · exact (R.hid q (List.mem_append_right _ hq)).stay st fun a z => ea a (by have := cH_mem (a := a) hq; omega)
/-- a tree in hand comes to a place where its pointer is -/
theorem Rel.place {p : Addr} {t u : T} {i : Nat} {π : List Stp} (R : Rel K M (G.hide (.ref p) t) ρ σ H) (h1 : slotT ρ i = some u) (h2 : u.at π = some (.fz (.ref p))) : Rel K M G (ρ.set i (some (u.put π t))) σ H := by
  have hi := slotT_of h1
  have c : ∀ a, (u.put π t).cnt a = u.cnt a + t.cnt a := fun a => by have := T.put_cnt (a := a) (u := t) h2; have e : (T.fz (.ref p)).cnt a = 0 := rfl; omega
  have le : ∀ a, u.cnt a ≤ cR a ρ := fun a => cR_get (a := a) hi
  have sub : ∀ a, Own M G (ρ.set i (some (u.put π t))) a → Own M (G.hide (.ref p) t) ρ a := fun a z => by
    rcases z with z | z
    · exact .inl z
    · have : cR a (ρ.set i (some (u.put π t))) + u.cnt a = cR a ρ + (u.put π t).cnt a := cR_set hi
      exact .inr (show 0 < cR a ρ + (t.cnt a + cH a G.hid) by have := c a; omega)
  refine R.chg hi (fun a => by rw [c a]; exact Nat.le_refl _) (fun _ _ => rfl) (fun _ _ e => e) fun w hw ht => hw.put (stay_sub sub) h2 (fun x hx => ?_) (fun a => ?_) fun _ _ _ => rfl
  · cases hx with
    | fz hx => cases hx; exact ht.stay (stay_sub sub) fun _ _ => rfl
  · have : cR a ρ + (t.cnt a + cH a G.hid) ≤ 1 := R.nd a
    have := le a
    omega
/-- how the values and the places of what was lent go together -/
inductive Pls : List V → List (Option Pl) → Prop
  | nil : Pls [] []
  | cons {p : Addr} {i : Nat} {π : List Stp} {vs : List V} {bs : List (Option Pl)} : Pls vs bs → Pls (.ref p :: vs) (some (i, π, p) :: bs)
  | no {v : V} {vs : List V} {bs : List (Option Pl)} : Pls vs bs → Pls (v :: vs) (none :: bs)
theorem Forms.pls {vs : List V} {ts : List T} {bs : List (Option Pl)} (f : Forms vs ts bs) : Pls vs bs := by
  induction f with
  | nil => exact .nil
  | fz _ ih => exact .no ih
  | pl _ _ ih => exact .cons ih
theorem Pls.get {vs : List V} {bs : List (Option Pl)} (f : Pls vs bs) : ∀ {j : Nat} {b : Option Pl}, bs[j]? = some b → ∃ v, vs[j]? = some v ∧ Pls [v] [b] := by
  induction f with
  | nil => intro j b e; simp at e
  | cons f ih =>
    intro j b e
    cases j with
    | zero => simp at e; subst e; exact ⟨_, by simp, .cons .nil⟩
    | succ j => obtain ⟨v, h1, h2⟩ := ih (by simpa using e); exact ⟨v, by simpa using h1, h2⟩
  | no f ih =>
    rename_i w ws bs
    intro j b e
    cases j with
    | zero => simp at e; subst e; exact ⟨w, by simp, .no .nil⟩
    | succ j => obtain ⟨v, h1, h2⟩ := ih (by simpa using e); exact ⟨v, by simpa using h1, h2⟩
theorem Pls.length {vs : List V} {bs : List (Option Pl)} (f : Pls vs bs) : vs.length = bs.length := by
  induction f with
  | nil => rfl
  | cons _ ih => rw [List.length_cons, List.length_cons, ih]
  | no _ ih => rw [List.length_cons, List.length_cons, ih]
theorem Pls.pick {vs : List V} {bs : List (Option Pl)} (f : Pls vs bs) : ∀ ix : List Nat, Pls (El.pick ix vs) (El.pick ix bs)
  | [] => .nil
  | i :: ix => by
    have ih := Pls.pick f ix
    unfold El.pick at ih ⊢
    cases e : bs[i]? with
    | none =>
      have e2 : vs[i]? = none := List.getElem?_eq_none (by rw [f.length]; exact List.getElem?_eq_none_iff.mp e)
      rw [List.filterMap_cons_none e, List.filterMap_cons_none e2]; exact ih
    | some b =>
      obtain ⟨v, h, a⟩ := f.get e
      rw [List.filterMap_cons_some e, List.filterMap_cons_some h]
      cases a with
      | cons _ => exact .cons ih
      | no _ => exact .no ih
theorem Rel.giveb : ∀ {bs : List (Option Pl)} {vs : List V} {ts : List T} {G : Gd} {ρ ρ' : Rho}, Pls vs bs → Rel K M (G.plus [] (vs.zip ts)) ρ σ H → El.giveb ρ bs ts = some ρ' → Rel K M G ρ' σ H
  | [], _, [], G, ρ, ρ', .nil, R, g => by cases g; exact R
  | [], _, _ :: _, G, ρ, ρ', .nil, R, g => by cases g
  | some (i, π, p) :: bs, _, [], G, ρ, ρ', f, R, g => by cases g
  | none :: bs, _, ts, G, ρ, ρ', f, R, g => by cases ts <;> cases g
  | some (i, π, p) :: bs, _, t :: ts, G, ρ, ρ', .cons f, R, g => by
    rename_i vs
    unfold El.giveb at g
    obtain ⟨u, h1, g⟩ := Option.bind_eq_some_iff.mp g
    cases h2 : u.at π with
    | none => rw [h2] at g; cases g
    | some s =>
      rw [h2] at g
      cases s with
      | fz d =>
        cases d with
        | ref q =>
          dsimp only at g
          by_cases e : q = p
          · subst e
            rw [if_pos rfl] at g
            have R2 : Rel K M ((G.plus [] (vs.zip ts)).hide (.ref q) t) ρ σ H := R
            exact Rel.giveb f (R2.place h1 h2) g
          · rw [if_neg e] at g; cases g
        | _ => cases g
      | _ => cases g
end
section
variable {X : Cx} {M : MC} {E : WX} {k n np : Nat} {f : Addr} {fd : FuncData} {ps ks : List Str} {ix io : List Nat} {lb : List Bool} {sp : DSp} {x : Str} {p pos : Pos} {e : Expr} {es : List Expr} {kws : List Keyword} {wa wk : WA}
theorem holds_append : ∀ {vs : List V} {rs : List Rs} {G : Gd} {zs : List V} {qs : List Rs}, vs.length = rs.length → (G.holds vs rs).holds zs qs = G.holds (vs ++ zs) (rs ++ qs)
  | [], [], _, _, _, _ => rfl
  | _ :: _, [], _, _, _, h => nomatch h
  | [], _ :: _, _, _, _, h => nomatch h
  | v :: vs, r :: rs, G, zs, qs, h => holds_append (vs := vs) (rs := rs) (G := G.hold v r) (Nat.succ.inj h)
theorem RsOks.append {vs : List V} {rs : List Rs} {zs : List V} {qs : List Rs} (a : RsOks vs rs) (b : RsOks zs qs) : RsOks (vs ++ zs) (rs ++ qs) := by
  induction a with
  | nil => exact b
  | cons h _ ih => exact .cons h ih
theorem Lnk.holds {K : PySem.W.Frag} {E : WX} {X : XD} : ∀ {vs : List V} {rs : List Rs} {G : Gd}, Lnk K M G E X → Lnk K M (G.holds vs rs) E X
  | [], _, _, l => l
  | _ :: _, [], _, l => l
  | v :: vs, r :: rs, G, l => Lnk.holds (vs := vs) (rs := rs) (G := G.hold v r) l.hold
theorem zip_cnt {a : Addr} : ∀ {vs : List V} {ts : List T}, vs.length = ts.length → cH a (vs.zip ts) = T.cnts a ts
  | [], [], _ => rfl
  | [], _ :: _, h => nomatch h
  | _ :: _, [], h => nomatch h
  | v :: vs, t :: ts, h => by
    rw [List.zip_cons_cons]
    simp only [cH, T.cnts]
    rw [zip_cnt (Nat.succ.inj h)]
theorem TAll.mem {K : PySem.W.Frag} {O : Addr → Prop} {H : Hp} : ∀ {vs : List V} {ts : List T}, TAll K O H vs ts → ∀ q ∈ vs.zip ts, TAt K O H q.1 q.2
  | _, _, .nil, _, h => nomatch h
  | _, _, .cons a t, q, h => by
    rw [List.zip_cons_cons] at h
    rcases List.mem_cons.mp h with e | h
    · subst e; exact a
    · exact TAll.mem t q h
theorem Rel.lentAll {K : PySem.W.Frag} {G : Gd} {ρ : Rho} {σ : St} {H : Hp} {vs : List V} {ts : List T} {bs : List (Option Pl)} (f : Forms vs ts bs) {O : Addr → Prop} (hp : ∀ q ∈ lentP vs ts bs, DAt K O H q.1 q.2) (hh : ∀ q ∈ lentH vs ts bs, TAt K O H q.1 q.2) : TAll K O H vs ts := by
  induction f with
  | nil => exact .nil
  | fz f ih => exact .cons (.fz (hp _ List.mem_cons_self)) (ih (fun q hq => hp q (List.mem_cons_of_mem _ hq)) hh)
  | pl e f ih => exact .cons (hh _ List.mem_cons_self) (ih hp fun q hq => hh q (List.mem_cons_of_mem _ hq))
theorem call_all {K : PySem.W.Frag} {m : Nat} (hix : ix.Nodup) : ∀ σ H Q, tD K M E (wCall M n m ix np lb io sp wa wk) σ H Q → tCallG E n m ix (spD K np io sp) (tDA K M E wa) (tDA K M E wk) σ H Q := by
  rintro σ H Q ⟨G, ρ, Xd, Qd, R, L, w, kk⟩
  refine ⟨G, ρ, Xd, _, R, L, w, fun ρ1 vs H1 rs R1 h1 w1 => ?_⟩
  refine ⟨G.holds vs rs, ρ1, Xd, _, R1, L.holds, w1, fun ρ2 zs H2 qs R2 h2 ⟨l1, l2, ⟨ts, bs, ρ3⟩, g, hl, w2⟩ => ?_⟩
  refine ⟨h1.length.trans l1, h2.length.trans l2, ?_⟩
  rw [holds_append h1.length] at R2
  obtain ⟨R3, fm⟩ := R2.lend (h1.append h2) g
  have R3 : Rel K M (G.plus (lentP (vs ++ zs) ts bs) (lentH (vs ++ zs) ts bs)) ρ3 σ H2 := R3
  have fm : Forms (vs ++ zs) ts bs := fm
  have hl : (pick ix ts).length = np := hl
  have cl : ∀ a, cH a (lentH (vs ++ zs) ts bs) = T.cnts a ts := fun a => fm.cnt
  have nd : ∀ a, cR a ρ3 + (T.cnts a ts + cH a G.hid) ≤ 1 := fun a => by rw [← cl a, ← cH_append]; exact R3.nd a
  have ow : ∀ a, 0 < cR a ρ3 + (T.cnts a ts + cH a G.hid) → (G.H0 a = none ∨ G.io a) ∧ ¬ M.O a := fun a z => R3.own a (show 0 < cR a ρ3 + cH a (lentH (vs ++ zs) ts bs ++ G.hid) by rw [cH_append, cl a]; exact z)
  have inO : ∀ a, Own M G ρ3 a ∨ 0 < T.cnts a ts → Own M (G.plus (lentP (vs ++ zs) ts bs) (lentH (vs ++ zs) ts bs)) ρ3 a := fun a z => by
    show M.O a ∨ 0 < cR a ρ3 + cH a (lentH (vs ++ zs) ts bs ++ G.hid)
    rw [cH_append, cl a]
    rcases z with (z | z) | z
    · exact .inl z
    · exact .inr (by omega)
    · exact .inr (by omega)
  have o1 : ∀ a, M.O a → Own M G ρ3 a := fun a z => .inl z
  have o2 : ∀ a, Own M G ρ3 a → H2 a ≠ none := fun a z => R3.ownAt (inO a (.inl z))
  have pc : ∀ a, T.cnts a (pick ix ts) ≤ T.cnts a ts := fun a => pick_cnt hix
  have all : TAll K (Own M (G.plus (lentP (vs ++ zs) ts bs) (lentH (vs ++ zs) ts bs)) ρ3) H2 (vs ++ zs) ts := Rel.lentAll (G := G) (ρ := ρ3) (σ := σ) fm (fun q hq => R3.pin q (List.mem_append_left _ hq)) fun q hq => R3.hid q (List.mem_append_left _ hq)
  have allp : TAll K (fun a => Own M G ρ3 a ∨ 0 < T.cnts a (pick ix ts)) H2 (pick ix (vs ++ zs)) (pick ix ts) := pick_all (all.stay (stay_sub fun a z => inO a (z.imp id fun z => by have := pc a; omega)) fun _ _ => rfl) ix
  -- what the asker holds back, too
  refine ⟨mcAt M (Own M G ρ3) H2 o1 o2, pick ix ts, _, _, ⟨⟨R3.mi, fun a _ _ => rfl⟩, allp, fun a => by have := nd a; have := pc a; omega, fun a z y => ?_⟩, hl, w2 _ mcAt_ext, ?_, ?_⟩
  · have y : Own M G ρ3 a := y
    have := pc a
    rcases y with y | y
    · exact (ow a (by omega)).2 y
    · have := nd a; omega
  · rintro v H' r ts' ⟨k1, kt, k2, k3⟩ ra ⟨ρ', gb, q⟩
    have gb : giveb ρ3 (pick io (pick ix bs)) ts' = some ρ' := gb
    have zl : (pick io (pick ix (vs ++ zs))).length = ts'.length := ra.bk.length
    have cz : ∀ a, cH a ((pick io (pick ix (vs ++ zs))).zip ts' ++ [(v, r.tr)]) = r.tr.cnt a + T.cnts a ts' := fun a => by
      rw [cH_append, zip_cnt zl]; simp only [cH]; omega
    have R4 : Rel K M (G.plus [] ((pick io (pick ix (vs ++ zs))).zip ts' ++ [(v, r.tr)])) ρ3 σ H' := by
      refine R3.after (fun a o n c e => ?_) kt (fun a z => ?_) k2 (fun a z => ?_) (fun a => by rw [cz a]; exact ra.own.nd a) fun q hq => ?_
      · rw [cl a] at c
        by_cases y : Own M G ρ3 a
        · exact .inl (by rw [k3 a y n]; exact e)
        · exact k1 a o y (by have := pc a; omega) e
      · exact k3 a (.inr z) (ow a (by omega)).2
      · rw [cz a] at z
        rw [cl a]
        rcases (ra.own.out a z).2 with y | y
        · exact .inr y
        · exact .inl (by have := pc a; omega)
      · have e : (fun a => Own M G ρ3 a ∨ 0 < cH a ((pick io (pick ix (vs ++ zs))).zip ts' ++ [(v, r.tr)])) = OutO (mcAt M (Own M G ρ3) H2 o1 o2) r.tr ts' := funext fun a => by rw [cz a]; rfl
        rw [e]
        rcases List.mem_append.mp hq with hq | hq
        · exact ra.bk.mem q hq
        · obtain rfl := List.mem_singleton.mp hq
          exact ra.res
    have R5 : Rel K M ((G.hide v r.tr).plus [] ((pick io (pick ix (vs ++ zs))).zip ts')) ρ3 σ H' := R4.perm rfl rfl (fun _ h => h) (fun a => by
      show cH a ((pick io (pick ix (vs ++ zs))).zip ts' ++ (v, r.tr) :: G.hid) = cH a (((pick io (pick ix (vs ++ zs))).zip ts' ++ [(v, r.tr)]) ++ G.hid)
      rw [List.append_assoc]; rfl) fun q hq => by
      show q ∈ ((pick io (pick ix (vs ++ zs))).zip ts' ++ [(v, r.tr)]) ++ G.hid
      rw [List.append_assoc]; exact hq
    have R6 : Rel K M (G.hide v r.tr) ρ' σ H' := R5.giveb ((fm.pls.pick ix).pick io) gb
    cases r with
    | val d =>
      obtain ⟨R7, a⟩ := Rel.unhide R6
      exact kk ρ' v H' (.val d) (R7.pinned a) trivial q
    | new t => exact kk ρ' v H' (.new t) R6 trivial q
    | pth i π p => exact absurd rfl (ra.npth i π p)
    | nw d => exact absurd rfl (ra.nnw d)
  · rintro cls dd H' ex ts' ⟨k1, kt, k2, k3⟩ ⟨x1, ax, x2, x4⟩ bk ow1 ⟨ρ', gb, q⟩
    have gb : giveb ρ3 (pick io (pick ix bs)) ts' = some ρ' := gb
    have zl : (pick io (pick ix (vs ++ zs))).length = ts'.length := bk.length
    have cz : ∀ a, cH a ((pick io (pick ix (vs ++ zs))).zip ts' ++ [(V.ref ax, T.fz (.xd ex.f ex.d))]) = T.cnts a ts' := fun a => by
      rw [cH_append, zip_cnt zl]; simp only [cH, T.cnt]; omega
    have n1 : ∀ a, T.cnts a ts' ≤ 1 := fun a => by have := ow1.nd a; have e : (T.fz .non).cnt a = 0 := rfl; omega
    have R4 : Rel K M (G.plus [] ((pick io (pick ix (vs ++ zs))).zip ts' ++ [(V.ref ax, T.fz (.xd ex.f ex.d))])) ρ3 σ H' := by
      refine R3.after (fun a o n c e => ?_) kt (fun a z => ?_) k2 (fun a z => ?_) (fun a => by rw [cz a]; exact n1 a) fun q hq => ?_
      · rw [cl a] at c
        by_cases y : Own M G ρ3 a
        · exact .inl (by rw [k3 a y n]; exact e)
        · exact k1 a o y (by have := pc a; omega) e
      · exact k3 a (.inr z) (ow a (by omega)).2
      · rw [cz a] at z
        rw [cl a]
        rcases (ow1.out a (by have e : (T.fz .non).cnt a = 0 := rfl; omega)).2 with y | y
        · exact .inr y
        · exact .inl (by have := pc a; omega)
      · have e : (fun a => Own M G ρ3 a ∨ 0 < cH a ((pick io (pick ix (vs ++ zs))).zip ts' ++ [(V.ref ax, T.fz (.xd ex.f ex.d))])) = OutO (mcAt M (Own M G ρ3) H2 o1 o2) (.fz .non) ts' := funext fun a => by
          rw [cz a]
          show (Own M G ρ3 a ∨ 0 < T.cnts a ts') = (Own M G ρ3 a ∨ 0 < (T.fz .non).cnt a + T.cnts a ts')
          have e : (T.fz .non).cnt a = 0 := rfl
          rw [e, Nat.zero_add]
        rw [e]
        rcases List.mem_append.mp hq with hq | hq
        · exact bk.mem q hq
        · obtain rfl := List.mem_singleton.mp hq
          exact .fz x4
    have R5 : Rel K M ((G.hide (.ref ax) (.fz (.xd ex.f ex.d))).plus [] ((pick io (pick ix (vs ++ zs))).zip ts')) ρ3 σ H' := R4.perm rfl rfl (fun _ h => h) (fun a => by
      show cH a ((pick io (pick ix (vs ++ zs))).zip ts' ++ (V.ref ax, T.fz (.xd ex.f ex.d)) :: G.hid) = cH a (((pick io (pick ix (vs ++ zs))).zip ts' ++ [(V.ref ax, T.fz (.xd ex.f ex.d))]) ++ G.hid)
      rw [List.append_assoc]; rfl) fun q hq => by
      show q ∈ ((pick io (pick ix (vs ++ zs))).zip ts' ++ [(V.ref ax, T.fz (.xd ex.f ex.d))]) ++ G.hid
      rw [List.append_assoc]; exact hq
    obtain ⟨R6, xa⟩ := Rel.unhide (R5.giveb ((fm.pls.pick ix).pick io) gb)
    exact L ρ' σ H' cls dd ex R6 ⟨x1, ax, x2, xa⟩ q
theorem pd_call (F : FnG X.prog X.w X.K X.mg X.base k f fd ps (spD X.K np io sp)) (hix : ix.Nodup) (hG : X.A.guards = some []) (hr : Room k X.A) (tkx : Takes X E) (hb : KB X.K fd ps n ks ix) (hk : PySem.W.keepIn X.K (.ref f) = true) (hm : X.mg x = some (.ref f)) (hg : Gl X x)
    (ha : PA X (e :: es) (tDA X.K M E wa)) (hkw : PK X kws (tDA X.K M E wk)) (hall : (backToKw pos (keywordEach kws X.env)).all (·.1.isSome) = true := by rfl) (hks : (backToKw pos (keywordEach kws X.env)).filterMap (·.1) = ks := by rfl)
    (hdb : (x == ("__debug__" : Str)) = false := by decide) (he : starEach (e :: es) X.env = (false, eval e X.env) :: starEach es X.env := by rfl)
    (hpl : ((backTo pos (starEach (e :: es) X.env)).any (·.1) || (backToKw pos (keywordEach kws X.env)).any (·.1.isNone)) = false := by rfl) : PE X (.Call (.Name x p) (e :: es) kws pos) (tD X.K M E (wCall M n ks.length ix np lb io sp wa wk)) :=
  PE.weak (pe_callG F hG hr tkx hb hk hm hg ha hkw hall hks hdb he hpl) (call_all hix)
theorem pd_call0 (F : FnG X.prog X.w X.K X.mg X.base k f fd ps (spD X.K np io sp)) (hix : ix.Nodup) (hG : X.A.guards = some []) (hr : Room k X.A) (tkx : Takes X E) (hb : KB X.K fd ps 0 ks ix) (hk : PySem.W.keepIn X.K (.ref f) = true) (hm : X.mg x = some (.ref f)) (hg : Gl X x)
    (hkw : PK X kws (tDA X.K M E wk)) (hall : (backToKw pos (keywordEach kws X.env)).all (·.1.isSome) = true := by rfl) (hks : (backToKw pos (keywordEach kws X.env)).filterMap (·.1) = ks := by rfl)
    (hdb : (x == ("__debug__" : Str)) = false := by decide) (hpl : ((backTo pos (starEach [] X.env)).any (·.1) || (backToKw pos (keywordEach kws X.env)).any (·.1.isNone)) = false := by rfl) : PE X (.Call (.Name x p) [] kws pos) (tD X.K M E (wCall M 0 ks.length ix np lb io sp waNil wk)) :=
  PE.weak (pe_callG0 F hG hr tkx hb hk hm hg hkw hall hks hdb hpl) fun σ H Q h => by
    obtain ⟨G, ρ, Xd, Qd, R, L, w, kk⟩ := call_all (K := X.K) hix σ H Q h
    exact kk ρ [] H [] R .nil w
theorem pd_knil : PK X [] (tDA X.K M E waNil) := ⟨fun pos pins s σ H Q I ⟨G, ρ, Xd, Qd, R, L, w, k⟩ => pk_nil.run pos pins s σ H Q I (k ρ [] H [] R .nil w)⟩
theorem pd_kcons {nm : Option Str} {kpos : Pos} {we : WE} (he : PE X e (tD X.K M E we)) (hr : PK X kws (tDA X.K M E wk)) : PK X (⟨nm, e, kpos⟩ :: kws) (tDA X.K M E (waCons we wk)) :=
  ⟨fun pos pins s σ H Q I ⟨G, ρ, Xd, Qd, R, L, w, k⟩ => (pk_cons he hr).run pos pins s σ H Q I ⟨G, ρ, Xd, _, R, L, w, fun ρ1 v H1 r R1 h1 w1 =>
    ⟨G.hold v r, ρ1, Xd, _, R1, L.hold, w1, fun ρ2 vs H2 rs R2 h2 w2 => k ρ2 (v :: vs) H2 (r :: rs) R2 (.cons h1 h2) w2⟩⟩⟩
end
end El

set_option Elab.async false
set_option linter.all false
set_option maxRecDepth 100000
set_option maxHeartbeats 4000000
/-! EI: comprehensions as expressions, stores of several names, op=, lists that are written. -/
namespace El
open PySem L2

section
variable {X : Cx} {M : MC} {E : WX}
theorem pd_ynil : PTs X [] (tDT X.K M noE wYes) := ⟨fun pins s σ H Q I ⟨G, ρ, Xd, Qd, R, L, w, k⟩ => pts_nil.run pins s σ H Q I (k ρ true H R w)⟩
theorem pd_yone {c : Expr} {t : WT} (h : PT X c (tDT X.K M noE t)) : PTs X [c] (tDT X.K M noE t) := pts_one h
theorem pd_lc {elt tg iter : Expr} {ifs : List Expr} {scope : Scope} {own : List (Str × Nat)} {pos : Pos} {wi : WI} {S : List Nat} {g : WG} {tt : WT} {te : WE} (hc : X.calm = true) (hN : X.N.Nodup) (ok : BlkOk X.N X.env.scope scope own) (hi : PI X tg iter (tDI X.K M E wi))
    (hg : ∀ (s : Shared) (H : Hp) (C : Addr) (cl : List (Str × Addr)) (fp : List Addr), PG (X.blk s H scope (compEnvC scope cl C X.env) fp) tg (tDG X.K M S g)) (ht : ∀ (s : Shared) (H : Hp) (C : Addr) (cl : List (Str × Addr)) (fp : List Addr), PTs (X.blk s H scope (compEnvC scope cl C X.env) fp) ifs (tDT X.K M noE tt))
    (he : ∀ (s : Shared) (H : Hp) (C : Addr) (cl : List (Str × Addr)) (fp : List Addr), PE (X.blk s H scope (compEnvC scope cl C X.env) fp) elt (tD X.K M noE te)) (hS : ∀ i ∈ S, i ∈ own.map (·.2) := by decide) (hs : ∀ x, foldedSetIterable iter X.env x = pure x := by intro _; rfl) :
    PE X (.ListComp elt [⟨tg, iter, ifs, 0⟩] scope pos) (tD X.K M E (wLc wi g tt te (own.map (·.2)))) := PE.weak (pe_lc hc hN hi ok hg ht he hs) (lc_all hS)
end

/-! ### several names -/
/-- what is stored -/
def Rs.fix (ρ : Rho) : Rs → Option (Rs × Rho)
  | .val d => some (.val d, ρ)
  | .new t => some (.new t, ρ)
  | .nw d => some (.nw d, ρ)
  | .pth i π p => ((Rs.pth i π p).out ρ).map fun q => (.val q.1, q.2)
def fixs (ρ : Rho) : List Rs → Option (List Rs × Rho)
  | [] => some ([], ρ)
  | r :: rs => (fixs ρ rs).bind fun p => (r.fix p.2).map fun q => (q.1 :: p.1, q.2)
/-- what a name gets -/
def storeP : Rs → (T → Prop) → Prop
  | .val d, k => k (.fz d)
  | .new t, k => k t
  | .nw d, k => ∀ p, k (.top p d)
  | .pth _ _ _, _ => False
section
variable {K : PySem.W.Frag} {M : MC} {G : Gd} {ρ ρ' : Rho} {σ : St} {H : Hp} {v : V} {r r' : Rs} {vs : List V} {d : D}
theorem hold_parts (v : V) (r : Rs) (G : Gd) : (G.hold v r).H0 = G.H0 ∧ (G.hold v r).io = G.io ∧ (∀ q, q ∈ (G.hold v r).pins → q ∈ G.pins ∨ ∃ d, r = .val d ∧ q = (v, d)) ∧ (∀ q, q ∈ G.pins → q ∈ (G.hold v r).pins) := by
  cases r with
  | val d => exact ⟨rfl, rfl, fun q hq => (List.mem_cons.mp hq).elim (fun z => .inr ⟨d, rfl, z⟩) .inl, fun q hq => List.mem_cons_of_mem _ hq⟩
  | pth i π p => exact ⟨rfl, rfl, fun q hq => .inl hq, fun q hq => hq⟩
  | new t => exact ⟨rfl, rfl, fun q hq => .inl hq, fun q hq => hq⟩
  | nw d => cases v <;> exact ⟨rfl, rfl, fun q hq => .inl hq, fun q hq => hq⟩
/-- pins come first or last -/
theorem pin_swap : ∀ {vs : List V} {rs : List Rs} {G : Gd}, Rel K M ((G.holds vs rs).pin v d) ρ σ H → Rel K M ((G.pin v d).holds vs rs) ρ σ H
  | [], _, _, R => R
  | _ :: _, [], _, R => R
  | u :: vs, q :: rs, G, R => by
    have R2 : Rel K M (((G.hold u q).pin v d).holds vs rs) ρ σ H := pin_swap (vs := vs) (rs := rs) (G := G.hold u q) R
    have e : ∀ {vs : List V} {rs : List Rs} {G1 G2 : Gd}, G1.H0 = G2.H0 → G1.io = G2.io → (∀ q ∈ G2.pins, q ∈ G1.pins) → G2.hid = G1.hid → Rel K M (G1.holds vs rs) ρ σ H → Rel K M (G2.holds vs rs) ρ σ H := by
      intro vs
      induction vs with
      | nil => intro rs G1 G2 h1 hi h2 h3 R; exact R.pinsub h1.symm hi.symm h2 h3
      | cons w vs ih =>
        intro rs G1 G2 h1 hi h2 h3 R
        cases rs with
        | nil => exact R.pinsub h1.symm hi.symm h2 h3
        | cons t rs =>
          refine ih (G1 := G1.hold w t) (G2 := G2.hold w t) ?_ ?_ ?_ ?_ R
          · rw [(hold_parts w t G1).1, (hold_parts w t G2).1, h1]
          · rw [(hold_parts w t G1).2.1, (hold_parts w t G2).2.1, hi]
          · intro x hx
            rcases (hold_parts w t G2).2.2.1 x hx with z | ⟨d, rfl, rfl⟩
            · exact (hold_parts w t G1).2.2.2 x (h2 x z)
            · exact List.mem_cons_self
          · cases t with
            | val d => exact h3
            | pth i π p => exact h3
            | new d => exact congrArg (List.cons _) h3
            | nw d => cases w <;> first | exact h3 | exact congrArg (List.cons _) h3
    refine e (G1 := (G.hold u q).pin v d) (G2 := (G.pin v d).hold u q) ?_ ?_ ?_ ?_ R2
    · cases q <;> first | rfl | (cases u <;> rfl)
    · cases q <;> first | rfl | (cases u <;> rfl)
    · intro x hx
      rcases (hold_parts u q (G.pin v d)).2.2.1 x hx with z | ⟨d, rfl, rfl⟩
      · rcases List.mem_cons.mp z with z | z
        · rw [z]; exact List.mem_cons_self
        · exact List.mem_cons_of_mem _ ((hold_parts u q G).2.2.2 x z)
      · exact List.mem_cons_of_mem _ List.mem_cons_self
    · cases q <;> first | rfl | (cases u <;> rfl)
theorem Rel.fixs : ∀ {rs rs' : List Rs} {vs : List V} {G : Gd} {ρ ρ' : Rho}, Rel K M (G.holds vs rs) ρ σ H → RsOks vs rs → El.fixs ρ rs = some (rs', ρ') → Rel K M (G.holds vs rs') ρ' σ H ∧ RsOks vs rs'
  | [], _, _, G, ρ, _, R, .nil, g => by cases g; exact ⟨R, .nil⟩
  | r :: rs, rs', vs0, G, ρ, ρ', R, h0, g => by
    cases h0 with
    | cons h t =>
      rename_i v vs
      unfold El.fixs at g
      obtain ⟨⟨rs1, ρ1⟩, g1, g⟩ := Option.bind_eq_some_iff.mp g
      obtain ⟨⟨r2, ρ2⟩, g2, g⟩ := Option.map_eq_some_iff.mp g
      cases g
      obtain ⟨R1, t1⟩ := Rel.fixs (G := G.hold v r) R t g1
      cases r with
      | val d => cases g2; exact ⟨R1, .cons h t1⟩
      | new d => cases g2; exact ⟨R1, .cons h t1⟩
      | nw d => cases g2; exact ⟨R1, .cons h t1⟩
      | pth i π p =>
        obtain ⟨⟨d, ρ3⟩, g3, g2⟩ := Option.map_eq_some_iff.mp g2
        cases g2
        have R1 : Rel K M (G.holds vs rs1) ρ1 σ H := R1
        obtain ⟨hd, R2⟩ := Rel.out (r := .pth i π p) (G := G.holds vs rs1) R1 h g3
        exact ⟨pin_swap (R2.pinned hd), .cons trivial t1⟩
/-- a name gets what is in hand -/
theorem Rel.storeP {k : T → Prop} (R : Rel K M (G.hold v r) ρ σ H) (h : RsOk v r) (hk : El.storeP r k) : ∃ c, k c ∧ ∀ i : Nat, Rel K M G (ρ.set i (some c)) (σ.set i (some v)) H := by
  cases r with
  | val d =>
    obtain ⟨R, a⟩ := Rel.unpin R
    exact ⟨_, hk, fun i => R.set a⟩
  | new t => exact ⟨_, hk, fun i => R.setT i⟩
  | nw d =>
    obtain ⟨p, rfl⟩ := h
    exact ⟨_, hk p, fun i => Rel.setT R i⟩
  | pth i π p => exact hk.elim
end
/-- a, b = x, y -/
def wsPar (i j : Nat) (wa : WA) : WS := fun ρ X D => wa ρ X fun rs ρ1 => ∃ r1 r2 ρ2, fixs ρ1 rs = some ([r1, r2], ρ2) ∧ storeP r2 fun c2 => storeP r1 fun c1 => D.nx ((ρ2.set j (some c2)).set i (some c1))
def wsPar3 (i j l : Nat) (wa : WA) : WS := fun ρ X D => wa ρ X fun rs ρ1 => ∃ r1 r2 r3 ρ2, fixs ρ1 rs = some ([r1, r2, r3], ρ2) ∧ storeP r3 fun c3 => storeP r2 fun c2 => storeP r1 fun c1 => D.nx (((ρ2.set l (some c3)).set j (some c2)).set i (some c1))
section
variable {X : Cx} {M : MC} {E : WX} {wa : WA}
theorem pd_par {i j : Nat} {x y : Str} {a b : Expr} {px py pt pos : Pos} {kt k2 pt2} (hc : X.calm = true) (hN : X.N.Nodup) (ha : PA X [a, b] (tDA X.K M E wa)) (hi : X.N[i]? = some x := by rfl) (hj : X.N[j]? = some y := by rfl) (hij : i ≠ j := by decide)
    (hx : X.env.scope.names.lookup x = some .local := by rfl) (hy : X.env.scope.names.lookup y = some .local := by rfl) (hw : swappedStores [.Tuple [.Name x px, .Name y py] kt pt] (.Tuple [a, b] k2 pt2) X.env = pure (some [x, y]) := by rfl)
    (hs : swapsWithSole [.Tuple [.Name x px, .Name y py] kt pt] (.Tuple [a, b] k2 pt2) pos.line X.env = pure false := by rfl) : PS X (.Assign [.Tuple [.Name x px, .Name y py] kt pt] (.Tuple [a, b] k2 pt2) pos) (tDS X.K M E (wsPar i j wa)) := by
  refine PS.weak (ps_par hc hN hi hj hij hx hy ha hw hs) fun D σ H ⟨G, ρ, Xd, Qd, R, L, w, k1, _⟩ => ⟨G, ρ, Xd, _, R, L, w, fun ρ1 vs H1 rs R1 h1 ⟨r1, r2, ρ2, gf, w1⟩ => ?_⟩
  obtain ⟨R2, h2⟩ := R1.fixs h1 gf
  cases h2 with
  | cons a1 t => cases t with
    | cons a2 t =>
      cases t
      rename_i v w
      refine ⟨v, w, rfl, ?_⟩
      have R2 : Rel X.K M ((G.hold v r1).hold w r2) ρ2 σ H1 := R2
      obtain ⟨c2, w2, R3⟩ := R2.storeP a2 w1
      obtain ⟨c1, w3, R4⟩ := (R3 j).storeP a1 w2
      rw [List.set_comm _ _ hij]
      exact k1 _ _ _ (R4 i) w3
theorem pd_par3 {i j l : Nat} {x y z : Str} {a b c : Expr} {px py pz pt pos : Pos} {kt k2 pt2} (hc : X.calm = true) (hN : X.N.Nodup) (ha : PA X [a, b, c] (tDA X.K M E wa)) (hi : X.N[i]? = some x := by rfl) (hj : X.N[j]? = some y := by rfl) (hl : X.N[l]? = some z := by rfl) (hij : i ≠ j := by decide) (hil : i ≠ l := by decide) (hjl : j ≠ l := by decide)
    (hx : X.env.scope.names.lookup x = some .local := by rfl) (hy : X.env.scope.names.lookup y = some .local := by rfl) (hz : X.env.scope.names.lookup z = some .local := by rfl)
    (hw : swappedStores [.Tuple [.Name x px, .Name y py, .Name z pz] kt pt] (.Tuple [a, b, c] k2 pt2) X.env = pure (some [x, y, z]) := by rfl)
    (hs : swapsWithSole [.Tuple [.Name x px, .Name y py, .Name z pz] kt pt] (.Tuple [a, b, c] k2 pt2) pos.line X.env = pure false := by rfl) : PS X (.Assign [.Tuple [.Name x px, .Name y py, .Name z pz] kt pt] (.Tuple [a, b, c] k2 pt2) pos) (tDS X.K M E (wsPar3 i j l wa)) := by
  refine PS.weak (ps_par3 hc hN hi hj hl hij hil hjl hx hy hz ha hw hs) fun D σ H ⟨G, ρ, Xd, Qd, R, L, w, k1, _⟩ => ⟨G, ρ, Xd, _, R, L, w, fun ρ1 vs H1 rs R1 h1 ⟨r1, r2, r3, ρ2, gf, w1⟩ => ?_⟩
  obtain ⟨R2, h2⟩ := R1.fixs h1 gf
  cases h2 with
  | cons a1 t => cases t with
    | cons a2 t => cases t with
      | cons a3 t =>
        cases t
        rename_i u v w
        refine ⟨u, v, w, rfl, ?_⟩
        have R2 : Rel X.K M (((G.hold u r1).hold v r2).hold w r3) ρ2 σ H1 := R2
        obtain ⟨c3, w2, R3⟩ := R2.storeP a3 w1
        obtain ⟨c2, w3, R4⟩ := (R3 l).storeP a2 w2
        obtain ⟨c1, w4, R5⟩ := (R4 j).storeP a1 w3
        have es : ((σ.set i (some u)).set j (some v)).set l (some w) = ((σ.set l (some w)).set j (some v)).set i (some u) :=
          (congrArg (fun z : L2.St => z.set l (some w)) (List.set_comm _ _ hij)).trans ((List.set_comm _ _ hil).trans (congrArg (fun z : L2.St => z.set i (some u)) (List.set_comm _ _ hjl)))
        rw [es]
        exact k1 _ _ _ (R5 i) w4
end

/-! ### name op= e -/
def wsAug (i : Nat) (op : D → D → (Os → Prop) → Prop) (we : WE) : WS := fun ρ X D => (∃ d0, pk ρ i = some d0) ∧ we ρ X fun r ρ1 => ∃ d e, pk ρ1 i = some d ∧ r.get ρ1 = some e ∧ op d e fun c => storeP c.rs fun c' => D.nx (ρ1.set i (some c'))
theorem ipd_int {K : PySem.W.Frag} {f : Int → Int → Int} : OpD K (ipI f) (oInt2 cTrue f) := od_int2 fun i j H Q _ q => ⟨i, j, rfl, rfl, q⟩
section
variable {K : PySem.W.Frag} {M : MC} {G : Gd} {ρ : Rho} {σ : St} {H : Hp}
theorem Rel.has {d : D} {i : Nat} (R : Rel K M G ρ σ H) (g : pk ρ i = some d) : ∃ v, σ[i]? = some (some v) := by
  obtain ⟨t, h1, _⟩ := Option.bind_eq_some_iff.mp g
  obtain ⟨v, h, _⟩ := R.slot i t (slotT_of h1)
  exact ⟨v, h⟩
theorem Rel.look {d : D} {v : V} {i : Nat} (R : Rel K M G ρ σ H) (h : σ[i]? = some (some v)) (g : pk ρ i = some d) : BAt K (Own M G ρ) H v d := by
  obtain ⟨t, h1, h2⟩ := Option.bind_eq_some_iff.mp g
  obtain ⟨w, h3, h4⟩ := R.slot i t (slotT_of h1)
  rw [h] at h3; cases h3
  exact h4.bat (fun a z => .inr (by have : t.cnt a ≤ cR a ρ := cR_get (a := a) (slotT_of h1); omega)) h2
/-- a place that is an own list, an own dict -/
theorem Rel.ownL {i : Nat} {π : List Stp} {p : Addr} {ds : List D} (R : Rel K M G ρ σ H) (h : nodeR ρ i π p = some (.top p (.lst ds))) : ∃ xs, H p = some (.lst xs) ∧ DAll K (Own M G ρ) H xs ds := by
  obtain ⟨a, _⟩ := R.node h
  cases a with
  | top h k =>
    rename_i o
    cases o with
    | lst xs => exact ⟨xs, h, k⟩
    | _ => exact k.elim
theorem Rel.putNode {i : Nat} {π : List Stp} {p : Addr} {d d' : D} {o : HO} (R : Rel K M G ρ σ H) (h : nodeR ρ i π p = some (.top p d)) (k : Kids K (Own M G ρ) H o d') : Rel K M G (putN ρ i π (.top p d')) σ (upd H p o) := by
  obtain ⟨t, e1, e2, e3, e4⟩ := nodeR_of h
  rw [e4]
  exact R.put e1 e2 k
end
section
variable {X : Cx} {M : MC} {E : WX} {we : WE}
theorem pd_aug {x : Str} {e : Expr} {op : Operator} {ti : TIp} {o : D → D → (Os → Prop) → Prop} {pos' pos : Pos} (i : Nat) (hN : X.N.Nodup) (he : PE X e (tD X.K M E we)) (ho : PIp X op ti) (hd : OpD X.K ti o) (hi : X.N[i]? = some x := by rfl) (hx : Loc X.env.scope x := by first | exact Or.inl rfl | exact Or.inr rfl)
    (hf : X.fn x = true ∨ X.env.scope.names.lookup x = some .local := by first | exact .inl rfl | exact .inr rfl) : PS X (.AugAssign (.Name x pos') op e pos) (tDS X.K M E (wsAug i o we)) := by
  refine PS.weak (ps_aug hN hi hx he ho hf) fun D σ H ⟨G, ρ, Xd, Qd, R, L, ⟨⟨d0, g0⟩, w⟩, k1, _⟩ => ?_
  obtain ⟨x0, h0⟩ := R.has g0
  refine ⟨x0, h0, G, ρ, Xd, _, R, L, w, fun ρ1 v H1 r R1 h1 ⟨d, e, g1, g2, w1⟩ => ?_⟩
  refine hd _ H1 x0 v d e _ _ (fun p hp => R1.fresh hp) (R1.look h0 g1) (R1.get h1 g2) w1 fun H3 u c hc q => ?_
  obtain ⟨R3, h3⟩ := ROut.at R1.unhold (fun a z => own_hold z) hc
  obtain ⟨c', q, R4⟩ := R3.storeP h3 q
  exact k1 _ _ _ (R4 i) q
end

/-! ### lists and dicts that are written -/
/-- o.append(e), o an own list -/
def wsApp (wo we : WE) : WS := fun ρ X D => wo ρ X fun r ρ1 => ∃ i π p ds0, r = .pth i π p ∧ nodeR ρ1 i π p = some (.top p (.lst ds0)) ∧ we ρ1 X fun q ρ2 => ∃ d ρ3 ds, q.out ρ2 = some (d, ρ3) ∧ nodeR ρ3 i π p = some (.top p (.lst ds)) ∧ ds.length < 16777216 ∧ D.nx (putN ρ3 i π (.top p (.lst (ds ++ [d]))))
/-- what a store makes of an own list, an own dict -/
def rep1 : List DK → List D → DK → D → List D
  | k :: ks, v :: vs, k', v' => (if k = k' then v' else v) :: rep1 ks vs k' v'
  | _, _, _, _ => []
def dput (ks : List DK) (vs : List D) (k : DK) (v : D) : List DK × List D := if (ks.any fun x => decide (x = k)) = true then (ks, rep1 ks vs k v) else (ks ++ [k], vs ++ [v])
def stD (c j d : D) : Option D := match c with
  | .lst ds => match j with
    | .int j => (ixN ds.length j).map fun k => .lst (ds.set k d)
    | _ => none
  | .dic false ks vs => match dkOf j with
    | some (.one k) => if vs.length < 16777216 then some (.dic false (dput ks vs (.one k) d).1 (dput ks vs (.one k) d).2) else none
    | _ => none
  | .dic true ks vs => match dkOf j with
    | some (.many k) => if vs.length < 16777216 then some (.dic true (dput ks vs (.many k) d).1 (dput ks vs (.many k) d).2) else none
    | _ => none
  | _ => none
/-- o[j] = e -/
def wsSetI (we wo wj : WE) : WS := fun ρ X D => we ρ X fun r ρ1 => wo ρ1 X fun s ρ2 => wj ρ2 X fun q ρ3 => ∃ i π p d j ρ4 c c', s = .pth i π p ∧ q.get ρ3 = some j ∧ r.out ρ3 = some (d, ρ4) ∧ nodeR ρ4 i π p = some (.top p c) ∧ stD c j d = some c' ∧ D.nx (putN ρ4 i π (.top p c'))
section
variable {X : Cx} {M : MC} {E : WX} {we wo wj : WE}
theorem pd_app {o : Expr} {pa pos cpos : Pos} {e : Expr} (ho : PE X o (tD X.K M E wo)) (he : PE X e (tD X.K M E we)) 
    (hbase : attributeBase o "append" X.env (eval o X.env) = eval o X.env := by rfl)
    (hfew : ((backTo cpos (starEach [e] X.env)).all (fun x => !x.1) && (backToKw cpos (keywordEach [] X.env)).all (fun x => x.1.isSome) && decide (([e] : List Expr).length + ([] : List Keyword).length + (if ([] : List Keyword).isEmpty then 0 else 1) < 30)) = true := by rfl)
    (hline : (pa.endLine == cpos.line) = true := by rfl) (hs : starEach [e] X.env = (false, eval e X.env) :: starEach [] X.env := by rfl) (hplain : (backTo cpos (starEach [] X.env)).any (·.1) = false := by rfl)
    (hsw : swapsWith (.Call (.Attribute o "append" pa) [e] [] cpos) none pos.line X.env = pure false := by rfl) :
    PS X (.Expr (.Call (.Attribute o "append" pa) [e] [] cpos) pos) (tDS X.K M E (wsApp wo we)) := by
  refine PS.weak (ps_expr (pe_bm (T := "list") (id := "list.append") PySem.F.plainAttrs_list PySem.F.slot_list_append PySem.F.type_list_append mt_append ho (pa_cons he pa_nil hs) hbase hfew hline hs hplain) hsw) fun D σ H ⟨G, ρ, Xd, Qd, R, L, w, k1, _⟩ => ?_
  refine ⟨G, ρ, Xd, _, R, L, w, fun ρ1 x0 H1 r R1 h1 ⟨i, π, p, ds0, er, g0, w1⟩ => ?_⟩
  subst er
  have h1 : x0 = .ref p := h1
  subst h1
  have R1 : Rel X.K M G ρ1 σ H1 := R1
  obtain ⟨xs0, e0, _⟩ := R1.ownL g0
  refine ⟨.inl ⟨rfl, xs0, SqL.of e0⟩, G, ρ1, Xd, _, R1, L, w1, fun ρ2 v H2 q R2 h2 ⟨d, ρ3, ds, g, gi, hz, w2⟩ => ?_⟩
  obtain ⟨hd2, R3⟩ := R2.out h2 g
  obtain ⟨xs, o3, o4⟩ := R3.ownL gi
  refine ⟨p, xs, v, rfl, rfl, o3, by rw [o4.length, sizeLine_eq]; exact hz, ?_⟩
  exact k1 _ _ _ (R3.putNode gi (d' := .lst (ds ++ [d])) (o4.append (.cons hd2 .nil))) w2
theorem DAll.rep1 {K : PySem.W.Frag} {O : Addr → Prop} {H : Hp} {κ : Type} [DecidableEq κ] {f : κ → DK} (inj : ∀ a b, f a = f b → a = b) {k : κ} {v : V} {d : D} (a : DAt K O H v d) : ∀ {kvs : List (κ × V)} {ds : List D}, DAll K O H (kvs.map (·.2)) ds →
    DAll K O H ((kvs.map fun kv => if kv.1 = k then (kv.1, v) else kv).map (·.2)) (El.rep1 (kvs.map fun q => f q.1) ds (f k) d)
  | [], _, h => by cases h; exact .nil
  | kv :: kvs, _, h => by
    cases h with
    | cons b t =>
      have ih := DAll.rep1 inj (k := k) a (kvs := kvs) t
      simp only [List.map_cons, El.rep1]
      by_cases e : kv.1 = k
      · rw [if_pos e, if_pos (congrArg f e)]; exact .cons a ih
      · rw [if_neg e, if_neg fun z => e (inj _ _ z)]; exact .cons b ih
theorem DAll.dput {K : PySem.W.Frag} {O : Addr → Prop} {H : Hp} {κ : Type} [DecidableEq κ] {f : κ → DK} (inj : ∀ a b, f a = f b → a = b) {k : κ} {v : V} {d : D} (a : DAt K O H v d) {kvs : List (κ × V)} {ds : List D} (t : DAll K O H (kvs.map (·.2)) ds) :
    (El.dput (kvs.map fun q => f q.1) ds (f k) d).1 = (putK kvs k v).map (fun q => f q.1) ∧ DAll K O H ((putK kvs k v).map (·.2)) (El.dput (kvs.map fun q => f q.1) ds (f k) d).2 := by
  have e : ((kvs.map fun q => f q.1).any fun x => decide (x = f k)) = kvs.any fun kv => decide (kv.1 = k) := by
    rw [List.any_map]
    congr 1
    funext q
    exact decide_eq_decide.mpr ⟨inj _ _, congrArg f⟩
  unfold El.dput putK
  rw [e]
  by_cases h : (kvs.any fun kv => decide (kv.1 = k)) = true
  · rw [if_pos h, if_pos h]
    refine ⟨?_, DAll.rep1 inj a t⟩
    rw [List.map_map]
    refine List.map_congr_left fun q _ => ?_
    show f q.1 = f (if q.1 = k then (q.1, v) else q).1
    split <;> rfl
  · rw [if_neg h, if_neg h]
    refine ⟨by rw [List.map_append]; rfl, ?_⟩
    rw [List.map_append]
    exact t.append (.cons a .nil)
theorem BAt.key {K : PySem.W.Frag} {O : Addr → Prop} {H : Hp} {v : V} {d : D} {k : Key} (h : BAt K O H v d) (e : dkOf d = some (.one k)) : v = kV k := by
  cases d with
  | int i => cases e; exact h.int
  | str x => cases e; exact h.str
  | tup ds =>
    obtain ⟨ks, _, e2⟩ := Option.map_eq_some_iff.mp e
    cases e2
  | _ => cases e
theorem keys_vals {K : PySem.W.Frag} {O : Addr → Prop} {H : Hp} : ∀ {ds : List D} {k : List Key} {xs : List V}, keysOf ds = some k → DAll K O H xs ds → xs = k.map kV
  | [], _, _, e, h => by cases e; cases h; rfl
  | d :: ds, k, _, e, h => by
    obtain ⟨k0, h0, e⟩ := Option.bind_eq_some_iff.mp (show (keyOf d).bind _ = _ from e)
    obtain ⟨ks, h1, e⟩ := Option.map_eq_some_iff.mp e
    subst e
    cases h with
    | cons a t =>
      rw [keys_vals h1 t, List.map_cons]
      congr 1
      cases d <;> cases h0 <;> cases a <;> rfl
theorem BAt.keyT {K : PySem.W.Frag} {O : Addr → Prop} {H : Hp} {v : V} {d : D} {k : List Key} (h : BAt K O H v d) (e : dkOf d = some (.many k)) : ∃ b, v = .ref b ∧ H b = some (.tup (k.map kV)) := by
  cases d with
  | tup ds =>
    obtain ⟨ks, e1, e2⟩ := Option.map_eq_some_iff.mp (show (keysOf ds).map _ = _ from e)
    cases e2
    cases h.tup with
    | tup e t => exact ⟨_, rfl, by rw [e, keys_vals e1 t]⟩
  | _ => cases e
theorem Rel.ownDT {K : PySem.W.Frag} {G : Gd} {ρ : Rho} {σ : St} {H : Hp} {i : Nat} {π : List Stp} {p : Addr} {ks : List DK} {ds : List D} (R : Rel K M G ρ σ H) (h : nodeR ρ i π p = some (.top p (.dic true ks ds))) : ∃ kvs : List (List Key × V), H p = some (.dT kvs) ∧ ks = kvs.map (fun q => .many q.1) ∧ DAll K (Own M G ρ) H (kvs.map (·.2)) ds := by
  obtain ⟨a, _⟩ := R.node h
  cases a with
  | top h k =>
    rename_i o
    cases o with
    | dT kvs => exact ⟨kvs, h, k.1, k.2⟩
    | dK kvs => exact k.elim
    | _ => exact k.elim
theorem Rel.ownD {K : PySem.W.Frag} {G : Gd} {ρ : Rho} {σ : St} {H : Hp} {i : Nat} {π : List Stp} {p : Addr} {ks : List DK} {ds : List D} (R : Rel K M G ρ σ H) (h : nodeR ρ i π p = some (.top p (.dic false ks ds))) : ∃ kvs : List (Key × V), H p = some (.dK kvs) ∧ ks = kvs.map (fun q => .one q.1) ∧ DAll K (Own M G ρ) H (kvs.map (·.2)) ds := by
  obtain ⟨a, _⟩ := R.node h
  cases a with
  | top h k =>
    rename_i o
    cases o with
    | dK kvs => exact ⟨kvs, h, k.1, k.2⟩
    | dT kvs => exact k.elim
    | _ => exact k.elim
def rSetA : TSet := fun o i v H Q => rSetL o i v H Q ∨ rSetD o i v H Q
theorem set_any (hu : X.A.units + 1 < cLine) : PSet X rSetA := by
  intro pins s σ H o i v ov iv u Q I ro ri rv h
  rcases h with h | h
  · exact set_list pins s σ H o i v ov iv u Q I ro ri rv h
  · exact set_dict hu pins s σ H o i v ov iv u Q I ro ri rv h
/-- the store itself -/
theorem Rel.setI {K : PySem.W.Frag} {G : Gd} {ρ : Rho} {σ : St} {H : Hp} {i : Nat} {π : List Stp} {p : Addr} {c c' j d : D} {u v : V} {O : Addr → Prop} {Q : Hp → Prop} (R : Rel K M G ρ σ H) (hn : nodeR ρ i π p = some (.top p c)) (hs : stD c j d = some c') (hj : BAt K O H u j) (hd : DAt K (Own M G ρ) H v d)
    (q : ∀ H', Rel K M G (putN ρ i π (.top p c')) σ H' → Q H') : rSetA (.ref p) u v H Q := by
  cases c with
  | lst ds =>
    cases j with
    | int j =>
      obtain ⟨k, hk, e⟩ := Option.map_eq_some_iff.mp hs
      cases e
      obtain ⟨xs, o3, o4⟩ := R.ownL hn
      exact .inl ⟨p, xs, j, k, rfl, hj.int, o3, by rw [o4.length]; exact hk, q _ (R.putNode hn (d' := .lst (ds.set k d)) (o4.set hd k))⟩
    | _ => cases hs
  | dic m ks vs =>
    cases m with
    | true =>
      unfold stD at hs
      dsimp only at hs
      split at hs
      · rename_i k ek
        split at hs
        · rename_i hz
          cases hs
          obtain ⟨kvs, o3, rfl, o4⟩ := R.ownDT hn
          obtain ⟨b, rfl, hb⟩ := hj.keyT ek
          obtain ⟨e1, e2⟩ := DAll.dput (f := DK.many) (fun a b h => by cases h; rfl) hd (k := k) o4
          exact .inr ⟨p, _, rfl, DPut.t o3 hb (by rw [(List.length_map ..).symm.trans o4.length, sizeLine_eq]; exact hz), q _ (R.putNode hn (d' := .dic true _ _) ⟨e1, e2⟩)⟩
        · cases hs
      · cases hs
    | false =>
      unfold stD at hs
      dsimp only at hs
      split at hs
      · rename_i k ek
        split at hs
        · rename_i hz
          cases hs
          obtain ⟨kvs, o3, rfl, o4⟩ := R.ownD hn
          obtain rfl := hj.key ek
          obtain ⟨e1, e2⟩ := DAll.dput (f := DK.one) (fun a b h => by cases h; rfl) hd (k := k) o4
          exact .inr ⟨p, _, rfl, DPut.k o3 (by rw [(List.length_map ..).symm.trans o4.length, sizeLine_eq]; exact hz), q _ (R.putNode hn (d' := .dic false _ _) ⟨e1, e2⟩)⟩
        · cases hs
      · cases hs
  | _ => cases hs
theorem pd_setI {o : Expr} {ps pos : Pos} {e j : Expr} (hu : X.A.units + 1 < cLine) (he : PE X e (tD X.K M E we)) (ho : PE X o (tD X.K M E wo)) (hj : PE X j (tD X.K M E wj))
    (hs : swapsWithSole [.Subscript o j ps] e pos.line X.env = pure false := by rfl) (hw : swappedStores [.Subscript o j ps] e X.env = pure none := by rfl) (h1 : (assignEach [.Subscript o j ps] X.env).map (·.2) = [assign (.Subscript o j ps) X.env] := by rfl)
    (ha : ∀ v, assign (.Subscript o j ps) X.env v = (do
      let ov ← holding [v] (eval o X.env)
      let iv ← holding [v, ov] (eval j X.env)
      standAt ps
      holding [v, ov, iv] (setItem ov iv v)
      release [v, ov, iv] []) := by intro _; rfl) :
    PS X (.Assign [.Subscript o j ps] e pos) (tDS X.K M E (wsSetI we wo wj)) := by
  refine PS.weak (ps_asg he (pg_sub ho hj (set_any hu) ha) hs hw h1) fun D σ H ⟨G, ρ, Xd, Qd, R, L, w, k1, _⟩ => ⟨G, ρ, Xd, _, R, L, w, fun ρ1 v H1 r R1 h1 w1 => ?_⟩
  refine ⟨G.hold v r, ρ1, Xd, _, R1, L.hold, w1, fun ρ2 x H2 s R2 h2 w2 => ?_⟩
  refine ⟨(G.hold v r).hold x s, ρ2, Xd, _, R2, L.hold.hold, w2, fun ρ3 u H3 q R3 h3 ⟨i, π, p, d, jd, ρ4, c, c', es, gj, go, gn, gs, w3⟩ => ?_⟩
  subst es
  have h2 : x = .ref p := h2
  subst h2
  have R3 : Rel X.K M ((G.hold v r).hold u q) ρ3 σ H3 := R3
  obtain ⟨hd, R4⟩ := R3.unhold.out h1 go
  exact R4.setI gn gs (R3.get h3 gj) hd fun H4 R5 => k1 _ _ _ R5 w3
end
end El

set_option Elab.async false
set_option linter.all false
set_option maxRecDepth 100000
set_option maxHeartbeats 4000000
/-! EJ: the law's own end. -/
namespace El
open PySem PySem.Spec L2
open PyProof.Rows

section
variable {P : Program} {w : World} {K : PySem.W.Frag} {mg mb : Str → Option Value} {k : Nat} {fa a : Addr} {fd : FuncData} {x : Str} {sp : Sp} {s : Shared} {vs : List Value} {ns : List Int}
/-- a call of the law where H tracks the script at most -/
theorem end_core (KX : K.In s.heap) (hm : s.heap.Ns mainGlobals mg) (hb : s.heap.Ns builtinsNs mb) (hbb : ∀ x : Str, x ≠ "__name__" → mb x = bootBuiltins x) (hlim : s.heap.NoLimit) (hg : s.gens = #[])
    (ha : s.heap.get? a = some { cls := .type "list", data := .seq vs.toArray }) (hr : Room k callerA) (F : ∀ base : Heap, K.In base → base.Ns mainGlobals mg → FnG P w K mg base k fa fd [x] sp) (hbind : ∀ (s : Shared) (u : Value), BindsTo s fd ⟨[u], []⟩ [(x, u)])
    (H : Hp) (hO : Only H) (hok : HOk P w H s.heap) (hA : ∀ b u, H b = some u → b = a) (hK : ∀ u, H a = some u → K.lookup a = none) (hsp : sp [.ref a] H (fun v _ => v = .bl true) fun _ _ _ => False) :
    codeAny (model P w) callerA (.call (.ref fa) ⟨[.ref a], []⟩) (fun r s' => r = .ok (.ret (.bool true)) ∧ OldK s.heap s'.heap ∧ s'.os = s.os ∧ AllBare s'.gens) s := by
  -- what is no list stands in the base
  have free : ∀ {b : Addr} {o : Obj} {es : Array DictEntry} {n : Nat}, s.heap.get? b = some o → o.data = .dict es n → H b = none := by
    intro b o es n e1 e2
    cases q : H b with
    | none => rfl
    | some u =>
      have e3 := hA b u q
      rw [e3, ha] at e1
      cases e1
      exact nomatch (show Data.seq vs.toArray _ = Data.dict es n from e2)
  have down : ∀ {b : Addr} {m : Str → Option Value}, s.heap.Ns b m → (hidT s.heap H).Ns b m := by
    rintro b m ⟨o, es, n, e, dd, rr⟩
    exact ⟨o, es, n, hidT_get e (free e dd), dd, rr⟩
  have inB : K.In (hidT s.heap H) := fun b o e => by
    refine hidT_get (KX b o e) ?_
    cases q : H b with
    | none => rfl
    | some u =>
      have e3 := hA b u q
      rw [e3] at q e
      rw [hK u q] at e
      exact nomatch e
  have md : Mod K mg (hidT s.heap H) := by
    obtain ⟨ml, l1, l2⟩ := hlim
    exact ⟨inB, down hm, ⟨mb, down hb, hbb⟩, ⟨ml, down l1, l2⟩⟩
  have e0 : Env0 P w K mg (hidT s.heap H) callerA [] s H := by
    refine ⟨rfl, md, fun b o e => of_hidT e, Nat.le_of_eq (hidT_size _ _), trivial, fun b hb => ?_, hok, .of_eq hg⟩
    exact absurd (show b ∈ ([] : List Addr) from hb) (by simp)
  refine codeAny_mono ((F _ inB (down hm)).run callerA [] s H ⟨[.ref a], []⟩ [.ref a] [.ref a] _ _ rfl hr e0 (hbind s (.ref a)) (.cons rfl .nil) hsp) fun r s2 z => ?_
  match r, z with
  | .error e, z =>
    obtain ⟨_, _, _, _, _, _, _, _, _, _, _, _, ff⟩ := z
    exact ff.elim
  | .ok .next, z => exact False.elim z
  | .ok .brk, z => exact False.elim z
  | .ok .cont, z => exact False.elim z
  | .ok (.ret u), z =>
    obtain ⟨v, H2, os, bare, un, hok2, rr, rfl⟩ := z
    obtain rfl : u = Value.bool true := rr
    refine ⟨rfl, OldK.of_keep fun b o e => ?_, os, bare⟩
    cases q : H b with
    | none => exact un.keep b o e q (fun z => absurd (show b ∈ ([] : List Addr) from z) (by simp)) (by simp)
    | some u =>
      rcases hO b with z | ⟨ob, ys, z⟩
      · rw [q] at z; cases z
      · have g1 := (hok b _ z).1
        have g2 := (hok2 b _ (un.frzs b ob _ z)).1
        rw [e] at g1
        cases g1
        exact g2
theorem end_call (KX : K.In s.heap) (hm : s.heap.Ns mainGlobals mg) (hb : s.heap.Ns builtinsNs mb) (hbb : ∀ x : Str, x ≠ "__name__" → mb x = bootBuiltins x) (hlim : s.heap.NoLimit) (hg : s.gens = #[])
    (ha : s.heap.get? a = some { cls := .type "list", data := .seq vs.toArray }) (hi : IntsAre vs ns) (hl : ns.length ≤ sizeLine) (hr : Room k callerA) (F : ∀ base : Heap, K.In base → base.Ns mainGlobals mg → FnG P w K mg base k fa fd [x] sp) (hbind : ∀ (s : Shared) (u : Value), BindsTo s fd ⟨[u], []⟩ [(x, u)])
    (hsp : ∀ H : Hp, Only H → SqL K H a (ns.map V.int) → sp [.ref a] H (fun v _ => v = .bl true) fun _ _ _ => False) :
    codeAny (model P w) callerA (.call (.ref fa) ⟨[.ref a], []⟩) (fun r s' => r = .ok (.ret (.bool true)) ∧ OldK s.heap s'.heap ∧ s'.os = s.os ∧ AllBare s'.gens) s := by
  have rv := vals_ints hi
  have hlen := hi.length
  cases hk : K.lookup a with
  | some o =>
    have e := KX a o hk
    rw [ha] at e
    cases e
    have hO : Only fun _ => none := fun _ => .inl rfl
    refine end_core KX hm hb hbb hlim hg ha hr F hbind (fun _ => none) hO (fun b u z => (nomatch (show (none : Option HO) = some u from z))) (fun b u z => (nomatch (show (none : Option HO) = some u from z))) (fun u z => (nomatch (show (none : Option HO) = some u from z))) (hsp _ hO (.inr ⟨_, vs.toArray, _, hk, rfl, rfl, rfl, ?_, ?_⟩))
    · rw [List.size_toArray, hlen]; exact hl
    · simpa using rv
  | none =>
    let ob : Obj := { cls := .type "list", data := .seq vs.toArray }
    let H : Hp := fun b => if b = a then some (.frz ob (.lst (ns.map V.int))) else none
    have at_ : ∀ b u, H b = some u → b = a ∧ u = .frz ob (.lst (ns.map V.int)) := fun b u z => by
      by_cases e : b = a
      · have z' := (if_pos e).symm.trans z
        cases z'
        exact ⟨e, rfl⟩
      · exact nomatch (if_neg e).symm.trans z
    have hO : Only H := fun b => by
      by_cases e : b = a
      · exact .inr ⟨ob, _, if_pos e⟩
      · exact .inl (if_neg e)
    refine end_core KX hm hb hbb hlim hg ha hr F hbind H hO (fun b u z => ?_) (fun b u z => (at_ b u z).1) (fun _ _ => hk) (hsp H hO (.inl (.inr ⟨ob, if_pos rfl⟩)))
    obtain ⟨rfl, rfl⟩ := at_ b u z
    exact ⟨ha, by rw [List.length_map]; exact hl, vs, _, rv, ha⟩
end
/-- THE HEAD: what k_head leaves, from the law's promise over data -/
theorem walkG {l : PySem.W.OpenLaw} {n k : Nat} {q : Program} {loose : List Str} {XP : (Str → Option Value) → Heap → Prop} {YP : World → Heap → Prop} {d : DefRec} {K : Params → PySem.W.Frag} {sp : DSp} {x : Str}
    (hn : l.most = some n) (hn2 : n ≤ sizeLine) (hdf : d.params.defaults = []) (hr : Room k callerA) (hY : ∀ (w : World) (h : Heap), YP w h → (K w.params).In h)
    (F : ∀ (w : World) (mg : Str → Option Value) (fa : Addr) (h : Heap), (K w.params).In h → h.Ns mainGlobals mg → mg d.name = some (.ref fa) →
      ∃ fd : FuncData, (∀ (s : Shared) (u : Value), BindsTo s fd ⟨[u], []⟩ [(x, u)]) ∧ ∀ base : Heap, (K w.params).In base → base.Ns mainGlobals mg → FnG l.prog w (K w.params) mg base k fa fd [x] (spD (K w.params) 1 [] sp))
    (hsp : ∀ ns : List Int, ns.length ≤ n → sp MC.no [.fz (.fls (ns.map D.int))] (fun r _ => r = .val (.bl true)) fun _ _ => False) :
    PySem.W.WalkO q loose XP YP l.row.toRowW d [] (fun f vs => PySem.call f vs) := by
  refine Att.attach_call hn hdf fun w s₀ s₁ mg mb fa o pm cd doc a vs ns G Y ho hd hcd hmg hobj hints hlen hg => ?_
  obtain ⟨fd, hb, hF⟩ := F w mg fa _ (hY w _ Y) G.T.g hmg
  refine end_call (hY w _ Y) G.T.g G.T.b G.T.builtins G.T.nolimit hg hobj hints (Nat.le_trans hlen hn2) hr hF hb fun H hO hS => ?_
  have c0 : ∀ a, T.cnts a [.fz (.fls (ns.map D.int))] = 0 := fun a => rfl
  refine ⟨MC.no, [.fz (.fls (ns.map D.int))], _, _, ⟨trivial, .cons (.fz (.fls ?_ (DAll.of_ints _ _ _ ns))) .nil, fun a => by rw [c0 a]; exact Nat.zero_le 1, fun a z => absurd z (by rw [c0 a]; exact Nat.lt_irrefl 0)⟩, rfl, hsp ns hlen, fun v H' r ts' kp ra e => ?_, fun _ _ _ _ _ _ _ _ _ z => z.elim⟩
  · rcases hS with (h | ⟨o, h⟩) | h
    · rcases hO a with z | ⟨ob, xs, z⟩
      · rw [h] at z; cases z
      · rw [h] at z; cases z
    · exact .inl ⟨fun z => z.elim id fun z => absurd z (by rw [c0 a]; exact Nat.lt_irrefl 0), o, h⟩
    · exact .inr (.inr h)
  · subst e
    have := ra.res
    cases this with
    | fz h => cases h; rfl
end El

set_option Elab.async false
set_option linter.all false
set_option maxRecDepth 100000
set_option maxHeartbeats 4000000
/-! EK: short words for the printed compositions. -/
namespace El
open PySem L2
open PyProof.Rows (envOfC)

theorem hr64 {k : Nat} {A : Around} (r : Room k A) : A.units + 64 < cLine := by have := r.un; omega
theorem hr65 {k : Nat} {A : Around} (r : Room k A) : A.units + 65 < cLine := by have := r.un; omega
theorem hr1 {k : Nat} {A : Around} (r : Room k A) : A.units + 1 < cLine := by have := r.un; omega
theorem hr100 {k : Nat} {A : Around} (r : Room k A) : A.units + (64 + 1) < cLine := by have := r.un; omega
/-- a def as the top has made it -/
structure DefAt (K : PySem.W.Frag) (mg : Str → Option Value) (x : Str) (st : Stmt) where
  f : Addr
  fd : FuncData
  F : Fun K x x st f fd
  m : mg x = some (.ref f)
/-- a constant of the module -/
structure GlobAt (K : PySem.W.Frag) (mg : Str → Option Value) (x : Str) (d : D) : Prop where
  ex : ∃ (v : V) (u : Value), mg x = some u ∧ RelV v u ∧ ∀ O H, DAt K O H v d
section
variable {X : Cx} {M : MC} {E : WX} {a b e : Expr} {pos p : Pos} {wa wb we : WE}
theorem pd_glob {x : Str} {d : D} (g : GlobAt X.K X.mg x d) (hg : Gl X x := by rfl) (hd : (x == ("__debug__" : Str)) = false := by decide) : PE X (.Name x pos) (tD X.K M E (wC d)) := by
  obtain ⟨v, u, h1, h2, h3⟩ := g.ex
  exact pd_val (pe_glob hg h1 h2 hd) h3
theorem pd_isB {x : Str} {n : String} (hm : X.mg x = none) (hv : bootBuiltins x = some (.type n) := by decide +kernel) (hg : Gl X x := by rfl) (hn : x ≠ "__name__" := by decide) (hd : (x == ("__debug__" : Str)) = false := by decide) : PE X (.Name x pos) (tC (.ty n)) := pe_bltn hg hm hv rfl hn hd
/-- tests -/
theorem pt_lt (ha : PE X a (tD X.K M E wa)) (hb : PE X b (tD X.K M E wb)) : PT X (.Compare a [.Lt] [b] pos) (tDT X.K M E (wB (wOp oLt wa wb))) := pd_tcmp (op_lt.or op_lt_str) od_cmp ha hb
theorem pt_le (ha : PE X a (tD X.K M E wa)) (hb : PE X b (tD X.K M E wb)) : PT X (.Compare a [.LtE] [b] pos) (tDT X.K M E (wB (wOp oLe wa wb))) := pd_tcmp (op_le.or op_le_str) od_cmp ha hb
theorem pt_gt (ha : PE X a (tD X.K M E wa)) (hb : PE X b (tD X.K M E wb)) : PT X (.Compare a [.Gt] [b] pos) (tDT X.K M E (wB (wOp oGt wa wb))) := pd_tcmp (op_gt.or op_gt_str) od_cmp ha hb
theorem pt_ge (ha : PE X a (tD X.K M E wa)) (hb : PE X b (tD X.K M E wb)) : PT X (.Compare a [.GtE] [b] pos) (tDT X.K M E (wB (wOp oGe wa wb))) := pd_tcmp (op_ge.or op_ge_str) od_cmp ha hb
theorem pt_eq (hu : X.A.units + 64 < cLine) (ha : PE X a (tD X.K M E wa)) (hb : PE X b (tD X.K M E wb)) : PT X (.Compare a [.Eq] [b] pos) (tDT X.K M E (wB (wOp oEq wa wb))) := pd_tcmp (op_eqA hu) od_eq ha hb
theorem pt_ne (hu : X.A.units + 64 < cLine) (ha : PE X a (tD X.K M E wa)) (hb : PE X b (tD X.K M E wb)) : PT X (.Compare a [.NotEq] [b] pos) (tDT X.K M E (wB (wOp oNe wa wb))) := pd_tcmp (op_neA hu) od_eq ha hb
theorem pt_in (hu : X.A.units + 65 < cLine) (ha : PE X a (tD X.K M E wa)) (hb : PE X b (tD X.K M E wb)) (hm : behindInMarks .In b = false := by rfl) : PT X (.Compare a [.In] [b] pos) (tDT X.K M E (wB (wOp (oIn fun b => b) wa wb))) := pd_tcmp (op_inA hu) od_in ha hb hm
theorem pt_notin (hu : X.A.units + 65 < cLine) (ha : PE X a (tD X.K M E wa)) (hb : PE X b (tD X.K M E wb)) (hm : behindInMarks .NotIn b = false := by rfl) : PT X (.Compare a [.NotIn] [b] pos) (tDT X.K M E (wB (wOp (oIn fun b => !b) wa wb))) := pd_tcmp (op_notInA hu) od_notIn ha hb hm
theorem isN_all {K : PySem.W.Frag} {f : Bool → Bool} : ∀ σ H Q, tDT K M E (wB (wUn (oIsN f) wa)) σ H Q → tB (fun σ H Q => tD K M E wa σ H fun x H1 => Q (.bl (f (decide (x = .non)))) H1) σ H Q := by
  rintro σ H Q ⟨G, ρ, Xd, Qd, R, L, w, k⟩
  refine ⟨G, ρ, Xd, _, R, L, w, fun ρ1 v H1 r R1 h1 ⟨d, g, w1⟩ => ?_⟩
  obtain ⟨b, gb, w1⟩ := w1
  refine ⟨_, rfl, ?_⟩
  rw [(R1.get h1 g).nonB]
  have e : b = f d.isN := by
    have : some (D.bl (f d.isN)) = some (D.bl b) := gb
    cases this; rfl
  rw [← e]
  exact k ρ1 b H1 R1.unhold w1
theorem pt_isN {j pos'} (ha : PE X a (tD X.K M E wa)) : PT X (.Compare a [.Is] [.Constant .none j pos'] pos) (tDT X.K M E (wB (wUn (oIsN fun b => b) wa))) := PT.weak (pt_cmp (pc_isN ha) rfl) (isN_all (f := fun b => b))
theorem pt_notN {j pos'} (ha : PE X a (tD X.K M E wa)) : PT X (.Compare a [.IsNot] [.Constant .none j pos'] pos) (tDT X.K M E (wB (wUn (oIsN fun b => !b) wa))) := PT.weak (pt_cmp (pc_notN ha) rfl) (isN_all (f := fun b => !b))
/-- name = [..] on one row, the name a local -/
theorem pd_setLc {y : Str} {py : Pos} {elt tg iter : Expr} {ifs : List Expr} {scope : Scope} {own : List (Str × Nat)} {spos : Pos} {wi : WI} {S : List Nat} {g : WG} {tt : WT} {te : WE} (i : Nat) (hc : X.calm = true) (hN : X.N.Nodup) (ok : BlkOk X.N X.env.scope scope own) (hi : PI X tg iter (tDI X.K M E wi))
    (hg : ∀ (s : Shared) (H : Hp) (C : Addr) (cl : List (Str × Addr)) (fp : List Addr), PG (X.blk s H scope (compEnvC scope cl C X.env) fp) tg (tDG X.K M S g)) (ht : ∀ (s : Shared) (H : Hp) (C : Addr) (cl : List (Str × Addr)) (fp : List Addr), PTs (X.blk s H scope (compEnvC scope cl C X.env) fp) ifs (tDT X.K M noE tt))
    (he : ∀ (s : Shared) (H : Hp) (C : Addr) (cl : List (Str × Addr)) (fp : List Addr), PE (X.blk s H scope (compEnvC scope cl C X.env) fp) elt (tD X.K M noE te)) (hS : ∀ i ∈ S, i ∈ own.map (·.2) := by decide) (hy : X.N[i]? = some y := by rfl) (hyl : X.env.scope.names.lookup y = some .local := by rfl)
    (hsw : swapsWith (.ListComp elt [⟨tg, iter, ifs, 0⟩] scope pos) (some (.Name y py)) spos.line X.env = pure true := by rfl) (hs : ∀ x, foldedSetIterable iter X.env x = pure x := by intro _; rfl) :
    PS X (.Assign [.Name y py] (.ListComp elt [⟨tg, iter, ifs, 0⟩] scope pos) spos) (tDS X.K M E (wsSet i (wLc wi g tt te (own.map (·.2))))) :=
  PS.weak (ps_setLc hc hN hy hyl hsw hi ok hg ht he hs) fun D σ H ⟨G, ρ, Xd, Qd, R, L, w, k1, _⟩ => lc_all (E := E) hS σ H _ ⟨G, ρ, Xd, _, R, L, w, fun ρ1 v H1 r R1 h1 w1 => by
    cases r with
    | val d =>
      obtain ⟨R2, hd⟩ := Rel.unpin R1
      exact k1 _ _ _ (R2.set hd) w1
    | new t => exact k1 _ _ _ (Rel.setT R1 i) w1
    | nw d =>
      obtain ⟨p, rfl⟩ := h1
      exact k1 _ _ _ (Rel.setT R1 i) (w1 p)
    | pth j π p =>
      obtain ⟨d, ρ2, g, w1⟩ := w1
      obtain ⟨hd, R2⟩ := R1.out h1 g
      exact k1 _ _ _ (R2.set hd) w1⟩
end
theorem tdX {X : Cx} {E : XK} (hs : X.stack = X.env :: X.outer := by rfl) (hf : X.env.frame = some X.env.locals := by rfl) (hex : X.ex = [] := by rfl) {E₁ : Value → Shared → Prop}
    (hx : X.xe = fun e s' => wpAny (model X.prog X.w) X.A (leaving X.env e) (fun _ s'' => L2.CX X.prog X.w X.outer X.H_0 X.s_0 E e s'') E₁ s' := by rfl) : Takes X (fun cls d _ H => E cls d H) := takes_of hs hf hex hx
/-- what is never reached -/
def wsNev : WS := fun _ _ _ => False
theorem pd_nev {X : Cx} {M : MC} {E : WX} {st : Stmt} : PS X st (tDS X.K M E wsNev) := PS.weak ps_never fun D σ H ⟨G, ρ, Xd, Qd, R, L, w, _⟩ => w
end El

set_option Elab.async false
set_option linter.all false
set_option maxRecDepth 100000
set_option maxHeartbeats 4000000
/-! EL: the readings, reckoned by simp. -/
namespace El
open PySem L2

/-- an equality that simp is not to take for one by rfl -/
theorem nre {α : Sort u} {a b : α} (h : a = b) : a = b := by cases h; exact (Eq.refl a).trans (Eq.refl a)
/-- a mark that keeps simp out of k -/
def Tag {α : Sort u} (_ : α) : Type := Unit
/-- what an option holds -/
def bindP {α : Type} (o : Option α) (k : α → Prop) (_ : Tag k := ⟨⟩) : Prop := ∃ a, o = some a ∧ k a
@[simp] theorem bindP_some {α : Type} {a : α} {k : α → Prop} : bindP (some a) k = k a := propext ⟨fun ⟨b, h1, h2⟩ => by cases h1; exact h2, fun h => ⟨a, rfl, h⟩⟩
@[simp] theorem bindP_none {α : Type} {k : α → Prop} : bindP none k = False := propext ⟨fun ⟨b, h1, h2⟩ => (nomatch h1), fun h => False.elim h⟩
def callP (M : MC) (sp : DSp) (ts : List T) (k : Rs → List T → Prop) (e : Ex → List T → Prop) (_ : Tag k := ⟨⟩) (_ : Tag e := ⟨⟩) : Prop := ∀ M', Mext M M' → sp M' ts k e
def forP (g : WG) (tb : WS) (ds : List D) (ρ : Rho) (X : XD) (E : ED) (_ : Tag E := ⟨⟩) : Prop := forD g tb ds ρ X E
def lcP (g : WG) (tt : WT) (te : WE) (vs : List Nat) (ds acc : List D) (ρ : Rho) (Q : Rs → Rho → Prop) (_ : Tag Q := ⟨⟩) : Prop := lcD g tt te vs ds acc ρ Q
def whP (c : WT) (tb : WS) (ρ : Rho) (X : XD) (E : ED) (_ : Tag E := ⟨⟩) : Prop := ∃ n, whD c tb n ρ X E
def opP (o : D → D → (Os → Prop) → Prop) (d e : D) (k : Os → Prop) (_ : Tag k := ⟨⟩) : Prop := o d e k
def unP (o : D → (Os → Prop) → Prop) (d : D) (k : Os → Prop) (_ : Tag k := ⟨⟩) : Prop := o d k
def caP (o : List D → (Os → Prop) → Prop) (ds : List D) (k : Os → Prop) (_ : Tag k := ⟨⟩) : Prop := o ds k
def slP (d : D) (lo hi : Option Int) (k : Os → Prop) (_ : Tag k := ⟨⟩) : Prop := oSl d lo hi k
/-- a truth picked -/
def iteP (c : Bool) (a b : Prop) (_ : Tag a := ⟨⟩) (_ : Tag b := ⟨⟩) : Prop := if c = true then a else b
@[simp] theorem iteP_t {a b : Prop} : iteP true a b = a := if_pos rfl
@[simp] theorem iteP_f {a b : Prop} : iteP false a b = b := if_neg Bool.false_ne_true
theorem iteP_of {c : Bool} {a b : Prop} (h1 : c = true → a) (h2 : c = false → b) : iteP c a b := by
  cases c with
  | true => rw [iteP_t]; exact h1 rfl
  | false => rw [iteP_f]; exact h2 rfl
section
variable {ρ : Rho} {X : XD} {Q : Rs → Rho → Prop} {QT : Bool → Rho → Prop} {QA : List Rs → Rho → Prop} {E : ED} {QG : Rho → Prop}
theorem ex2 {α β : Type} {P : α → Prop} {Q : β → Prop} {R : α → β → Prop} : (∃ a b, P a ∧ Q b ∧ R a b) = ∃ a, P a ∧ ∃ b, Q b ∧ R a b := propext ⟨fun ⟨a, b, h1, h2, h3⟩ => ⟨a, h1, b, h2, h3⟩, fun ⟨a, h1, b, h2, h3⟩ => ⟨a, b, h1, h2, h3⟩⟩
theorem exP {α β : Type} {P : α × β → Prop} : (∃ a b, P (a, b)) = ∃ p, P p := propext ⟨fun ⟨a, b, h⟩ => ⟨(a, b), h⟩, fun ⟨(a, b), h⟩ => ⟨a, b, h⟩⟩
theorem ex2b {α β : Type} {o1 : Option α} {o2 : Option β} {R : α → β → Prop} : (∃ a b, o1 = some a ∧ o2 = some b ∧ R a b) = bindP o1 fun a => bindP o2 fun b => R a b := ex2
theorem exPb {α β : Type} {o : Option (α × β)} {R : α → β → Prop} : (∃ a b, o = some (a, b) ∧ R a b) = bindP o fun p => R p.1 p.2 := exP (P := fun p => o = some p ∧ R p.1 p.2)
theorem ite_iteP {c : Bool} {a b : Prop} : (if c = true then a else b) = iteP c a b := rfl
@[simp ↓] theorem e_wVar {i : Nat} : wVar i ρ X Q = bindP (slotT ρ i) fun t => Q (rsOf i [] t) ρ := nre rfl
@[simp ↓] theorem e_wC {d : D} : wC d ρ X Q = Q (.val d) ρ := nre rfl
@[simp ↓] theorem e_wOp {o : D → D → (Os → Prop) → Prop} {a b : WE} : wOp o a b ρ X Q = a ρ X fun ra ρ1 => b ρ1 X fun rb ρ2 => bindP (ra.get ρ2) fun d => bindP (rb.get ρ2) fun e => opP o d e fun c => Q c.rs ρ2 := by
  unfold wOp bindP
  exact congrArg _ (funext fun ra => funext fun ρ1 => congrArg _ (funext fun rb => funext fun ρ2 => ex2 (P := fun d => ra.get ρ2 = some d) (Q := fun e => rb.get ρ2 = some e) (R := fun d e => o d e fun c => Q c.rs ρ2)))
@[simp ↓] theorem e_wUn {o : D → (Os → Prop) → Prop} {a : WE} : wUn o a ρ X Q = a ρ X fun r ρ1 => bindP (r.get ρ1) fun d => unP o d fun c => Q c.rs ρ1 := nre rfl
def asB : D → Option Bool
  | .bl b => some b
  | _ => none
@[simp] theorem asB_bl {b : Bool} : asB (.bl b) = some b := nre rfl
theorem bl_eq {o : Option D} {k : Bool → Prop} : (∃ b, o = some (.bl b) ∧ k b) = bindP o fun d => bindP (asB d) k := by
  unfold bindP
  refine propext ⟨fun ⟨b, h, q⟩ => ⟨_, h, b, rfl, q⟩, fun ⟨d, h, b, h2, q⟩ => ?_⟩
  cases d <;> first | cases h2; exact ⟨_, h, q⟩ | cases h2
@[simp ↓] theorem e_wB {a : WE} : wB a ρ X QT = a ρ X fun r ρ1 => bindP (r.get ρ1) fun d => bindP (asB d) fun b => QT b ρ1 := congrArg _ (funext fun r => funext fun ρ1 => bl_eq)
@[simp ↓] theorem e_wAnd {t u : WT} : wAnd t u ρ X QT = t ρ X fun b ρ1 => iteP b (u ρ1 X QT) (QT false ρ1) := nre rfl
@[simp ↓] theorem e_wOr {t u : WT} : wOr t u ρ X QT = t ρ X fun b ρ1 => iteP b (QT true ρ1) (u ρ1 X QT) := nre rfl
@[simp ↓] theorem e_wNot {t : WT} : wNot t ρ X QT = t ρ X fun b ρ1 => QT (!b) ρ1 := nre rfl
@[simp ↓] theorem e_wAndV {a b : WE} : wAndV a b ρ X Q = a ρ X fun r ρ1 => bindP (r.get ρ1) fun d => bindP (asB d) fun c => iteP c (b ρ1 X Q) (Q (.val (.bl false)) ρ1) := congrArg _ (funext fun r => funext fun ρ1 => bl_eq)
@[simp ↓] theorem e_wOrV {a b : WE} : wOrV a b ρ X Q = a ρ X fun r ρ1 => bindP (r.get ρ1) fun d => bindP (asB d) fun c => iteP c (Q (.val (.bl true)) ρ1) (b ρ1 X Q) := congrArg _ (funext fun r => funext fun ρ1 => bl_eq)
@[simp ↓] theorem e_wNotV {a : WE} : wNotV a ρ X Q = a ρ X fun r ρ1 => bindP (r.get ρ1) fun d => bindP (asB d) fun c => Q (.val (.bl (!c))) ρ1 := congrArg _ (funext fun r => funext fun ρ1 => bl_eq)
@[simp ↓] theorem e_wIf {t : WT} {a b : WE} : wIf t a b ρ X Q = t ρ X fun c ρ1 => iteP c (a ρ1 X Q) (b ρ1 X Q) := nre rfl
@[simp ↓] theorem e_waNil : waNil ρ X QA = QA [] ρ := nre rfl
@[simp ↓] theorem e_waCons {a : WE} {r : WA} : waCons a r ρ X QA = a ρ X fun x ρ1 => r ρ1 X fun xs ρ2 => QA (x :: xs) ρ2 := nre rfl
@[simp ↓] theorem e_wTup {a : WA} : wTup a ρ X Q = a ρ X fun rs ρ1 => rs.length ≤ 1000 ∧ bindP (lets ρ1 rs) fun p => Q (.val (.tup p.1)) p.2 := by
  unfold wTup bindP
  exact congrArg _ (funext fun rs => funext fun ρ1 => congrArg _ (exP (P := fun p => lets ρ1 rs = some p ∧ Q (.val (.tup p.1)) p.2)))
@[simp ↓] theorem e_wLst {a : WA} : wLst a ρ X Q = a ρ X fun rs ρ1 => rs.length ≤ 1000 ∧ bindP (lets ρ1 rs) fun p => Q (.nw (.lst p.1)) p.2 := by
  unfold wLst bindP
  exact congrArg _ (funext fun rs => funext fun ρ1 => congrArg _ (exP (P := fun p => lets ρ1 rs = some p ∧ Q (.nw (.lst p.1)) p.2)))
@[simp ↓] theorem e_wCa {o : List D → (Os → Prop) → Prop} {a : WA} : wCa o a ρ X Q = a ρ X fun rs ρ1 => bindP (gets ρ1 rs) fun ds => caP o ds fun c => Q c.rs ρ1 := nre rfl
@[simp ↓] theorem e_wIsi {cs : List TN} {a : WE} : wIsi cs a ρ X Q = a ρ X fun r ρ1 => bindP (r.get ρ1) fun d => bindP d.tn fun t => Q (.val (.bl (cs.any fun c => t.is c))) ρ1 := by
  unfold wIsi bindP
  refine congrArg _ (funext fun r => funext fun ρ1 => propext ?_)
  exact ⟨fun ⟨d, e, h1, h2, h3⟩ => ⟨d, h1, e, h2, h3⟩, fun ⟨d, h1, e, h2, h3⟩ => ⟨d, e, h1, h2, h3⟩⟩
theorem val_bl {r : Os} {k : Bool → Prop} : (∃ b, r = .val (.bl b) ∧ k b) = bindP (match r with | .val d => asB d | _ => none) k := by
  unfold bindP
  refine propext ⟨fun ⟨b, h, q⟩ => ⟨b, by rw [h]; rfl, q⟩, fun ⟨b, h, q⟩ => ⟨b, ?_, q⟩⟩
  cases r with
  | val d => cases d <;> first | cases h; rfl | cases h
  | _ => cases h
@[simp ↓] theorem e_wChain {o o' : D → D → (Os → Prop) → Prop} {a b c : WE} : wChain o o' a b c ρ X Q = a ρ X fun ra ρ1 => b ρ1 X fun rb ρ2 => bindP (ra.get ρ2) fun d => bindP (rb.get ρ2) fun e => opP o d e fun r => bindP (match r with | .val d => asB d | _ => none) fun b =>
    iteP b (c ρ2 X fun rc ρ3 => bindP (rb.get ρ3) fun e' => bindP (rc.get ρ3) fun g => opP o' e' g fun r' => Q r'.rs ρ3) (Q (.val (.bl false)) ρ2) := by
  unfold wChain
  simp only [ex2b, val_bl, ite_iteP, opP]
@[simp ↓] theorem e_woNone {QO : Option Int → Rho → Prop} : woNone ρ X QO = QO none ρ := nre rfl
def asI : D → Option Int
  | .int b => some b
  | _ => none
@[simp] theorem asI_int {b : Int} : asI (.int b) = some b := nre rfl
theorem int_eq {o : Option D} {k : Int → Prop} : (∃ b, o = some (.int b) ∧ k b) = bindP o fun d => bindP (asI d) k := by
  unfold bindP
  refine propext ⟨fun ⟨b, h, q⟩ => ⟨_, h, b, rfl, q⟩, fun ⟨d, h, b, h2, q⟩ => ?_⟩
  cases d <;> first | cases h2; exact ⟨_, h, q⟩ | cases h2
@[simp ↓] theorem e_woSome {a : WE} {QO : Option Int → Rho → Prop} : woSome a ρ X QO = a ρ X fun r ρ1 => bindP (r.get ρ1) fun d => bindP (asI d) fun i => QO (some i) ρ1 := congrArg _ (funext fun r => funext fun ρ1 => int_eq)
@[simp ↓] theorem e_wSl {a : WE} {l h : WO} : wSl a l h ρ X Q = a ρ X fun r ρ1 => l ρ1 X fun lo ρ2 => h ρ2 X fun hi ρ3 => bindP (r.get ρ3) fun d => slP d lo hi fun c => Q c.rs ρ3 := nre rfl
@[simp ↓] theorem e_wCall {M : MC} {n m np : Nat} {ix io : List Nat} {lb : List Bool} {sp : DSp} {a k : WA} : wCall M n m ix np lb io sp a k ρ X Q = a ρ X fun rs ρ1 => k ρ1 X fun qs ρ2 => rs.length = n ∧ qs.length = m ∧ bindP (lend ρ2 lb (rs ++ qs)) fun q => (pick ix q.1).length = np ∧
    callP M sp (pick ix q.1) (fun r ts => bindP (giveb q.2.2 (pick io (pick ix q.2.1)) ts) fun ρ' => Q r ρ') fun e ts => bindP (giveb q.2.2 (pick io (pick ix q.2.1)) ts) fun ρ' => X e ρ' := nre rfl
/-! statements -/
@[simp ↓] theorem e_next : wsNext ρ X E = E.nx ρ := nre rfl
@[simp ↓] theorem e_seq {a b : WS} : wsSeq a b ρ X E = a ρ X ⟨fun ρ1 => b ρ1 X E, E.rt, E.bk, E.ct⟩ := nre rfl
@[simp ↓] theorem e_brk : wsBrk ρ X E = E.bk ρ := nre rfl
@[simp ↓] theorem e_cont : wsCont ρ X E = E.ct ρ := nre rfl
@[simp ↓] theorem e_nev : wsNev ρ X E = False := nre rfl
@[simp ↓] theorem e_ret {a : WE} : wsRet a ρ X E = a ρ X fun r ρ1 => bindP (r.giv ρ1) fun q => E.rt q.1 q.2 := by
  unfold wsRet bindP
  exact congrArg _ (funext fun r => funext fun ρ1 => exP (P := fun p => r.giv ρ1 = some p ∧ E.rt p.1 p.2))
@[simp ↓] theorem e_retN : wsRetN ρ X E = E.rt (.val .non) ρ := nre rfl
@[simp ↓] theorem e_drop {a : WE} : wsDrop a ρ X E = a ρ X fun _ ρ1 => E.nx ρ1 := nre rfl
@[simp ↓] theorem e_ifS {t : WT} {a b : WS} : wsIf t a b ρ X E = t ρ X fun c ρ1 => iteP c (a ρ1 X E) (b ρ1 X E) := nre rfl
@[simp ↓] theorem e_gName {i : Nat} {d : D} : wgName i d ρ QG = QG (ρ.set i (some (.fz d))) := nre rfl
@[simp ↓] theorem e_gNil {ds : List D} : wgNil ds ρ QG = (ds = [] ∧ QG ρ) := nre rfl
@[simp ↓] theorem e_gCons {g : WG} {gs : WGs} {d : D} {r : List D} : wgCons g gs (d :: r) ρ QG = g d ρ fun ρ1 => gs r ρ1 QG := propext ⟨fun ⟨d', r', h, q⟩ => by cases h; exact q, fun h => ⟨d, r, rfl, h⟩⟩
@[simp ↓] theorem e_gTup {n : Nat} {gs : WGs} {ds : List D} : wgTup n gs (.tup ds) ρ QG = (ds.length = n ∧ gs ds ρ QG) := propext ⟨fun ⟨d', h, q⟩ => by cases h; exact q, fun h => ⟨ds, rfl, h⟩⟩
/-- what a name gets: all is let go of a place -/
def putR (i : Nat) (ρ : Rho) (nx : Rho → Prop) (r : Rs) (_ : Tag nx := ⟨⟩) : Prop := match r with
  | .new t => nx (ρ.set i (some t))
  | .val d => nx (ρ.set i (some (.fz d)))
  | .nw d => ∀ p, nx (ρ.set i (some (.top p d)))
  | .pth j π p => bindP (Rs.out ρ (.pth j π p)) fun q => nx (q.2.set i (some (.fz q.1)))
@[simp ↓] theorem putR_new {i : Nat} {nx : Rho → Prop} {t : T} : putR i ρ nx (.new t) = nx (ρ.set i (some t)) := nre rfl
@[simp ↓] theorem putR_val {i : Nat} {nx : Rho → Prop} {d : D} : putR i ρ nx (.val d) = nx (ρ.set i (some (.fz d))) := nre rfl
@[simp ↓] theorem putR_pth {i j : Nat} {π : List Stp} {p : Addr} {nx : Rho → Prop} : putR i ρ nx (.pth j π p) = bindP (Rs.out ρ (.pth j π p)) fun q => nx (q.2.set i (some (.fz q.1))) := nre rfl
theorem putR_nw {i : Nat} {nx : Rho → Prop} {d : D} (h : ∀ p, nx (ρ.set i (some (.top p d)))) : putR i ρ nx (.nw d) := h
@[simp ↓] theorem e_set {i : Nat} {a : WE} : wsSet i a ρ X E = a ρ X fun r ρ1 => putR i ρ1 E.nx r := by
  unfold wsSet
  refine congrArg _ (funext fun r => funext fun ρ1 => ?_)
  cases r with
  | val d => rfl
  | new d => rfl
  | nw d => rfl
  | pth j π q => exact exP (P := fun p => Rs.out ρ1 (.pth j π q) = some p ∧ E.nx (p.2.set i (some (.fz p.1))))
@[simp ↓] theorem e_asg {a : WE} {g : WG} : wsAsg a g ρ X E = a ρ X fun r ρ1 => bindP (r.out ρ1) fun p => g p.1 p.2 E.nx := by
  unfold wsAsg
  exact congrArg _ (funext fun r => funext fun ρ1 => exP (P := fun p => r.out ρ1 = some p ∧ g p.1 p.2 E.nx))
@[simp ↓] theorem e_for {wi : WI} {g : WG} {tb : WS} : wsFor wi g tb ρ X E = wi ρ X fun ds ρ1 => forP g tb ds ρ1 X E := nre rfl
@[simp ↓] theorem e_wh {c : WT} {tb : WS} : wsWh c tb ρ X E = whP c tb ρ X E := nre rfl
theorem e_wh1 {c : WT} {tb : WS} {n : Nat} : whD c tb (n + 1) ρ X E = c ρ X fun b ρ1 => iteP b (tb ρ1 X ⟨fun ρ2 => whD c tb n ρ2 X E, E.rt, E.nx, fun ρ2 => whD c tb n ρ2 X E⟩) (E.nx ρ1) := nre rfl
@[simp ↓] theorem e_for0 {g : WG} {tb : WS} : forP g tb [] ρ X E = E.nx ρ := nre rfl
theorem e_for1 {g : WG} {tb : WS} {d : D} {ds : List D} : forP g tb (d :: ds) ρ X E = g d ρ fun ρ1 => tb ρ1 X ⟨fun ρ2 => forP g tb ds ρ2 X E, E.rt, E.nx, fun ρ2 => forP g tb ds ρ2 X E⟩ := nre rfl
@[simp ↓] theorem e_iSeq {a : WE} {QI : List D → Rho → Prop} : wiSeq a ρ X QI = a ρ X fun r ρ1 => bindP (r.out ρ1) fun p => bindP (itemsD p.1) fun ds => QI ds p.2 := by
  unfold wiSeq bindP
  refine congrArg _ (funext fun r => funext fun ρ1 => propext ?_)
  exact ⟨fun ⟨a, b, c, h1, h2, h3⟩ => ⟨(a, b), h1, c, h2, h3⟩, fun ⟨(a, b), h1, c, h2, h3⟩ => ⟨a, b, c, h1, h2, h3⟩⟩
def as1 : List D → Option Int
  | [.int j] => some j
  | _ => none
def as2 : List D → Option (Int × Int)
  | [.int i, .int j] => some (i, j)
  | _ => none
def as3 : List D → Option (Int × Int × Int)
  | [.int i, .int j, .int c] => some (i, j, c)
  | _ => none
@[simp] theorem as1_i {i : Int} : as1 [.int i] = some i := nre rfl
@[simp] theorem as2_i {i j : Int} : as2 [.int i, .int j] = some (i, j) := nre rfl
@[simp] theorem as3_i {i j c : Int} : as3 [.int i, .int j, .int c] = some (i, j, c) := nre rfl
theorem as1_eq {ds : List D} {i : Int} (h : as1 ds = some i) : ds = [.int i] := by
  unfold as1 at h
  split at h
  · cases h; rfl
  · cases h
theorem as2_eq {ds : List D} {p : Int × Int} (h : as2 ds = some p) : ds = [.int p.1, .int p.2] := by
  unfold as2 at h
  split at h
  · cases h; rfl
  · cases h
theorem as3_eq {ds : List D} {p : Int × Int × Int} (h : as3 ds = some p) : ds = [.int p.1, .int p.2.1, .int p.2.2] := by
  unfold as3 at h
  split at h
  · cases h; rfl
  · cases h
@[simp ↓] theorem e_r1 {a : WA} {QI : List D → Rho → Prop} : wiR1 a ρ X QI = a ρ X fun rs ρ1 => bindP (gets ρ1 rs) fun ds => bindP (as1 ds) fun j => sm62 j ∧ QI (rangeD 0 j.toNat) ρ1 := by
  unfold wiR1 bindP
  refine congrArg _ (funext fun rs => funext fun ρ1 => propext ⟨fun ⟨j, h, q⟩ => ⟨_, h, j, rfl, q⟩, fun ⟨ds, h, j, h2, q⟩ => ⟨j, by rw [h, as1_eq h2], q⟩⟩)
@[simp ↓] theorem e_r2 {a : WA} {QI : List D → Rho → Prop} : wiR2 a ρ X QI = a ρ X fun rs ρ1 => bindP (gets ρ1 rs) fun ds => bindP (as2 ds) fun p => sm62 p.1 ∧ sm62 p.2 ∧ QI (rangeD p.1 (p.2 - p.1).toNat) ρ1 := by
  unfold wiR2 bindP
  refine congrArg _ (funext fun rs => funext fun ρ1 => propext ⟨fun ⟨i, j, h, q⟩ => ⟨_, h, (i, j), rfl, q⟩, fun ⟨ds, h, p, h2, q⟩ => ⟨p.1, p.2, by rw [h, as2_eq h2], q⟩⟩)
@[simp ↓] theorem e_r3 {a : WA} {QI : List D → Rho → Prop} : wiR3 a ρ X QI = a ρ X fun rs ρ1 => bindP (gets ρ1 rs) fun ds => bindP (as3 ds) fun p => ∃ n, RgC p.1 p.2.1 p.2.2 n ∧ QI (rangeC p.1 p.2.2 n) ρ1 := by
  unfold wiR3 bindP
  refine congrArg _ (funext fun rs => funext fun ρ1 => propext ⟨fun ⟨i, j, c, n, h, h3, q⟩ => ⟨_, h, (i, j, c), rfl, n, h3, q⟩, fun ⟨ds, h, p, h2, n, h3, q⟩ => ⟨p.1, p.2.1, p.2.2, n, by rw [h, as3_eq h2], h3, q⟩⟩)
@[simp ↓] theorem e_wLc {wi : WI} {g : WG} {tt : WT} {te : WE} {vs : List Nat} : wLc wi g tt te vs ρ X Q = wi ρ X fun ds ρ1 => lcP g tt te vs ds [] (wipeR ρ1 vs) Q := nre rfl
@[simp ↓] theorem e_lc0 {g : WG} {tt : WT} {te : WE} {vs : List Nat} {acc : List D} : lcP g tt te vs [] acc ρ Q = Q (.nw (.lst acc)) ρ := nre rfl
theorem e_lc1 {g : WG} {tt : WT} {te : WE} {vs : List Nat} {d : D} {ds acc : List D} : lcP g tt te vs (d :: ds) acc ρ Q = g d ρ fun ρ2 => tt ρ2 noX fun b ρ3 => iteP b (te ρ3 noX fun r ρ4 => bindP (r.out ρ4) fun p => acc.length < 16777216 ∧ lcP g tt te vs ds (acc ++ [p.1]) (wipeR p.2 vs) Q)
    (lcP g tt te vs ds acc (wipeR ρ3 vs) Q) := by
  unfold lcP lcD
  simp only [exPb, ite_iteP]
@[simp ↓] theorem e_yes : wYes ρ X QT = QT true ρ := nre rfl
@[simp] theorem e_wipe0 : wipeR ρ [] = ρ := nre rfl
@[simp] theorem e_wipe1 {i : Nat} {is : List Nat} : wipeR ρ (i :: is) = wipeR (ρ.set i none) is := nre rfl
def as2r : List Rs → Option (Rs × Rs)
  | [i, j] => some (i, j)
  | _ => none
def as3r : List Rs → Option (Rs × Rs × Rs)
  | [i, j, c] => some (i, j, c)
  | _ => none
@[simp] theorem as2r_i {i j : Rs} : as2r [i, j] = some (i, j) := nre rfl
@[simp] theorem as3r_i {i j c : Rs} : as3r [i, j, c] = some (i, j, c) := nre rfl
theorem as2r_eq {ds : List Rs} {p : Rs × Rs} (h : as2r ds = some p) : ds = [p.1, p.2] := by
  unfold as2r at h
  split at h
  · cases h; rfl
  · cases h
theorem as3r_eq {ds : List Rs} {p : Rs × Rs × Rs} (h : as3r ds = some p) : ds = [p.1, p.2.1, p.2.2] := by
  unfold as3r at h
  split at h
  · cases h; rfl
  · cases h
/-- what is stored, the rest barred -/
def stoP (r : Rs) (k : T → Prop) (_ : Tag k := ⟨⟩) : Prop := storeP r k
@[simp ↓] theorem stoP_val {d : D} {k : T → Prop} : stoP (.val d) k = k (.fz d) := nre rfl
@[simp ↓] theorem stoP_new {t : T} {k : T → Prop} : stoP (.new t) k = k t := nre rfl
theorem stoP_nw {d : D} {k : T → Prop} (h : ∀ p, k (.top p d)) : stoP (.nw d) k := h
@[simp ↓] theorem e_par {i j : Nat} {a : WA} : wsPar i j a ρ X E = a ρ X fun rs ρ1 => bindP (fixs ρ1 rs) fun p => bindP (as2r p.1) fun q => stoP q.2 fun c2 => stoP q.1 fun c1 => E.nx ((p.2.set j (some c2)).set i (some c1)) := by
  unfold wsPar bindP stoP
  refine congrArg _ (funext fun r => funext fun ρ1 => propext ?_)
  exact ⟨fun ⟨a, b, c, h1, h2⟩ => ⟨([a, b], c), h1, (a, b), rfl, h2⟩, fun ⟨(l, c), h1, q, h2, h3⟩ => ⟨q.1, q.2, c, by rw [h1]; exact congrArg some (congrArg (·, c) (as2r_eq h2)), h3⟩⟩
@[simp ↓] theorem e_par3 {i j l : Nat} {a : WA} : wsPar3 i j l a ρ X E = a ρ X fun rs ρ1 => bindP (fixs ρ1 rs) fun p => bindP (as3r p.1) fun q => stoP q.2.2 fun c3 => stoP q.2.1 fun c2 => stoP q.1 fun c1 => E.nx (((p.2.set l (some c3)).set j (some c2)).set i (some c1)) := by
  unfold wsPar3 bindP stoP
  refine congrArg _ (funext fun r => funext fun ρ1 => propext ?_)
  exact ⟨fun ⟨a, b, d, c, h1, h2⟩ => ⟨([a, b, d], c), h1, (a, b, d), rfl, h2⟩, fun ⟨(l, c), h1, q, h2, h3⟩ => ⟨q.1, q.2.1, q.2.2, c, by rw [h1]; exact congrArg some (congrArg (·, c) (as3r_eq h2)), h3⟩⟩
@[simp ↓] theorem e_aug {i : Nat} {o : D → D → (Os → Prop) → Prop} {a : WE} : wsAug i o a ρ X E = bindP (pk ρ i) fun _ => a ρ X fun r ρ1 => bindP (pk ρ1 i) fun d => bindP (r.get ρ1) fun e => opP o d e fun c => stoP c.rs fun c' => E.nx (ρ1.set i (some c')) := by
  unfold wsAug
  simp only [ex2b]
  unfold bindP stoP
  exact propext ⟨fun ⟨⟨d0, h0⟩, h⟩ => ⟨d0, h0, h⟩, fun ⟨d0, h0, h⟩ => ⟨⟨d0, h0⟩, h⟩⟩
/-- an own list at a place -/
def listAt (ρ : Rho) : Rs → Option (List D)
  | .pth i π p => match nodeR ρ i π p with
    | some (.top q (.lst ds)) => if q = p then some ds else none
    | _ => none
  | _ => none
def putA (ρ : Rho) (r : Rs) (d : D) : Rho := match r with
  | .pth i π p => putN ρ i π (.top p d)
  | _ => ρ
theorem listAt_of {r : Rs} {ds : List D} (h : listAt ρ r = some ds) : ∃ i π p, r = .pth i π p ∧ nodeR ρ i π p = some (.top p (.lst ds)) := by
  cases r with
  | pth i π p =>
    unfold listAt at h
    dsimp only at h
    split at h
    · rename_i q ds' e
      split at h
      · rename_i e2; cases h; subst e2; exact ⟨i, π, _, rfl, e⟩
      · cases h
    · cases h
  | _ => cases h
theorem listAt_eq {i : Nat} {π : List Stp} {p : Addr} {ds : List D} (h : nodeR ρ i π p = some (.top p (.lst ds))) : listAt ρ (.pth i π p) = some ds := by
  unfold listAt
  dsimp only
  rw [h]
  exact if_pos rfl
@[simp ↓] theorem e_app {o a : WE} : wsApp o a ρ X E = o ρ X fun r ρ1 => bindP (listAt ρ1 r) fun _ => a ρ1 X fun q ρ2 => bindP (q.out ρ2) fun z => bindP (listAt z.2 r) fun ds => ds.length < 16777216 ∧ E.nx (putA z.2 r (.lst (ds ++ [z.1]))) := by
  unfold wsApp
  refine congrArg _ (funext fun r => funext fun ρ1 => ?_)
  have e : ∀ i π p, (fun (q : Rs) (ρ2 : Rho) => ∃ d ρ3 ds, q.out ρ2 = some (d, ρ3) ∧ nodeR ρ3 i π p = some (.top p (.lst ds)) ∧ ds.length < 16777216 ∧ E.nx (putN ρ3 i π (.top p (.lst (ds ++ [d]))))) = fun (q : Rs) (ρ2 : Rho) => bindP (q.out ρ2) fun z => bindP (listAt z.2 (.pth i π p)) fun ds => ds.length < 16777216 ∧ E.nx (putA z.2 (.pth i π p) (.lst (ds ++ [z.1]))) := fun i π p => by
    funext q ρ2
    unfold bindP
    refine propext ⟨fun ⟨d, ρ3, ds, h1, h2, h3⟩ => ⟨(d, ρ3), h1, ds, listAt_eq h2, h3⟩, fun ⟨(d, ρ3), h1, ds, h2, h3⟩ => ?_⟩
    obtain ⟨_, _, _, e, h4⟩ := listAt_of h2
    cases e
    exact ⟨d, ρ3, ds, h1, h4, h3⟩
  refine propext ⟨fun ⟨i, π, p, ds0, h1, h2, h3⟩ => ?_, fun ⟨ds0, h1, h2⟩ => ?_⟩
  · subst h1
    rw [e] at h3
    exact ⟨ds0, listAt_eq h2, h3⟩
  · obtain ⟨i, π, p, e1, h4⟩ := listAt_of h1
    subst e1
    rw [← e] at h2
    exact ⟨i, π, p, ds0, rfl, h4, h2⟩
/-- what an own object holds -/
def topAt (ρ : Rho) : Rs → Option D
  | .pth i π p => match nodeR ρ i π p with
    | some (.top q d) => if q = p then some d else none
    | _ => none
  | _ => none
theorem topAt_of {r : Rs} {d : D} (h : topAt ρ r = some d) : ∃ i π p, r = .pth i π p ∧ nodeR ρ i π p = some (.top p d) := by
  cases r with
  | pth i π p =>
    unfold topAt at h
    dsimp only at h
    split at h
    · rename_i q ds' e
      split at h
      · rename_i e2; cases h; subst e2; exact ⟨i, π, _, rfl, e⟩
      · cases h
    · cases h
  | _ => cases h
theorem topAt_eq {i : Nat} {π : List Stp} {p : Addr} {d : D} (h : nodeR ρ i π p = some (.top p d)) : topAt ρ (.pth i π p) = some d := by
  unfold topAt
  dsimp only
  rw [h]
  exact if_pos rfl
@[simp ↓] theorem e_setI {a o j : WE} : wsSetI a o j ρ X E = a ρ X fun r ρ1 => o ρ1 X fun s ρ2 => j ρ2 X fun q ρ3 => bindP (q.get ρ3) fun jd => bindP (r.out ρ3) fun z => bindP (topAt z.2 s) fun c => bindP (stD c jd z.1) fun c' => E.nx (putA z.2 s c') := by
  unfold wsSetI
  refine congrArg _ (funext fun r => funext fun ρ1 => congrArg _ (funext fun s => funext fun ρ2 => congrArg _ (funext fun q => funext fun ρ3 => ?_)))
  unfold bindP
  refine propext ⟨fun ⟨i, π, p, d, jd, ρ4, c, c', h1, h2, h3, h4, h5, h6⟩ => ?_, fun ⟨jd, h2, (d, ρ4), h3, c, h4, c', h5, h6⟩ => ?_⟩
  · subst h1
    exact ⟨jd, h2, (d, ρ4), h3, c, topAt_eq h4, c', h5, h6⟩
  · obtain ⟨i, π, p, e, h7⟩ := topAt_of h4
    subst e
    exact ⟨i, π, p, d, jd, ρ4, c, c', rfl, h2, h3, h7, h5, h6⟩
@[simp] theorem pick0 {α : Type} {l : List α} : pick [] l = [] := nre rfl
@[simp] theorem pick1 {α : Type} {i : Nat} {ix : List Nat} {l : List α} {a : α} (h : l[i]? = some a) : pick (i :: ix) l = a :: pick ix l := List.filterMap_cons_some h
/-! slots -/
@[simp] theorem slotT_some {i : Nat} {t : T} (h : ρ[i]? = some (some t)) : slotT ρ i = some t := slotT_eq h
@[simp] theorem pk_fz {i : Nat} {d : D} (h : ρ[i]? = some (some (.fz d))) : pk ρ i = some d := by unfold pk; rw [slotT_eq h]; rfl
@[simp] theorem pk_top {i : Nat} {p : Addr} {d : D} (h : ρ[i]? = some (some (.top p d))) : pk ρ i = some d := by unfold pk; rw [slotT_eq h]; rfl
@[simp] theorem rsOf_fz {i : Nat} {π : List Stp} {d : D} : rsOf i π (.fz d) = .val d := nre rfl
@[simp] theorem rsOf_top {i : Nat} {π : List Stp} {p : Addr} {d : D} : rsOf i π (.top p d) = .pth i π p := nre rfl
@[simp] theorem rsOf_lst {i : Nat} {π : List Stp} {p : Addr} {ts : List T} : rsOf i π (.lst p ts) = .pth i π p := nre rfl
@[simp] theorem rsOf_dic {i : Nat} {π : List Stp} {p : Addr} {m : Bool} {ks : List DK} {ts : List T} : rsOf i π (.dic p m ks ts) = .pth i π p := nre rfl
@[simp] theorem rsOf_ins {i : Nat} {π : List Stp} {p dx C : Addr} {ns : List Str} {ts : List T} : rsOf i π (.ins p dx C ns ts) = .pth i π p := nre rfl
@[simp] theorem rsOf_tup {i : Nat} {π : List Stp} {p : Addr} {ts : List T} : rsOf i π (.tup p ts) = .pth i π p := nre rfl
@[simp] theorem os_val {d : D} : Os.rs (.val d) = .val d := nre rfl
@[simp] theorem os_new {d : D} : Os.rs (.new d) = .nw d := nre rfl
/-- an own object that a slot holds itself -/
theorem nodeR_slot {i : Nat} {p : Addr} {t : T} (h : ρ[i]? = some (some t)) (hr : t.root = some p) : nodeR ρ i [] p = some t := by
  unfold nodeR
  rw [slotT_eq h]
  show (some t).bind _ = _
  show (if t.root = some p then some t else none) = some t
  rw [if_pos hr]
theorem putN_slot {i : Nat} {u t : T} (h : ρ[i]? = some (some t)) : putN ρ i [] u = ρ.set i (some u) := by
  unfold putN
  rw [slotT_eq h]
  rfl
@[simp] theorem get_val {d : D} : Rs.get ρ (.val d) = some d := nre rfl
@[simp] theorem get_nw {d : D} : Rs.get ρ (.nw d) = some d := nre rfl
@[simp] theorem get_newT {p : Addr} {d : D} : Rs.get ρ (.new (.top p d)) = some d := nre rfl
@[simp] theorem get_top {i : Nat} {p : Addr} {d : D} (h : ρ[i]? = some (some (.top p d))) : Rs.get ρ (.pth i [] p) = some d := by
  show (nodeR ρ i [] p).bind T.dat = some d
  rw [nodeR_slot h rfl]; rfl
@[simp] theorem out_val {d : D} : Rs.out ρ (.val d) = some (d, ρ) := nre rfl
@[simp] theorem out_new {t : T} : Rs.out ρ (.new t) = some (t.val, ρ) := nre rfl
@[simp] theorem out_nw {d : D} : Rs.out ρ (.nw d) = some (d, ρ) := nre rfl
@[simp] theorem out_top {i : Nat} {p : Addr} {d : D} (h : ρ[i]? = some (some (.top p d))) : Rs.out ρ (.pth i [] p) = some (d, ρ.set i (some (.fz d))) := by
  show (nodeR ρ i [] p).map _ = _
  rw [nodeR_slot h rfl]
  show some (d, putN ρ i [] (.fz d)) = _
  rw [putN_slot h]
@[simp] theorem giv_val {d : D} : Rs.giv ρ (.val d) = some (.val d, ρ) := nre rfl
@[simp] theorem giv_new {t : T} : Rs.giv ρ (.new t) = some (.new t, ρ) := nre rfl
@[simp] theorem giv_nw {d : D} : Rs.giv ρ (.nw d) = some (.nw d, ρ) := nre rfl
@[simp] theorem giv_top {i : Nat} {p : Addr} {d : D} (h : ρ[i]? = some (some (.top p d))) : Rs.giv ρ (.pth i [] p) = some (.new (.top p d), ρ.set i (some (.fz (.ref p)))) := by
  show (nodeR ρ i [] p).map _ = _
  rw [nodeR_slot h rfl]
  show some (Rs.new (.top p d), putN ρ i [] (.fz (.ref p))) = _
  rw [putN_slot h]
@[simp] theorem listAt_top {i : Nat} {p : Addr} {ds : List D} (h : ρ[i]? = some (some (.top p (.lst ds)))) : listAt ρ (.pth i [] p) = some ds := listAt_eq (nodeR_slot h rfl)
@[simp] theorem topAt_top {i : Nat} {p : Addr} {d : D} (h : ρ[i]? = some (some (.top p d))) : topAt ρ (.pth i [] p) = some d := topAt_eq (nodeR_slot h rfl)
@[simp] theorem putA_top {i : Nat} {p : Addr} {d : D} {t : T} (h : ρ[i]? = some (some t)) : putA ρ (.pth i [] p) d = ρ.set i (some (.top p d)) := putN_slot h
@[simp] theorem lets0 : lets ρ [] = some ([], ρ) := nre rfl
@[simp] theorem lets1 {r : Rs} {rs : List Rs} : lets ρ (r :: rs) = (lets ρ rs).bind fun p => (r.out p.2).map fun q => (q.1 :: p.1, q.2) := nre rfl
@[simp] theorem lend0 {lb : List Bool} : lend ρ lb [] = some ([], [], ρ) := by cases lb with | nil => rfl | cons b lb => cases b <;> rfl
@[simp] theorem lend1 {r : Rs} {rs : List Rs} : lend ρ [] (r :: rs) = (lend ρ [] rs).bind fun q => (r.out q.2.2).map fun z => (.fz z.1 :: q.1, none :: q.2.1, z.2) := by cases r <;> rfl
@[simp] theorem lendF {lb : List Bool} {r : Rs} {rs : List Rs} : lend ρ (false :: lb) (r :: rs) = (lend ρ lb rs).bind fun q => (r.out q.2.2).map fun z => (.fz z.1 :: q.1, none :: q.2.1, z.2) := by cases r <;> rfl
@[simp] theorem lendT {lb : List Bool} {i : Nat} {π : List Stp} {p : Addr} {rs : List Rs} : lend ρ (true :: lb) (.pth i π p :: rs) = (lend ρ lb rs).bind fun q => (nodeR q.2.2 i π p).map fun s => (s :: q.1, some (i, π, p) :: q.2.1, putN q.2.2 i π (.fz (.ref p))) := nre rfl
@[simp] theorem giveb0 : giveb ρ [] [] = some ρ := nre rfl
@[simp] theorem nodeR_top {i : Nat} {p : Addr} {d : D} (h : ρ[i]? = some (some (.top p d))) : nodeR ρ i [] p = some (.top p d) := nodeR_slot h rfl
@[simp] theorem putN_top {i : Nat} {u t : T} (h : ρ[i]? = some (some t)) : putN ρ i [] u = ρ.set i (some u) := putN_slot h
@[simp] theorem giveb_slot {i : Nat} {p : Addr} {t : T} {bs : List (Option Pl)} {ts : List T} (h : ρ[i]? = some (some (.fz (.ref p)))) : giveb ρ (some (i, [], p) :: bs) (t :: ts) = giveb (ρ.set i (some t)) bs ts := by
  have e : slotT ρ i = some (.fz (.ref p)) := slotT_eq h
  have e2 : giveb ρ (some (i, [], p) :: bs) (t :: ts) = (slotT ρ i).bind fun u => match u.at [] with
    | some (.fz (.ref q)) => if q = p then giveb (ρ.set i (some (u.put [] t))) bs ts else none
    | _ => none := rfl
  rw [e2, e]
  exact if_pos rfl
@[simp] theorem gets0 : gets ρ [] = some [] := nre rfl
@[simp] theorem gets1 {r : Rs} {rs : List Rs} : gets ρ (r :: rs) = (r.get ρ).bind fun d => (gets ρ rs).map fun ds => d :: ds := nre rfl
@[simp] theorem fixs0 : fixs ρ [] = some ([], ρ) := nre rfl
@[simp] theorem fixs1 {r : Rs} {rs : List Rs} : fixs ρ (r :: rs) = (fixs ρ rs).bind fun p => (r.fix p.2).map fun q => (q.1 :: p.1, q.2) := nre rfl
@[simp] theorem fix_val {d : D} : Rs.fix ρ (.val d) = some (.val d, ρ) := nre rfl
@[simp] theorem fix_new {t : T} : Rs.fix ρ (.new t) = some (.new t, ρ) := nre rfl
@[simp] theorem fix_nw {d : D} : Rs.fix ρ (.nw d) = some (.nw d, ρ) := nre rfl
@[simp] theorem fix_pth {i : Nat} {π : List Stp} {p : Addr} : Rs.fix ρ (.pth i π p) = ((Rs.pth i π p).out ρ).map fun q => (.val q.1, q.2) := nre rfl
@[simp] theorem rho0_eq {n : Nat} {ts : List T} : rho0 n ts = ts.map some ++ List.replicate (n - ts.length) none := nre rfl
@[simp ↓] theorem end_nx {io : List Nat} {ts : List T} {Qd : Rs → List T → Prop} : (endD io ts Qd).nx ρ = bindP (backs ts ρ io) fun r => Qd (.val .non) r := nre rfl
@[simp ↓] theorem end_rtv {io : List Nat} {ts : List T} {Qd : Rs → List T → Prop} {d : D} : (endD io ts Qd).rt (.val d) ρ = bindP (backs ts ρ io) fun r => Qd (.val d) r := nre rfl
@[simp ↓] theorem end_rtn {io : List Nat} {ts : List T} {Qd : Rs → List T → Prop} {t : T} : (endD io ts Qd).rt (.new t) ρ = bindP (backs ts ρ io) fun r => Qd (.new t) r ∨ Qd (.val t.val) r := nre rfl
@[simp ↓] theorem end_rtw {io : List Nat} {ts : List T} {Qd : Rs → List T → Prop} {d : D} : (endD io ts Qd).rt (.nw d) ρ = bindP (backs ts ρ io) fun r => (∀ p, Qd (.new (.top p d)) r) ∨ Qd (.val d) r := nre rfl
@[simp ↓] theorem exc_eq {io : List Nat} {ts : List T} {Ed : Ex → List T → Prop} {e : Ex} : excD io ts Ed e ρ = bindP (backs ts ρ io) fun r => Ed e r := nre rfl
@[simp] theorem backs0 {ts : List T} : backs ts ρ [] = some [] := nre rfl
theorem backs1 {ts : List T} {i : Nat} {io : List Nat} {t t0 : T} {p : Addr} (h : ρ[i]? = some (some t)) (h0 : ts[i]? = some t0) (hr : t.root = some p) (hr0 : t0.root = some p) : backs ts ρ (i :: io) = (backs ts ρ io).map fun r => t :: r := by
  have e : slotT ρ i = some t := slotT_eq h
  have e2 : backs ts ρ (i :: io) = (slotT ρ i).bind fun t => if t.root ≠ none ∧ (ts[i]?).bind T.root = t.root then (backs ts ρ io).map (fun r => t :: r) else none := rfl
  rw [e2, e]
  exact if_pos ⟨by rw [hr]; nofun, by rw [h0, hr]; exact hr0⟩
end
/-! operations -/
@[simp ↓] theorem o_add {i j : Int} {k : Os → Prop} : opP oAdd (.int i) (.int j) k = k (.val (.int (i + j))) := nre rfl
@[simp ↓] theorem o_addS {i j : Str} {k : Os → Prop} : opP oAdd (.str i) (.str j) k = (i.length + j.length ≤ 16777216 ∧ k (.val (.str (i ++ j)))) := nre rfl
@[simp ↓] theorem o_addL {i j : List D} {k : Os → Prop} : opP oAdd (.lst i) (.lst j) k = (i.length + j.length ≤ 16777216 ∧ k (.new (.lst (i ++ j)))) := nre rfl
@[simp ↓] theorem o_addT {i j : List D} {k : Os → Prop} : opP oAdd (.tup i) (.tup j) k = (i.length + j.length ≤ 16777216 ∧ k (.val (.tup (i ++ j)))) := nre rfl
@[simp ↓] theorem o_int2 {c : Int → Int → Prop} {f : Int → Int → Int} {i j : Int} {k : Os → Prop} : opP (oInt2 c f) (.int i) (.int j) k = (c i j ∧ k (.val (.int (f i j)))) := nre rfl
@[simp ↓] theorem o_true {i j : Int} : cTrue i j = True := nre rfl
@[simp ↓] theorem o_mul {i j : Int} {k : Os → Prop} : opP oMul (.int i) (.int j) k = (cMul i j ∧ k (.val (.int (i * j)))) := nre rfl
@[simp ↓] theorem o_cmp {f : Int → Int → Bool} {g : Str → Str → Bool} {i j : Int} {k : Os → Prop} : opP (oCmp f g) (.int i) (.int j) k = k (.val (.bl (f i j))) := nre rfl
@[simp ↓] theorem o_cmpS {f : Int → Int → Bool} {g : Str → Str → Bool} {i j : Str} {k : Os → Prop} : opP (oCmp f g) (.str i) (.str j) k = k (.val (.bl (g i j))) := nre rfl
@[simp ↓] theorem o_neg {i : Int} {k : Os → Prop} : unP oNeg (.int i) k = k (.val (.int (-i))) := nre rfl
@[simp ↓] theorem o_eqI {f : Bool → Bool} {i j : Int} {k : Os → Prop} : opP (oEqB f) (.int i) (.int j) k = k (.val (.bl (f (decide (i = j))))) := nre rfl
@[simp ↓] theorem o_eqS {f : Bool → Bool} {i j : Str} {k : Os → Prop} : opP (oEqB f) (.str i) (.str j) k = k (.val (.bl (f (decide (i = j))))) := nre rfl
@[simp ↓] theorem o_eqB {f : Bool → Bool} {i j : Bool} {k : Os → Prop} : opP (oEqB f) (.bl i) (.bl j) k = k (.val (.bl (f (decide (i = j))))) := nre rfl
@[simp ↓] theorem o_isN {f : Bool → Bool} {d : D} {k : Os → Prop} : unP (oIsN f) d k = k (.val (.bl (f d.isN))) := nre rfl
@[simp ↓] theorem o_ixL {ds : List D} {i : Int} {k : Os → Prop} : opP oIx (.lst ds) (.int i) k = bindP (atI ds i) fun c => k (.val c) := nre rfl
@[simp ↓] theorem o_ixF {ds : List D} {i : Int} {k : Os → Prop} : opP oIx (.fls ds) (.int i) k = bindP (atI ds i) fun c => k (.val c) := nre rfl
@[simp ↓] theorem o_ixT {ds : List D} {i : Int} {k : Os → Prop} : opP oIx (.tup ds) (.int i) k = bindP (atI ds i) fun c => k (.val c) := nre rfl
@[simp ↓] theorem o_slL {ds : List D} {lo hi : Option Int} {k : Os → Prop} : slP (.lst ds) lo hi k = k (.new (.lst (cutD ds lo hi))) := nre rfl
@[simp ↓] theorem o_slF {ds : List D} {lo hi : Option Int} {k : Os → Prop} : slP (.fls ds) lo hi k = k (.new (.lst (cutD ds lo hi))) := nre rfl
@[simp ↓] theorem o_slT {ds : List D} {lo hi : Option Int} {k : Os → Prop} : slP (.tup ds) lo hi k = k (.val (.tup (cutD ds lo hi))) := nre rfl
@[simp ↓] theorem o_lenL {ds : List D} {k : Os → Prop} : caP oLen [.lst ds] k = k (.val (.int ds.length)) := nre rfl
@[simp ↓] theorem o_lenF {ds : List D} {k : Os → Prop} : caP oLen [.fls ds] k = k (.val (.int ds.length)) := nre rfl
@[simp ↓] theorem o_lenT {ds : List D} {k : Os → Prop} : caP oLen [.tup ds] k = k (.val (.int ds.length)) := nre rfl
@[simp ↓] theorem o_lenS {x : Str} {k : Os → Prop} : caP oLen [.str x] k = (x.length ≤ 16777216 ∧ k (.val (.int x.length))) := nre rfl
@[simp ↓] theorem o_min {i j : Int} {k : Os → Prop} : caP oMin [.int i, .int j] k = k (.val (.int (if j < i then j else i))) := nre rfl
@[simp ↓] theorem o_max {i j : Int} {k : Os → Prop} : caP oMax [.int i, .int j] k = k (.val (.int (if j > i then j else i))) := nre rfl
@[simp ↓] theorem o_listL {ds : List D} {k : Os → Prop} : caP oList [.lst ds] k = k (.new (.lst ds)) := nre rfl
@[simp ↓] theorem o_listT {ds : List D} {k : Os → Prop} : caP oList [.tup ds] k = k (.new (.lst ds)) := nre rfl
@[simp ↓] theorem o_tupleL {ds : List D} {k : Os → Prop} : caP oTuple [.lst ds] k = k (.val (.tup ds)) := nre rfl
@[simp ↓] theorem o_tupleT {ds : List D} {k : Os → Prop} : caP oTuple [.tup ds] k = k (.val (.tup ds)) := nre rfl
@[simp ↓] theorem o_sum {ds : List D} {k : Os → Prop} : caP oSum [.lst ds] k = bindP (asInts ds) fun is => k (.val (.int is.sum)) := nre rfl
@[simp ↓] theorem o_any {ds : List D} {k : Os → Prop} : caP oAny [.lst ds] k = bindP (asBls ds) fun is => k (.val (.bl (is.any id))) := nre rfl
@[simp ↓] theorem o_all {ds : List D} {k : Os → Prop} : caP oAll [.lst ds] k = bindP (asBls ds) fun is => k (.val (.bl (is.all id))) := nre rfl
@[simp] theorem i_lst {ds : List D} : itemsD (.lst ds) = some ds := nre rfl
@[simp] theorem i_fls {ds : List D} : itemsD (.fls ds) = some ds := nre rfl
@[simp] theorem i_tup {ds : List D} : itemsD (.tup ds) = some ds := nre rfl
@[simp] theorem t_non : D.tn .non = some .non := nre rfl
@[simp] theorem t_bl {b : Bool} : D.tn (.bl b) = some .bl := nre rfl
@[simp] theorem t_int {b : Int} : D.tn (.int b) = some .int := nre rfl
@[simp] theorem t_str {b : Str} : D.tn (.str b) = some .str := nre rfl
@[simp] theorem t_tup {b : List D} : D.tn (.tup b) = some .tup := nre rfl
@[simp] theorem t_lst {b : List D} : D.tn (.lst b) = some .lst := nre rfl
@[simp] theorem t_fls {b : List D} : D.tn (.fls b) = some .lst := nre rfl
@[simp] theorem t_dic {k : List DK} {b : List D} : D.tn (.dic false k b) = some .dic := nre rfl
@[simp] theorem f_non : D.flat .non = true := nre rfl
@[simp] theorem f_bl {b : Bool} : D.flat (.bl b) = true := nre rfl
@[simp] theorem f_int {b : Int} : D.flat (.int b) = true := nre rfl
@[simp] theorem f_str {b : Str} : D.flat (.str b) = true := nre rfl
@[simp] theorem f_tup {b : List D} : D.flat (.tup b) = false := nre rfl
@[simp] theorem f_lst {b : List D} : D.flat (.lst b) = false := nre rfl
@[simp] theorem n_non : D.isN .non = true := nre rfl
@[simp] theorem n_bl {b : Bool} : D.isN (.bl b) = false := nre rfl
@[simp] theorem n_int {b : Int} : D.isN (.int b) = false := nre rfl
@[simp] theorem n_str {b : Str} : D.isN (.str b) = false := nre rfl
@[simp] theorem n_tup {b : List D} : D.isN (.tup b) = false := nre rfl
@[simp] theorem n_lst {b : List D} : D.isN (.lst b) = false := nre rfl
end El

set_option Elab.async false
set_option linter.all false
set_option maxRecDepth 100000
set_option maxHeartbeats 4000000
/-! EM: loops and comprehensions by what holds behind each turn. -/
namespace El
open PySem L2

inductive F2 {α β : Type} (R : α → β → Prop) : List α → List β → Prop
  | nil : F2 R [] []
  | cons {x : α} {y : β} {xs : List α} {ys : List β} : R x y → F2 R xs ys → F2 R (x :: xs) (y :: ys)
theorem F2.length {α β : Type} {R : α → β → Prop} {xs : List α} {ys : List β} (h : F2 R xs ys) : xs.length = ys.length := by
  induction h with
  | nil => rfl
  | cons _ _ ih => rw [List.length_cons, List.length_cons, ih]
theorem F2.map {α β : Type} {f : α → β} : ∀ {xs : List α} {ys : List β}, F2 (fun x y => y = f x) xs ys → ys = xs.map f
  | _, _, .nil => rfl
  | _, _, .cons h t => by rw [h, F2.map t]; rfl
section
variable {α : Type} {g : WG} {tb : WS} {tt : WT} {te : WE} {vs : List Nat} {X : XD} {E : ED} {Q : Rs → Rho → Prop} {toD : α → D}
theorem for_inv {xs : List α} {ρ : Rho} {t} (I : List α → Rho → Prop) (h0 : I [] ρ)
    (step : ∀ done x rest ρ (k : Rho → Prop), xs = done ++ x :: rest → I done ρ → (∀ ρ', I (done ++ [x]) ρ' → k ρ') → g (toD x) ρ fun ρ1 => tb ρ1 X ⟨k, E.rt, E.nx, k⟩) (hend : ∀ ρ, I xs ρ → E.nx ρ) : forP g tb (xs.map toD) ρ X E t := by
  have go : ∀ (rest done : List α) (ρ : Rho), xs = done ++ rest → I done ρ → forP g tb (rest.map toD) ρ X E := by
    intro rest
    induction rest with
    | nil =>
      intro done ρ e h
      rw [List.append_nil] at e
      subst e
      exact hend ρ h
    | cons x rest ih =>
      intro done ρ e h
      rw [List.map_cons, e_for1]
      exact step done x rest ρ _ e h fun ρ' h' => ih (done ++ [x]) ρ' (by rw [e, List.append_assoc]; rfl) h'
  exact go xs [] ρ rfl h0
/-- turn by turn, nothing being carried on -/
theorem for_each {xs : List α} {ρ : Rho} {t} (I : Rho → Prop) (h0 : I ρ) (step : ∀ x ∈ xs, ∀ ρ (k : Rho → Prop), I ρ → (∀ ρ', I ρ' → k ρ') → g (toD x) ρ fun ρ1 => tb ρ1 X ⟨k, E.rt, E.nx, k⟩) (hend : ∀ ρ, I ρ → E.nx ρ) : forP g tb (xs.map toD) ρ X E t :=
  for_inv (fun _ => I) h0 (fun done x rest ρ k e h h' => step x (by rw [e]; simp) ρ k h h') hend
theorem lc_rel {xs : List α} {acc : List D} {ρ : Rho} {t} (R : α → D → Prop) (hz : acc.length + xs.length ≤ 16777216)
    (step : ∀ x ∈ xs, ∀ (k : D → Rho → Prop) (e : Rho → Prop), (∀ y, R x y → k y ρ) → g (toD x) ρ fun ρ2 => tt ρ2 noX fun b ρ3 => iteP b (te ρ3 noX fun r ρ4 => bindP (r.out ρ4) fun p => k p.1 (wipeR p.2 vs)) (e (wipeR ρ3 vs)))
    (h : ∀ ys, F2 R xs ys → Q (.nw (.lst (acc ++ ys))) ρ) : lcP g tt te vs (xs.map toD) acc ρ Q t := by
  have go : ∀ (xs' : List α) (acc : List D), (∀ x ∈ xs', x ∈ xs) → acc.length + xs'.length ≤ 16777216 → (∀ ys, F2 R xs' ys → Q (.nw (.lst (acc ++ ys))) ρ) → lcP g tt te vs (xs'.map toD) acc ρ Q := by
    intro xs'
    induction xs' with
    | nil =>
      intro acc hm hz h
      have := h [] .nil
      rwa [List.append_nil] at this
    | cons x rest ih =>
      intro acc hm hz h
      rw [List.map_cons, e_lc1]
      rw [List.length_cons] at hz
      refine step x (hm x List.mem_cons_self) (fun y ρ' => acc.length < 16777216 ∧ lcP g tt te vs (rest.map toD) (acc ++ [y]) ρ' Q) (fun ρ' => lcP g tt te vs (rest.map toD) acc ρ' Q) fun y hy => ⟨by omega, ih (acc ++ [y]) (fun z hz => hm z (List.mem_cons_of_mem _ hz)) (by rw [List.length_append]; simp; omega) fun ys hys => ?_⟩
      have := h (y :: ys) (.cons hy hys)
      rwa [List.append_assoc]
  exact go xs acc (fun _ h => h) hz h
theorem lc_map {xs : List α} {ρ : Rho} {t} (f : α → D) (hz : xs.length ≤ 16777216)
    (step : ∀ x ∈ xs, ∀ (k : D → Rho → Prop) (e : Rho → Prop), k (f x) ρ → g (toD x) ρ fun ρ2 => tt ρ2 noX fun b ρ3 => iteP b (te ρ3 noX fun r ρ4 => bindP (r.out ρ4) fun p => k p.1 (wipeR p.2 vs)) (e (wipeR ρ3 vs)))
    (h : Q (.nw (.lst (xs.map f))) ρ) : lcP g tt te vs (xs.map toD) [] ρ Q t :=
  lc_rel (fun x y => y = f x) (by simpa using hz) (fun x hx k e hk => step x hx k e (hk _ rfl)) fun ys hy => by rw [hy.map]; exact h
theorem lc_filter {xs : List α} {acc : List D} {ρ : Rho} {t} (p : α → Bool) (f : α → D) (hz : acc.length + xs.length ≤ 16777216)
    (step : ∀ x ∈ xs, ∀ (k : D → Rho → Prop) (e : Rho → Prop), (p x = true → k (f x) ρ) → (p x = false → e ρ) → g (toD x) ρ fun ρ2 => tt ρ2 noX fun b ρ3 => iteP b (te ρ3 noX fun r ρ4 => bindP (r.out ρ4) fun p => k p.1 (wipeR p.2 vs)) (e (wipeR ρ3 vs)))
    (h : Q (.nw (.lst (acc ++ (xs.filter p).map f))) ρ) : lcP g tt te vs (xs.map toD) acc ρ Q t := by
  have go : ∀ (xs' : List α) (acc : List D), (∀ x ∈ xs', x ∈ xs) → acc.length + xs'.length ≤ 16777216 → Q (.nw (.lst (acc ++ (xs'.filter p).map f))) ρ → lcP g tt te vs (xs'.map toD) acc ρ Q := by
    intro xs'
    induction xs' with
    | nil =>
      intro acc hm hz h
      rw [List.filter_nil, List.map_nil, List.append_nil] at h
      exact h
    | cons x rest ih =>
      intro acc hm hz h
      rw [List.map_cons, e_lc1]
      rw [List.length_cons] at hz
      refine step x (hm x List.mem_cons_self) (fun y ρ' => acc.length < 16777216 ∧ lcP g tt te vs (rest.map toD) (acc ++ [y]) ρ' Q) (fun ρ' => lcP g tt te vs (rest.map toD) acc ρ' Q) (fun hp => ⟨by omega, ih (acc ++ [f x]) (fun z hz => hm z (List.mem_cons_of_mem _ hz)) (by rw [List.length_append]; simp; omega) ?_⟩) fun hp => ih acc (fun z hz => hm z (List.mem_cons_of_mem _ hz)) (by omega) ?_
      · rw [List.filter_cons, if_pos hp, List.map_cons] at h
        rw [List.append_assoc]; exact h
      · rw [List.filter_cons, if_neg (by rw [hp]; exact Bool.false_ne_true)] at h
        exact h
  exact go xs acc (fun _ h => h) hz h
end
theorem asBls_of {α : Type} (f : α → Bool) (xs : List α) : asBls (xs.map fun x => D.bl (f x)) = some (xs.map f) := by
  rw [← asBls_map (xs.map f), List.map_map]; rfl
theorem asInts_of {α : Type} (f : α → Int) (xs : List α) : asInts (xs.map fun x => D.int (f x)) = some (xs.map f) := by
  rw [← asInts_map (xs.map f), List.map_map]; rfl
end El

set_option Elab.async false
set_option linter.all false
set_option maxRecDepth 100000
set_option maxHeartbeats 4000000
/-! EN: what may be compared, what may be shown; == of data. -/
namespace El
open PySem L2

/-! ### == -/
/-- of no dict, at most n deep -/
def Sh (n : Nat) (d : D) : Prop := d.py.canLay0 = true ∧ d.py.depth ≤ n
def Shs (n : Nat) (ds : List D) : Prop := PyData.canLayAll0 (D.pys ds) = true ∧ PyData.depthAll (D.pys ds) ≤ n
theorem Sh.shaped {d : D} (h : Sh 64 d) : SeqAt.shaped d.py = true := by
  unfold SeqAt.shaped
  rw [h.1, decide_eq_true h.2]; rfl
theorem Sh.mono {n m : Nat} {d : D} (h : Sh n d) (hm : n ≤ m) : Sh m d := ⟨h.1, Nat.le_trans h.2 hm⟩
theorem Shs.of {n : Nat} : ∀ {ds : List D}, (∀ d ∈ ds, Sh n d) → Shs n ds
  | [], _ => ⟨rfl, Nat.zero_le _⟩
  | d :: ds, h => by
    have h1 := h d List.mem_cons_self
    have h2 := Shs.of fun e he => h e (List.mem_cons_of_mem _ he)
    refine ⟨?_, ?_⟩
    · simp only [D.pys, PyData.canLayAll0, h1.1, h2.1, Bool.and_self]
    · simp only [D.pys, PyData.depthAll]
      exact Nat.max_le.mpr ⟨h1.2, h2.2⟩
theorem Sh.non {n : Nat} : Sh n .non := ⟨rfl, Nat.zero_le _⟩
theorem Sh.bl {n : Nat} {b : Bool} : Sh n (.bl b) := ⟨rfl, Nat.zero_le _⟩
theorem Sh.int {n : Nat} {i : Int} : Sh n (.int i) := ⟨rfl, Nat.zero_le _⟩
theorem Sh.str {n : Nat} {x : Str} (h : PyData.strOk x = true) : Sh n (.str x) := ⟨by simp only [D.py, PyData.canLay0, h], Nat.zero_le _⟩
theorem Sh.lst {n : Nat} {ds : List D} (h : ∀ d ∈ ds, Sh n d) : Sh (n + 1) (.lst ds) := by
  obtain ⟨h1, h2⟩ := Shs.of h
  exact ⟨by simp only [D.py, PyData.canLay0, h1], by simp only [D.py, PyData.depth]; omega⟩
theorem Sh.tup {n : Nat} {ds : List D} (h : ∀ d ∈ ds, Sh n d) : Sh (n + 1) (.tup ds) := by
  obtain ⟨h1, h2⟩ := Shs.of h
  exact ⟨by simp only [D.py, PyData.canLay0, h1], by simp only [D.py, PyData.depth]; omega⟩
theorem Sh.refl {n : Nat} {d : D} (h : Sh n d) : PyData.eqv d.py d.py = true := SeqAt.eqv_refl _ h.1
/-- x == y of data that may be compared -/
theorem o_eqSh {f : Bool → Bool} {d e : D} {k : Os → Prop} (h1 : Sh 64 d) (h2 : Sh 64 e) (h : k (.val (.bl (f (PyData.eqv d.py e.py))))) : oEqB f d e k := by
  have hs1 := h1.shaped
  have hs2 := h2.shaped
  cases d with
  | int i => cases e with
    | int j => simpa [oEqB, D.py, PyData.eqv, Bool.beq_eq_decide_eq] using h
    | non => simpa [oEqB, D.py, PyData.eqv] using h
    | str y => simpa [oEqB, D.py, PyData.eqv] using h
    | _ => exact ⟨hs1, hs2, h⟩
  | str i => cases e with
    | int j => simpa [oEqB, D.py, PyData.eqv] using h
    | non => simpa [oEqB, D.py, PyData.eqv] using h
    | str y => simpa [oEqB, D.py, PyData.eqv, Bool.beq_eq_decide_eq] using h
    | bl y => simpa [oEqB, D.py, PyData.eqv] using h
    | _ => exact ⟨hs1, hs2, h⟩
  | bl i => cases e with
    | non => simpa [oEqB, D.py, PyData.eqv] using h
    | str y => simpa [oEqB, D.py, PyData.eqv] using h
    | bl y => simpa [oEqB, D.py, PyData.eqv, Bool.beq_eq_decide_eq] using h
    | _ => exact ⟨hs1, hs2, h⟩
  | non => cases e with
    | int j => simpa [oEqB, D.py, PyData.eqv] using h
    | non => simpa [oEqB, D.py, PyData.eqv] using h
    | str y => simpa [oEqB, D.py, PyData.eqv] using h
    | bl y => simpa [oEqB, D.py, PyData.eqv] using h
    | _ => exact ⟨hs1, hs2, h⟩
  | _ => cases e <;> exact ⟨hs1, hs2, h⟩
@[simp ↓] theorem o_eqN {f : Bool → Bool} {k : Os → Prop} : opP (oEqB f) (.lst []) (.lst []) k = k (.val (.bl (f true))) := by
  refine propext ⟨fun ⟨_, _, h⟩ => ?_, fun h => ⟨rfl, rfl, ?_⟩⟩
  · simpa [D.py, D.pys, PyData.eqv, PyData.eqvAll] using h
  · simpa [D.py, D.pys, PyData.eqv, PyData.eqvAll] using h
theorem o_eqC {f : Bool → Bool} {d : D} {ds : List D} {k : Os → Prop} (hs : Sh 64 (.lst (d :: ds))) (h : k (.val (.bl (f false)))) : oEqB f (.lst (d :: ds)) (.lst []) k :=
  o_eqSh hs ⟨rfl, by decide⟩ (by simpa [D.py, D.pys, PyData.eqv, PyData.eqvAll] using h)

theorem o_neL {f : Bool → Bool} {ds : List D} {k : Os → Prop} (hs : Sh 64 (.lst ds)) (h : ds ≠ []) : opP (oEqB f) (.lst ds) (.lst []) k = k (.val (.bl (f false))) := by
  have e : PyData.eqv (D.lst ds).py (D.lst []).py = false := by
    cases ds with
    | nil => exact absurd rfl h
    | cons d ds => simp [D.py, D.pys, PyData.eqv, PyData.eqvAll]
  refine propext ⟨fun ⟨_, _, q⟩ => ?_, fun q => ⟨hs.shaped, rfl, ?_⟩⟩
  · rwa [e] at q
  · rwa [e]
theorem o_neF {f : Bool → Bool} {ds : List D} {k : Os → Prop} (hs : Sh 64 (.fls ds)) : opP (oEqB f) (.fls ds) (.lst []) k = k (.val (.bl (f ds.isEmpty))) := by
  have e : PyData.eqv (D.fls ds).py (D.lst []).py = ds.isEmpty := by
    cases ds with
    | nil => simp [D.py, D.pys, PyData.eqv, PyData.eqvAll]
    | cons d ds => simp [D.py, D.pys, PyData.eqv, PyData.eqvAll]
  refine propext ⟨fun ⟨_, _, q⟩ => ?_, fun q => ⟨hs.shaped, rfl, ?_⟩⟩
  · rwa [e] at q
  · rwa [e]
theorem Sh.fls {n : Nat} {ds : List D} (h : ∀ d ∈ ds, Sh n d) : Sh (n + 1) (.fls ds) := by
  obtain ⟨h1, h2⟩ := Shs.of h
  exact ⟨by simp only [D.py, PyData.canLay0, h1], by simp only [D.py, PyData.depth]; omega⟩
theorem cutD_map {α : Type} (f : α → D) (xs : List α) (lo hi : Option Int) : cutD (xs.map f) lo hi = ((xs.drop (HT.sIx xs.length 0 lo)).take (HT.sIx xs.length xs.length hi - HT.sIx xs.length 0 lo)).map f := by
  unfold cutD
  rw [List.length_map, ← List.map_drop, ← List.map_take]
@[simp] theorem at_last {α : Type} (xs : List α) (v : α) : atI (xs ++ [v]) (-1) = some v := atI_last xs v
@[simp] theorem at_0 {α : Type} {a : α} {l : List α} : atI (a :: l) 0 = some a := by
  unfold atI ixN
  rw [if_pos (by decide), if_pos (by simp only [List.length_cons]; omega)]; rfl
@[simp] theorem at_1 {α : Type} {a b : α} {l : List α} : atI (a :: b :: l) 1 = some b := by
  unfold atI ixN
  rw [if_pos (by decide), if_pos (by simp only [List.length_cons]; omega)]; rfl
@[simp] theorem at_2 {α : Type} {a b c : α} {l : List α} : atI (a :: b :: c :: l) 2 = some c := by
  unfold atI ixN
  rw [if_pos (by decide), if_pos (by simp only [List.length_cons]; omega)]; rfl
@[simp] theorem at_3 {α : Type} {a b c d : α} {l : List α} : atI (a :: b :: c :: d :: l) 3 = some d := by
  unfold atI ixN
  rw [if_pos (by decide), if_pos (by simp only [List.length_cons]; omega)]; rfl

/-! ### repr -/
structure Rp (B n W : Nat) (d : D) : Prop where
  lay : d.py.canLay0 = true
  sh : d.py.showable = true
  dp : d.py.depth ≤ n
  lf : d.py.leavesShort B = true
  wt : d.py.weight ≤ W
theorem Rp.mono {B n W n' W' : Nat} {d : D} (h : Rp B n W d) (h1 : n ≤ n') (h2 : W ≤ W') : Rp B n' W' d := ⟨h.lay, h.sh, Nat.le_trans h.dp h1, h.lf, Nat.le_trans h.wt h2⟩
theorem Rp.non {B n W : Nat} : Rp B n W .non := ⟨rfl, rfl, Nat.zero_le _, rfl, Nat.zero_le _⟩
theorem Rp.bl {B n W : Nat} {b : Bool} : Rp B n W (.bl b) := ⟨rfl, rfl, Nat.zero_le _, rfl, Nat.zero_le _⟩
theorem Rp.int {B n W : Nat} {i : Int} {k : Nat} (hk : 0 < k) (h : i.natAbs.log2 < k) (h2 : k ≤ 1920) (hB : k + 1 ≤ B) (hW : k ≤ W) : Rp B n W (.int i) := by
  refine ⟨rfl, ?_, Nat.zero_le _, ?_, ?_⟩
  · simp only [D.py, PyData.showable, decide_eq_true_eq]; omega
  · simp only [D.py, PyData.leavesShort, decide_eq_true_eq]
    show (Str.ofString (toString i)).length ≤ B
    rw [ofString_length]
    exact Nat.le_trans (int_text_length_le hk h) hB
  · simp only [D.py, PyData.weight]
    split <;> omega
theorem Rp.str {B n W : Nat} {x : Str} (h : PyData.strOk x = true) (hW : x.length ≤ W) : Rp B n W (.str x) := by
  refine ⟨by simp only [D.py, PyData.canLay0, h], rfl, Nat.zero_le _, ?_, hW⟩
  have h0 : x.cps.all (· < 0x110000) = true := h
  simp only [D.py, PyData.leavesShort, List.all_eq_true, decide_eq_true_eq]
  intro c hc
  have h1 := (Array.all_eq_true_iff_forall_mem.mp h0) c (Array.mem_toList_iff.mp hc)
  have h2 : c < 0x110000 := by simpa using h1
  have e : (16 : Nat) ^ 8 = 4294967296 := by decide
  omega
theorem Rp.all {B n W : Nat} : ∀ {ds : List D}, (∀ d ∈ ds, Rp B n W d) → PyData.canLayAll0 (D.pys ds) = true ∧ PyData.showableAll (D.pys ds) = true ∧ PyData.depthAll (D.pys ds) ≤ n ∧ PyData.leavesShortAll B (D.pys ds) = true ∧ PyData.weightAll (D.pys ds) ≤ ds.length * (W + 1)
  | [], _ => ⟨rfl, rfl, Nat.zero_le _, rfl, Nat.zero_le _⟩
  | d :: ds, h => by
    have h1 := h d List.mem_cons_self
    obtain ⟨a1, a2, a3, a4, a5⟩ := Rp.all fun e he => h e (List.mem_cons_of_mem _ he)
    refine ⟨?_, ?_, ?_, ?_, ?_⟩
    · simp only [D.pys, PyData.canLayAll0, h1.lay, a1, Bool.and_self]
    · simp only [D.pys, PyData.showableAll, h1.sh, a2, Bool.and_self]
    · simp only [D.pys, PyData.depthAll]; exact Nat.max_le.mpr ⟨h1.dp, a3⟩
    · simp only [D.pys, PyData.leavesShortAll, h1.lf, a4, Bool.and_self]
    · simp only [D.pys, PyData.weightAll, List.length_cons]
      have := h1.wt
      rw [Nat.succ_mul]
      omega
theorem Rp.lst {B n W m V : Nat} {ds : List D} (h : ∀ d ∈ ds, Rp B n W d) (hm : ds.length ≤ m) (hV : m * (W + 1) ≤ V) : Rp B (n + 1) V (.lst ds) := by
  obtain ⟨a1, a2, a3, a4, a5⟩ := Rp.all h
  have := Nat.mul_le_mul_right (W + 1) hm
  exact ⟨by simp only [D.py, PyData.canLay0, a1], by simp only [D.py, PyData.showable, a2], by simp only [D.py, PyData.depth]; omega, by simp only [D.py, PyData.leavesShort, a4], by simp only [D.py, PyData.weight]; omega⟩
theorem Rp.tup {B n W m V : Nat} {ds : List D} (h : ∀ d ∈ ds, Rp B n W d) (hm : ds.length ≤ m) (hV : m * (W + 1) ≤ V) : Rp B (n + 1) V (.tup ds) := by
  obtain ⟨a1, a2, a3, a4, a5⟩ := Rp.all h
  have := Nat.mul_le_mul_right (W + 1) hm
  exact ⟨by simp only [D.py, PyData.canLay0, a1], by simp only [D.py, PyData.showable, a2], by simp only [D.py, PyData.depth]; omega, by simp only [D.py, PyData.leavesShort, a4], by simp only [D.py, PyData.weight]; omega⟩
def D.isSeq : D → Bool
  | .lst _ => true
  | .fls _ => true
  | .tup _ => true
  | _ => false
def shw (d : D) : D := .str d.py.shown
theorem o_repr {B W : Nat} {d : D} {k : Os → Prop} (hd : d.isSeq = true) (h : Rp B 64 W d) (hB : 8 ≤ B) (hW : (B + 2) * W + B ≤ 16777216) (hk : k (.val (shw d))) : oRepr 64 [d] k := by
  refine ⟨d, rfl, ?_, h.lay, h.sh, h.dp, ?_, hk⟩
  · cases d <;> first | trivial | exact absurd hd Bool.false_ne_true
  · have h1 := PyData.shown_le B hB d.py h.lf
    have h2 := Nat.mul_le_mul_left (B + 2) h.wt
    omega
end El

set_option Elab.async false
set_option linter.all false
set_option maxRecDepth 100000
set_option maxHeartbeats 4000000
/-! EQ: methods of built-in things, over data. -/
namespace El
open PySem PySem.Spec L2 PyProof.Rows

def TN.nm : TN → String
  | .lst => "list" | .str => "str" | .dic => "dict" | .int => "int" | _ => ""
def TN.has : TN → Bool
  | .lst => true | .str => true | _ => false
theorem tyV_of {K : PySem.W.Frag} {O : Addr → Prop} {H : Hp} {v : V} {d : D} {t : TN} (h : BAt K O H v d) (e : d.tn = some t) (ht : t.has = true) : tyV K t.nm v H := by
  cases d with
  | str x => cases e; rw [h.str]; exact rfl
  | lst ds =>
    cases e
    rcases h with h | ⟨p, rfl, _, o, h1, h2⟩
    · obtain ⟨a, xs, rfl, n, e, _⟩ := h.lst'
      exact .inl ⟨rfl, xs, SqL.of e⟩
    · cases o with
      | lst xs => exact .inl ⟨rfl, xs, SqL.of h1⟩
      | _ => exact h2.elim
  | fls ds =>
    cases e
    rcases h with h | ⟨p, rfl, _, o, h1, h2⟩
    · obtain ⟨a, xs, rfl, e, _⟩ := h.fls'
      exact .inl ⟨rfl, xs, e⟩
    · cases o <;> exact h2.elim
  | dic m ks vs => cases m <;> cases e <;> cases ht
  | _ => cases e <;> cases ht
/-- o.m(e) -/
def wMt (t : TN) (op : D → D → (Os → Prop) → Prop) (wa wb : WE) : WE := fun ρ X Q => wa ρ X fun ra ρ1 => (∃ d, ra.get ρ1 = some d ∧ d.tn = some t) ∧ wb ρ1 X fun rb ρ2 => ∃ d e, ra.get ρ2 = some d ∧ rb.get ρ2 = some e ∧ op d e fun c => Q c.rs ρ2
section
variable {X : Cx} {M : MC} {E : WX} {wa wb : WE}
theorem mt_all {t : TN} {op : D → D → (Os → Prop) → Prop} {r : V → List V → Hp → VK → Prop} (ht : t.has = true) (hr : OpD X.K (fun x y H Q => r x [y] H Q) op) : ∀ σ H Q, tD X.K M E (wMt t op wa wb) σ H Q → tBM X.K t.nm r (tD X.K M E wa) (tCons (tD X.K M E wb) tNil) σ H Q := by
  rintro σ H Q ⟨G, ρ, Xd, Qd, R, L, w, k⟩
  refine ⟨G, ρ, Xd, _, R, L, w, fun ρ1 v H1 ra R1 h1 ⟨⟨d0, g0, e0⟩, w1⟩ => ⟨tyV_of (R1.get h1 g0) e0 ht, ?_⟩⟩
  refine ⟨G.hold v ra, ρ1, Xd, _, R1, L.hold, w1, fun ρ2 u H2 rb R2 h2 w2 => ?_⟩
  obtain ⟨d, e, g1, g2, w2⟩ := w2
  have b1 := R2.getH (Held.self h1).hold h1 g1
  refine hr _ H2 v u d e Q _ (fun p hp => R2.fresh hp) b1 (R2.get h2 g2) w2 fun H3 x c hx q => ?_
  obtain ⟨R3, h3⟩ := ROut.at R2.unhold.unhold (fun a z => own_hold (own_hold z)) hx
  exact k ρ2 x H3 _ R3 h3 q
variable {o e : Expr} {name : Str} {apos cpos : Pos} {id : String} {r : V → List V → Hp → VK → Prop}
theorem pd_mt {t : TN} {op : D → D → (Os → Prop) → Prop} (hm : MtR X id r) (hr : OpD X.K (fun x y H Q => r x [y] H Q) op) (pa : PlainAttrs t.nm) (slot : Slot t.nm name id) (hty : typeOf (.builtin id) = pure (.type "method_descriptor")) (ho : PE X o (tD X.K M E wa)) (he : PE X e (tD X.K M E wb)) (ht : t.has = true := by rfl)
    (hbase : attributeBase o name X.env (eval o X.env) = eval o X.env := by rfl)
    (hfew : ((backTo cpos (starEach [e] X.env)).all (fun x => !x.1) && (backToKw cpos (keywordEach [] X.env)).all (fun x => x.1.isSome)
      && decide (([e] : List Expr).length + ([] : List Keyword).length + (if ([] : List Keyword).isEmpty then 0 else 1) < 30)) = true := by rfl)
    (hline : (apos.endLine == cpos.line) = true := by rfl) (hs : starEach [e] X.env = (false, eval e X.env) :: starEach [] X.env := by rfl) (hplain : (backTo cpos (starEach [] X.env)).any (·.1) = false := by rfl) :
    PE X (.Call (.Attribute o name apos) [e] [] cpos) (tD X.K M E (wMt t op wa wb)) :=
  PE.weak (pe_bm pa slot hty hm ho (pa_cons he pa_nil hs) hbase hfew hline hs hplain) (mt_all ht hr)
end
/-! ### list.count -/
def rCountD (K : PySem.W.Frag) : V → List V → Hp → VK → Prop := fun x xs H Q => ∃ (a : Addr) (y : V) (d : PyData) (ds : List PyData), x = V.ref a ∧ xs = [y] ∧ Dp K H (V.ref a) (.list ds) ∧ Dp K H y d ∧
  SeqAt.shaped (.list ds) = true ∧ SeqAt.shaped d = true ∧ Q (.int (ds.countP fun z => PyData.eqv z d : Nat)) H
theorem mt_countD {X : Cx} (hu : X.A.units + 65 < cLine) : MtR X "list.count" (rCountD X.K) := by
  intro pins s σ H x xs v us Q I rx rxs h
  obtain ⟨a, y, d, ds, rfl, rfl, hl, hy, sl, sd, q⟩ := h
  cases rx
  cases rxs with
  | cons ry rt =>
    rename_i uy ut
    cases rt
    obtain ⟨bs, r1⟩ := Dp.reads I d y uy hy ry
    have hxs : PyData.canLayAll0 ds = true := SeqAt.canLay_of_shaped sl
    have hroom : X.A.units + 1 + min (PyData.depthAll ds) d.depth < cLine := room_in_shaped sd hu
    cases hl with
    | lst hs ha =>
      obtain ⟨its, rv, ⟨⟨cls, dd, data, sls⟩, n, ho, hc, hdn, hdt⟩, hlen⟩ := I.list hs
      simp only at hc hdt
      subst hc hdt
      obtain ⟨as, h4⟩ := Dp.readsAll I ds _ its ha rv
      have hmap : its.map (SeqAt.readOf s.heap) = ds := SeqAt.readsAll_map ds its as hxs h4
      refine call_meets PySem.F.slot_list_count ⟨_, ho, rfl⟩ PySem.F.entry_list_count (PySem.F.args_list_count_2 _ _)
        (SeqAt.list_countAt a its.toArray n dd sls uy (fun u => PyData.eqv (SeqAt.readOf s.heap u) d)) ⟨ho, SeqAt.items_eqAt (vs := its.toArray) (show ReadsAll s.heap its.toArray.toList ds as from h4) r1 hxs (SeqAt.canLay_of_shaped sd) hroom, ?_⟩
      have ec : its.countP (fun u => PyData.eqv (SeqAt.readOf s.heap u) d) = ds.countP fun z => PyData.eqv z d := by
        rw [← hmap, List.countP_map]
        rfl
      refine ⟨.int (ds.countP fun z => PyData.eqv z d : Nat), H, I.tok _, ⟨s.toks, ?_⟩, q⟩
      show Value.int ((its.toArray.toList.countP fun u => PyData.eqv (SeqAt.readOf s.heap u) d : Nat) : Int) s.toks = _
      rw [show its.toArray.toList = its from rfl, ec]
def oCount (d e : D) (k : Os → Prop) : Prop := match d with
  | .lst ds => SeqAt.shaped (.list (D.pys ds)) = true ∧ SeqAt.shaped e.py = true ∧ k (.val (.int ((D.pys ds).countP fun z => PyData.eqv z e.py : Nat)))
  | _ => False
theorem od_count {K : PySem.W.Frag} : OpD K (fun x y H Q => rCountD K x [y] H Q) oCount := by
  intro O H v w d e Q k hf hv hw ho post
  cases d with
  | lst ds =>
    obtain ⟨h1, h2, h3⟩ := ho
    have dl := hv.dp (SeqAt.canLay_of_shaped h1)
    have rv : ∃ a, v = .ref a := by
      rcases hv with h | ⟨p, rfl, _⟩
      · obtain ⟨a, xs, rfl, _⟩ := h.lst'
        exact ⟨a, rfl⟩
      · exact ⟨p, rfl⟩
    obtain ⟨a, rfl⟩ := rv
    exact ⟨a, w, e.py, D.pys ds, rfl, rfl, dl, hw.dp (SeqAt.canLay_of_shaped h2), h1, h2, post _ _ _ (out_v (.int _)) h3⟩
  | _ => exact ho.elim
theorem pd_count {X : Cx} {M : MC} {E : WX} {wa wb : WE} {o e : Expr} {apos cpos : Pos} (hu : X.A.units + 65 < cLine) (ho : PE X o (tD X.K M E wa)) (he : PE X e (tD X.K M E wb))
    (hbase : attributeBase o "count" X.env (eval o X.env) = eval o X.env := by rfl)
    (hfew : ((backTo cpos (starEach [e] X.env)).all (fun x => !x.1) && (backToKw cpos (keywordEach [] X.env)).all (fun x => x.1.isSome)
      && decide (([e] : List Expr).length + ([] : List Keyword).length + (if ([] : List Keyword).isEmpty then 0 else 1) < 30)) = true := by rfl)
    (hline : (apos.endLine == cpos.line) = true := by rfl) (hs : starEach [e] X.env = (false, eval e X.env) :: starEach [] X.env := by rfl) (hplain : (backTo cpos (starEach [] X.env)).any (·.1) = false := by rfl) :
    PE X (.Call (.Attribute o "count" apos) [e] [] cpos) (tD X.K M E (wMt .lst oCount wa wb)) :=
  pd_mt (t := .lst) (mt_countD hu) od_count PySem.F.plainAttrs_list PySem.F.slot_list_count PySem.F.type_list_count ho he rfl hbase hfew hline hs hplain
/-! symbolic run -/
section
variable {ρ : Rho} {X : XD} {Q : Rs → Rho → Prop}
@[simp ↓] theorem e_wMt {t : TN} {op : D → D → (Os → Prop) → Prop} {a b : WE} : wMt t op a b ρ X Q = a ρ X fun ra ρ1 => bindP (ra.get ρ1) fun d0 => d0.tn = some t ∧ b ρ1 X fun rb ρ2 => bindP (ra.get ρ2) fun d => bindP (rb.get ρ2) fun e => opP op d e fun c => Q c.rs ρ2 := by
  unfold wMt opP
  refine congrArg _ (funext fun ra => funext fun ρ1 => ?_)
  have e2 : (fun rb ρ2 => ∃ d e, ra.get ρ2 = some d ∧ rb.get ρ2 = some e ∧ op d e fun c => Q c.rs ρ2) = fun (rb : Rs) (ρ2 : Rho) => bindP (ra.get ρ2) fun d => bindP (rb.get ρ2) fun e => op d e fun c => Q c.rs ρ2 := by
    funext rb ρ2
    unfold bindP
    exact propext ⟨fun ⟨d, e, h1, h2, h3⟩ => ⟨d, h1, e, h2, h3⟩, fun ⟨d, h1, e, h2, h3⟩ => ⟨d, e, h1, h2, h3⟩⟩
  rw [e2]
  unfold bindP
  exact propext ⟨fun ⟨⟨d, h1, h2⟩, h3⟩ => ⟨d, h1, h2, h3⟩, fun ⟨d, h1, h2, h3⟩ => ⟨⟨d, h1, h2⟩, h3⟩⟩
end
end El

set_option Elab.async false
set_option linter.all false
set_option maxRecDepth 100000
set_option maxHeartbeats 4000000
/-! ER: while, by a measure. -/
namespace El
open PySem L2

theorem wh_inv {c : WT} {tb : WS} {ρ : Rho} {X : XD} {E : ED} {t} {n : Nat} (I : Nat → Rho → Prop) (h0 : I n ρ)
    (step : ∀ (n : Nat) (ρ : Rho) (k : Rho → Prop), I n ρ → (∀ m ρ2, m < n → I m ρ2 → k ρ2) → c ρ X fun b ρ1 => iteP b (tb ρ1 X ⟨k, E.rt, E.nx, k⟩) (E.nx ρ1)) : whP c tb ρ X E t := by
  have go : ∀ (N n : Nat) (ρ : Rho), n < N → I n ρ → whD c tb N ρ X E := by
    intro N
    induction N with
    | zero => exact fun n ρ h => absurd h (Nat.not_lt_zero n)
    | succ N ih =>
      intro n ρ hn h
      exact step n ρ (fun ρ2 => whD c tb N ρ2 X E) h fun m ρ2 hm h2 => ih m ρ2 (by omega) h2
  exact ⟨n + 1, go (n + 1) n ρ (Nat.lt_succ_self n) h0⟩
end El

set_option Elab.async false
set_option linter.all false
set_option maxRecDepth 100000
set_option maxHeartbeats 4000000
/-! ES: dicts are read. -/
namespace El
open PySem PySem.Spec PyProof.Rows PySem.F PySem.P L2

def rIxH : R2 := fun x y H Q => ∃ a v, x = .ref a ∧ DGet H a y (some v) ∧ Q v H
theorem ix_dict {X : Cx} (hu : X.A.units + 1 < cLine) : IxR X rIxH := by
  intro value slice pins s σ H x y v u Q I rx ry h hs
  obtain ⟨a, z, rfl, g, q⟩ := h
  cases (show v = Value.ref a from rx)
  have hT := dict_typeIs I g
  unfold subscriptTail
  refine wpAny_bind ?_
  rw [getitemInPython_of_ne hT.not_modules]
  refine wpAny_bind (wpAny_specialOf hT PySem.F.slot_dict_getitem.lookup ?_)
  have fin : wpAny (model X.prog X.w) X.A (subscripted slice false (.ref a) u) (fun r s₃ => wpAny (model X.prog X.w) X.A (letTemporaryGo value (.ref a) r >>= fun _ => pure r) (EP X pins σ Q) X.xe s₃) X.xe s := by
    rw [hs]
    exact wpAny_operating (wpAny_mono (d_getItem hu I g ry fun w' s3 I3 rw' => (⟨z, H, I3, rw', q⟩ : EP X pins σ Q w' s3)) (fun r s₃ h₃ => wpAny_bind (wpAny_letTemporaryGo (wpAny_pure h₃))) fun _ _ x => x)
  first
    | exact wpAny_pure (wpAny_bind fin)
    | exact wpAny_bind (wpAny_pure (wpAny_bind fin))
    | exact wpAny_bind fin
theorem op_in_dict {X : Cx} (hu : X.A.units + 1 < cLine) : OpR X (compareOp .In) (fun x y H Q => ∃ a o, y = .ref a ∧ DGet H a x o ∧ Q (.bl o.isSome) H) := by
  intro pins s σ H x y v u Q I rx ry h
  obtain ⟨a, o, rfl, g, q⟩ := h
  cases (show u = Value.ref a from ry)
  exact d_in hu I g rx fun s3 I3 => ⟨.bl o.isSome, H, I3, rfl, q⟩
theorem op_notin_dict {X : Cx} (hu : X.A.units + 1 < cLine) : OpR X (compareOp .NotIn) (fun x y H Q => ∃ a o, y = .ref a ∧ DGet H a x o ∧ Q (.bl (!o.isSome)) H) := by
  intro pins s σ H x y v u Q I rx ry h
  obtain ⟨a, o, rfl, g, q⟩ := h
  cases (show u = Value.ref a from ry)
  exact d_notIn hu I g rx fun s3 I3 => ⟨.bl (!o.isSome), H, I3, rfl, q⟩
/-- what a dict of data holds at a key -/
theorem look_val {K : PySem.W.Frag} {O : Addr → Prop} {H : Hp} {κ : Type} [DecidableEq κ] {f : κ → DK} (inj : ∀ a b, f a = f b → a = b) (k : κ) : ∀ {kvs : List (κ × V)} {ds : List D}, DAll K O H (kvs.map (·.2)) ds →
    (∃ v d, valV kvs k = some v ∧ lookD (kvs.map fun q => f q.1) ds (f k) = some d ∧ DAt K O H v d) ∨ (valV kvs k = none ∧ lookD (kvs.map fun q => f q.1) ds (f k) = none)
  | [], _, h => by cases h; exact .inr ⟨rfl, rfl⟩
  | kv :: kvs, _, h => by
    cases h with
    | cons b t =>
      by_cases e : kv.1 = k
      · refine .inl ⟨_, _, valV_pos e, ?_, b⟩
        simp only [List.map_cons, lookD]
        rw [if_pos (congrArg f e)]
      · rcases look_val inj k t with ⟨v, d, h1, h2, h3⟩ | ⟨h1, h2⟩
        · refine .inl ⟨v, d, (valV_neg e).trans h1, ?_, h3⟩
          simp only [List.map_cons, lookD]
          rw [if_neg fun z => e (inj _ _ z)]; exact h2
        · refine .inr ⟨(valV_neg e).trans h1, ?_⟩
          simp only [List.map_cons, lookD]
          rw [if_neg fun z => e (inj _ _ z)]; exact h2
/-- the key of a plain dict -/
def key1 (d : D) : Option Key := match dkOf d with
  | some (.one k) => some k
  | _ => none
theorem key1_of {d : D} {k : Key} (h : key1 d = some k) : dkOf d = some (.one k) := by
  unfold key1 at h
  split at h
  · rename_i e; cases h; exact e
  · cases h
theorem BAt.get {K : PySem.W.Frag} {O : Addr → Prop} {H : Hp} {v w : V} {ks : List DK} {ds : List D} {e : D} {k : Key} (h : BAt K O H v (.dic false ks ds)) (hw : BAt K O H w e) (hk : key1 e = some k) :
    ∃ a o, v = .ref a ∧ DGet H a w o ∧ ((∃ x d, o = some x ∧ lookD ks ds (.one k) = some d ∧ DAt K O H x d) ∨ (o = none ∧ lookD ks ds (.one k) = none)) := by
  obtain ⟨a, rfl, ⟨kvs, _, e1, rfl, t⟩ | ⟨kvs, hm, _⟩⟩ := h.dic
  · obtain rfl := hw.key (key1_of hk)
    refine ⟨a, _, rfl, .inl ⟨kvs, _, e1, rfl, rfl⟩, ?_⟩
    rcases look_val (f := DK.one) (fun a b h => by cases h; rfl) k t with ⟨x, d, h1, h2, h3⟩ | ⟨h1, h2⟩
    · exact .inl ⟨x, d, h1, h2, h3⟩
    · exact .inr ⟨h1, h2⟩
  · cases hm
/-- the key of a dict of tuples -/
def tkey (d : D) : Option (List Key) := match dkOf d with
  | some (.many k) => some k
  | _ => none
theorem tkey_of {d : D} {k : List Key} (h : tkey d = some k) : dkOf d = some (.many k) := by
  unfold tkey at h
  split at h
  · rename_i e; cases h; exact e
  · cases h
def keyM (m : Bool) (d : D) : Option DK := if m = true then (tkey d).map .many else (key1 d).map .one
theorem BAt.getM {K : PySem.W.Frag} {O : Addr → Prop} {H : Hp} {v w : V} {m : Bool} {ks : List DK} {ds : List D} {e : D} {y : DK} (h : BAt K O H v (.dic m ks ds)) (hw : BAt K O H w e) (hk : keyM m e = some y) :
    ∃ a o, v = .ref a ∧ DGet H a w o ∧ ((∃ x d, o = some x ∧ lookD ks ds y = some d ∧ DAt K O H x d) ∨ (o = none ∧ lookD ks ds y = none)) := by
  cases m with
  | false =>
    obtain ⟨k, hk2, rfl⟩ := Option.map_eq_some_iff.mp (show (key1 e).map _ = _ from hk)
    exact h.get hw hk2
  | true =>
    obtain ⟨k, hk2, rfl⟩ := Option.map_eq_some_iff.mp (show (tkey e).map _ = _ from hk)
    obtain ⟨b, rfl, hb⟩ := hw.keyT (tkey_of hk2)
    obtain ⟨a, rfl, ⟨kvs, hm, _⟩ | ⟨kvs, _, e1, rfl, t⟩⟩ := h.dic
    · cases hm
    · refine ⟨a, _, rfl, .inr ⟨kvs, _, b, e1, rfl, hb, rfl⟩, ?_⟩
      rcases look_val (f := DK.many) (fun a b h => by cases h; rfl) k t with ⟨x, d, h1, h2, h3⟩ | ⟨h1, h2⟩
      · exact .inl ⟨x, d, h1, h2, h3⟩
      · exact .inr ⟨h1, h2⟩
/-- x[y], dicts too -/
def oGet (d e : D) (k : Os → Prop) : Prop := match d with
  | .dic m ks vs => ∃ y c, keyM m e = some y ∧ lookD ks vs y = some c ∧ k (.val c)
  | d => oIx d e k
def rIxA (K : PySem.W.Frag) : R2 := fun x y H Q => rIx K x y H Q ∨ rIxH x y H Q
theorem od_get {K : PySem.W.Frag} : OpD K (rIxA K) oGet := by
  intro O H v w d e Q k hf hv hw ho post
  cases d with
  | dic m ks vs =>
    obtain ⟨y, c, h1, h2, h3⟩ := ho
    obtain ⟨a, o, rfl, g, ⟨x, d', rfl, h4, h5⟩ | ⟨_, h4⟩⟩ := hv.getM hw h1
    · rw [h2] at h4; cases h4
      exact .inr ⟨a, x, rfl, g, post _ _ _ (out_v h5) h3⟩
    · rw [h2] at h4; cases h4
  | _ => exact .inl (od_ix O H v w _ e Q k hf hv hw ho post)
theorem pd_get {X : Cx} {M : MC} {E : WX} {a b : Expr} {pos : Pos} {wa wb : WE} (hu : X.A.units + 1 < cLine) (ha : PE X a (tD X.K M E wa)) (hb : PE X b (tD X.K M E wb)) (hs : PlainIx b := by exact fun _ _ => rfl) : PE X (.Subscript a b pos) (tD X.K M E (wOp oGet wa wb)) := pd_ix (ix_seq.or (ix_dict hu)) od_get ha hb hs
/-- x in y, dicts too -/
def oInA (f : Bool → Bool) (d e : D) (k : Os → Prop) : Prop := match e with
  | .dic m ks vs => ∃ y, keyM m d = some y ∧ k (.val (.bl (f (lookD ks vs y).isSome)))
  | e => oIn f d e k
def rInDA (K : PySem.W.Frag) : R2 := fun x y H Q => rInA K x y H Q ∨ ∃ a o, y = .ref a ∧ DGet H a x o ∧ Q (.bl o.isSome) H
def rNotInDA (K : PySem.W.Frag) : R2 := fun x y H Q => rNotInA K x y H Q ∨ ∃ a o, y = .ref a ∧ DGet H a x o ∧ Q (.bl (!o.isSome)) H
theorem od_inA {K : PySem.W.Frag} : OpD K (rInDA K) (oInA fun b => b) := by
  intro O H v w d e Q k hf hv hw ho post
  cases e with
  | dic m ks vs =>
    obtain ⟨y, h1, h3⟩ := ho
    obtain ⟨a, o, rfl, g, ⟨x, d', rfl, h4, h5⟩ | ⟨rfl, h4⟩⟩ := hw.getM hv h1
    · rw [h4] at h3
      exact .inr ⟨a, _, rfl, g, post _ _ _ (out_v (.bl _)) h3⟩
    · rw [h4] at h3
      exact .inr ⟨a, _, rfl, g, post _ _ _ (out_v (.bl _)) h3⟩
  | _ => exact .inl (od_in O H v w d _ Q k hf hv hw ho post)
theorem od_notInA {K : PySem.W.Frag} : OpD K (rNotInDA K) (oInA fun b => !b) := by
  intro O H v w d e Q k hf hv hw ho post
  cases e with
  | dic m ks vs =>
    obtain ⟨y, h1, h3⟩ := ho
    obtain ⟨a, o, rfl, g, ⟨x, d', rfl, h4, h5⟩ | ⟨rfl, h4⟩⟩ := hw.getM hv h1
    · rw [h4] at h3
      exact .inr ⟨a, _, rfl, g, post _ _ _ (out_v (.bl _)) h3⟩
    · rw [h4] at h3
      exact .inr ⟨a, _, rfl, g, post _ _ _ (out_v (.bl _)) h3⟩
  | _ => exact .inl (od_notIn O H v w d _ Q k hf hv hw ho post)
section
variable {X : Cx} {M : MC} {E : WX} {a b : Expr} {pos : Pos} {wa wb : WE}
theorem pd_inA (hu : X.A.units + 65 < cLine) (ha : PE X a (tD X.K M E wa)) (hb : PE X b (tD X.K M E wb)) (hm : behindInMarks .In b = false := by rfl) : PE X (.Compare a [.In] [b] pos) (tD X.K M E (wOp (oInA fun b => b) wa wb)) := pd_cmp ((op_inA hu).or (op_in_dict (by omega))) od_inA ha hb hm
theorem pd_notinA (hu : X.A.units + 65 < cLine) (ha : PE X a (tD X.K M E wa)) (hb : PE X b (tD X.K M E wb)) (hm : behindInMarks .NotIn b = false := by rfl) : PE X (.Compare a [.NotIn] [b] pos) (tD X.K M E (wOp (oInA fun b => !b) wa wb)) := pd_cmp ((op_notInA hu).or (op_notin_dict (by omega))) od_notInA ha hb hm
theorem pt_inA (hu : X.A.units + 65 < cLine) (ha : PE X a (tD X.K M E wa)) (hb : PE X b (tD X.K M E wb)) (hm : behindInMarks .In b = false := by rfl) : PT X (.Compare a [.In] [b] pos) (tDT X.K M E (wB (wOp (oInA fun b => b) wa wb))) := pd_tcmp ((op_inA hu).or (op_in_dict (by omega))) od_inA ha hb hm
theorem pt_notinA (hu : X.A.units + 65 < cLine) (ha : PE X a (tD X.K M E wa)) (hb : PE X b (tD X.K M E wb)) (hm : behindInMarks .NotIn b = false := by rfl) : PT X (.Compare a [.NotIn] [b] pos) (tDT X.K M E (wB (wOp (oInA fun b => !b) wa wb))) := pd_tcmp ((op_notInA hu).or (op_notin_dict (by omega))) od_notInA ha hb hm
end
section
variable {K : PySem.W.Frag} {M : MC} {G : Gd} {ρ : Rho} {σ : L2.St} {H : Hp} {v x : V} {r s : Rs}
theorem Rel.hswap {v x : V} {t u : T} (R : Rel K M ((G.hide x u).hide v t) ρ σ H) : Rel K M (G.hide v t) ρ σ H := by
  have R2 : Rel K M ((G.hide v t).hide x u) ρ σ H := R.perm rfl rfl (fun _ h => h) (fun a => by
    show u.cnt a + (t.cnt a + cH a G.hid) = t.cnt a + (u.cnt a + cH a G.hid); omega) fun q hq => by
    rcases List.mem_cons.mp hq with e | hq
    · exact List.mem_cons_of_mem _ (List.mem_cons.mpr (.inl e))
    · rcases List.mem_cons.mp hq with e | hq
      · exact List.mem_cons.mpr (.inl e)
      · exact List.mem_cons_of_mem _ (List.mem_cons_of_mem _ hq)
  exact (Rel.unhide R2).1
/-- what was held ahead is let fall -/
theorem Rel.drop1 (R : Rel K M ((G.hold x r).hold v s) ρ σ H) : Rel K M (G.hold v s) ρ σ H := by
  have main : ∀ {t : T}, Rel K M ((G.hold x r).hide v t) ρ σ H → Rel K M (G.hide v t) ρ σ H := fun {t} R => by
    cases r with
    | val d => exact R.pinsub rfl rfl (fun q hq => List.mem_cons_of_mem _ hq) rfl
    | pth i π p => exact R
    | new u => exact R.hswap
    | nw d => cases x <;> first | exact R | exact Rel.hswap R
  cases s with
  | val d =>
    obtain ⟨R2, a⟩ := Rel.unpin R
    exact R2.unhold.pinned (a.stay (stay_sub fun _ z => own_hold z))
  | pth i π p => exact Rel.unhold (r := r) (v := x) R
  | new t => exact main R
  | nw d => cases v <;> first | exact Rel.unhold (r := r) (v := x) R | exact main R
end
/-- d.get(k), d.get(k, x) -/
def dicAt (ρ : Rho) (r : Rs) : Option (Bool × List DK × List D) := match r.get ρ with
  | some (.dic m ks vs) => some (m, ks, vs)
  | _ => none
theorem dicAt_of {ρ : Rho} {r : Rs} {p : Bool × List DK × List D} (h : dicAt ρ r = some p) : r.get ρ = some (.dic p.1 p.2.1 p.2.2) := by
  unfold dicAt at h
  split at h
  · rename_i e; cases h; exact e
  · cases h
def wGet1 (wd wk : WE) : WE := fun ρ X Q => wd ρ X fun r ρ1 => (∃ p, dicAt ρ1 r = some p) ∧ wk ρ1 X fun q ρ2 => ∃ p e y, dicAt ρ2 r = some p ∧ q.get ρ2 = some e ∧ keyM p.1 e = some y ∧ Q (.val ((lookD p.2.1 p.2.2 y).getD .non)) ρ2
def wGet2 (wd wk wx : WE) : WE := fun ρ X Q => wd ρ X fun r ρ1 => (∃ p, dicAt ρ1 r = some p) ∧ wk ρ1 X fun q ρ2 => wx ρ2 X fun z ρ3 => ∃ p e y, dicAt ρ3 r = some p ∧ q.get ρ3 = some e ∧ keyM p.1 e = some y ∧ match lookD p.2.1 p.2.2 y with
  | some c => Q (.val c) ρ3
  | none => Q z ρ3
theorem BAt.isD {K : PySem.W.Frag} {O : Addr → Prop} {H : Hp} {v : V} {m : Bool} {ks : List DK} {ds : List D} (h : BAt K O H v (.dic m ks ds)) : ∃ a, v = .ref a ∧ IsD H a := by
  obtain ⟨a, rfl, ⟨kvs, _, e1, rfl, t⟩ | ⟨kvs, hm, e1, rfl, t⟩⟩ := h.dic
  · exact ⟨a, rfl, .inl ⟨kvs, e1⟩⟩
  · exact ⟨a, rfl, .inr ⟨kvs, e1⟩⟩
section
variable {X : Cx} {M : MC} {E : WX} {o e f : Expr} {apos cpos : Pos} {wd wk wx : WE}
theorem pd_get1 (hu : X.A.units + 1 < cLine) (ho : PE X o (tD X.K M E wd)) (he : PE X e (tD X.K M E wk)) (m : M1 X o "get" apos e cpos) : PE X (.Call (.Attribute o "get" apos) [e] [] cpos) (tD X.K M E (wGet1 wd wk)) := by
  refine PE.weak (pe_dget1 hu ho he m) fun σ H Q ⟨G, ρ, Xd, Qd, R, L, w, k⟩ => ⟨G, ρ, Xd, _, R, L, w, fun ρ1 x H1 r R1 h1 ⟨⟨p0, g0⟩, w1⟩ => ?_⟩
  obtain ⟨a, rfl, d0⟩ := (R1.get h1 (dicAt_of g0)).isD
  refine ⟨a, rfl, d0, G.hold (.ref a) r, ρ1, Xd, _, R1, L.hold, w1, fun ρ2 u H2 q R2 h2 ⟨p, e, y, g1, g2, g3, w2⟩ => ?_⟩
  obtain ⟨a', o, ea, g, hh⟩ := (R2.getH (Held.self h1).hold h1 (dicAt_of g1)).getM (R2.get h2 g2) g3
  cases ea
  refine ⟨o, g, ?_⟩
  rcases hh with ⟨x, d, rfl, h4, h5⟩ | ⟨rfl, h4⟩
  · rw [h4] at w2
    exact k ρ2 x H2 (.val d) (R2.unhold.unhold.pinned (h5.stay (stay_sub fun _ z => own_hold (own_hold z)))) trivial w2
  · rw [h4] at w2
    exact k ρ2 .non H2 (.val .non) (R2.unhold.unhold.pinned .non) trivial w2
theorem pd_get2 (hu : X.A.units + 1 < cLine) (ho : PE X o (tD X.K M E wd)) (he : PE X e (tD X.K M E wk)) (hf : PE X f (tD X.K M E wx)) (m : M2 X o "get" apos e f cpos) : PE X (.Call (.Attribute o "get" apos) [e, f] [] cpos) (tD X.K M E (wGet2 wd wk wx)) := by
  refine PE.weak (pe_dget2 hu ho he hf m) fun σ H Q ⟨G, ρ, Xd, Qd, R, L, w, k⟩ => ⟨G, ρ, Xd, _, R, L, w, fun ρ1 x H1 r R1 h1 ⟨⟨p0, g0⟩, w1⟩ => ?_⟩
  obtain ⟨a, rfl, d0⟩ := (R1.get h1 (dicAt_of g0)).isD
  refine ⟨a, rfl, d0, G.hold (.ref a) r, ρ1, Xd, _, R1, L.hold, w1, fun ρ2 u H2 q R2 h2 w2 => ?_⟩
  refine ⟨(G.hold (.ref a) r).hold u q, ρ2, Xd, _, R2, L.hold.hold, w2, fun ρ3 z H3 s R3 h3 ⟨p, e, y, g1, g2, g3, w3⟩ => ?_⟩
  obtain ⟨a', o, ea, g, hh⟩ := (R3.getH (Held.self h1).hold.hold h1 (dicAt_of g1)).getM (R3.getH (Held.self h2).hold h2 g2) g3
  cases ea
  refine ⟨o, g, ?_⟩
  rcases hh with ⟨x, d, rfl, h4, h5⟩ | ⟨rfl, h4⟩
  · rw [h4] at w3
    exact k ρ3 x H3 (.val d) (R3.unhold.unhold.unhold.pinned (h5.stay (stay_sub fun _ z => own_hold (own_hold (own_hold z))))) trivial w3
  · rw [h4] at w3
    have R4 : Rel X.K M ((G.hold (.ref a) r).hold z s) ρ3 σ H3 := R3.drop1
    exact k ρ3 z H3 s R4.drop1 h3 w3
end
end El

set_option Elab.async false
set_option linter.all false
set_option maxRecDepth 100000
set_option maxHeartbeats 4000000
/-! ET: dicts read, reckoned by simp. -/
namespace El
open PySem L2

@[simp] theorem key1_int {i : Int} : key1 (.int i) = some (.inl i) := nre rfl
@[simp] theorem key1_str {x : Str} : key1 (.str x) = some (.inr x) := nre rfl
@[simp] theorem keyM_int {i : Int} : keyM false (.int i) = some (.one (.inl i)) := nre rfl
@[simp] theorem keyM_str {x : Str} : keyM false (.str x) = some (.one (.inr x)) := nre rfl
@[simp] theorem keyM_tup {ds : List D} : keyM true (.tup ds) = (keysOf ds).map .many := by
  show (match (keysOf ds).map DK.many with | some (.many k) => some k | _ => none).map DK.many = _
  cases keysOf ds <;> rfl
@[simp] theorem keysOf_nil : keysOf [] = some [] := nre rfl
@[simp] theorem keysOf_int {i : Int} {ds : List D} : keysOf (.int i :: ds) = (keysOf ds).map fun ks => .inl i :: ks := nre rfl
@[simp] theorem keysOf_str {i : Str} {ds : List D} : keysOf (.str i :: ds) = (keysOf ds).map fun ks => .inr i :: ks := nre rfl
section
variable {ρ : Rho} {X : XD} {Q : Rs → Rho → Prop} {k : Os → Prop}
@[simp ↓] theorem o_getD {m : Bool} {ks : List DK} {vs : List D} {e : D} : opP oGet (.dic m ks vs) e k = bindP (keyM m e) fun y => bindP (lookD ks vs y) fun c => k (.val c) := by
  show (∃ y c, keyM m e = some y ∧ lookD ks vs y = some c ∧ k (.val c)) = _
  unfold bindP
  exact propext ⟨fun ⟨y, c, h1, h2, h3⟩ => ⟨y, h1, c, h2, h3⟩, fun ⟨y, h1, c, h2, h3⟩ => ⟨y, c, h1, h2, h3⟩⟩
@[simp ↓] theorem o_getL {ds : List D} {i : Int} : opP oGet (.lst ds) (.int i) k = bindP (atI ds i) fun c => k (.val c) := nre rfl
@[simp ↓] theorem o_getF {ds : List D} {i : Int} : opP oGet (.fls ds) (.int i) k = bindP (atI ds i) fun c => k (.val c) := nre rfl
@[simp ↓] theorem o_getT {ds : List D} {i : Int} : opP oGet (.tup ds) (.int i) k = bindP (atI ds i) fun c => k (.val c) := nre rfl
@[simp ↓] theorem o_inD {f : Bool → Bool} {d : D} {m : Bool} {ks : List DK} {vs : List D} : opP (oInA f) d (.dic m ks vs) k = bindP (keyM m d) fun y => k (.val (.bl (f (lookD ks vs y).isSome))) := nre rfl
@[simp ↓] theorem o_inLst {f : Bool → Bool} {d : D} {ds : List D} : opP (oInA f) d (.lst ds) k = opP (oIn f) d (.lst ds) k := nre rfl
@[simp ↓] theorem o_inFls {f : Bool → Bool} {d : D} {ds : List D} : opP (oInA f) d (.fls ds) k = opP (oIn f) d (.fls ds) k := nre rfl
@[simp ↓] theorem o_inTup {f : Bool → Bool} {d : D} {ds : List D} : opP (oInA f) d (.tup ds) k = opP (oIn f) d (.tup ds) k := nre rfl
@[simp ↓] theorem o_inStr {f : Bool → Bool} {d : D} {x : Str} : opP (oInA f) d (.str x) k = opP (oIn f) d (.str x) k := nre rfl
/-- a picked option -/
def optP {α : Type} (o : Option α) (a : α → Prop) (b : Prop) (_ : Tag a := ⟨⟩) (_ : Tag b := ⟨⟩) : Prop := match o with
  | some c => a c
  | none => b
@[simp] theorem optP_some {α : Type} {c : α} {a : α → Prop} {b : Prop} : optP (some c) a b = a c := nre rfl
@[simp] theorem optP_none {α : Type} {a : α → Prop} {b : Prop} : optP none a b = b := nre rfl
theorem optP_of {α : Type} {o : Option α} {a : α → Prop} {b : Prop} (h1 : ∀ c, o = some c → a c) (h2 : o = none → b) : optP o a b := by
  cases o with
  | some c => exact h1 c rfl
  | none => exact h2 rfl
@[simp] theorem dicAt_top {i : Nat} {p : Addr} {m : Bool} {ks : List DK} {vs : List D} (h : ρ[i]? = some (some (.top p (.dic m ks vs)))) : dicAt ρ (.pth i [] p) = some (m, ks, vs) := by
  unfold dicAt
  rw [get_top h]
@[simp] theorem dicAt_val {m : Bool} {ks : List DK} {vs : List D} : dicAt ρ (.val (.dic m ks vs)) = some (m, ks, vs) := nre rfl
@[simp] theorem dicAt_nw {m : Bool} {ks : List DK} {vs : List D} : dicAt ρ (.nw (.dic m ks vs)) = some (m, ks, vs) := nre rfl
theorem bindT {α : Type} {o : Option α} : (∃ p, o = some p) = bindP o fun _ => True := propext ⟨fun ⟨p, h⟩ => ⟨p, h, trivial⟩, fun ⟨p, h, _⟩ => ⟨p, h⟩⟩
@[simp ↓] theorem e_get1 {wd wk : WE} : wGet1 wd wk ρ X Q = wd ρ X fun r ρ1 => bindP (dicAt ρ1 r) (fun _ => True) ∧ wk ρ1 X fun q ρ2 => bindP (dicAt ρ2 r) fun p => bindP (q.get ρ2) fun e => bindP (keyM p.1 e) fun y => Q (.val ((lookD p.2.1 p.2.2 y).getD .non)) ρ2 := by
  unfold wGet1
  refine congrArg _ (funext fun r => funext fun ρ1 => ?_)
  rw [bindT]
  refine congrArg _ (congrArg _ (funext fun q => funext fun ρ2 => ?_))
  unfold bindP
  exact propext ⟨fun ⟨p, e, y, h1, h2, h3, h4⟩ => ⟨p, h1, e, h2, y, h3, h4⟩, fun ⟨p, h1, e, h2, y, h3, h4⟩ => ⟨p, e, y, h1, h2, h3, h4⟩⟩
@[simp ↓] theorem e_get2 {wd wk wx : WE} : wGet2 wd wk wx ρ X Q = wd ρ X fun r ρ1 => bindP (dicAt ρ1 r) (fun _ => True) ∧ wk ρ1 X fun q ρ2 => wx ρ2 X fun z ρ3 => bindP (dicAt ρ3 r) fun p => bindP (q.get ρ3) fun e => bindP (keyM p.1 e) fun y => optP (lookD p.2.1 p.2.2 y) (fun c => Q (.val c) ρ3) (Q z ρ3) := by
  unfold wGet2
  refine congrArg _ (funext fun r => funext fun ρ1 => ?_)
  rw [bindT]
  refine congrArg (And _) (congrArg (wk ρ1 X) (funext fun q => funext fun ρ2 => congrArg (wx ρ2 X) (funext fun z => funext fun ρ3 => ?_)))
  unfold bindP
  refine propext ⟨fun ⟨p, e, y, h1, h2, h3, h4⟩ => ⟨p, h1, e, h2, y, h3, ?_⟩, fun ⟨p, h1, e, h2, y, h3, h4⟩ => ⟨p, e, y, h1, h2, h3, ?_⟩⟩
  · show optP (lookD p.2.1 p.2.2 y) (fun c => Q (.val c) ρ3) (Q z ρ3)
    revert h4
    cases lookD p.2.1 p.2.2 y with
    | none => exact id
    | some c => exact id
  · replace h4 : optP (lookD p.2.1 p.2.2 y) (fun c => Q (.val c) ρ3) (Q z ρ3) := h4
    revert h4
    cases lookD p.2.1 p.2.2 y with
    | none => exact id
    | some c => exact id
end
/-! what a dict of data holds -/
@[simp] theorem look_nil {k : DK} : lookD [] [] k = none := nre rfl
@[simp] theorem look_pos {ks : List DK} {vs : List D} {k : DK} {v : D} : lookD (k :: ks) (v :: vs) k = some v := by
  unfold lookD; rw [if_pos rfl]
theorem look_neg {ks : List DK} {vs : List D} {k k' : DK} {v : D} (h : k' ≠ k) : lookD (k' :: ks) (v :: vs) k = lookD ks vs k := by
  show (if k' = k then _ else _) = _
  rw [if_neg h]
end El

set_option Elab.async false
set_option linter.all false
set_option maxRecDepth 100000
set_option maxHeartbeats 4000000
/-! EU: defs with defaults. -/
namespace El
open PySem L2
open PyProof.Rows (envOfC)

/-- a def with defaults, as the top has made it -/
structure DefAtD (K : PySem.W.Frag) (mg : Str → Option Value) (x : Str) (st : Stmt) (dvs : List V) where
  f : Addr
  fd : FuncData
  F : FunD K x x (defArgs st) (defBody st) (defScope st) dvs [] f fd
  m : mg x = some (.ref f)
section
variable {P : Program} {w : World} {K : PySem.W.Frag} {mg : Str → Option Value} {base : Heap} {f : Addr} {fd : FuncData} {ps : List Str}
theorem fnG_ofD {sp : Sp} {x qual : Str} {st : Stmt} {N : List Str} {k : Nat} {dvs : List V} (F : FunD K x qual (defArgs st) (defBody st) (defScope st) dvs [] f fd) (S : FnScope N ps (defScope st)) (len : ∀ vs H Q E, sp vs H Q E → vs.length = ps.length)
    (body : ∀ (cd : Value) (A : Around) (outer : List Env) (s : Shared) (H : Hp) (vs : List V) (Q : VK) (E : XK), A.guards = some [] → Room k (A.deeper (envOfC qual (defScope st) s.heap.objs.size f cd)) → sp vs H Q E →
      ∃ t, PSs (cxG P w K mg base N qual (defScope st) f cd A outer s H E) (defBody st) t ∧ t { nx := fun _ H1 => Q .non H1, rt := Q } (start N vs) H) : FnG P w K mg base (k + 1) f fd ps sp := by
  obtain ⟨oc, od, dV, kV, doc, pm, an, cd, ct, osl, rfl, lk, hcd, _, _⟩ := F.ex
  refine ⟨len, fun A outer s H args us vs Q E hG hr e0 hb rv hsp => ?_⟩
  have inK : K.In s.heap := e0.mod.kin.keeps fun b o e => (e0.bs b o e).1
  have noL : s.heap.NoLimit := e0.mod.nolimit.keeps fun b o e => (e0.bs b o e).1
  have kinds : ∀ y ∈ ps.zip us, (defScope st).names.lookup y.1 = some .local ∨ ((defScope st).names.lookup y.1 = some .cell ∧ ((cellsFrom (s.heap.objs.size + 1) (defScope st).names []).lookup y.1).isSome = true) := by
    rintro ⟨n, v⟩ hy
    cases S.par n (List.of_mem_zip hy).1 with
    | inl q => exact .inl q
    | inr q => exact .inr ⟨q, PySem.W.cellsFrom_some _ _ _ (.inl q)⟩
  apply codeAny_call_function hr.depth (inK _ _ lk) rfl S.co S.gen rfl (PySem.W.codeRec_of inK hcd)
  apply hb
  apply wpAny_newFunctionEnv_cells S.kind kinds
  intro env he s1 x
  subst he
  refine ⟨noL.keeps x.toInCall.keep, codeAny_func ?_⟩
  obtain ⟨t, ht, hq⟩ := body cd A outer s H vs Q E hG (hr.deeper _) hsp
  have I := inv_start (CX := L2.CX P w) (f := f) (cd := cd) (qual := qual) (E := E) S hr.hd e0 (len _ _ _ _ hsp) rv x
  refine wpAny_mono (ht.run [] s1 (start N vs) H _ I hq) (fun fl s2 hs => ?_) fun e s2 hs => hs
  cases fl with
  | ret u =>
    obtain ⟨v, σ2, H2, J, r2, q⟩ := hs
    exact ⟨v, H2, J.os, J.bare, J.base, J.hok, r2, q⟩
  | next =>
    obtain ⟨σ2, H2, J, q⟩ := hs
    exact ⟨.non, H2, J.os, J.bare, J.base, J.hok, rfl, q⟩
  | brk => obtain ⟨_, _, _, q⟩ := hs; exact q.elim
  | cont => obtain ⟨_, _, _, q⟩ := hs; exact q.elim
theorem fnDD {sp : DSp} {x qual : Str} {st : Stmt} {N : List Str} {k : Nat} {dvs : List V} {io : List Nat} {W : MC → WS} (F : FunD K x qual (defArgs st) (defBody st) (defScope st) dvs [] f fd) (S : FnScope N ps (defScope st)) (hio : io.Nodup)
    (body : ∀ (M : MC) (cd : Value) (A : Around) (outer : List Env) (s : Shared) (H : Hp) (E : XK), A.guards = some [] → Room k (A.deeper (envOfC qual (defScope st) s.heap.objs.size f cd)) →
      PSs (cxG P w K mg base N qual (defScope st) f cd A outer s H E) (defBody st) (tDS K M (fun cls dd _ H => E cls dd H) (W M)))
    (law : ∀ M ts Qd Ed, ts.length = ps.length → sp M ts Qd Ed → W M (rho0 N.length ts) (excD io ts Ed) (endD io ts Qd)) : FnG P w K mg base (k + 1) f fd ps (spD K ps.length io sp) :=
  fnG_ofD F S spD_len fun cd A outer s H vs Q E hG hr h => body_run S hio body law cd A outer s H vs Q E hG hr h
end
/-- how a call binds, the defaults dvs behind what is written -/
def KBd (K : PySem.W.Frag) (fd : FuncData) (ps : List Str) (n : Nat) (ks : List Str) (ix : List Nat) (dvs : List V) : Prop :=
  ∃ dus : List Value, Vals dvs dus ∧ ∀ (s : Shared) (us ws : List Value), K.In s.heap → us.length = n → ws.length = ks.length → BindsTo s fd ⟨us, ks.zip ws⟩ (ps.zip (pick ix (us ++ ws ++ dus)))
theorem kbd_of {K : PySem.W.Frag} {x qual : Str} {st : Stmt} {f : Addr} {fd : FuncData} {ps ks : List Str} {n : Nat} {ix : List Nat} {dvs : List V} (F : FunD K x qual (defArgs st) (defBody st) (defScope st) dvs [] f fd) (hd : dvs ≠ [])
    (h : ∀ (T : Addr) (kV doc pm : Value) (an : Option Addr) (cdv ct : Value) (us ws its : List Value), us.length = n → ws.length = ks.length → its.length = dvs.length →
      (∃ k, bindArgs (PySem.W.fnOf x qual (defArgs st) (defBody st) (defScope st) (.ref T) kV doc pm an cdv ct) ⟨us, ks.zip ws⟩ = seqItems? (.ref T) >>= k ∧ k (some its.toArray) = pure (ps.zip (pick ix (us ++ ws ++ its)))) ∨
      bindArgs (PySem.W.fnOf x qual (defArgs st) (defBody st) (defScope st) (.ref T) kV doc pm an cdv ct) ⟨us, ks.zip ws⟩ = pure (ps.zip (pick ix (us ++ ws ++ its)))) : KBd K fd ps n ks ix dvs := by
  obtain ⟨oc, od, dV, kV, doc, pm, an, cdv, ct, osl, rfl, lk, hcd, hD, _⟩ := F.ex
  rcases hD with ⟨e, _⟩ | ⟨_, T, o, its, m, rfl, lT, oT, rT⟩
  · exact absurd e hd
  · refine ⟨its, rT, fun s us ws X l1 l2 => ?_⟩
    rcases h T kV doc pm an cdv ct us ws its l1 l2 rT.length.symm with ⟨k, e1, e2⟩ | e
    · refine BindsTo.of_looks fun M => ?_
      rw [e1]
      exact looks_items X lT oT (.of_pure e2)
    · exact .of_eq e
section
variable {X : Cx} {k n : Nat} {f : Addr} {fd : FuncData} {ps ks : List Str} {ix : List Nat} {dvs : List V} {sp : Sp} {W : WX} {pins : List (Addr × Obj)} {σ : St} {H : Hp} {s : Shared} {Q : VK} {us ws : List Value} {vs zs : List V}
theorem run_Bd (F : FnG X.prog X.w X.K X.mg X.base k f fd ps sp) (hG : X.A.guards = some []) (hr : Room k X.A) (tk : Takes X W) (hb : KBd X.K fd ps n ks ix dvs) (I : Inv X pins σ H s) (r : Vals vs us) (rz : Vals zs ws) (l1 : vs.length = n) (l2 : zs.length = ks.length)
    (h : sp (pick ix (vs ++ zs ++ dvs)) H Q fun cls d H' => W cls d σ H') : wpAny (model X.prog X.w) X.A (call (.ref f) us (ks.zip ws)) (EP X pins σ Q) X.xe s := by
  obtain ⟨dus, rd, hb⟩ := hb
  refine wpAny_call (codeAny_mono (F.run X.A X.stack s H ⟨us, ks.zip ws⟩ (pick ix (us ++ ws ++ dus)) (pick ix (vs ++ zs ++ dvs)) Q _ hG hr I.env0 (hb s us ws I.kIn (r.length.symm.trans l1) (rz.length.symm.trans l2)) (pick_vals ((r.append rz).append rd) ix) h) fun q s1 z => ?_)
  match q, z with
  | .error e, z => exact tk e s1 (XE.of_call I (fun _ _ _ h => h) z)
  | .ok (.ret u), z => exact I.after z
def tCallGd (W : WX) (n m : Nat) (ix : List Nat) (dvs : List V) (sp : Sp) (t tk : TA) : TE := fun σ H Q => t σ H fun vs H1 => tk σ H1 fun zs H2 => vs.length = n ∧ zs.length = m ∧ sp (pick ix (vs ++ zs ++ dvs)) H2 Q fun cls d H' => W cls d σ H'
variable {x : Str} {p pos : Pos} {e : Expr} {es : List Expr} {kws : List Keyword} {t tk : TA}
theorem pe_callGd (F : FnG X.prog X.w X.K X.mg X.base k f fd ps sp) (hG : X.A.guards = some []) (hr : Room k X.A) (tkx : Takes X W) (hb : KBd X.K fd ps n ks ix dvs) (hk : PySem.W.keepIn X.K (.ref f) = true) (hm : X.mg x = some (.ref f)) (hg : Gl X x)
    (ha : PA X (e :: es) t) (hkw : PK X kws tk) (hall : (backToKw pos (keywordEach kws X.env)).all (·.1.isSome) = true := by rfl) (hks : (backToKw pos (keywordEach kws X.env)).filterMap (·.1) = ks := by rfl)
    (hdb : (x == ("__debug__" : Str)) = false := by decide) (he : starEach (e :: es) X.env = (false, eval e X.env) :: starEach es X.env := by rfl)
    (hpl : ((backTo pos (starEach (e :: es) X.env)).any (·.1) || (backToKw pos (keywordEach kws X.env)).any (·.1.isNone)) = false := by rfl) : PE X (.Call (.Name x p) (e :: es) kws pos) (tCallGd W n ks.length ix dvs sp t tk) := by
  constructor
  intro pins s σ H Q I h
  apply wpAny_Call_Name_kw
  apply ld_glob I hg hm (hd := hdb)
  apply PySem.W.callWith_KW (h₀ := X.base) I.ok.mod.kin hk hall (hplain := hpl) (he := he)
  refine thn (ha.run pos pins s σ H _ I h) fun us s1 ⟨vs, H1, I1, r, q⟩ => ?_
  refine thn (hkw.run pos pins s1 σ H1 _ I1 q) fun ws s2 ⟨zs, H2, I2, rz, l1, l2, q2⟩ => ⟨I2.kIn, ?_⟩
  rw [hks]
  exact run_Bd F hG hr tkx hb I2 r rz l1 l2 q2
end
end El

set_option Elab.async false
set_option linter.all false
set_option maxRecDepth 100000
set_option maxHeartbeats 4000000
/-! EV: calls with defaults. -/
namespace El
open PySem L2
section
variable {X : Cx} {M : MC} {E : WX} {k n np : Nat} {f : Addr} {fd : FuncData} {ps ks : List Str} {ix io : List Nat} {lb : List Bool} {dvs : List V} {dds : List D} {sp : DSp} {x : Str} {p pos : Pos} {e : Expr} {es : List Expr} {kws : List Keyword} {wa wk : WA}
/-- a call's core: what is told is in hand -/
theorem call_core {K : PySem.W.Frag} {G : Gd} {ρ3 : Rho} {σ : St} {H2 : Hp} {ws : List V} {ts : List T} {bs : List (Option Pl)} {Xd : XD} {Qd : Rs → Rho → Prop} {Q : VK} (hix : ix.Nodup) (L : Lnk K M G E Xd)
    (kk : ∀ ρ' v H' r, Rel K M (G.hold v r) ρ' σ H' → RsOk v r → Qd r ρ' → Q v H') (R3 : Rel K M (G.plus (lentP ws ts bs) (lentH ws ts bs)) ρ3 σ H2) (fm : Forms ws ts bs) (hl : (pick ix ts).length = np)
    (w2 : ∀ M', Mext M M' → sp M' (pick ix ts) (fun r ts' => ∃ ρ', giveb ρ3 (pick io (pick ix bs)) ts' = some ρ' ∧ Qd r ρ') fun e ts' => ∃ ρ', giveb ρ3 (pick io (pick ix bs)) ts' = some ρ' ∧ Xd e ρ') : spD K np io sp (pick ix ws) H2 Q fun cls d H' => E cls d σ H' := by
  have cl : ∀ a, cH a (lentH ws ts bs) = T.cnts a ts := fun a => fm.cnt
  have nd : ∀ a, cR a ρ3 + (T.cnts a ts + cH a G.hid) ≤ 1 := fun a => by rw [← cl a, ← cH_append]; exact R3.nd a
  have ow : ∀ a, 0 < cR a ρ3 + (T.cnts a ts + cH a G.hid) → (G.H0 a = none ∨ G.io a) ∧ ¬ M.O a := fun a z => R3.own a (show 0 < cR a ρ3 + cH a (lentH ws ts bs ++ G.hid) by rw [cH_append, cl a]; exact z)
  have inO : ∀ a, Own M G ρ3 a ∨ 0 < T.cnts a ts → Own M (G.plus (lentP ws ts bs) (lentH ws ts bs)) ρ3 a := fun a z => by
    show M.O a ∨ 0 < cR a ρ3 + cH a (lentH ws ts bs ++ G.hid)
    rw [cH_append, cl a]
    rcases z with (z | z) | z
    · exact .inl z
    · exact .inr (by omega)
    · exact .inr (by omega)
  have o1 : ∀ a, M.O a → Own M G ρ3 a := fun a z => .inl z
  have o2 : ∀ a, Own M G ρ3 a → H2 a ≠ none := fun a z => R3.ownAt (inO a (.inl z))
  have pc : ∀ a, T.cnts a (pick ix ts) ≤ T.cnts a ts := fun a => pick_cnt hix
  have all : TAll K (Own M (G.plus (lentP ws ts bs) (lentH ws ts bs)) ρ3) H2 ws ts := Rel.lentAll (G := G) (ρ := ρ3) (σ := σ) fm (fun q hq => R3.pin q (List.mem_append_left _ hq)) fun q hq => R3.hid q (List.mem_append_left _ hq)
  have allp : TAll K (fun a => Own M G ρ3 a ∨ 0 < T.cnts a (pick ix ts)) H2 (pick ix ws) (pick ix ts) := pick_all (all.stay (stay_sub fun a z => inO a (z.imp id fun z => by have := pc a; omega)) fun _ _ => rfl) ix
  -- what the asker holds back, too
  refine ⟨mcAt M (Own M G ρ3) H2 o1 o2, pick ix ts, _, _, ⟨⟨R3.mi, fun a _ _ => rfl⟩, allp, fun a => by have := nd a; have := pc a; omega, fun a z y => ?_⟩, hl, w2 _ mcAt_ext, ?_, ?_⟩
  · have y : Own M G ρ3 a := y
    have := pc a
    rcases y with y | y
    · exact (ow a (by omega)).2 y
    · have := nd a; omega
  · rintro v H' r ts' ⟨k1, kt, k2, k3⟩ ra ⟨ρ', gb, q⟩
    have gb : giveb ρ3 (pick io (pick ix bs)) ts' = some ρ' := gb
    have zl : (pick io (pick ix ws)).length = ts'.length := ra.bk.length
    have cz : ∀ a, cH a ((pick io (pick ix ws)).zip ts' ++ [(v, r.tr)]) = r.tr.cnt a + T.cnts a ts' := fun a => by
      rw [cH_append, zip_cnt zl]; simp only [cH]; omega
    have R4 : Rel K M (G.plus [] ((pick io (pick ix ws)).zip ts' ++ [(v, r.tr)])) ρ3 σ H' := by
      refine R3.after (fun a o n c e => ?_) kt (fun a z => ?_) k2 (fun a z => ?_) (fun a => by rw [cz a]; exact ra.own.nd a) fun q hq => ?_
      · rw [cl a] at c
        by_cases y : Own M G ρ3 a
        · exact .inl (by rw [k3 a y n]; exact e)
        · exact k1 a o y (by have := pc a; omega) e
      · exact k3 a (.inr z) (ow a (by omega)).2
      · rw [cz a] at z
        rw [cl a]
        rcases (ra.own.out a z).2 with y | y
        · exact .inr y
        · exact .inl (by have := pc a; omega)
      · have e : (fun a => Own M G ρ3 a ∨ 0 < cH a ((pick io (pick ix ws)).zip ts' ++ [(v, r.tr)])) = OutO (mcAt M (Own M G ρ3) H2 o1 o2) r.tr ts' := funext fun a => by rw [cz a]; rfl
        rw [e]
        rcases List.mem_append.mp hq with hq | hq
        · exact ra.bk.mem q hq
        · obtain rfl := List.mem_singleton.mp hq
          exact ra.res
    have R5 : Rel K M ((G.hide v r.tr).plus [] ((pick io (pick ix ws)).zip ts')) ρ3 σ H' := R4.perm rfl rfl (fun _ h => h) (fun a => by
      show cH a ((pick io (pick ix ws)).zip ts' ++ (v, r.tr) :: G.hid) = cH a (((pick io (pick ix ws)).zip ts' ++ [(v, r.tr)]) ++ G.hid)
      rw [List.append_assoc]; rfl) fun q hq => by
      show q ∈ ((pick io (pick ix ws)).zip ts' ++ [(v, r.tr)]) ++ G.hid
      rw [List.append_assoc]; exact hq
    have R6 : Rel K M (G.hide v r.tr) ρ' σ H' := R5.giveb ((fm.pls.pick ix).pick io) gb
    cases r with
    | val d =>
      obtain ⟨R7, a⟩ := Rel.unhide R6
      exact kk ρ' v H' (.val d) (R7.pinned a) trivial q
    | new t => exact kk ρ' v H' (.new t) R6 trivial q
    | pth i π p => exact absurd rfl (ra.npth i π p)
    | nw d => exact absurd rfl (ra.nnw d)
  · rintro cls dd H' ex ts' ⟨k1, kt, k2, k3⟩ ⟨x1, ax, x2, x4⟩ bk ow1 ⟨ρ', gb, q⟩
    have gb : giveb ρ3 (pick io (pick ix bs)) ts' = some ρ' := gb
    have zl : (pick io (pick ix ws)).length = ts'.length := bk.length
    have cz : ∀ a, cH a ((pick io (pick ix ws)).zip ts' ++ [(V.ref ax, T.fz (.xd ex.f ex.d))]) = T.cnts a ts' := fun a => by
      rw [cH_append, zip_cnt zl]; simp only [cH, T.cnt]; omega
    have n1 : ∀ a, T.cnts a ts' ≤ 1 := fun a => by have := ow1.nd a; have e : (T.fz .non).cnt a = 0 := rfl; omega
    have R4 : Rel K M (G.plus [] ((pick io (pick ix ws)).zip ts' ++ [(V.ref ax, T.fz (.xd ex.f ex.d))])) ρ3 σ H' := by
      refine R3.after (fun a o n c e => ?_) kt (fun a z => ?_) k2 (fun a z => ?_) (fun a => by rw [cz a]; exact n1 a) fun q hq => ?_
      · rw [cl a] at c
        by_cases y : Own M G ρ3 a
        · exact .inl (by rw [k3 a y n]; exact e)
        · exact k1 a o y (by have := pc a; omega) e
      · exact k3 a (.inr z) (ow a (by omega)).2
      · rw [cz a] at z
        rw [cl a]
        rcases (ow1.out a (by have e : (T.fz .non).cnt a = 0 := rfl; omega)).2 with y | y
        · exact .inr y
        · exact .inl (by have := pc a; omega)
      · have e : (fun a => Own M G ρ3 a ∨ 0 < cH a ((pick io (pick ix ws)).zip ts' ++ [(V.ref ax, T.fz (.xd ex.f ex.d))])) = OutO (mcAt M (Own M G ρ3) H2 o1 o2) (.fz .non) ts' := funext fun a => by
          rw [cz a]
          show (Own M G ρ3 a ∨ 0 < T.cnts a ts') = (Own M G ρ3 a ∨ 0 < (T.fz .non).cnt a + T.cnts a ts')
          have e : (T.fz .non).cnt a = 0 := rfl
          rw [e, Nat.zero_add]
        rw [e]
        rcases List.mem_append.mp hq with hq | hq
        · exact bk.mem q hq
        · obtain rfl := List.mem_singleton.mp hq
          exact .fz x4
    have R5 : Rel K M ((G.hide (.ref ax) (.fz (.xd ex.f ex.d))).plus [] ((pick io (pick ix ws)).zip ts')) ρ3 σ H' := R4.perm rfl rfl (fun _ h => h) (fun a => by
      show cH a ((pick io (pick ix ws)).zip ts' ++ (V.ref ax, T.fz (.xd ex.f ex.d)) :: G.hid) = cH a (((pick io (pick ix ws)).zip ts' ++ [(V.ref ax, T.fz (.xd ex.f ex.d))]) ++ G.hid)
      rw [List.append_assoc]; rfl) fun q hq => by
      show q ∈ ((pick io (pick ix ws)).zip ts' ++ [(V.ref ax, T.fz (.xd ex.f ex.d))]) ++ G.hid
      rw [List.append_assoc]; exact hq
    obtain ⟨R6, xa⟩ := Rel.unhide (R5.giveb ((fm.pls.pick ix).pick io) gb)
    exact L ρ' σ H' cls dd ex R6 ⟨x1, ax, x2, xa⟩ q
theorem DAll.zmem {K : PySem.W.Frag} {O : Addr → Prop} {H : Hp} : ∀ {vs : List V} {ds : List D}, DAll K O H vs ds → ∀ q ∈ vs.zip ds, DAt K O H q.1 q.2
  | _, _, .nil, q, hq => nomatch hq
  | _, _, .cons a t, q, hq => by
    rcases List.mem_cons.mp hq with e | hq
    · rw [e]; exact a
    · exact DAll.zmem t q hq
theorem lentP_dd : ∀ {ws : List V} {ts : List T} {bs : List (Option Pl)} {dvs : List V} {dds : List D}, Forms ws ts bs → dvs.length = dds.length → lentP (ws ++ dvs) (ts ++ dds.map T.fz) (bs ++ dds.map fun _ => none) = lentP ws ts bs ++ dvs.zip dds ∧ lentH (ws ++ dvs) (ts ++ dds.map T.fz) (bs ++ dds.map fun _ => none) = lentH ws ts bs ∧ Forms (ws ++ dvs) (ts ++ dds.map T.fz) (bs ++ dds.map fun _ => none)
  | _, _, _, dvs, dds, .nil, h => by
    induction dds generalizing dvs with
    | nil => cases dvs with
      | nil => exact ⟨rfl, rfl, .nil⟩
      | cons v dvs => cases h
    | cons d dds ih => cases dvs with
      | nil => cases h
      | cons v dvs =>
        obtain ⟨h1, h2, h3⟩ := ih dvs (Nat.succ.inj h)
        exact ⟨congrArg (List.cons (v, d)) h1, h2, .fz h3⟩
  | _, _, _, dvs, dds, .fz f, h => by
    obtain ⟨h1, h2, h3⟩ := lentP_dd f h
    exact ⟨congrArg (List.cons _) h1, h2, .fz h3⟩
  | _, _, _, dvs, dds, .pl e f, h => by
    obtain ⟨h1, h2, h3⟩ := lentP_dd f h
    exact ⟨h1, congrArg (List.cons _) h2, .pl e h3⟩
def wCallD (M : MC) (n m : Nat) (ix : List Nat) (np : Nat) (dds : List D) (lb : List Bool) (io : List Nat) (sp : DSp) (wa wk : WA) : WE := fun ρ X Q => wa ρ X fun rs ρ1 => wk ρ1 X fun qs ρ2 => rs.length = n ∧ qs.length = m ∧ ∃ q, lend ρ2 lb (rs ++ qs) = some q ∧ (pick ix (q.1 ++ dds.map T.fz)).length = np ∧
  ∀ M', Mext M M' → sp M' (pick ix (q.1 ++ dds.map T.fz)) (fun r ts' => ∃ ρ', giveb q.2.2 (pick io (pick ix (q.2.1 ++ dds.map fun _ => none))) ts' = some ρ' ∧ Q r ρ') fun e ts' => ∃ ρ', giveb q.2.2 (pick io (pick ix (q.2.1 ++ dds.map fun _ => none))) ts' = some ρ' ∧ X e ρ'
theorem call_allD {K : PySem.W.Frag} {m : Nat} (hix : ix.Nodup) (hdd : ∀ O H, DAll K O H dvs dds) : ∀ σ H Q, tD K M E (wCallD M n m ix np dds lb io sp wa wk) σ H Q → tCallGd E n m ix dvs (spD K np io sp) (tDA K M E wa) (tDA K M E wk) σ H Q := by
  rintro σ H Q ⟨G, ρ, Xd, Qd, R, L, w, kk⟩
  refine ⟨G, ρ, Xd, _, R, L, w, fun ρ1 vs H1 rs R1 h1 w1 => ?_⟩
  refine ⟨G.holds vs rs, ρ1, Xd, _, R1, L.holds, w1, fun ρ2 zs H2 qs R2 h2 ⟨l1, l2, ⟨ts, bs, ρ3⟩, g, hl, w2⟩ => ?_⟩
  refine ⟨h1.length.trans l1, h2.length.trans l2, ?_⟩
  rw [holds_append h1.length] at R2
  obtain ⟨R3, fm⟩ := R2.lend (h1.append h2) g
  have R3 : Rel K M (G.plus (lentP (vs ++ zs) ts bs) (lentH (vs ++ zs) ts bs)) ρ3 σ H2 := R3
  have fm : Forms (vs ++ zs) ts bs := fm
  obtain ⟨e1, e2, fm2⟩ := lentP_dd (dds := dds) fm (hdd (fun _ => False) H2).length
  refine call_core hix L kk (ts := ts ++ dds.map T.fz) (bs := bs ++ dds.map fun _ => none) ?_ fm2 hl w2
  rw [e1, e2]
  refine ⟨R3.slot, R3.nd, R3.own, R3.base, R3.mi, fun q hq => ?_, R3.hid, R3.len⟩
  rcases List.mem_append.mp hq with hq | hq
  · rcases List.mem_append.mp hq with hq | hq
    · exact R3.pin q (List.mem_append_left _ hq)
    · exact DAll.zmem (hdd _ _) q hq
  · exact R3.pin q (List.mem_append_right _ hq)
theorem pd_callD (F : FnG X.prog X.w X.K X.mg X.base k f fd ps (spD X.K np io sp)) (hix : ix.Nodup) (hdd : ∀ O H, DAll X.K O H dvs dds) (hG : X.A.guards = some []) (hr : Room k X.A) (tkx : Takes X E) (hb : KBd X.K fd ps n ks ix dvs) (hk : PySem.W.keepIn X.K (.ref f) = true) (hm : X.mg x = some (.ref f)) (hg : Gl X x)
    (ha : PA X (e :: es) (tDA X.K M E wa)) (hkw : PK X kws (tDA X.K M E wk)) (hall : (backToKw pos (keywordEach kws X.env)).all (·.1.isSome) = true := by rfl) (hks : (backToKw pos (keywordEach kws X.env)).filterMap (·.1) = ks := by rfl)
    (hdb : (x == ("__debug__" : Str)) = false := by decide) (he : starEach (e :: es) X.env = (false, eval e X.env) :: starEach es X.env := by rfl)
    (hpl : ((backTo pos (starEach (e :: es) X.env)).any (·.1) || (backToKw pos (keywordEach kws X.env)).any (·.1.isNone)) = false := by rfl) {m : Nat} (hlen : ks.length = m := by rfl) : PE X (.Call (.Name x p) (e :: es) kws pos) (tD X.K M E (wCallD M n m ix np dds lb io sp wa wk)) := by
  subst hlen
  exact PE.weak (pe_callGd F hG hr tkx hb hk hm hg ha hkw hall hks hdb he hpl) (call_allD hix hdd)
end
section
variable {ρ : Rho} {X : XD} {Q : Rs → Rho → Prop}
@[simp ↓] theorem e_wCallD {M : MC} {n m np : Nat} {ix io : List Nat} {dds : List D} {lb : List Bool} {sp : DSp} {a k : WA} : wCallD M n m ix np dds lb io sp a k ρ X Q = a ρ X fun rs ρ1 => k ρ1 X fun qs ρ2 => rs.length = n ∧ qs.length = m ∧ bindP (lend ρ2 lb (rs ++ qs)) fun q => (pick ix (q.1 ++ dds.map T.fz)).length = np ∧
    callP M sp (pick ix (q.1 ++ dds.map T.fz)) (fun r ts => bindP (giveb q.2.2 (pick io (pick ix (q.2.1 ++ dds.map fun _ => none))) ts) fun ρ' => Q r ρ') fun e ts => bindP (giveb q.2.2 (pick io (pick ix (q.2.1 ++ dds.map fun _ => none))) ts) fun ρ' => X e ρ' := nre rfl
end
end El

set_option Elab.async false
set_option linter.all false
set_option maxRecDepth 100000
set_option maxHeartbeats 4000000
/-! EW: methods of texts: split, join. -/
namespace El
open PySem PySem.Spec L2 PyProof.Rows

def asStrs : List D → Option (List Str)
  | [] => some []
  | .str i :: ds => (asStrs ds).map fun is => i :: is
  | _ :: _ => none
theorem asStrs_map : ∀ is : List Str, asStrs (is.map D.str) = some is
  | [] => rfl
  | i :: is => by show (asStrs (is.map D.str)).map _ = _; rw [asStrs_map is]; rfl
theorem asStrs_eq : ∀ {ds : List D} {is : List Str}, asStrs ds = some is → ds = is.map D.str
  | [], _, h => by cases h; rfl
  | d :: ds, is, h => by
    cases d with
    | str i =>
      unfold asStrs at h
      obtain ⟨js, h1, h2⟩ := Option.map_eq_some_iff.mp h
      cases h2
      rw [asStrs_eq h1]; rfl
    | _ => cases h
theorem DAll.strs2 {K : PySem.W.Frag} {O : Addr → Prop} {H : Hp} : ∀ {xs : List V} {is : List Str}, DAll K O H xs (is.map D.str) → xs = is.map V.str
  | _, [], h => by cases h; rfl
  | _, i :: is, h => by
    cases h with
    | cons a t => cases a; rw [DAll.strs2 t]; rfl
theorem DAll.ofStrs2 {K : PySem.W.Frag} {O : Addr → Prop} {H : Hp} : ∀ is : List Str, DAll K O H (is.map V.str) (is.map D.str)
  | [] => .nil
  | i :: is => .cons (.str i) (DAll.ofStrs2 is)
/-- x.split(y) -/
def oSplit (d e : D) (k : Os → Prop) : Prop := match d, e with
  | .str a, .str b => (b.length == 0) = false ∧ a.length + 2 ≤ sizeLine ∧ k (.new (.lst ((Txt.split a b).map D.str)))
  | _, _ => False
def rSplit : V → List V → Hp → VK → Prop := fun x xs H Q => ∃ a b, x = .str a ∧ xs = [.str b] ∧ (b.length == 0) = false ∧ a.length + 2 ≤ sizeLine ∧ rNewStrs (Txt.split a b) H Q
theorem od_split {K : PySem.W.Frag} : OpD K (fun x y H Q => rSplit x [y] H Q) oSplit := by
  intro O H v w d e Q k hf hv hw ho post
  cases d with
  | str a =>
    cases e with
    | str b =>
      obtain ⟨h1, h2, h3⟩ := ho
      exact ⟨a, b, hv.str, by rw [hw.str], h1, h2, fun p hp => post _ _ _ (out_l hp (DAll.ofStrs2 _)) h3⟩
    | _ => exact ho.elim
  | _ => exact ho.elim
/-- x.join(y) -/
def oJoin (d e : D) (k : Os → Prop) : Prop := match d, e with
  | .str a, .lst ds => ∃ ys, asStrs ds = some ys ∧ (ys.map (·.length)).sum + ys.length * a.length ≤ 16777216 ∧ k (.val (.str (Txt.join a ys)))
  | _, _ => False
def rJoin (K : PySem.W.Frag) : V → List V → Hp → VK → Prop := fun x xs H Q => ∃ a p, ∃ ys : List Str, x = .str a ∧ xs = [.ref p] ∧ (SqL K H p (ys.map V.str) ∨ SqT K H p (ys.map V.str)) ∧
    (ys.map (·.length)).sum + ys.length * a.length ≤ 16777216 ∧ Q (.str (Txt.join a ys)) H
theorem od_join {K : PySem.W.Frag} : OpD K (fun x y H Q => rJoin K x [y] H Q) oJoin := by
  intro O H v w d e Q k hf hv hw ho post
  cases d with
  | str a =>
    cases e with
    | lst ds =>
      obtain ⟨ys, h1, h2, h3⟩ := ho
      obtain rfl := asStrs_eq h1
      obtain ⟨p, xs, rfl, g, t⟩ := hw.lst
      obtain rfl := DAll.strs2 t
      exact ⟨a, p, ys, hv.str, rfl, .inl (SqL.of g), h2, post _ _ _ (out_v (.str _)) h3⟩
    | _ => exact ho.elim
  | _ => exact ho.elim
section
variable {X : Cx} {M : MC} {E : WX} {wa wb : WE} {o e : Expr} {apos cpos : Pos}
theorem pd_split (ho : PE X o (tD X.K M E wa)) (he : PE X e (tD X.K M E wb))
    (hbase : attributeBase o "split" X.env (eval o X.env) = eval o X.env := by rfl)
    (hfew : ((backTo cpos (starEach [e] X.env)).all (fun x => !x.1) && (backToKw cpos (keywordEach [] X.env)).all (fun x => x.1.isSome)
      && decide (([e] : List Expr).length + ([] : List Keyword).length + (if ([] : List Keyword).isEmpty then 0 else 1) < 30)) = true := by rfl)
    (hline : (apos.endLine == cpos.line) = true := by rfl) (hs : starEach [e] X.env = (false, eval e X.env) :: starEach [] X.env := by rfl) (hplain : (backTo cpos (starEach [] X.env)).any (·.1) = false := by rfl) :
    PE X (.Call (.Attribute o "split" apos) [e] [] cpos) (tD X.K M E (wMt .str oSplit wa wb)) :=
  pd_mt (t := .str) mt_split od_split PySem.F.plainAttrs_str PySem.F.slot_str_split PySem.F.type_str_split ho he rfl hbase hfew hline hs hplain
theorem pd_join (ho : PE X o (tD X.K M E wa)) (he : PE X e (tD X.K M E wb))
    (hbase : attributeBase o "join" X.env (eval o X.env) = eval o X.env := by rfl)
    (hfew : ((backTo cpos (starEach [e] X.env)).all (fun x => !x.1) && (backToKw cpos (keywordEach [] X.env)).all (fun x => x.1.isSome)
      && decide (([e] : List Expr).length + ([] : List Keyword).length + (if ([] : List Keyword).isEmpty then 0 else 1) < 30)) = true := by rfl)
    (hline : (apos.endLine == cpos.line) = true := by rfl) (hs : starEach [e] X.env = (false, eval e X.env) :: starEach [] X.env := by rfl) (hplain : (backTo cpos (starEach [] X.env)).any (·.1) = false := by rfl) :
    PE X (.Call (.Attribute o "join" apos) [e] [] cpos) (tD X.K M E (wMt .str oJoin wa wb)) :=
  pd_mt (t := .str) mt_join od_join PySem.F.plainAttrs_str PySem.F.slot_str_join PySem.F.type_str_join ho he rfl hbase hfew hline hs hplain
end
section
variable {k : Os → Prop}
@[simp ↓] theorem o_split {a b : Str} : opP oSplit (.str a) (.str b) k = ((b.length == 0) = false ∧ a.length + 2 ≤ sizeLine ∧ k (.new (.lst ((Txt.split a b).map D.str)))) := nre rfl
@[simp ↓] theorem o_join {a : Str} {ds : List D} : opP oJoin (.str a) (.lst ds) k = bindP (asStrs ds) fun ys => (ys.map (·.length)).sum + ys.length * a.length ≤ 16777216 ∧ k (.val (.str (Txt.join a ys))) := nre rfl
@[simp] theorem i_str {x : Str} : itemsD (.str x) = some (x.cps.toList.map fun c => D.str ⟨#[c]⟩) := nre rfl
@[simp ↓] theorem o_ixS {x : Str} {i : Int} : opP oIx (.str x) (.int i) k = (x.length ≤ 16777216 ∧ bindP (atI x.cps.toList i) fun c => k (.val (.str ⟨#[c]⟩))) := nre rfl
@[simp ↓] theorem o_getS {x : Str} {i : Int} : opP oGet (.str x) (.int i) k = (x.length ≤ 16777216 ∧ bindP (atI x.cps.toList i) fun c => k (.val (.str ⟨#[c]⟩))) := nre rfl
@[simp] theorem asStrs_m {is : List Str} : asStrs (is.map D.str) = some is := asStrs_map is
end
end El

set_option Elab.async false
set_option linter.all false
set_option maxRecDepth 100000
set_option maxHeartbeats 4000000
/-! EX: methods of texts that take nothing. -/
namespace El
open PySem PySem.Spec L2 PyProof.Rows

def oStrip (d : D) (k : Os → Prop) : Prop := match d with
  | .str a => a.length ≤ sizeLine ∧ k (.val (.str (Txt.strip a)))
  | _ => False
def rStrip : V → List V → Hp → VK → Prop := fun x xs H Q => ∃ a, x = .str a ∧ xs = [] ∧ a.length ≤ sizeLine ∧ Q (.str (Txt.strip a)) H
theorem ud_strip {K : PySem.W.Frag} : UnD K (fun x H Q => (∃ a, x = .str a) ∧ rStrip x [] H Q) oStrip := by
  intro O H v d Q k hf hv ho post
  cases d with
  | str a =>
    obtain ⟨h1, h3⟩ := ho
    exact ⟨⟨a, hv.str⟩, a, hv.str, rfl, h1, post _ _ _ (out_v (.str _)) h3⟩
  | _ => exact ho.elim
section
variable {X : Cx} {M : MC} {E : WX} {wa : WE} {o : Expr} {apos pos : Pos}
theorem pd_strip (ho : PE X o (tD X.K M E wa)) (hbase : attributeBase o "strip" X.env (eval o X.env) = eval o X.env := by rfl) (hline : (apos.endLine == pos.line) = true := by rfl) :
    PE X (.Call (.Attribute o "strip" apos) [] [] pos) (tD X.K M E (wUn oStrip wa)) := PE.weak (pe_strip ho hbase hline) (un_all ud_strip)
end
@[simp ↓] theorem o_strip {a : Str} {k : Os → Prop} : unP oStrip (.str a) k = (a.length ≤ sizeLine ∧ k (.val (.str (Txt.strip a)))) := nre rfl
end El

set_option Elab.async false
set_option linter.all false
set_option maxRecDepth 100000
set_option maxHeartbeats 4000000
/-! EY: parts that stay own: read by their places, stored, kept in displays. -/
namespace El
open PySem L2
/-! ### an own container, its parts as trees -/
def T.open : T → T
  | .top p (.lst ds) => .lst p (ds.map .fz)
  | .top p (.dic m ks ds) => .dic p m ks (ds.map .fz)
  | t => t
theorem cnts_fz {a : Addr} : ∀ ds : List D, T.cnts a (ds.map .fz) = 0
  | [] => rfl
  | d :: ds => by
    show 0 + T.cnts a (ds.map .fz) = 0
    rw [cnts_fz ds]
theorem TAll.of_fz {K : PySem.W.Frag} {O : Addr → Prop} {H : Hp} : ∀ {vs : List V} {ds : List D}, DAll K O H vs ds → TAll K O H vs (ds.map .fz)
  | _, _, .nil => .nil
  | _, _, .cons a b => .cons (.fz a) (TAll.of_fz b)
theorem T.open_cnt {a : Addr} (t : T) : t.open.cnt a = t.cnt a := by
  unfold T.open
  split
  · show one _ a + T.cnts a _ = one _ a
    rw [cnts_fz]; rfl
  · show one _ a + T.cnts a _ = one _ a
    rw [cnts_fz]; rfl
  · rfl
theorem T.open_root (t : T) : t.open.root = t.root := by
  unfold T.open
  split <;> rfl
theorem TAt.opn {K : PySem.W.Frag} {O : Addr → Prop} {H : Hp} {v : V} {t : T} (h : TAt K O H v t) : TAt K O H v t.open := by
  unfold T.open
  split
  · cases h with
    | top e k =>
      rename_i o
      cases o with
      | lst xs => exact .lst e (TAll.of_fz k)
      | _ => exact k.elim
  · rename_i p m ks ds
    cases h with
    | top e k =>
      rename_i o
      cases m with
      | false =>
        cases o with
        | dK kvs => exact .dk e k.1 (TAll.of_fz k.2)
        | dT kvs => exact k.elim
        | _ => exact k.elim
      | true =>
        cases o with
        | dT kvs => exact .dt e k.1 (TAll.of_fz k.2)
        | dK kvs => exact k.elim
        | _ => exact k.elim
  · exact h
/-! ### parts: let go, or kept -/
def partP (keep : Bool) (ρ : Rho) (r : Rs) (k : T → Rho → Prop) : Prop := match keep with
  | false => ∃ d ρ', r.out ρ = some (d, ρ') ∧ k (.fz d) ρ'
  | true => match r with
    | .val d => k (.fz d) ρ
    | .new t => k t ρ
    | .nw d => ∀ p, k (.top p d) ρ
    | .pth i π p => ∃ s, nodeR ρ i π p = some s ∧ k s (putN ρ i π (.fz (.ref p)))
def partsP : List Bool → Rho → List Rs → (List T → Rho → Prop) → Prop
  | _, ρ, [], k => k [] ρ
  | bs, ρ, r :: rs, k => partsP bs.tail ρ rs fun ts ρ1 => partP (bs.headD false) ρ1 r fun t ρ2 => k (t :: ts) ρ2
section
variable {K : PySem.W.Frag} {M : MC} {G : Gd} {ρ ρ' : Rho} {σ : St} {H H' : Hp} {v : V} {r : Rs} {vs : List V} {rs : List Rs}
theorem Rel.hideFz (R : Rel K M G ρ σ H) {d : D} (h : DAt K (Own M G ρ) H v d) : Rel K M (G.hide v (.fz d)) ρ σ H := by
  refine R.plus (fun _ _ _ e => e) (fun _ _ e => e) R.mi (fun a z => absurd z (Nat.lt_irrefl 0)) (fun a => Nat.zero_le 1) (.fz (h.stay ⟨fun a o n e => ⟨fun z => z.elim n fun z => absurd z (Nat.lt_irrefl 0), .inl e⟩, fun _ _ e => e⟩))
theorem Rel.part {keep : Bool} {k : T → Rho → Prop} (R : Rel K M (G.hold v r) ρ σ H) (h : RsOk v r) (hp : partP keep ρ r k) : ∃ u ρ', k u ρ' ∧ Rel K M (G.hide v u) ρ' σ H := by
  cases keep with
  | false =>
    obtain ⟨d, ρ', g, q⟩ := hp
    obtain ⟨h1, R1⟩ := R.out h g
    exact ⟨_, _, q, R1.hideFz h1⟩
  | true =>
    cases r with
    | val d =>
      obtain ⟨R1, h1⟩ := Rel.unpin R
      exact ⟨_, _, hp, R1.hideFz h1⟩
    | new t => exact ⟨_, _, hp, R⟩
    | nw d =>
      obtain ⟨p, rfl⟩ := h
      exact ⟨_, _, hp p, R⟩
    | pth i π p =>
      obtain ⟨s, g, q⟩ := hp
      obtain ⟨t, e1, e2, e3, e4⟩ := nodeR_of g
      have h : v = .ref p := h
      subst h
      refine ⟨s, _, q, ?_⟩
      rw [e4]
      exact Rel.take R e1 e2 e3
theorem hold_plus {ps : List (V × D)} {hs : List (V × T)} (R : Rel K M ((G.hold v r).plus ps hs) ρ σ H) : Rel K M ((G.plus ps hs).hold v r) ρ σ H := by
  have sw : ∀ (w : V) (t : T), Rel K M ((G.hide w t).plus ps hs) ρ σ H → Rel K M ((G.plus ps hs).hide w t) ρ σ H := fun w t R => by
    refine R.perm rfl rfl (fun _ h => h) (fun a => ?_) fun q hq => ?_
    · show t.cnt a + cH a (hs ++ G.hid) = cH a (hs ++ (w, t) :: G.hid)
      rw [cH_append, cH_append]
      simp only [cH]
      omega
    · rcases List.mem_cons.mp hq with e | hq
      · exact List.mem_append_right _ (List.mem_cons.mpr (.inl e))
      · exact (List.mem_append.mp hq).elim (List.mem_append_left _) fun z => List.mem_append_right _ (List.mem_cons_of_mem _ z)
  cases r with
  | val d =>
    refine R.perm rfl rfl (fun q hq => ?_) (fun _ => rfl) fun _ h => h
    rcases List.mem_cons.mp hq with e | hq
    · exact List.mem_append_right _ (List.mem_cons.mpr (.inl e))
    · exact (List.mem_append.mp hq).elim (List.mem_append_left _) fun z => List.mem_append_right _ (List.mem_cons_of_mem _ z)
  | pth i π p => exact R
  | new t => exact sw v t R
  | nw d =>
    cases v with
    | ref p => exact sw _ _ R
    | _ => exact R
theorem Rel.plus0 (R : Rel K M G ρ σ H) : Rel K M (G.plus [] []) ρ σ H := R
theorem Rel.parts : ∀ {rs : List Rs} {vs : List V} {bs : List Bool} {G : Gd} {ρ : Rho} {k : List T → Rho → Prop}, Rel K M (G.holds vs rs) ρ σ H → RsOks vs rs → partsP bs ρ rs k →
    ∃ ts ρ', k ts ρ' ∧ vs.length = ts.length ∧ Rel K M (G.plus [] (vs.zip ts)) ρ' σ H
  | [], _, bs, G, ρ, k, R, .nil, h => ⟨[], ρ, h, rfl, R⟩
  | r :: rs, v :: vs, bs, G, ρ, k, R, h0, h => by
    cases h0 with
    | cons h1 h2 =>
      obtain ⟨ts, ρ1, q, hl, R1⟩ := Rel.parts (G := G.hold v r) (bs := bs.tail) R h2 h
      obtain ⟨t, ρ2, q2, R2⟩ := Rel.part (hold_plus R1) h1 q
      exact ⟨t :: ts, ρ2, q2, congrArg (· + 1) hl, R2⟩
/-! ### making, writing -/
/-- a new object of parts in hand -/
theorem Rel.mk' {hs : List (V × T)} {p : Addr} {o : HO} {t : T} (R : Rel K M (G.plus [] hs) ρ σ H) (hp : H p = none) (c : ∀ a, t.cnt a = one p a + cH a hs)
    (ta : ∀ O', (∀ q ∈ hs, TAt K O' (upd H p o) q.1 q.2) → TAt K O' (upd H p o) (.ref p) t) : Rel K M (G.hide (.ref p) t) ρ σ (upd H p o) := by
  have eH : ∀ a, cH a (G.plus [] hs).hid = cH a hs + cH a G.hid := fun a => cH_append _ _
  have np : cR p ρ + cH p (G.plus [] hs).hid = 0 := Nat.eq_zero_of_not_pos fun z => R.alive z hp
  have own : ∀ a, Own M (G.hide (.ref p) t) ρ a ↔ Own M (G.plus [] hs) ρ a ∨ p = a := fun a => by
    show (M.O a ∨ 0 < cR a ρ + (t.cnt a + cH a G.hid)) ↔ ((M.O a ∨ 0 < cR a ρ + cH a (G.plus [] hs).hid) ∨ p = a)
    rw [eH, c]
    by_cases e : p = a
    · subst e; rw [one_self]
      exact ⟨fun _ => .inr rfl, fun _ => .inr (by omega)⟩
    · rw [one_ne e]
      constructor
      · rintro (h | h)
        · exact .inl (.inl h)
        · exact .inl (.inr (by omega))
      · rintro ((h | h) | h)
        · exact .inl h
        · exact .inr (by omega)
        · exact absurd h e
  have st : Stay (Own M (G.plus [] hs) ρ) (Own M (G.hide (.ref p) t) ρ) H (upd H p o) := ⟨fun a u n e => by
    have ne := ne_of_none e hp
    exact ⟨fun z => ((own a).mp z).elim n fun z => ne z.symm, .inl (by rw [upd_ne ne]; exact e)⟩, fun a xs e => by rw [upd_ne (ne_of_none e hp)]; exact e⟩
  have al : ∀ a, 0 < cR a ρ + cH a (G.plus [] hs).hid → upd H p o a = H a := fun a z => upd_ne fun e => by subst e; omega
  have hid : ∀ q ∈ hs ++ G.hid, TAt K (Own M (G.hide (.ref p) t) ρ) (upd H p o) q.1 q.2 := fun q hq => (R.hid q hq).stay st fun a z => al a (by have : q.2.cnt a ≤ cH a (G.plus [] hs).hid := cH_mem hq; omega)
  refine ⟨fun i u e => ?_, fun a => ?_, fun a z => ?_, ⟨fun a u n i e => ?_, fun a xs e => st.2 a xs (R.base.2 a xs e)⟩, M.loc H _ (fun a z => upd_ne fun e => M.al H a R.mi z (e ▸ hp)) R.mi, fun q hq => (R.pin q hq).stay st, fun q hq => ?_, R.len⟩
  · obtain ⟨v, h1, h2⟩ := R.slot i u e
    exact ⟨v, h1, h2.stay st fun a z => al a (by have : cO a (some u) ≤ _ := cR_get e; have : u.cnt a ≤ cR a ρ := this; omega)⟩
  · show cR a ρ + (t.cnt a + cH a G.hid) ≤ 1
    have := R.nd a
    rw [eH] at this
    rw [c]
    by_cases e : p = a
    · subst e
      rw [eH] at np
      rw [one_self]; omega
    · rw [one_ne e]; omega
  · have z : 0 < cR a ρ + (t.cnt a + cH a G.hid) := z
    rw [c] at z
    by_cases e : p = a
    · subst e
      exact ⟨R.fresh0 hp, fun x => M.al H p R.mi x hp⟩
    · rw [one_ne e] at z
      exact R.own a (by rw [eH]; omega)
  · have z := R.base.1 a u n i e
    rw [upd_ne (fun q => z.some (q ▸ hp) : a ≠ p)]; exact z
  · rcases List.mem_cons.mp hq with e | hq
    · subst e
      exact ta _ fun q hq => hid q (List.mem_append_left _ hq)
    · exact hid q (List.mem_append_right _ hq)
/-- an own object is written, what is in hand comes into it -/
theorem Rel.write {u t t' : T} {i : Nat} {π : List Stp} {p : Addr} {o : HO} (R : Rel K M (G.hide v u) ρ σ H) (ho : ∃ x, H p = some x ∧ ∀ xs, x ≠ .tup xs) (hn : nodeR ρ i π p = some t) (c : ∀ a, t'.cnt a ≤ t.cnt a + u.cnt a)
    (ta : ∀ O O', Stay O O' H (upd H p o) → TAt K O H (.ref p) t → (∀ a, t.cnt a ≤ 1) → TAt K O' (upd H p o) v u → TAt K O' (upd H p o) (.ref p) t') : Rel K M G (putN ρ i π t') σ (upd H p o) := by
  obtain ⟨tt, e1, e2, e3, e4⟩ := nodeR_of hn
  rw [e4]
  have hl : i < ρ.length := (List.getElem?_eq_some_iff.mp e1).1
  have cp : ∀ a, (tt.put π t').cnt a + t.cnt a = tt.cnt a + t'.cnt a := fun a => T.put_cnt e2
  have le : ∀ a, t.cnt a ≤ tt.cnt a := fun a => T.at_cnt e2
  have root : ∀ {s : T}, s.root = some p → 0 < s.cnt p := fun {s} e => by
    cases s <;> cases e <;> simp [T.cnt, one_self] <;> omega
  have tp : 0 < t.cnt p := root e3
  have nd : ∀ a, cR a ρ + (u.cnt a + cH a G.hid) ≤ 1 := R.nd
  have ler : ∀ a, tt.cnt a ≤ cR a ρ := fun a => cR_get (a := a) e1
  have up : ∀ a, 0 < u.cnt a → upd H p o a = H a := fun a z => upd_ne fun e => by
    subst e
    have := nd a; have := ler a; have := le a
    omega
  have ce : ∀ a, cR a (ρ.set i (some (tt.put π t'))) + tt.cnt a = cR a ρ + (tt.put π t').cnt a := fun a => cR_set e1
  have op : Own M (G.hide v u) ρ p := .inr (show 0 < cR p ρ + (u.cnt p + cH p G.hid) by have := ler p; have := le p; omega)
  have sub : ∀ a, Own M G (ρ.set i (some (tt.put π t'))) a → Own M (G.hide v u) ρ a := fun a z => by
    rcases z with z | z
    · exact .inl z
    · refine .inr (show 0 < cR a ρ + (u.cnt a + cH a G.hid) from ?_)
      have := ce a; have := cp a; have := c a; have := le a; have := ler a
      omega
  have kt : ∀ a xs, H a = some (.tup xs) → upd H p o a = some (.tup xs) := fun a xs e => by
    by_cases q : a = p
    · subst q
      obtain ⟨x, h1, h2⟩ := ho
      rw [e] at h1; cases h1
      exact absurd rfl (h2 xs)
    · rw [upd_ne q]; exact e
  have st : Stay (Own M (G.hide v u) ρ) (Own M G (ρ.set i (some (tt.put π t')))) H (upd H p o) := ⟨fun a x n e => ⟨fun z => n (sub a z), .inl (by
    rw [upd_ne (fun q => n (by rw [q]; exact op) : a ≠ p)]; exact e)⟩, kt⟩
  refine R.chg e1 (fun a => by have := cp a; have := c a; have := le a; omega) (fun a z => upd_ne fun e => ?_) kt fun w h1 h2 => ?_
  · subst e
    have := le a
    omega
  · refine h1.put st e2 (fun x hx => ?_) (fun a => by have := nd a; have := ler a; omega) fun a z y => upd_ne fun e => ?_
    · obtain rfl := hx.root e3
      exact ta _ _ st hx (fun a => by have := nd a; have := ler a; have := le a; omega) (h2.stay st up)
    · subst e; omega
end
end El

set_option Elab.async false
set_option linter.all false
set_option maxRecDepth 100000
set_option maxHeartbeats 4000000
/-! EZ: x[y], x[y] = z, x.append(y), displays, where parts stay own. -/
namespace El
open PySem L2
/-! ### x[y] -/
def stepD : T → D → Option Stp
  | .lst _ ts, .int j => (ixN ts.length j).map .idx
  | .tup _ ts, .int j => (ixN ts.length j).map .idx
  | .dic _ false _ _, e => (key1 e).map fun k => .key (.one k)
  | _, _ => none
def kidD (t : T) (e : D) : Option (Stp × T) := (stepD t e).bind fun s => (t.kid s).map fun u => (s, u)
def rsNew : T → Rs
  | .fz d => .val d
  | t => .new t
/-- what x[y] tells, f: of a part -/
def getK (t : T) (e : D) (f : Stp × T → Rs) (k : Rs → Prop) (_ : Tag k := ⟨⟩) : Prop := match t.dat with
  | some d => oGet d e fun c => k c.rs
  | none => ∃ q, kidD t e = some q ∧ k (f q)
def getP (ρ : Rho) (r : Rs) (e : D) (k : Rs → Prop) (_ : Tag k := ⟨⟩) : Prop := match r with
  | .pth i π p => ∃ t, nodeR ρ i π p = some t ∧ getK t e (fun q => rsOf i (π ++ [q.1]) q.2) k
  | .new t => getK t e (fun q => rsNew q.2) k
  | .val d => oGet d e fun c => k c.rs
  | .nw d => oGet d e fun c => k c.rs
def wGet (wa wb : WE) : WE := fun ρ X Q => wa ρ X fun ra ρ1 => wb ρ1 X fun rb ρ2 => bindP (rb.get ρ2) fun e => getP ρ2 ra e fun r => Q r ρ2
section
variable {K : PySem.W.Frag} {M : MC} {G : Gd} {ρ ρ' : Rho} {σ : St} {H H' : Hp} {v : V} {r : Rs} {vs : List V} {rs : List Rs}
/-- a part of what is in hand, all else let go -/
theorem Rel.subT {x : V} {t u : T} (R : Rel K M (G.hide x t) ρ σ H) (h : TAt K (Own M (G.hide x t) ρ) H v u) (c : ∀ a, u.cnt a ≤ t.cnt a) : Rel K M (G.hide v u) ρ σ H := by
  have st : Stay (Own M (G.hide x t) ρ) (Own M (G.hide v u) ρ) H H := stay_sub fun a z => own_hide.mpr ((own_hide.mp z).elim .inl fun z => .inr (by have := c a; omega))
  have nd : ∀ a, cR a ρ + (t.cnt a + cH a G.hid) ≤ 1 := R.nd
  refine ⟨fun i w e => ?_, fun a => ?_, fun a z => ?_, R.base, R.mi, fun q hq => (R.pin q hq).stay st, fun q hq => ?_, R.len⟩
  · obtain ⟨y, h1, h2⟩ := R.slot i w e
    exact ⟨y, h1, h2.stay st fun _ _ => rfl⟩
  · show cR a ρ + (u.cnt a + cH a G.hid) ≤ 1
    have := nd a; have := c a; omega
  · have z : 0 < cR a ρ + (u.cnt a + cH a G.hid) := z
    exact R.own a (show 0 < cR a ρ + (t.cnt a + cH a G.hid) by have := c a; omega)
  · rcases List.mem_cons.mp hq with e | hq
    · subst e; exact h.stay st fun _ _ => rfl
    · exact (R.hid q (List.mem_cons_of_mem _ hq)).stay st fun _ _ => rfl
theorem Rel.rsNew {u : T} (R : Rel K M (G.hide v u) ρ σ H) : Rel K M (G.hold v (El.rsNew u)) ρ σ H ∧ RsOk v (El.rsNew u) := by
  cases u with
  | fz d =>
    obtain ⟨R1, h⟩ := R.unhide
    exact ⟨R1.pinned h, trivial⟩
  | _ => exact ⟨R, trivial⟩
theorem posOf_lt {α : Type} [DecidableEq α] : ∀ {l : List α} {y : α} {n : Nat}, posOf l y = some n → l[n]? = some y
  | [], _, _, h => by cases h
  | x :: xs, y, n, h => by
    unfold posOf at h
    split at h
    · rename_i e; cases h; exact congrArg some e
    · obtain ⟨m, h1, h2⟩ := Option.map_eq_some_iff.mp h
      subst h2
      have h3 := posOf_lt h1
      simpa using h3
theorem posOf_val {κ : Type} [DecidableEq κ] {f : κ → DK} (inj : ∀ a b, f a = f b → a = b) (k : κ) : ∀ {kvs : List (κ × V)} {n : Nat} {w : V}, posOf (kvs.map fun q => f q.1) (f k) = some n → (kvs.map (·.2))[n]? = some w → valV kvs k = some w
  | [], _, _, h, _ => by cases h
  | q :: kvs, n, w, h, g => by
    simp only [List.map_cons] at h g
    unfold posOf at h
    by_cases e : q.1 = k
    · rw [if_pos (congrArg f e)] at h
      cases h
      cases g
      exact valV_pos e
    · rw [if_neg fun z => e (inj _ _ z)] at h
      obtain ⟨m, h1, rfl⟩ := Option.map_eq_some_iff.mp h
      rw [valV_neg e]
      exact posOf_val inj k h1 g
/-- a part is read -/
theorem TAt.part {O O' : Addr → Prop} {x y : V} {t u : T} {e : D} {s : Stp} {Q : VK} (h : TAt K O H x t) (hk : kidD t e = some (s, u)) (hy : BAt K O' H y e) (q : ∀ w, TAt K O H w u → Q w H) : rIxA K x y H Q := by
  obtain ⟨s', h1, h2⟩ := Option.bind_eq_some_iff.mp hk
  obtain ⟨u', h3, h4⟩ := Option.map_eq_some_iff.mp h2
  cases h4
  obtain ⟨i, h4, h5⟩ := T.kid_some h3
  cases h with
  | lst hp ha =>
    cases e with
    | int j =>
      obtain ⟨n, hn, e2⟩ := Option.map_eq_some_iff.mp h1
      cases e2
      cases h4
      obtain ⟨w, g1, g2⟩ := ha.get h5
      refine .inl (.inl ⟨_, _, _, w, rfl, hy.int, SqL.of hp, ?_, q w g2⟩)
      unfold atI
      rw [ha.length, hn]
      exact g1
    | _ => cases h1
  | tup hp ha =>
    cases e with
    | int j =>
      obtain ⟨n, hn, e2⟩ := Option.map_eq_some_iff.mp h1
      cases e2
      cases h4
      obtain ⟨w, g1, g2⟩ := ha.get h5
      refine .inl (.inr (.inl ⟨_, _, _, w, rfl, hy.int, SqT.of hp, ?_, q w g2⟩))
      unfold atI
      rw [ha.length, hn]
      exact g1
    | _ => cases h1
  | dk hp hks ha =>
    obtain ⟨k, hn, e2⟩ := Option.map_eq_some_iff.mp (show (key1 e).map _ = _ from h1)
    cases e2
    subst hks
    have h4 : posOf _ _ = some i := h4
    obtain ⟨w, g1, g2⟩ := ha.get h5
    obtain rfl := hy.key (key1_of hn)
    have g := DGet.k (k := k) hp
    rw [posOf_val (f := DK.one) (fun a b h => by cases h; rfl) k h4 g1] at g
    exact .inr ⟨_, w, rfl, g, q w g2⟩
  | _ => cases h1
theorem T.kid_cnt {a : Addr} {t u : T} {s : Stp} (h : t.kid s = some u) : u.cnt a ≤ t.cnt a := by
  obtain ⟨i, _, h2⟩ := T.kid_some h
  exact Nat.le_trans (cnts_get h2) (T.kids_cnt t)
theorem kidD_kid {t u : T} {e : D} {s : Stp} (h : kidD t e = some (s, u)) : t.kid s = some u := by
  obtain ⟨s', h1, h2⟩ := Option.bind_eq_some_iff.mp h
  obtain ⟨u', h3, h4⟩ := Option.map_eq_some_iff.mp h2
  cases h4
  exact h3
end
theorem bindP_of {α : Type} {o : Option α} {k : α → Prop} {t} (h : bindP o k t) : ∃ a, o = some a ∧ k a := h
section
variable {X : Cx} {M : MC} {E : WX} {a b : Expr} {pos : Pos} {wa wb : WE}
theorem getP_all {K : PySem.W.Frag} : ∀ σ H Q, tD K M E (wGet wa wb) σ H Q → tOp (rIxA K) (tD K M E wa) (tD K M E wb) σ H Q := by
  rintro σ H Q ⟨G, ρ, Xd, Qd, R, L, w, k⟩
  refine ⟨G, ρ, Xd, _, R, L, w, fun ρ1 x H1 ra R1 h1 w1 => ?_⟩
  refine ⟨G.hold x ra, ρ1, Xd, _, R1, L.hold, w1, fun ρ2 y H2 rb R2 h2 w2 => ?_⟩
  obtain ⟨e, g2, w3⟩ := bindP_of w2
  have by' := R2.get h2 g2
  have dat : ∀ d, BAt K (Own M ((G.hold x ra).hold y rb) ρ2) H2 x d → oGet d e (fun c => Qd c.rs ρ2) → rIxA K x y H2 Q := fun d b1 w =>
    od_get _ H2 x y d e Q _ (fun p hp => R2.fresh hp) b1 by' w fun H3 u c hx q => by
      obtain ⟨R3, h3⟩ := ROut.at R2.unhold.unhold (fun a z => own_hold (own_hold z)) hx
      exact k ρ2 u H3 _ R3 h3 q
  cases ra with
  | val d => exact dat d (R2.getH (Held.self h1).hold h1 rfl) w3
  | nw d => exact dat d (R2.getH (Held.self h1).hold h1 rfl) w3
  | new t =>
    replace w3 : getK t e (fun q => El.rsNew q.2) (fun r => Qd r ρ2) := w3
    unfold getK at w3
    split at w3
    · rename_i d hd
      exact dat d (R2.getH (Held.self h1).hold h1 hd) w3
    · obtain ⟨⟨s, u⟩, g, w4⟩ := w3
      have R3 : Rel K M (G.hide x t) ρ2 σ H2 := R2.unhold
      refine TAt.part (R3.hid (x, t) List.mem_cons_self) g by' fun w hw => ?_
      obtain ⟨R4, h4⟩ := (R3.subT hw fun a => T.kid_cnt (kidD_kid g)).rsNew
      exact k ρ2 w H2 _ R4 h4 w4
  | pth i π p =>
    obtain ⟨t, gn, w4⟩ := w3
    have h1 : x = .ref p := h1
    subst h1
    have R3 : Rel K M (G.hold y rb) ρ2 σ H2 := R2
    obtain ⟨ta, own⟩ := R3.node gn
    unfold getK at w4
    split at w4
    · rename_i d hd
      exact dat d (ta.bat own hd) w4
    · obtain ⟨⟨s, u⟩, g, w5⟩ := w4
      obtain ⟨ta, own⟩ := R3.unhold.node gn
      refine TAt.part ta g by' fun w hw => ?_
      obtain ⟨R4, h4⟩ := R3.unhold.rsOf i (π ++ [s]) hw
      exact k ρ2 w H2 _ R4 h4 w5
theorem pd_getP (hu : X.A.units + 1 < cLine) (ha : PE X a (tD X.K M E wa)) (hb : PE X b (tD X.K M E wb)) (hs : PlainIx b := by exact fun _ _ => rfl) : PE X (.Subscript a b pos) (tD X.K M E (wGet wa wb)) :=
  PE.weak (pe_ix (ix_seq.or (ix_dict hu)) ha hb hs) getP_all
end
/-! ### x[y] = z, x.append(z) -/
def rep1T : List DK → List T → DK → T → List T
  | k :: ks, v :: vs, k', v' => (if k = k' then v' else v) :: rep1T ks vs k' v'
  | _, _, _, _ => []
def hasK (ks : List DK) (k : DK) : Bool := ks.any fun x => decide (x = k)
def dputT (ks : List DK) (ts : List T) (k : DK) (u : T) : List DK × List T := if hasK ks k = true then (ks, rep1T ks ts k u) else (ks ++ [k], ts ++ [u])
def setO (t : T) (j : D) (u : T) : Option T := match t with
  | .lst p ts => match j with
    | .int j => (ixN ts.length j).map fun n => .lst p (ts.set n u)
    | _ => none
  | .dic p false ks ts => (key1 j).bind fun k => if ks.Nodup ∧ ts.length < 16777216 then some (.dic p false (dputT ks ts (.one k) u).1 (dputT ks ts (.one k) u).2) else none
  | _ => none
def setT (t : T) (j : D) (u : T) : Option T := match t, u with
  | .top p c, .fz d => (stD c j d).map (.top p)
  | t, u => setO t.open j u
def lenT : T → Option Nat
  | .top _ (.lst ds) => some ds.length
  | .lst _ ts => some ts.length
  | _ => none
def appT (t : T) (u : T) : Option T := match t, u with
  | .top p (.lst ds), .fz d => some (.top p (.lst (ds ++ [d])))
  | .top p (.lst ds), u => some (.lst p (ds.map .fz ++ [u]))
  | .lst p ts, u => some (.lst p (ts ++ [u]))
  | _, _ => none
def nodeA (ρ : Rho) : Rs → Option T
  | .pth i π p => nodeR ρ i π p
  | _ => none
def putT (ρ : Rho) (r : Rs) (t : T) : Rho := match r with
  | .pth i π p => putN ρ i π t
  | _ => ρ
/-- partP, the rest barred -/
def parP (keep : Bool) (ρ : Rho) (r : Rs) (k : T → Rho → Prop) (_ : Tag k := ⟨⟩) : Prop := partP keep ρ r k
def wsSetT (keep : Bool) (we wo wj : WE) : WS := fun ρ X D => we ρ X fun r ρ1 => wo ρ1 X fun s ρ2 => wj ρ2 X fun q ρ3 => bindP (q.get ρ3) fun j => parP keep ρ3 r fun u ρ4 => bindP (nodeA ρ4 s) fun t => bindP (setT t j u) fun t' => D.nx (putT ρ4 s t')
def wsAppT (keep : Bool) (wo we : WE) : WS := fun ρ X D => wo ρ X fun r ρ1 => bindP ((nodeA ρ1 r).bind lenT) fun _ => we ρ1 X fun q ρ2 => parP keep ρ2 q fun u ρ3 => bindP (nodeA ρ3 r) fun t => bindP (lenT t) fun n => n < 16777216 ∧ bindP (appT t u) fun t' => D.nx (putT ρ3 r t')
section
variable {K : PySem.W.Frag} {M : MC} {G : Gd} {ρ ρ' : Rho} {σ : St} {H H' : Hp} {v : V} {r : Rs} {vs : List V} {rs : List Rs}
theorem cnts_append {a : Addr} : ∀ ts us : List T, T.cnts a (ts ++ us) = T.cnts a ts + T.cnts a us
  | [], us => (Nat.zero_add _).symm
  | t :: ts, us => by
    show t.cnt a + T.cnts a (ts ++ us) = t.cnt a + T.cnts a ts + T.cnts a us
    rw [cnts_append ts us]; omega
theorem cnts_rep1 {a : Addr} {k : DK} {u : T} : ∀ {ks : List DK} {ts : List T}, ks.Nodup → T.cnts a (rep1T ks ts k u) ≤ T.cnts a ts + u.cnt a
  | [], _, _ => Nat.zero_le _
  | k' :: ks, [], _ => Nat.zero_le _
  | k' :: ks, t :: ts, h => by
    have ih := cnts_rep1 (a := a) (k := k) (u := u) (ts := ts) (List.nodup_cons.mp h).2
    have z : k ∉ ks → T.cnts a (rep1T ks ts k u) ≤ T.cnts a ts := by
      clear ih h
      intro hk
      induction ks generalizing ts with
      | nil => exact Nat.zero_le _
      | cons k1 ks ih =>
        cases ts with
        | nil => exact Nat.zero_le _
        | cons t1 ts =>
          have := ih (ts := ts) fun z => hk (List.mem_cons_of_mem _ z)
          show (if k1 = k then u else t1).cnt a + T.cnts a (rep1T ks ts k u) ≤ t1.cnt a + T.cnts a ts
          rw [if_neg fun e => hk (by rw [← e]; exact List.mem_cons_self)]
          omega
    show (if k' = k then u else t).cnt a + T.cnts a (rep1T ks ts k u) ≤ t.cnt a + T.cnts a ts + u.cnt a
    by_cases e : k' = k
    · rw [if_pos e]
      have := z (by rw [← e]; exact (List.nodup_cons.mp h).1)
      omega
    · rw [if_neg e]; omega
theorem TAll.append {O : Addr → Prop} : ∀ {vs ws : List V} {ts us : List T}, TAll K O H vs ts → TAll K O H ws us → TAll K O H (vs ++ ws) (ts ++ us)
  | _, _, _, _, .nil, h => h
  | _, _, _, _, .cons a b, h => .cons a (b.append h)
theorem TAll.set {O : Addr → Prop} {v : V} {t : T} (a : TAt K O H v t) : ∀ {vs : List V} {ts : List T} (i : Nat), TAll K O H vs ts → TAll K O H (vs.set i v) (ts.set i t)
  | _, _, _, .nil => .nil
  | _, _, 0, .cons _ b => .cons a b
  | _, _, i + 1, .cons x b => .cons x (TAll.set a i b)
theorem TAll.rep1 {O : Addr → Prop} {κ : Type} [DecidableEq κ] {f : κ → DK} (inj : ∀ a b, f a = f b → a = b) {k : κ} {v : V} {d : T} (a : TAt K O H v d) : ∀ {kvs : List (κ × V)} {ds : List T}, TAll K O H (kvs.map (·.2)) ds →
    TAll K O H ((kvs.map fun kv => if kv.1 = k then (kv.1, v) else kv).map (·.2)) (rep1T (kvs.map fun q => f q.1) ds (f k) d)
  | [], _, h => by cases h; exact .nil
  | kv :: kvs, _, h => by
    cases h with
    | cons b t =>
      have ih := TAll.rep1 inj (k := k) a (kvs := kvs) t
      simp only [List.map_cons, rep1T]
      by_cases e : kv.1 = k
      · rw [if_pos e, if_pos (congrArg f e)]; exact .cons a ih
      · rw [if_neg e, if_neg fun z => e (inj _ _ z)]; exact .cons b ih
theorem TAll.dput {O : Addr → Prop} {κ : Type} [DecidableEq κ] {f : κ → DK} (inj : ∀ a b, f a = f b → a = b) {k : κ} {v : V} {d : T} (a : TAt K O H v d) {kvs : List (κ × V)} {ds : List T} (t : TAll K O H (kvs.map (·.2)) ds) :
    (dputT (kvs.map fun q => f q.1) ds (f k) d).1 = (putK kvs k v).map (fun q => f q.1) ∧ TAll K O H ((putK kvs k v).map (·.2)) (dputT (kvs.map fun q => f q.1) ds (f k) d).2 := by
  have e : hasK (kvs.map fun q => f q.1) (f k) = kvs.any fun kv => decide (kv.1 = k) := by
    unfold hasK
    rw [List.any_map]
    congr 1
    funext q
    exact decide_eq_decide.mpr ⟨inj _ _, congrArg f⟩
  unfold dputT putK
  rw [e]
  by_cases h : (kvs.any fun kv => decide (kv.1 = k)) = true
  · rw [if_pos h, if_pos h]
    refine ⟨?_, TAll.rep1 inj a t⟩
    rw [List.map_map]
    refine List.map_congr_left fun q _ => ?_
    show f q.1 = f (if q.1 = k then (q.1, v) else q).1
    split <;> rfl
  · rw [if_neg h, if_neg h]
    refine ⟨by rw [List.map_append]; rfl, ?_⟩
    rw [List.map_append]
    exact t.append (.cons a .nil)
theorem cnts_set1 {a : Addr} {u : T} : ∀ {ts : List T} {i : Nat}, T.cnts a (ts.set i u) ≤ T.cnts a ts + u.cnt a
  | [], _ => Nat.zero_le _
  | t :: ts, 0 => by
    show u.cnt a + T.cnts a ts ≤ t.cnt a + T.cnts a ts + u.cnt a
    omega
  | t :: ts, i + 1 => by
    have := cnts_set1 (a := a) (u := u) (ts := ts) (i := i)
    show t.cnt a + T.cnts a (ts.set i u) ≤ t.cnt a + T.cnts a ts + u.cnt a
    omega
theorem TAt.lst' {O : Addr → Prop} {p : Addr} {v : V} {ts : List T} (h : TAt K O H v (.lst p ts)) : v = .ref p ∧ ∃ vs, H p = some (.lst vs) ∧ TAll K O H vs ts := by
  cases h with
  | lst a b => exact ⟨rfl, _, a, b⟩
theorem TAt.dk' {O : Addr → Prop} {p : Addr} {v : V} {ks : List DK} {ts : List T} (h : TAt K O H v (.dic p false ks ts)) : v = .ref p ∧ ∃ kvs : List (Key × V), H p = some (.dK kvs) ∧ ks = kvs.map (fun q => .one q.1) ∧ TAll K O H (kvs.map (·.2)) ts := by
  cases h with
  | dk a b c => exact ⟨rfl, _, a, b, c⟩
/-- the parts of an own object stay where it is written -/
theorem TAll.keep {O O' : Addr → Prop} {p : Addr} {o : HO} {ts : List T} (st : Stay O O' H (upd H p o)) (c : 1 + T.cnts p ts ≤ 1) (h : TAll K O H vs ts) : TAll K O' (upd H p o) vs ts :=
  h.stay st fun a z => upd_ne fun e => by subst e; omega
/-- o[j] = e, parts kept -/
theorem Rel.setO {i : Nat} {π : List Stp} {p : Addr} {t t' u : T} {j : D} {w : V} {O : Addr → Prop} {Q : Hp → Prop} (R : Rel K M (G.hide v u) ρ σ H) (hn : nodeR ρ i π p = some t) (hs : El.setO t.open j u = some t') (hj : BAt K O H w j)
    (q : ∀ H', Rel K M G (putN ρ i π t') σ H' → Q H') : rSetA (.ref p) w v H Q := by
  obtain ⟨ta, _⟩ := R.node hn
  have ta := ta.opn
  have hc : ∀ a, t.open.cnt a = t.cnt a := fun a => T.open_cnt t
  have ho : ∀ {O H}, TAt K O H (.ref p) t → TAt K O H (.ref p) t.open := fun h => h.opn
  revert hs ta hc ho
  generalize t.open = to
  intro hs ta hc ho
  cases to with
  | lst p' ts =>
    obtain ⟨e, xs, hp, hx⟩ := ta.lst'
    cases e
    cases j with
    | int j =>
      obtain ⟨n, hn', e⟩ := Option.map_eq_some_iff.mp hs
      cases e
      refine .inl ⟨p, xs, j, n, rfl, hj.int, hp, by rw [hx.length]; exact hn', q _ (R.write ⟨_, hp, fun _ => nofun⟩ hn (fun a => ?_) fun O1 O2 st h1 h2 h3 => ?_)⟩
      · rw [← hc a]
        show one p a + T.cnts a (ts.set n u) ≤ one p a + T.cnts a ts + u.cnt a
        have := cnts_set1 (a := a) (u := u) (ts := ts) (i := n)
        omega
      · obtain ⟨_, ys, e1, e2⟩ := (ho h1).lst'
        rw [hp] at e1
        cases e1
        have z : one p p + T.cnts p ts = t.cnt p := hc p
        rw [one_self] at z
        exact .lst upd_same ((e2.keep st (by rw [z]; exact h2 p)).set h3 n)
    | _ => cases hs
  | dic p' m ks ts =>
    cases m with
    | true => cases hs
    | false =>
      obtain ⟨e, kvs, hp, rfl, hx⟩ := ta.dk'
      cases e
      obtain ⟨k, hk, hs⟩ := Option.bind_eq_some_iff.mp (show (key1 j).bind _ = _ from hs)
      split at hs
      · rename_i hz
        cases hs
        obtain rfl := hj.key (key1_of hk)
        refine .inr ⟨p, _, rfl, DPut.k hp (by rw [(List.length_map ..).symm.trans hx.length, sizeLine_eq]; exact hz.2), q _ (R.write ⟨_, hp, fun _ => nofun⟩ hn (fun a => ?_) fun O1 O2 st h1 h2 h3 => ?_)⟩
        · rw [← hc a]
          show one p a + T.cnts a (dputT _ ts (.one k) u).2 ≤ one p a + T.cnts a ts + u.cnt a
          unfold dputT
          split
          · have := cnts_rep1 (a := a) (k := .one k) (u := u) (ts := ts) hz.1
            dsimp only
            omega
          · dsimp only
            rw [cnts_append]
            show one p a + (T.cnts a ts + (u.cnt a + 0)) ≤ _
            omega
        · obtain ⟨_, kvs2, e1, e3, e2⟩ := (ho h1).dk'
          rw [hp] at e1
          cases e1
          have z : one p p + T.cnts p ts = t.cnt p := hc p
          rw [one_self] at z
          obtain ⟨g1, g2⟩ := TAll.dput (f := DK.one) (fun a b h => by cases h; rfl) h3 (k := k) (e2.keep st (by rw [z]; exact h2 p))
          exact .dk upd_same g1 g2
      · cases hs
  | _ => cases hs
theorem Rel.storeT {i : Nat} {π : List Stp} {p : Addr} {t t' u : T} {j : D} {w : V} {O : Addr → Prop} {Q : Hp → Prop} (R : Rel K M (G.hide v u) ρ σ H) (hn : nodeR ρ i π p = some t) (hs : El.setT t j u = some t') (hj : BAt K O H w j)
    (q : ∀ H', Rel K M G (putN ρ i π t') σ H' → Q H') : rSetA (.ref p) w v H Q := by
  unfold El.setT at hs
  split at hs
  · rename_i p' c d
    obtain ⟨c', h1, rfl⟩ := Option.map_eq_some_iff.mp hs
    obtain ⟨R1, hd⟩ := R.unhide
    obtain ⟨tt, e1, e2, e3, e4⟩ := nodeR_of hn
    cases e3
    exact R1.setI hn h1 hj hd q
  · exact R.setO hn hs hj q
end
section
variable {X : Cx} {M : MC} {E : WX} {we wo wj : WE}
theorem nodeA_of {ρ : Rho} {r : Rs} {t : T} (h : nodeA ρ r = some t) : ∃ i π p, r = .pth i π p ∧ nodeR ρ i π p = some t := by
  cases r with
  | pth i π p => exact ⟨i, π, p, rfl, h⟩
  | _ => cases h
theorem pd_setT {keep : Bool} {o : Expr} {ps pos : Pos} {e j : Expr} (hu : X.A.units + 1 < cLine) (he : PE X e (tD X.K M E we)) (ho : PE X o (tD X.K M E wo)) (hj : PE X j (tD X.K M E wj))
    (hs : swapsWithSole [.Subscript o j ps] e pos.line X.env = pure false := by rfl) (hw : swappedStores [.Subscript o j ps] e X.env = pure none := by rfl) (h1 : (assignEach [.Subscript o j ps] X.env).map (·.2) = [assign (.Subscript o j ps) X.env] := by rfl)
    (ha : ∀ v, assign (.Subscript o j ps) X.env v = (do
      let ov ← holding [v] (eval o X.env)
      let iv ← holding [v, ov] (eval j X.env)
      standAt ps
      holding [v, ov, iv] (setItem ov iv v)
      release [v, ov, iv] []) := by intro _; rfl) :
    PS X (.Assign [.Subscript o j ps] e pos) (tDS X.K M E (wsSetT keep we wo wj)) := by
  refine PS.weak (ps_asg he (pg_sub ho hj (set_any hu) ha) hs hw h1) fun D σ H ⟨G, ρ, Xd, Qd, R, L, w, k1, _⟩ => ⟨G, ρ, Xd, _, R, L, w, fun ρ1 v H1 r R1 h1 w1 => ?_⟩
  refine ⟨G.hold v r, ρ1, Xd, _, R1, L.hold, w1, fun ρ2 x H2 s R2 h2 w2 => ?_⟩
  refine ⟨(G.hold v r).hold x s, ρ2, Xd, _, R2, L.hold.hold, w2, fun ρ3 u H3 q R3 h3 w3 => ?_⟩
  obtain ⟨jd, gj, w4⟩ := bindP_of w3
  have hj := R3.get h3 gj
  obtain ⟨ut, ρ4, w5, R4⟩ := Rel.part R3.unhold.unhold h1 w4
  obtain ⟨t, gn, w6⟩ := bindP_of w5
  obtain ⟨t', gs, w7⟩ := bindP_of w6
  obtain ⟨i, π, p, es, gn⟩ := nodeA_of gn
  subst es
  have h2 : x = .ref p := h2
  subst h2
  exact R4.storeT gn gs hj fun H4 R5 => k1 _ _ _ R5 w7
theorem Rel.appT {K : PySem.W.Frag} {G : Gd} {ρ : Rho} {σ : St} {H : Hp} {v : V} {i : Nat} {π : List Stp} {p : Addr} {t t' u : T} {n : Nat} (R : Rel K M (G.hide v u) ρ σ H) (hn : nodeR ρ i π p = some t) (hl : lenT t = some n) (hs : El.appT t u = some t') :
    ∃ xs, H p = some (.lst xs) ∧ xs.length = n ∧ Rel K M G (putN ρ i π t') σ (upd H p (.lst (xs ++ [v]))) := by
  have lists : ∀ {ts : List T}, t.open = .lst p ts → t' = .lst p (ts ++ [u]) → ts.length = n → ∃ xs, H p = some (.lst xs) ∧ xs.length = n ∧ Rel K M G (putN ρ i π t') σ (upd H p (.lst (xs ++ [v]))) := fun {ts} eo e' el => by
    obtain ⟨ta, _⟩ := R.node hn
    have ta := ta.opn
    rw [eo] at ta
    obtain ⟨_, xs, hp, hx⟩ := ta.lst'
    have hc : ∀ a, one p a + T.cnts a ts = t.cnt a := fun a => by
      have := T.open_cnt (a := a) t
      rw [eo] at this
      exact this
    refine ⟨xs, hp, hx.length.trans el, R.write ⟨_, hp, fun _ => nofun⟩ hn (fun a => ?_) fun O1 O2 st h1 h2 h3 => ?_⟩
    · subst e'
      show one p a + T.cnts a (ts ++ [u]) ≤ t.cnt a + u.cnt a
      rw [cnts_append, ← hc a]
      show one p a + (T.cnts a ts + (u.cnt a + 0)) ≤ _
      omega
    · have h1 := h1.opn
      rw [eo] at h1
      obtain ⟨_, ys, e1, e2⟩ := h1.lst'
      rw [hp] at e1
      cases e1
      have z := hc p
      rw [one_self] at z
      subst e'
      exact .lst upd_same ((e2.keep st (by rw [z]; exact h2 p)).append (.cons h3 .nil))
  obtain ⟨tt, e1, e2, e3, e4⟩ := nodeR_of hn
  unfold El.appT at hs
  split at hs
  · rename_i p' ds d
    cases hs
    cases e3
    cases hl
    obtain ⟨R1, hd⟩ := R.unhide
    obtain ⟨xs, o3, o4⟩ := R1.ownL hn
    exact ⟨xs, o3, o4.length, R1.putNode hn (d' := .lst (ds ++ [d])) (o4.append (.cons hd .nil))⟩
  · cases hs
    cases e3
    cases hl
    exact lists rfl rfl (List.length_map ..)
  · cases hs
    cases e3
    cases hl
    exact lists rfl rfl rfl
  · cases hs
theorem TAt.topL {K : PySem.W.Frag} {O : Addr → Prop} {H : Hp} {p : Addr} {v : V} {ds : List D} (h : TAt K O H v (.top p (.lst ds))) : v = .ref p ∧ ∃ xs, H p = some (.lst xs) := by
  cases h with
  | top h k =>
    rename_i o
    cases o with
    | lst xs => exact ⟨rfl, xs, h⟩
    | _ => exact k.elim
theorem pd_appT {keep : Bool} {o : Expr} {pa pos cpos : Pos} {e : Expr} (ho : PE X o (tD X.K M E wo)) (he : PE X e (tD X.K M E we)) 
    (hbase : attributeBase o "append" X.env (eval o X.env) = eval o X.env := by rfl)
    (hfew : ((backTo cpos (starEach [e] X.env)).all (fun x => !x.1) && (backToKw cpos (keywordEach [] X.env)).all (fun x => x.1.isSome) && decide (([e] : List Expr).length + ([] : List Keyword).length + (if ([] : List Keyword).isEmpty then 0 else 1) < 30)) = true := by rfl)
    (hline : (pa.endLine == cpos.line) = true := by rfl) (hs : starEach [e] X.env = (false, eval e X.env) :: starEach [] X.env := by rfl) (hplain : (backTo cpos (starEach [] X.env)).any (·.1) = false := by rfl)
    (hsw : swapsWith (.Call (.Attribute o "append" pa) [e] [] cpos) none pos.line X.env = pure false := by rfl) :
    PS X (.Expr (.Call (.Attribute o "append" pa) [e] [] cpos) pos) (tDS X.K M E (wsAppT keep wo we)) := by
  refine PS.weak (ps_expr (pe_bm (T := "list") (id := "list.append") PySem.F.plainAttrs_list PySem.F.slot_list_append PySem.F.type_list_append mt_append ho (pa_cons he pa_nil hs) hbase hfew hline hs hplain) hsw) fun D σ H ⟨G, ρ, Xd, Qd, R, L, w, k1, _⟩ => ?_
  refine ⟨G, ρ, Xd, _, R, L, w, fun ρ1 x0 H1 r R1 h1 w1 => ?_⟩
  obtain ⟨n0, g0, w1⟩ := bindP_of w1
  obtain ⟨t0, g0, g1⟩ := Option.bind_eq_some_iff.mp g0
  obtain ⟨i, π, p, er, g0⟩ := nodeA_of g0
  subst er
  have h1 : x0 = .ref p := h1
  subst h1
  have R1 : Rel X.K M G ρ1 σ H1 := R1
  obtain ⟨xs0, e0⟩ : ∃ xs, H1 p = some (.lst xs) := by
    have ta := (R1.node g0).1
    unfold lenT at g1
    split at g1
    · obtain ⟨e, xs, h⟩ := ta.topL
      cases e
      exact ⟨xs, h⟩
    · obtain ⟨e, xs, h, _⟩ := ta.lst'
      cases e
      exact ⟨xs, h⟩
    · cases g1
  refine ⟨.inl ⟨rfl, xs0, SqL.of e0⟩, G, ρ1, Xd, _, R1, L, w1, fun ρ2 v H2 q R2 h2 w2 => ?_⟩
  obtain ⟨ut, ρ3, w3, R3⟩ := Rel.part R2 h2 w2
  obtain ⟨t, gn, w4⟩ := bindP_of w3
  obtain ⟨n, gl, hz, w5⟩ := bindP_of w4
  obtain ⟨t', ga, w6⟩ := bindP_of w5
  have gn : nodeR ρ3 i π p = some t := gn
  obtain ⟨xs, hp, hl, R4⟩ := R3.appT gn gl ga
  refine ⟨p, xs, v, rfl, rfl, hp, by rw [hl, sizeLine_eq]; exact hz, ?_⟩
  exact k1 _ _ _ R4 w6
end
end El

set_option Elab.async false
set_option linter.all false
set_option maxRecDepth 100000
set_option maxHeartbeats 4000000
/-! FA: displays whose parts stay own; what is only looked at. -/
namespace El
open PySem L2
/-- partsP, the rest barred -/
def parsP (bs : List Bool) (ρ : Rho) (rs : List Rs) (k : List T → Rho → Prop) (_ : Tag k := ⟨⟩) : Prop := partsP bs ρ rs k
/-! ### lists, tuples -/
def wLstO (bs : List Bool) (wa : WA) : WE := fun ρ X Q => wa ρ X fun rs ρ1 => rs.length ≤ 1000 ∧ parsP bs ρ1 rs fun ts ρ2 => ∀ p, Q (.new (.lst p ts)) ρ2
def wTupO (bs : List Bool) (wa : WA) : WE := fun ρ X Q => wa ρ X fun rs ρ1 => rs.length ≤ 1000 ∧ parsP bs ρ1 rs fun ts ρ2 => ∀ p, Q (.new (.tup p ts)) ρ2
section
variable {K : PySem.W.Frag} {M : MC} {G : Gd} {ρ ρ' : Rho} {σ : St} {H H' : Hp} {v : V} {r : Rs} {vs : List V} {rs : List Rs}
theorem TAll.of_mem {O : Addr → Prop} : ∀ {vs : List V} {ts : List T}, vs.length = ts.length → (∀ q ∈ vs.zip ts, TAt K O H q.1 q.2) → TAll K O H vs ts
  | [], [], _, _ => .nil
  | v :: vs, t :: ts, hl, h => .cons (h (v, t) List.mem_cons_self) (TAll.of_mem (Nat.succ.inj hl) fun q hq => h q (List.mem_cons_of_mem _ hq))
theorem Rel.mkL {ts : List T} {p : Addr} (R : Rel K M (G.plus [] (vs.zip ts)) ρ σ H) (hl : vs.length = ts.length) (hp : H p = none) : Rel K M (G.hide (.ref p) (.lst p ts)) ρ σ (upd H p (.lst vs)) :=
  R.mk' hp (fun a => by rw [zip_cnt hl]; rfl) fun O' h => .lst upd_same (TAll.of_mem hl h)
theorem Rel.mkT {ts : List T} {p : Addr} (R : Rel K M (G.plus [] (vs.zip ts)) ρ σ H) (hl : vs.length = ts.length) (hp : H p = none) : Rel K M (G.hide (.ref p) (.tup p ts)) ρ σ (upd H p (.tup vs)) :=
  R.mk' hp (fun a => by rw [zip_cnt hl]; rfl) fun O' h => .tup upd_same (TAll.of_mem hl h)
/-- an object in hand takes up the parts that are in hand -/
theorem Rel.mk2 {hs : List (V × T)} {p : Addr} {d : D} {o : HO} {t : T} (R : Rel K M ((G.hide (.ref p) (.top p d)).plus [] hs) ρ σ H) (c : ∀ a, t.cnt a = one p a + cH a hs)
    (ta : ∀ O', (∀ q ∈ hs, TAt K O' (upd H p o) q.1 q.2) → TAt K O' (upd H p o) (.ref p) t) : Rel K M (G.hide (.ref p) t) ρ σ (upd H p o) := by
  have eH : ∀ a, cH a ((G.hide (.ref p) (.top p d)).plus [] hs).hid = cH a hs + (one p a + cH a G.hid) := fun a => cH_append _ _
  have nd : ∀ a, cR a ρ + (cH a hs + (one p a + cH a G.hid)) ≤ 1 := fun a => by have := R.nd a; rw [eH] at this; exact this
  have eO : Own M (G.hide (.ref p) t) ρ = Own M ((G.hide (.ref p) (.top p d)).plus [] hs) ρ := funext fun a => by
    show (M.O a ∨ 0 < cR a ρ + (t.cnt a + cH a G.hid)) = (M.O a ∨ 0 < cR a ρ + cH a ((G.hide (.ref p) (.top p d)).plus [] hs).hid)
    rw [eH, c, show one p a + cH a hs + cH a G.hid = cH a hs + (one p a + cH a G.hid) by omega]
  have pO : 0 < cR p ρ + cH p ((G.hide (.ref p) (.top p d)).plus [] hs).hid := by rw [eH, one_self]; omega
  have np := nd p
  rw [one_self] at np
  have kt : ∀ a xs, H a = some (.tup xs) → upd H p o a = some (.tup xs) := fun a xs e => by
    by_cases q : a = p
    · subst q
      cases R.hid (.ref a, .top a d) (List.mem_append_right _ List.mem_cons_self) with
      | top h2 k2 =>
        rw [e] at h2; cases h2
        cases d <;> exact k2.elim
    · rw [upd_ne q]; exact e
  have st : Stay (Own M ((G.hide (.ref p) (.top p d)).plus [] hs) ρ) (Own M (G.hide (.ref p) t) ρ) H (upd H p o) := ⟨fun a u n e => ⟨by rw [eO]; exact n, .inl (by
    rw [upd_ne (fun q => n (by rw [q]; exact .inr pO) : a ≠ p)]; exact e)⟩, kt⟩
  have hid : ∀ q ∈ hs ++ G.hid, TAt K (Own M (G.hide (.ref p) t) ρ) (upd H p o) q.1 q.2 := fun q hq => (R.hid q ((List.mem_append.mp hq).elim (List.mem_append_left _) fun z => List.mem_append_right _ (List.mem_cons_of_mem _ z))).stay st fun a z => upd_ne fun e => by
    subst e
    rcases List.mem_append.mp hq with hq | hq
    · have := cH_mem (a := a) hq; omega
    · have := cH_mem (a := a) hq; omega
  refine ⟨fun i u e => ?_, fun a => ?_, fun a z => ?_, ⟨fun a u n i e => ?_, fun a xs e => kt a xs (R.base.2 a xs e)⟩, M.loc H _ (fun a z => upd_ne fun e => (R.own p pO).2 (e ▸ z)) R.mi, fun q hq => (R.pin q hq).stay st, fun q hq => ?_, R.len⟩
  · obtain ⟨v, h1, h2⟩ := R.slot i u e
    refine ⟨v, h1, h2.stay st fun a z => upd_ne fun e1 => ?_⟩
    subst e1
    have : u.cnt a ≤ cR a ρ := cR_get (a := a) e
    omega
  · show cR a ρ + (t.cnt a + cH a G.hid) ≤ 1
    rw [c]; have := nd a; omega
  · have z : 0 < cR a ρ + (t.cnt a + cH a G.hid) := z
    rw [c] at z
    exact R.own a (by rw [eH]; omega)
  · have z := R.base.1 a u n i e
    by_cases q : a = p
    · subst q
      rcases (R.own a pO).1 with y | y
      · have e : G.H0 a = some u := e
        have y : G.H0 a = none := y
        rw [y] at e; cases e
      · exact absurd y i
    · rw [upd_ne q]; exact z
  · rcases List.mem_cons.mp hq with e | hq
    · subst e
      exact ta _ fun q hq => hid q (List.mem_append_left _ hq)
    · exact hid q (List.mem_append_right _ hq)
end
section
variable {X : Cx} {M : MC} {E : WX} {wa : WA}
theorem pd_lstO {bs : List Bool} {es : List Expr} {pos : Pos} (h : PA X es (tDA X.K M E wa)) : PE X (.List es pos) (tD X.K M E (wLstO bs wa)) := by
  refine PE.weak (pe_lst h) fun σ H Q ⟨G, ρ, Xd, Qd, R, L, w, k⟩ => ⟨G, ρ, Xd, _, R, L, w, fun ρ1 vs H1 rs R1 h1 ⟨hz, w1⟩ => ?_⟩
  obtain ⟨ts, ρ2, w2, hl, R2⟩ := R1.parts h1 w1
  exact ⟨by rw [h1.length]; exact le1000 hz, fun p hp => k ρ2 (.ref p) _ (.new (.lst p ts)) (R2.mkL hl hp) trivial (w2 p)⟩
theorem pd_tupO {bs : List Bool} {es : List Expr} {pos : Pos} {x1} (h : PA X es (tDA X.K M E wa)) : PE X (.Tuple es x1 pos) (tD X.K M E (wTupO bs wa)) := by
  refine PE.weak (pe_tup h) fun σ H Q ⟨G, ρ, Xd, Qd, R, L, w, k⟩ => ⟨G, ρ, Xd, _, R, L, w, fun ρ1 vs H1 rs R1 h1 ⟨hz, w1⟩ => ?_⟩
  obtain ⟨ts, ρ2, w2, hl, R2⟩ := R1.parts h1 w1
  exact ⟨by rw [h1.length]; exact le1000 hz, fun p hp => k ρ2 (.ref p) _ (.new (.tup p ts)) (R2.mkT hl hp) trivial (w2 p)⟩
end
/-! ### dicts -/
def waPairs : List (WE × WE) → WA
  | [] => waNil
  | q :: l => waCons q.1 (waCons q.2 (waPairs l))
def flatP : List (V × V) → List V
  | [] => []
  | q :: l => q.1 :: q.2 :: flatP l
def pairsT : List T → Option (List DK × List T)
  | [] => some ([], [])
  | .fz d :: t :: l => (key1 d).bind fun k => (pairsT l).map fun q => (.one k :: q.1, t :: q.2)
  | _ => none
def asFz : List T → Option (List D)
  | [] => some []
  | .fz d :: l => (asFz l).map fun ds => d :: ds
  | _ => none
def wDicO (bs : List Bool) (l : List (WE × WE)) : WE := fun ρ X Q => waPairs l ρ X fun rs ρ1 => parsP bs ρ1 rs fun ts ρ2 => bindP (pairsT ts) fun q => q.1.Nodup ∧ q.1.length ≤ 15 ∧ ∀ p, Q (.new (.dic p false q.1 q.2)) ρ2
def wDicF (l : List (WE × WE)) : WE := fun ρ X Q => waPairs l ρ X fun rs ρ1 => parsP [] ρ1 rs fun ts ρ2 => bindP (pairsT ts) fun q => bindP (asFz q.2) fun ds => q.1.Nodup ∧ q.1.length ≤ 15 ∧ Q (.nw (.dic false q.1 ds)) ρ2
def wDic0 (m : Bool) : WE := fun ρ _ Q => Q (.nw (.dic m [] [])) ρ
section
variable {K : PySem.W.Frag} {M : MC} {E : WX} {σ : St}
theorem pairs_all : ∀ (l : List (WE × WE)) {G : Gd} {ρ : Rho} {Xd : XD} {Qd : List Rs → Rho → Prop} {H : Hp} {Q : List (V × V) → Hp → Prop}, Rel K M G ρ σ H → Lnk K M G E Xd → waPairs l ρ Xd Qd →
    (∀ ρ' ps H' rs, Rel K M (G.holds (flatP ps) rs) ρ' σ H' → RsOks (flatP ps) rs → Qd rs ρ' → Q ps H') → tPairs (l.map fun q => (tD K M E q.1, tD K M E q.2)) σ H Q
  | [], _, ρ, _, _, H, _, R, _, w, k => k ρ [] H [] R .nil w
  | (a, b) :: l, G, ρ, Xd, _, H, _, R, L, w, k => ⟨G, ρ, Xd, _, R, L, w, fun ρ1 x H1 r1 R1 h1 w1 => ⟨G.hold x r1, ρ1, Xd, _, R1, L.hold, w1, fun ρ2 y H2 r2 R2 h2 w2 =>
      pairs_all l R2 L.hold.hold w2 fun ρ' ps H' rs R' hs q => k ρ' ((x, y) :: ps) H' (r1 :: r2 :: rs) R' (.cons h1 (.cons h2 hs)) q⟩⟩
theorem pairsT_at {O : Addr → Prop} {H : Hp} : ∀ {ps : List (V × V)} {ts : List T} {ks : List DK} {us : List T}, (flatP ps).length = ts.length → (∀ q ∈ (flatP ps).zip ts, TAt K O H q.1 q.2) → pairsT ts = some (ks, us) →
    ∃ kvs : List (Key × V), ps = kvs.map (fun kv => (kV kv.1, kv.2)) ∧ ks = kvs.map (fun kv => .one kv.1) ∧ (kvs.map (·.2)).length = us.length ∧ (∀ a, cH a ((flatP ps).zip ts) = T.cnts a us) ∧
      ∀ {O' : Addr → Prop} {H' : Hp}, (∀ q ∈ (flatP ps).zip ts, TAt K O' H' q.1 q.2) → TAll K O' H' (kvs.map (·.2)) us
  | [], [], _, _, _, _, h => by
    cases h
    exact ⟨[], rfl, rfl, rfl, fun _ => rfl, fun _ => .nil⟩
  | (x, y) :: ps, t :: [], _, _, hl, _, _ => by
    simp [flatP] at hl
  | (x, y) :: ps, t :: u :: ts, ks, us, hl, ha, h => by
    cases t with
    | fz d =>
      obtain ⟨k, hk, h⟩ := Option.bind_eq_some_iff.mp (show (key1 d).bind _ = _ from h)
      obtain ⟨q, hq, e⟩ := Option.map_eq_some_iff.mp h
      cases e
      obtain ⟨kvs, e1, e2, e3, e4, e5⟩ := pairsT_at (ps := ps) (ts := ts) (Nat.succ.inj (Nat.succ.inj hl)) (fun q hq => ha q (List.mem_cons_of_mem _ (List.mem_cons_of_mem _ hq))) hq
      have hx : TAt K O H x (.fz d) := ha (x, .fz d) List.mem_cons_self
      cases hx with
      | fz hx =>
        have ex := BAt.key (Or.inl hx) (key1_of hk)
        refine ⟨(k, y) :: kvs, by rw [e1, ex]; rfl, by rw [e2]; rfl, congrArg (· + 1) e3, fun a => ?_, fun h => ?_⟩
        · show 0 + (u.cnt a + cH a ((flatP ps).zip ts)) = u.cnt a + T.cnts a q.2
          rw [e4]; omega
        · exact .cons (h (y, u) (List.mem_cons_of_mem _ List.mem_cons_self)) (e5 fun q hq => h q (List.mem_cons_of_mem _ (List.mem_cons_of_mem _ hq)))
    | _ => cases h
theorem mergeK_new : ∀ {more acc : List (Key × V)}, (more.map (·.1)).Nodup → (∀ q ∈ more, ∀ z ∈ acc, z.1 ≠ q.1) → mergeK acc more = acc ++ more
  | [], acc, _, _ => (List.append_nil acc).symm
  | q :: more, acc, hn, hd => by
    have h0 : putK acc q.1 q.2 = acc ++ [q] := by
      unfold putK
      rw [if_neg]
      intro z
      obtain ⟨y, h1, h2⟩ := List.any_eq_true.mp z
      exact hd q List.mem_cons_self y h1 (of_decide_eq_true h2)
    show mergeK (putK acc q.1 q.2) more = acc ++ q :: more
    have hn : (q.1 :: more.map (·.1)).Nodup := hn
    obtain ⟨n1, n2⟩ := List.nodup_cons.mp hn
    rw [h0, mergeK_new n2 fun x hx z hz => ?_, List.append_assoc]
    · rfl
    · rcases List.mem_append.mp hz with hz | hz
      · exact hd x (List.mem_cons_of_mem _ hx) z hz
      · cases List.mem_singleton.mp hz
        exact fun e => n1 (e ▸ List.mem_map_of_mem hx)
theorem nodup_one {kvs : List (Key × V)} (h : (kvs.map fun kv => DK.one kv.1).Nodup) : (kvs.map (·.1)).Nodup := by
  have e : (kvs.map fun kv => DK.one kv.1) = (kvs.map (·.1)).map DK.one := by rw [List.map_map]; rfl
  rw [e] at h
  exact (List.pairwise_map.mp h).imp fun hne e => hne (congrArg DK.one e)
end
theorem asFz_eq : ∀ {ts : List T} {ds : List D}, asFz ts = some ds → ts = ds.map .fz
  | [], _, h => by cases h; rfl
  | .fz d :: ts, ds, h => by
    obtain ⟨l, h1, rfl⟩ := Option.map_eq_some_iff.mp (show (asFz ts).map _ = _ from h)
    rw [asFz_eq h1]; rfl
theorem TAll.fz_all {K : PySem.W.Frag} {O : Addr → Prop} {H : Hp} : ∀ {vs : List V} {ds : List D}, TAll K O H vs (ds.map .fz) → DAll K O H vs ds
  | [], [], _ => .nil
  | v :: vs, d :: ds, h => by
    cases h with
    | cons a b =>
      cases a with
      | fz a => exact .cons a b.fz_all
  | [], d :: ds, h => by cases h
  | v :: vs, [], h => by cases h
section
variable {X : Cx} {M : MC} {E : WX}
theorem dic_core {l : List (WE × WE)} {bs : List Bool} {σ : St} {H : Hp} {Q : VK} {G : Gd} {ρ : Rho} {Xd : XD} {Qd : List T → List DK → Rho → Prop} (R : Rel X.K M G ρ σ H) (L : Lnk X.K M G E Xd)
    (w : waPairs l ρ Xd fun rs ρ1 => parsP bs ρ1 rs fun ts ρ2 => bindP (pairsT ts) fun q => q.1.Nodup ∧ q.1.length ≤ 15 ∧ Qd q.2 q.1 ρ2)
    (k : ∀ p ρ2 H2 ks us, Rel X.K M (G.hide (.ref p) (.dic p false ks us)) ρ2 σ H2 → Qd us ks ρ2 → Q (.ref p) H2) : tDisp (l.map fun q => (tD X.K M E q.1, tD X.K M E q.2)) σ H Q := by
  intro p hp
  have R0 : Rel X.K M (G.hide (.ref p) (.top p (.dic false [] []))) ρ σ (upd H p (.dK [])) := R.hidden hp ⟨rfl, .nil⟩
  refine pairs_all l R0 (L.hold (v := .ref p) (r := .new _)) w fun ρ1 ps H1 rs R1 h1 w1 => ?_
  obtain ⟨ts, ρ2, w2, hl, R2⟩ := R1.parts h1 w1
  obtain ⟨⟨ks, us⟩, hq, hn, h15, w3⟩ := bindP_of w2
  have hpd : H1 p = some (.dK []) := by
    have h := R2.hid (.ref p, .top p (.dic false [] [])) (List.mem_append_right _ List.mem_cons_self)
    cases h with
    | top e kk =>
      rename_i o
      cases o with
      | dK kvs =>
        obtain ⟨e1, _⟩ := kk
        cases kvs with
        | nil => exact e
        | cons a b => cases e1
      | _ => exact kk.elim
  obtain ⟨kvs, e1, e2, e3, e4, e5⟩ := pairsT_at hl (fun q hq => R2.hid q (List.mem_append_left _ hq)) hq
  have hk : ks.length = kvs.length := by rw [e2, List.length_map]
  refine ⟨hpd, kvs, e1, by rw [← hk]; exact h15, ?_⟩
  rw [mergeK_new (nodup_one (e2 ▸ hn)) fun _ _ _ hz => by cases hz]
  refine k p ρ2 _ ks us (R2.mk2 (fun a => ?_) fun O' h => ?_) w3
  · show one p a + T.cnts a us = one p a + cH a ((flatP ps).zip ts)
    rw [e4]
  · exact .dk upd_same e2 (e5 h)
variable {keys : List (Option Expr)} {values : List Expr} {pos : Pos} {l : List (WE × WE)}
theorem pd_dnil : PPs X pos [] [] (([] : List (WE × WE)).map fun q => (tD X.K M E q.1, tD X.K M E q.2)) := pps_nil
theorem pd_dcons {k v : Expr} {wk wv : WE} (hk : PE X k (tD X.K M E wk)) (hv : PE X v (tD X.K M E wv)) (hr : PPs X pos keys values (l.map fun q => (tD X.K M E q.1, tD X.K M E q.2))) :
    PPs X pos (some k :: keys) (v :: values) (((wk, wv) :: l).map fun q => (tD X.K M E q.1, tD X.K M E q.2)) := pps_cons hk hv hr
theorem pd_dicO {bs : List Bool} (h : PPs X pos keys values (l.map fun q => (tD X.K M E q.1, tD X.K M E q.2))) (hall : keys.all (·.isSome) = true := by rfl) (hl : keys.length = values.length := by rfl) (h0 : keys ≠ [] := by simp) (h15 : keys.length ≤ 15 := by decide) :
    PE X (.Dict keys values pos) (tD X.K M E (wDicO bs l)) := by
  refine PE.weak (pe_disp h hall hl h0 h15) fun σ H Q ⟨G, ρ, Xd, Qd, R, L, w, k⟩ => ?_
  exact dic_core (Qd := fun us ks ρ2 => ∀ p, Qd (.new (.dic p false ks us)) ρ2) R L w fun p ρ2 H2 ks us R2 q => k ρ2 (.ref p) H2 (.new (.dic p false ks us)) R2 trivial (q p)
theorem pairs_mono : ∀ (l : List (WE × WE)), (∀ q ∈ l, True) → True := fun _ _ => trivial
theorem pd_dicF (h : PPs X pos keys values (l.map fun q => (tD X.K M E q.1, tD X.K M E q.2))) (hall : keys.all (·.isSome) = true := by rfl) (hl : keys.length = values.length := by rfl) (h0 : keys ≠ [] := by simp) (h15 : keys.length ≤ 15 := by decide) :
    PE X (.Dict keys values pos) (tD X.K M E (wDicF l)) := by
  refine PE.weak (pe_disp h hall hl h0 h15) fun σ H Q ⟨G, ρ, Xd, Qd, R, L, w, k⟩ => ?_
  intro p hp
  have R0 : Rel X.K M (G.hide (.ref p) (.top p (.dic false [] []))) ρ σ (upd H p (.dK [])) := R.hidden hp ⟨rfl, .nil⟩
  refine pairs_all l R0 (L.hold (v := .ref p) (r := .new _)) w fun ρ1 ps H1 rs R1 h1 w1 => ?_
  obtain ⟨ts, ρ2, w2, hl, R2⟩ := R1.parts h1 w1
  obtain ⟨⟨ks, us⟩, hq, w3⟩ := bindP_of w2
  obtain ⟨ds, hds, hn, h15, w4⟩ := bindP_of w3
  obtain rfl := asFz_eq hds
  have hpd : H1 p = some (.dK []) := by
    have h := R2.hid (.ref p, .top p (.dic false [] [])) (List.mem_append_right _ List.mem_cons_self)
    cases h with
    | top e kk =>
      rename_i o
      cases o with
      | dK kvs =>
        obtain ⟨e1, _⟩ := kk
        cases kvs with
        | nil => exact e
        | cons a b => cases e1
      | _ => exact kk.elim
  obtain ⟨kvs, e1, e2, e3, e4, e5⟩ := pairsT_at hl (fun q hq => R2.hid q (List.mem_append_left _ hq)) hq
  have hk : ks.length = kvs.length := by rw [e2, List.length_map]
  refine ⟨hpd, kvs, e1, by rw [← hk]; exact h15, ?_⟩
  rw [mergeK_new (nodup_one (e2 ▸ hn)) fun _ _ _ hz => by cases hz]
  refine k ρ2 (.ref p) _ (.nw (.dic false ks ds)) (R2.mk2 (fun a => ?_) fun O' h => ?_) ⟨p, rfl⟩ w4
  · show one p a = one p a + cH a ((flatP ps).zip ts)
    rw [e4, cnts_fz]; rfl
  · exact .top upd_same ⟨e2, (e5 h).fz_all⟩
theorem pd_dic0 : PE X (.Dict [] [] pos) (tD X.K M E (wDic0 false)) := PE.weak pe_dnewK fun σ H Q ⟨G, ρ, Xd, Qd, R, L, w, k⟩ => fun p hp => k ρ (.ref p) _ (.nw _) (R.hidden (d := .dic false [] []) hp ⟨rfl, .nil⟩) ⟨p, rfl⟩ w
theorem pd_dic0T : PE X (.Dict [] [] pos) (tD X.K M E (wDic0 true)) := PE.weak pe_dnewT fun σ H Q ⟨G, ρ, Xd, Qd, R, L, w, k⟩ => fun p hp => k ρ (.ref p) _ (.nw _) (R.hidden (d := .dic true [] []) hp ⟨rfl, .nil⟩) ⟨p, rfl⟩ w
end
end El

set_option Elab.async false
set_option linter.all false
set_option maxRecDepth 100000
set_option maxHeartbeats 4000000
/-! FB: what is only looked at; unpacking; loops over own parts. -/
namespace El
open PySem L2
/-! ### looks -/
def peekR (ρ : Rho) : Rs → Option D
  | .val d => some d
  | .pth i π p => (nodeR ρ i π p).map T.val
  | .new t => some t.val
  | .nw d => some d
def peeks (ρ : Rho) : List Rs → Option (List D)
  | [] => some []
  | r :: rs => (peekR ρ r).bind fun d => (peeks ρ rs).map fun ds => d :: ds
/-- a plain datum -/
def flatO : Os → Option D
  | .val d => if d.flat = true then some d else none
  | .new _ => none
def AllO (_ : Addr) : Prop := False
section
variable {K : PySem.W.Frag} {M : MC} {G : Gd} {ρ ρ' : Rho} {σ : St} {H H' : Hp} {v : V} {r : Rs} {vs : List V} {rs : List Rs} {d : D} {ds : List D}
theorem stay_any {O : Addr → Prop} : Stay O AllO H H := ⟨fun _ _ _ e => ⟨id, .inl e⟩, fun _ _ e => e⟩
theorem Rel.peekH (R : Rel K M G ρ σ H) (hh : Held G v r) (h : RsOk v r) (g : peekR ρ r = some d) : DAt K AllO H v d := by
  cases r with
  | val c => cases g; exact (R.pin _ hh).stay stay_any
  | new t => cases g; exact (R.hid _ hh).freeze stay_any fun _ _ => id
  | nw c =>
    cases g
    obtain ⟨p, rfl, hh⟩ := hh
    exact (R.hid _ hh).freeze stay_any fun _ _ => id
  | pth i π p =>
    obtain ⟨t, h1, rfl⟩ := Option.map_eq_some_iff.mp (show (nodeR ρ i π p).map T.val = some d from g)
    obtain rfl : v = .ref p := h
    exact (R.node h1).1.freeze stay_any fun _ _ => id
theorem Rel.peeksH {G0 : Gd} (R : Rel K M G0 ρ σ H) : ∀ {vs : List V} {rs : List Rs} {ds : List D}, (∀ v r, (v, r) ∈ vs.zip rs → Held G0 v r) → RsOks vs rs → peeks ρ rs = some ds → DAll K AllO H vs ds
  | _, _, _, _, .nil, g => by cases g; exact .nil
  | _, _, _, hh, .cons h1 h2, g => by
    obtain ⟨d, g1, g2⟩ := Option.bind_eq_some_iff.mp g
    obtain ⟨ds, g3, rfl⟩ := Option.map_eq_some_iff.mp g2
    exact .cons (R.peekH (hh _ _ List.mem_cons_self) h1 g1) (R.peeksH (fun v r z => hh v r (List.mem_cons_of_mem _ z)) h2 g3)
theorem Rel.peeks (R : Rel K M (G.holds vs rs) ρ σ H) (h : RsOks vs rs) (g : El.peeks ρ rs = some ds) : DAll K AllO H vs ds := R.peeksH (helds h) h g
theorem DAll.ball {O : Addr → Prop} : ∀ {vs : List V} {ds : List D}, DAll K O H vs ds → BAll K O H vs ds
  | _, _, .nil => .nil
  | _, _, .cons a b => .cons (.inl a) b.ball
theorem DAt.flatAny {O O' : Addr → Prop} (h : DAt K O H v d) (f : d.flat = true) : DAt K O' H' v d := by
  cases d with
  | non => cases h; exact .non
  | bl b => cases h; exact .bl b
  | int i => cases h; exact .int i
  | str x => cases h; exact .str x
  | _ => cases f
theorem flatO_of {c : Os} (h : flatO c = some d) : c = .val d ∧ d.flat = true := by
  cases c with
  | val x =>
    unfold flatO at h
    by_cases f : x.flat = true
    · simp only [f, if_true] at h
      cases h
      exact ⟨rfl, f⟩
    · simp only [if_neg f] at h
      cases h
  | new x => cases h
end
def wOpF (op : D → D → (Os → Prop) → Prop) (wa wb : WE) : WE := fun ρ X Q => wa ρ X fun ra ρ1 => wb ρ1 X fun rb ρ2 => bindP (peekR ρ2 ra) fun d => bindP (peekR ρ2 rb) fun e => opP op d e fun c => bindP (flatO c) fun x => Q (.val x) ρ2
def wCaF (op : List D → (Os → Prop) → Prop) (wa : WA) : WE := fun ρ X Q => wa ρ X fun rs ρ1 => bindP (peeks ρ1 rs) fun ds => caP op ds fun c => bindP (flatO c) fun x => Q (.val x) ρ1
/-- of a display that is made for it alone -/
def wCaT (op : List D → (Os → Prop) → Prop) (tup : Bool) (wa : WA) : WE := fun ρ X Q => wa ρ X fun rs ρ1 => rs.length ≤ 1000 ∧ bindP (peeks ρ1 rs) fun ds => caP op [if tup = true then .tup ds else .lst ds] fun c => bindP (flatO c) fun x => Q (.val x) ρ1
def wIsiF (cs : List TN) (we : WE) : WE := fun ρ X Q => we ρ X fun r ρ1 => bindP (peekR ρ1 r) fun d => bindP d.tn fun a => Q (.val (.bl (cs.any fun c => a.is c))) ρ1
def wIsNF (f : Bool → Bool) (we : WE) : WE := fun ρ X Q => we ρ X fun r ρ1 => bindP (peekR ρ1 r) fun d => Q (.val (.bl (f d.isN))) ρ1
section
variable {X : Cx} {M : MC} {E : WX} {a b : Expr} {pos : Pos} {wa wb : WE}
theorem op_allF {K : PySem.W.Frag} {ta tb : TE} {wa wb : WE} {op : D → D → (Os → Prop) → Prop} {r : R2} (hr : OpD K r op) (ha : ta = tD K M E wa) (hb : tb = tD K M E wb) : ∀ σ H Q, tD K M E (wOpF op wa wb) σ H Q → tOp r ta tb σ H Q := by
  subst ha hb
  rintro σ H Q ⟨G, ρ, Xd, Qd, R, L, w, k⟩
  refine ⟨G, ρ, Xd, _, R, L, w, fun ρ1 v H1 ra R1 h1 w1 => ?_⟩
  refine ⟨G.hold v ra, ρ1, Xd, _, R1, L.hold, w1, fun ρ2 u H2 rb R2 h2 w2 => ?_⟩
  obtain ⟨d, g1, w3⟩ := bindP_of w2
  obtain ⟨e, g2, w4⟩ := bindP_of w3
  have b1 := R2.peekH (Held.self h1).hold h1 g1
  have b2 := R2.peekH (Held.self h2) h2 g2
  refine hr AllO H2 v u d e Q _ (fun _ _ => id) (.inl b1) (.inl b2) w4 fun H3 x c hx q => ?_
  obtain ⟨y, f, q3⟩ := bindP_of q
  obtain ⟨e0, fl⟩ := flatO_of f
  subst e0
  obtain ⟨n, hx⟩ := hx
  exact k ρ2 x H3 (.val y) ((R2.unhold.unhold.nw n).pinned (hx.flatAny fl)) trivial q3
theorem pd_cmpF {op : CmpOp} {r : R2} {o : D → D → (Os → Prop) → Prop} (ho : OpR X (compareOp op) r) (hr : OpD X.K r o) (ha : PE X a (tD X.K M E wa)) (hb : PE X b (tD X.K M E wb))
    (hm : behindInMarks op b = false := by first | exact nobehind _ (by decide) (by decide) | rfl) : PE X (.Compare a [op] [b] pos) (tD X.K M E (wOpF o wa wb)) := PE.weak (pe_cmpR ho ha hb hm) (op_allF hr rfl rfl)
theorem pd_tcmpF {op : CmpOp} {r : R2} {o : D → D → (Os → Prop) → Prop} (ho : OpR X (compareOp op) r) (hr : OpD X.K r o) (ha : PE X a (tD X.K M E wa)) (hb : PE X b (tD X.K M E wb))
    (hm : behindInMarks op b = false := by first | exact nobehind _ (by decide) (by decide) | rfl) : PT X (.Compare a [op] [b] pos) (tDT X.K M E (wB (wOpF o wa wb))) :=
  PT.weak (pt_cmpR ho ha hb hm) fun σ H Q ⟨G, ρ, Xd, Qd, R, L, w, k⟩ => op_allF (M := M) (E := E) hr rfl rfl σ H _ ⟨G, ρ, Xd, _, R, L, w, fun ρ1 v H1 r R1 h1 ⟨b, g, w1⟩ => ⟨b, (R1.get h1 g).bl, k ρ1 b H1 R1.unhold w1⟩⟩
theorem pd_eqF (hu : X.A.units + 64 < cLine) (ha : PE X a (tD X.K M E wa)) (hb : PE X b (tD X.K M E wb)) : PE X (.Compare a [.Eq] [b] pos) (tD X.K M E (wOpF oEq wa wb)) := pd_cmpF (op_eqA hu) od_eq ha hb
theorem pd_neF (hu : X.A.units + 64 < cLine) (ha : PE X a (tD X.K M E wa)) (hb : PE X b (tD X.K M E wb)) : PE X (.Compare a [.NotEq] [b] pos) (tD X.K M E (wOpF oNe wa wb)) := pd_cmpF (op_neA hu) od_eq ha hb
theorem pt_eqF (hu : X.A.units + 64 < cLine) (ha : PE X a (tD X.K M E wa)) (hb : PE X b (tD X.K M E wb)) : PT X (.Compare a [.Eq] [b] pos) (tDT X.K M E (wB (wOpF oEq wa wb))) := pd_tcmpF (op_eqA hu) od_eq ha hb
theorem pt_neF (hu : X.A.units + 64 < cLine) (ha : PE X a (tD X.K M E wa)) (hb : PE X b (tD X.K M E wb)) : PT X (.Compare a [.NotEq] [b] pos) (tDT X.K M E (wB (wOpF oNe wa wb))) := pd_tcmpF (op_neA hu) od_eq ha hb
theorem pd_inF (hu : X.A.units + 65 < cLine) (ha : PE X a (tD X.K M E wa)) (hb : PE X b (tD X.K M E wb)) (hm : behindInMarks .In b = false := by rfl) : PE X (.Compare a [.In] [b] pos) (tD X.K M E (wOpF (oInA fun b => b) wa wb)) := pd_cmpF ((op_inA hu).or (op_in_dict (by omega))) od_inA ha hb hm
theorem pd_notinF (hu : X.A.units + 65 < cLine) (ha : PE X a (tD X.K M E wa)) (hb : PE X b (tD X.K M E wb)) (hm : behindInMarks .NotIn b = false := by rfl) : PE X (.Compare a [.NotIn] [b] pos) (tD X.K M E (wOpF (oInA fun b => !b) wa wb)) := pd_cmpF ((op_notInA hu).or (op_notin_dict (by omega))) od_notInA ha hb hm
theorem pt_inF (hu : X.A.units + 65 < cLine) (ha : PE X a (tD X.K M E wa)) (hb : PE X b (tD X.K M E wb)) (hm : behindInMarks .In b = false := by rfl) : PT X (.Compare a [.In] [b] pos) (tDT X.K M E (wB (wOpF (oInA fun b => b) wa wb))) := pd_tcmpF ((op_inA hu).or (op_in_dict (by omega))) od_inA ha hb hm
theorem pt_notinF (hu : X.A.units + 65 < cLine) (ha : PE X a (tD X.K M E wa)) (hb : PE X b (tD X.K M E wb)) (hm : behindInMarks .NotIn b = false := by rfl) : PT X (.Compare a [.NotIn] [b] pos) (tDT X.K M E (wB (wOpF (oInA fun b => !b) wa wb))) := pd_tcmpF ((op_notInA hu).or (op_notin_dict (by omega))) od_notInA ha hb hm
theorem isNF_all {K : PySem.W.Frag} {f : Bool → Bool} : ∀ σ H Q, tD K M E (wIsNF f wa) σ H Q → tD K M E wa σ H fun x H1 => Q (.bl (f (decide (x = .non)))) H1 := fun σ H Q ⟨G, ρ, Xd, Qd, R, L, w, k⟩ => ⟨G, ρ, Xd, _, R, L, w, fun ρ1 v H1 r R1 h1 w1 => by
  obtain ⟨d, g, w2⟩ := bindP_of w1
  have e := BAt.nonB (Or.inl (R1.peekH (Held.self h1) h1 g))
  rw [e]
  exact k ρ1 _ H1 (.val (.bl (f d.isN))) (R1.unhold.pinned (.bl _)) trivial w2⟩
end
section
variable {X : Cx} {M : MC} {E : WX}
theorem ca_allF {K : PySem.W.Frag} {op : List D → (Os → Prop) → Prop} {r : List V → Hp → VK → Prop} {wa : WA} (hr : CaD K r op) : ∀ σ H Q, tD K M E (wCaF op wa) σ H Q → tCB r (tDA K M E wa) σ H Q := by
  rintro σ H Q ⟨G, ρ, Xd, Qd, R, L, w, k⟩
  refine ⟨G, ρ, Xd, _, R, L, w, fun ρ1 vs H1 rs R1 h1 w1 => ?_⟩
  obtain ⟨ds, g, w2⟩ := bindP_of w1
  refine hr AllO H1 vs ds Q _ (fun _ _ => id) (R1.peeks h1 g).ball w2 fun H3 x c hx q => ?_
  obtain ⟨y, f, q3⟩ := bindP_of q
  obtain ⟨e0, fl⟩ := flatO_of f
  subst e0
  obtain ⟨n, hx⟩ := hx
  exact k ρ1 x H3 (.val y) ((R1.unholds.nw n).pinned (hx.flatAny fl)) trivial q3
theorem ca_allT {K : PySem.W.Frag} {op : List D → (Os → Prop) → Prop} {r : List V → Hp → VK → Prop} {wa : WA} {tup : Bool} {mk : List V → HO} (hmk : ∀ xs, mk xs = if tup = true then .tup xs else .lst xs) (hr : CaD K r op) : ∀ σ H Q, tD K M E (wCaT op tup wa) σ H Q → tCB r (tCons (fun σ H Q => tDA K M E wa σ H fun xs H1 => xs.length ≤ sizeLine ∧ ∀ p, H1 p = none → Q (.ref p) (upd H1 p (mk xs))) tNil) σ H Q := by
  rintro σ H Q ⟨G, ρ, Xd, Qd, R, L, w, k⟩
  refine ⟨G, ρ, Xd, _, R, L, w, fun ρ1 vs H1 rs R1 h1 ⟨hz, w1⟩ => ?_⟩
  obtain ⟨ds, g, w2⟩ := bindP_of w1
  refine ⟨by rw [h1.length]; exact le1000 hz, fun p hp => ?_⟩
  have ha : DAll K AllO (upd H1 p (mk vs)) vs ds := (R1.peeks h1 g).stay (stay_new hp)
  have hd : DAt K AllO (upd H1 p (mk vs)) (.ref p) (if tup = true then .tup ds else .lst ds) := by
    cases tup with
    | true => exact .tup (by rw [hmk]; exact upd_same) ha
    | false => exact .lst id (by rw [hmk]; exact upd_same) ha
  refine hr AllO _ [.ref p] [_] Q _ (fun _ _ => id) (.cons (.inl hd) .nil) w2 fun H3 x c hx q => ?_
  obtain ⟨y, f, q3⟩ := bindP_of q
  obtain ⟨e0, fl⟩ := flatO_of f
  subst e0
  obtain ⟨n, hx⟩ := hx
  exact k ρ1 x H3 (.val y) (((R1.unholds.new hp).nw n).pinned (hx.flatAny fl)) trivial q3
theorem pd_callBF {x : Str} {p pos : Pos} {e : Expr} {es : List Expr} {id : String} {r : List V → Hp → VK → Prop} {op : List D → (Os → Prop) → Prop} {wa : WA} (hc : CallR X (.builtin id) r) (hr : CaD X.K r op) (hg : Gl X x) (hm : X.mg x = none) (hv : bootBuiltins x = some (.builtin id)) (ha : PA X (e :: es) (tDA X.K M E wa)) (hn : x ≠ "__name__" := by decide) (hdb : (x == ("__debug__" : Str)) = false := by decide)
    (he : starEach (e :: es) X.env = (false, eval e X.env) :: starEach es X.env := by rfl) (hpl : (backTo pos (starEach es X.env)).any (·.1) = false := by rfl) : PE X (.Call (.Name x p) (e :: es) [] pos) (tD X.K M E (wCaF op wa)) :=
  PE.weak (pe_callB hc hg hm hv ha hn hdb he hpl) (ca_allF hr)
theorem pd_callBL {x : Str} {p pos pos2 : Pos} {es : List Expr} {id : String} {r : List V → Hp → VK → Prop} {op : List D → (Os → Prop) → Prop} {wa : WA} (hc : CallR X (.builtin id) r) (hr : CaD X.K r op) (hg : Gl X x) (hm : X.mg x = none) (hv : bootBuiltins x = some (.builtin id)) (ha : PA X es (tDA X.K M E wa)) (hn : x ≠ "__name__" := by decide) (hdb : (x == ("__debug__" : Str)) = false := by decide)
    (he : starEach [.List es pos2] X.env = (false, eval (.List es pos2) X.env) :: starEach [] X.env := by rfl) (hpl : (backTo pos (starEach [] X.env)).any (·.1) = false := by rfl) : PE X (.Call (.Name x p) [.List es pos2] [] pos) (tD X.K M E (wCaT op false wa)) :=
  PE.weak (pe_callB hc hg hm hv (pa_cons (pe_lst ha) pa_nil he) hn hdb he hpl) (ca_allT (mk := .lst) (fun _ => rfl) hr)
theorem pd_callBT {x : Str} {p pos pos2 : Pos} {x1} {es : List Expr} {id : String} {r : List V → Hp → VK → Prop} {op : List D → (Os → Prop) → Prop} {wa : WA} (hc : CallR X (.builtin id) r) (hr : CaD X.K r op) (hg : Gl X x) (hm : X.mg x = none) (hv : bootBuiltins x = some (.builtin id)) (ha : PA X es (tDA X.K M E wa)) (hn : x ≠ "__name__" := by decide) (hdb : (x == ("__debug__" : Str)) = false := by decide)
    (he : starEach [.Tuple es x1 pos2] X.env = (false, eval (.Tuple es x1 pos2) X.env) :: starEach [] X.env := by rfl) (hpl : (backTo pos (starEach [] X.env)).any (·.1) = false := by rfl) : PE X (.Call (.Name x p) [.Tuple es x1 pos2] [] pos) (tD X.K M E (wCaT op true wa)) :=
  PE.weak (pe_callB hc hg hm hv (pa_cons (pe_tup ha) pa_nil he) hn hdb he hpl) (ca_allT (mk := .tup) (fun _ => rfl) hr)
variable {e : Expr} {we : WE} {p p2 pos : Pos}
theorem pd_isNF {j pos'} (ha : PE X e (tD X.K M E we)) : PE X (.Compare e [.Is] [.Constant .none j pos'] pos) (tD X.K M E (wIsNF (fun b => b) we)) := PE.weak (pe_cmp (pc_isN ha) rfl) isNF_all
theorem pd_notNF {j pos'} (ha : PE X e (tD X.K M E we)) : PE X (.Compare e [.IsNot] [.Constant .none j pos'] pos) (tD X.K M E (wIsNF (fun b => !b) we)) := PE.weak (pe_cmp (pc_notN ha) rfl) isNF_all
theorem isNF_t {K : PySem.W.Frag} {f : Bool → Bool} : ∀ σ H Q, tDT K M E (wB (wIsNF f we)) σ H Q → tB (fun σ H Q => tD K M E we σ H fun x H1 => Q (.bl (f (decide (x = .non)))) H1) σ H Q := by
  rintro σ H Q ⟨G, ρ, Xd, Qd, R, L, w, k⟩
  refine ⟨G, ρ, Xd, _, R, L, w, fun ρ1 v H1 r R1 h1 w1 => ?_⟩
  obtain ⟨d, g, b, gb, w2⟩ := bindP_of w1
  refine ⟨_, rfl, ?_⟩
  rw [BAt.nonB (Or.inl (R1.peekH (Held.self h1) h1 g))]
  have e : b = f d.isN := by
    have : some (D.bl (f d.isN)) = some (D.bl b) := gb
    cases this; rfl
  rw [← e]
  exact k ρ1 b H1 R1.unhold w2
theorem pt_isNF {j pos'} (ha : PE X e (tD X.K M E we)) : PT X (.Compare e [.Is] [.Constant .none j pos'] pos) (tDT X.K M E (wB (wIsNF (fun b => b) we))) := PT.weak (pt_cmp (pc_isN ha) rfl) (isNF_t (f := fun b => b))
theorem pt_notNF {j pos'} (ha : PE X e (tD X.K M E we)) : PT X (.Compare e [.IsNot] [.Constant .none j pos'] pos) (tDT X.K M E (wB (wIsNF (fun b => !b) we))) := PT.weak (pt_cmp (pc_notN ha) rfl) (isNF_t (f := fun b => !b))
theorem pd_isiF {T : Str} {c : TN} (hc : c ≠ .non) (hg : Gl X "isinstance") (hm : X.mg "isinstance" = none) (he : PE X e (tD X.K M E we)) (hT : PE X (.Name T p2) (tC (.ty c.name)))
    (hs : starEach (e :: [.Name T p2]) X.env = (false, eval e X.env) :: starEach [.Name T p2] X.env := by rfl) (hs2 : starEach [.Name T p2] X.env = (false, eval (.Name T p2) X.env) :: starEach [] X.env := by rfl) (hpl : (backTo pos (starEach [.Name T p2] X.env)).any (·.1) = false := by rfl) :
    PE X (.Call (.Name "isinstance" p) [e, .Name T p2] [] pos) (tD X.K M E (wIsiF [c] we)) := by
  refine PE.weak (pe_callB call_isi hg hm rfl (pa_cons he (pa_cons hT pa_nil hs2) hs) (by decide) (by decide) hs hpl) fun σ H Q ⟨G, ρ, Xd, Qd, R, L, w, k⟩ => ⟨G, ρ, Xd, _, R, L, w, fun ρ1 v H1 r R1 h1 w1 => ?_⟩
  obtain ⟨d, g, w2⟩ := bindP_of w1
  obtain ⟨a, ha, w1⟩ := bindP_of w2
  refine ⟨v, .ty c.name, .type a.name, .type c.name, a.is c, rfl, .ty _, BAt.tyx (Or.inl (R1.peekH (Held.self h1) h1 g)) ha, kit_ty (kit_is a c hc), ?_⟩
  have e : (List.any [c] fun c => a.is c) = a.is c := by simp
  rw [e] at w1
  exact k ρ1 _ H1 (.val (.bl (a.is c))) (R1.unhold.pinned (.bl _)) trivial w1
end
/-! ### unpacking -/
def setsR (ρ : Rho) : List Nat → List T → Rho
  | i :: is, t :: ts => setsR (ρ.set i (some t)) is ts
  | _, _ => ρ
def gNames : List Nat → TGs
  | [] => gNil
  | i :: is => gCons (gName i) (gNames is)
def unpP (is : List Nat) (r : Rs) (ρ : Rho) (nx : Rho → Prop) (_ : Tag nx := ⟨⟩) : Prop := match r with
  | .new (.tup _ ts) => ts.length = is.length ∧ nx (setsR ρ is ts)
  | .val (.tup ds) => ds.length = is.length ∧ nx (setsR ρ is (ds.map .fz))
  | _ => False
def wsUnp (is : List Nat) (we : WE) : WS := fun ρ X D => we ρ X fun r ρ1 => unpP is r ρ1 D.nx
section
variable {K : PySem.W.Frag} {M : MC} {G : Gd} {ρ ρ' : Rho} {σ : St} {H H' : Hp} {v : V}
theorem TAt.tup' {O : Addr → Prop} {p : Addr} {ts : List T} (h : TAt K O H v (.tup p ts)) : v = .ref p ∧ ∃ vs, H p = some (.tup vs) ∧ TAll K O H vs ts := by
  cases h with
  | tup a b => exact ⟨rfl, _, a, b⟩
/-- what is in hand falls into its parts -/
theorem Rel.burst {t : T} {hs : List (V × T)} (R : Rel K M (G.hide v t) ρ σ H) (h : ∀ q ∈ hs, TAt K (Own M (G.hide v t) ρ) H q.1 q.2) (c : ∀ a, cH a hs ≤ t.cnt a) : Rel K M (G.plus [] hs) ρ σ H := by
  have eH : ∀ a, cH a (G.plus [] hs).hid = cH a hs + cH a G.hid := fun a => cH_append _ _
  have st : Stay (Own M (G.hide v t) ρ) (Own M (G.plus [] hs) ρ) H H := stay_sub fun a z => z.elim .inl fun z => .inr (show 0 < cR a ρ + (t.cnt a + cH a G.hid) by rw [eH] at z; have := c a; omega)
  have nd : ∀ a, cR a ρ + (t.cnt a + cH a G.hid) ≤ 1 := R.nd
  refine ⟨fun i w e => ?_, fun a => ?_, fun a z => ?_, R.base, R.mi, fun q hq => (R.pin q hq).stay st, fun q hq => ?_, R.len⟩
  · obtain ⟨y, h1, h2⟩ := R.slot i w e
    exact ⟨y, h1, h2.stay st fun _ _ => rfl⟩
  · rw [eH]; have := nd a; have := c a; omega
  · rw [eH] at z
    exact R.own a (show 0 < cR a ρ + (t.cnt a + cH a G.hid) by have := c a; omega)
  · rcases List.mem_append.mp hq with hq | hq
    · exact (h q hq).stay st fun _ _ => rfl
    · exact (R.hid q (List.mem_cons_of_mem _ hq)).stay st fun _ _ => rfl
theorem names_run : ∀ {is : List Nat} {vs : List V} {ts : List T} {ρ : Rho} {σ : St} {Q : St → Hp → Prop}, vs.length = ts.length → ts.length = is.length → Rel K M (G.plus [] (vs.zip ts)) ρ σ H → (∀ σ', Rel K M G (setsR ρ is ts) σ' H → Q σ' H) → gNames is vs σ H Q
  | [], [], [], _, _, _, _, _, R, k => ⟨rfl, k _ R⟩
  | i :: is, v :: vs, t :: ts, ρ, σ, Q, h1, h2, R, k => ⟨v, vs, rfl, names_run (Nat.succ.inj h1) (Nat.succ.inj h2) (Rel.setT (G := G.plus [] (vs.zip ts)) R i) k⟩
  | [], [], _ :: _, _, _, _, h1, _, _, _ => by cases h1
  | [], _ :: _, [], _, _, _, h1, _, _, _ => by cases h1
  | [], _ :: _, _ :: _, _, _, _, _, h2, _, _ => by cases h2
  | _ :: _, [], [], _, _, _, _, h2, _, _ => by cases h2
  | _ :: _, [], _ :: _, _, _, _, h1, _, _, _ => by cases h1
  | _ :: _, _ :: _, [], _, _, _, h1, _, _, _ => by cases h1
end
section
variable {X : Cx} {M : MC} {E : WX} {we : WE}
theorem pg_nnil : PGs X [] (gNames []) := pgs_nil
theorem pg_ncons {x : Str} {pos : Pos} {es : List Expr} {is : List Nat} (i : Nat) (hN : X.N.Nodup) (h2 : PGs X es (gNames is)) (hi : X.N[i]? = some x := by rfl) (hx : Loc X.env.scope x := by first | exact Or.inl rfl | exact Or.inr rfl) (hf : X.fn x = true ∨ X.env.scope.names.lookup x = some .local := by first | exact .inl rfl | exact .inr rfl)
    (hs : (assignEach (.Name x pos :: es) X.env).map (·.2) = assign (.Name x pos) X.env :: (assignEach es X.env).map (·.2) := by rfl) : PGs X (.Name x pos :: es) (gNames (i :: is)) := pgs_cons (pg_name hN hi hx hf) h2 hs
theorem pd_unp {es : List Expr} {k : Nat} {e : Expr} {is : List Nat} {p2 pos : Pos} (hc : X.calm = true) (he : PE X e (tD X.K M E we)) (hg : PGs X es (gNames is)) (hn : (assignEach es X.env).length = is.length := by rfl) (hst : (assignEach es X.env).findIdx? (·.1) = none := by rfl)
    (hs : swapsWithSole [.Tuple es k p2] e pos.line X.env = pure false := by rfl) (hw : swappedStores [.Tuple es k p2] e X.env = pure none := by rfl)
    (h1 : (assignEach [.Tuple es k p2] X.env).map (·.2) = [assign (.Tuple es k p2) X.env] := by rfl) : PS X (.Assign [.Tuple es k p2] e pos) (tDS X.K M E (wsUnp is we)) := by
  refine PS.weak (ps_asg he (pg_tup hc hg hn hst) hs hw h1) fun D σ H ⟨G, ρ, Xd, Qd, R, L, w, k1, _⟩ => ⟨G, ρ, Xd, _, R, L, w, fun ρ1 v H1 r R1 h1 w1 => ?_⟩
  cases r with
  | new t =>
    cases t with
    | tup p ts =>
      obtain ⟨hl, w2⟩ := w1
      have R1 : Rel X.K M (G.hide v (.tup p ts)) ρ1 σ H1 := R1
      obtain ⟨ev, vs, hp, ha⟩ := (R1.hid _ List.mem_cons_self).tup'
      have ev : v = .ref p := ev
      subst ev
      · refine ⟨p, vs, rfl, SqT.of hp, ha.length.trans hl, names_run ha.length hl (Rel.burst (hs := vs.zip ts) R1 (fun q hq => ha.mem q hq) fun a => ?_) fun σ' R2 => k1 _ _ _ R2 w2⟩
        rw [zip_cnt ha.length]
        show T.cnts a ts ≤ one p a + T.cnts a ts
        omega
    | _ => exact w1.elim
  | val d =>
    cases d with
    | tup ds =>
      obtain ⟨hl, w2⟩ := w1
      obtain ⟨R2, hd⟩ := Rel.unpin R1
      obtain ⟨a, vs, rfl, hq, t⟩ := hd.sqT
      have tz := TAll.of_fz t
      have hz : vs.length = (ds.map T.fz).length := tz.length
      refine ⟨a, vs, rfl, hq, t.length.trans hl, names_run hz ((List.length_map ..).trans hl) ?_ fun σ' R2 => k1 _ _ _ R2 w2⟩
      refine (R2.hold0).burst (fun q hq => (tz.mem q hq).stay ⟨fun a o n e => ⟨fun z => n (own_hold0.mp z), .inl e⟩, fun _ _ e => e⟩ fun _ _ => rfl) fun a => ?_
      rw [zip_cnt hz, cnts_fz]
      exact Nat.zero_le _
    | _ => exact w1.elim
  | _ => exact w1.elim
end
end El

set_option Elab.async false
set_option linter.all false
set_option maxRecDepth 100000
set_option maxHeartbeats 4000000
/-! FC: a loop over the parts of an own list, each of which may be written. -/
namespace El
open PySem L2
def T.kidAt : T → Nat → Option T
  | .lst _ ts, k => ts[k]?
  | .top _ (.lst ds), k => (ds[k]?).map .fz
  | _, _ => none
/-- a part: a datum, or own -/
def turnP (u : T) (a : T → Prop) (b : Addr → Prop) (_ : Tag a := ⟨⟩) (_ : Tag b := ⟨⟩) : Prop := match u.root with
  | none => a u
  | some q => b q
theorem turnP_own {u : T} {q : Addr} {a : T → Prop} {b : Addr → Prop} {t1 t2} (h : u.root = some q) : turnP u a b t1 t2 = b q := by
  unfold turnP
  rw [h]
/-- the part comes back to its place -/
def backP (i : Nat) (π : List Stp) (j : Nat) (q : Addr) (ρ : Rho) (k : Rho → Prop) (_ : Tag k := ⟨⟩) : Prop := bindP (nodeR ρ j [] q) fun u' => bindP (giveb (putN ρ j [] (.fz (.ref q))) [some (i, π, q)] [u']) k
def forT (i : Nat) (π : List Stp) (p : Addr) (j : Nat) (tb : WS) : Nat → Nat → WS
  | 0, _ => fun _ _ _ => False
  | m + 1, k => fun ρ X D => bindP (nodeR ρ i π p) fun t => bindP (lenT t) fun n => iteP (decide (k < n)) (bindP (t.kidAt k) fun u => turnP u
      (fun u => tb (ρ.set j (some u)) X ⟨fun ρ2 => forT i π p j tb m (k + 1) ρ2 X D, D.rt, D.nx, fun ρ2 => forT i π p j tb m (k + 1) ρ2 X D⟩)
      fun q => bindP (nodeR ρ i (π ++ [.idx k]) q) fun u => tb ((putN ρ i (π ++ [.idx k]) (.fz (.ref q))).set j (some u)) X ⟨fun ρ1 => backP i (π ++ [.idx k]) j q ρ1 fun ρ2 => forT i π p j tb m (k + 1) ρ2 X D, D.rt, D.nx, fun ρ1 => backP i (π ++ [.idx k]) j q ρ1 fun ρ2 => forT i π p j tb m (k + 1) ρ2 X D⟩)
      (D.nx ρ)
def wsForO (we : WE) (j : Nat) (tb : WS) : WS := fun ρ X D => we ρ X fun r ρ1 => bindP (match r with | .pth i π p => some (i, π, p) | _ => none) fun q => bindP (nodeR ρ1 q.1 q.2.1 q.2.2) fun t => bindP (lenT t) fun n => forT q.1 q.2.1 q.2.2 j tb (n + 1) 0 ρ1 X D
section
variable {K : PySem.W.Frag} {M : MC} {G : Gd} {ρ ρ' : Rho} {σ : St} {H H' : Hp} {v : V}
theorem iteP_at {c : Bool} {a b : Prop} {t1 t2} (h : iteP c a b t1 t2) : (c = true ∧ a) ∨ (c = false ∧ b) := by
  cases c with
  | true => exact .inl ⟨rfl, h⟩
  | false => exact .inr ⟨rfl, h⟩
theorem Rel.ownLen {i : Nat} {π : List Stp} {p : Addr} {t : T} {n : Nat} (R : Rel K M G ρ σ H) (h : nodeR ρ i π p = some t) (hl : lenT t = some n) : ∃ xs, H p = some (.lst xs) ∧ xs.length = n ∧ ∀ k u, t.kidAt k = some u → ∃ x, xs[k]? = some x ∧ TAt K (Own M G ρ) H x u := by
  have ta := (R.node h).1
  unfold lenT at hl
  split at hl
  · rename_i p' ds
    cases hl
    obtain ⟨tt, e1, e2, e3, e4⟩ := nodeR_of h
    cases e3
    cases ta with
    | top hp k =>
      rename_i o
      cases o with
      | lst xs =>
        refine ⟨xs, hp, DAll.length k, fun j u hu => ?_⟩
        obtain ⟨d, h1, rfl⟩ := Option.map_eq_some_iff.mp (show (ds[j]?).map T.fz = some u from hu)
        obtain ⟨x, h2, h3⟩ := DAll.get k h1
        exact ⟨x, h2, .fz h3⟩
      | _ => exact k.elim
  · cases hl
    obtain ⟨tt, e1, e2, e3, e4⟩ := nodeR_of h
    cases e3
    obtain ⟨_, xs, hp, ha⟩ := ta.lst'
    exact ⟨xs, hp, ha.length, fun j u hu => ha.get hu⟩
  · cases hl
theorem Rel.giveb1 {i : Nat} {π : List Stp} {q : Addr} {u : T} (R : Rel K M (G.hide (.ref q) u) ρ σ H) (h : El.giveb ρ [some (i, π, q)] [u] = some ρ') : Rel K M G ρ' σ H :=
  Rel.giveb (vs := [.ref q]) (ts := [u]) (.cons .nil) (R : Rel K M (G.plus [] [(V.ref q, u)]) ρ σ H) h
end
section
variable {X : Cx} {M : MC} {E : WX} {we : WE} {tb : WS} {e tg iter : Expr} {body : List Stmt} {pos : Pos}
def tIO (K : PySem.W.Frag) (M : MC) (E : WX) (we : WE) : TI := fun σ H R => ∃ G ρ Xd Qd, Rel K M G ρ σ H ∧ Lnk K M G E Xd ∧ we ρ Xd Qd ∧
  ∀ ρ' H' r v, Rel K M (G.hold v r) ρ' σ H' → RsOk v r → Qd r ρ' → ∃ i π p t n, r = .pth i π p ∧ nodeR ρ' i π p = some t ∧ lenT t = some n ∧ R (Itl K p) H'
theorem pi_own (he : PE X e (tD X.K M E we)) : PI X tg e (tIO X.K M E we) := by
  refine ⟨fun pins s σ H Rr I ⟨G, ρ, Xd, Qd, R, L, w, k⟩ => ?_⟩
  refine thn (he.run pins s σ H (fun x H1 => ∃ ρ1 r, Rel X.K M (G.hold x r) ρ1 σ H1 ∧ RsOk x r ∧ Qd r ρ1) I ⟨G, ρ, Xd, _, R, L, w, fun ρ1 v H1 r R1 h1 w1 => ⟨ρ1, r, R1, h1, w1⟩⟩) fun v s1 ⟨x, H1, I1, r1, ρ1, r, R1, h1, w1⟩ => ?_
  obtain ⟨i, π, p, t, n, rfl, g, gl, q⟩ := k ρ1 H1 r x R1 h1 w1
  have h1 : x = .ref p := h1
  subst h1
  obtain rfl : v = Value.ref p := r1
  obtain ⟨xs, hp, _⟩ := Rel.ownLen (G := G) R1 g gl
  exact it_list I1 (SqL.of hp) q
theorem forO_all {K : PySem.W.Frag} {j : Nat} : ∀ D σ H, tDS K M E (wsForO we j tb) D σ H → tFor (tIO K M E we) (gName j) (tDS K M E tb) D σ H := by
  rintro D σ H ⟨G, ρ, Xd, Qd, R, L, w, k1, k2, k3, k4⟩
  refine ⟨G, ρ, Xd, _, R, L, w, fun ρ1 H1 r v R1 h1 w1 => ?_⟩
  obtain ⟨⟨i, π, p⟩, er, w2⟩ := bindP_of w1
  obtain ⟨t, gn, w3⟩ := bindP_of w2
  obtain ⟨n, gl, w4⟩ := bindP_of w3
  cases r with
  | pth i' π' p' =>
    cases er
    refine ⟨i, π, p, t, n, rfl, gn, gl, ?_⟩
    have R1 : Rel K M G ρ1 σ H1 := R1
    refine ⟨fun k m σ H => ∃ ρ, Rel K M G ρ σ H ∧ forT i π p j tb m k ρ Xd Qd, ⟨n + 1, ρ1, R1, w4⟩, ?_⟩
    rintro k m σ2 H2 ⟨ρ2, R2, w5⟩
    cases m with
    | zero => exact w5.elim
    | succ m =>
      obtain ⟨t, gn, w6⟩ := bindP_of (show bindP (nodeR ρ2 i π p) _ from w5)
      obtain ⟨n, gl, w7⟩ := bindP_of w6
      obtain ⟨xs, hp, hlen, hk⟩ := R2.ownLen gn gl
      rcases iteP_at w7 with ⟨c, w8⟩ | ⟨c, w8⟩
      · have c := of_decide_eq_true c
        obtain ⟨u, gu, w9⟩ := bindP_of w8
        obtain ⟨x, hx, hu⟩ := hk k u gu
        refine .inr ⟨⟨xs, x, SqL.of hp, hx⟩, fun σ3 H3 => ∃ ρ, Rel K M G ρ σ3 H3 ∧ forT i π p j tb m (k + 1) ρ Xd Qd, fun σ3 H3 ⟨ρ3, R3, w3⟩ => ⟨m, Nat.lt_succ_self m, ρ3, R3, w3⟩, fun y H3 yl => ?_⟩
        obtain ⟨rfl, yl⟩ := yl
        have ey := yl xs (SqL.of hp)
        rw [hx] at ey
        cases ey
        cases er : u.root with
        | none =>
          cases u with
          | fz d =>
            have w9 : tb (ρ2.set j (some (.fz d))) Xd _ := w9
            cases hu with
            | fz hd => exact ⟨G, _, Xd, _, R2.set hd, L, w9, fun ρ4 σ4 H4 R4 w4 => ⟨ρ4, R4, w4⟩, k2, fun ρ4 σ4 H4 R4 w4 => k1 _ _ _ R4 w4, fun ρ4 σ4 H4 R4 w4 => ⟨ρ4, R4, w4⟩⟩
          | _ => cases er
        | some q =>
          replace w9 := Eq.mp (turnP_own er) w9
          obtain ⟨u', gu', w10⟩ := bindP_of w9
          obtain ⟨tt, e1, e2, e3, e4⟩ := nodeR_of gu'
          obtain rfl := hu.root er
          have R3 := (Rel.take R2 e1 e2 e3).setT j
          rw [← e4] at R3
          have bk : ∀ ρ4 σ4 H4, Rel K M G ρ4 σ4 H4 → backP i (π ++ [.idx k]) j q ρ4 (fun ρ2 => forT i π p j tb m (k + 1) ρ2 Xd Qd) → ∃ ρ, Rel K M G ρ σ4 H4 ∧ forT i π p j tb m (k + 1) ρ Xd Qd := fun ρ4 σ4 H4 R4 w4 => by
            obtain ⟨u2, gu2, w11⟩ := bindP_of (show bindP _ _ from w4)
            obtain ⟨ρ5, gb, w12⟩ := bindP_of w11
            obtain ⟨tt, f1, f2, f3, f4⟩ := nodeR_of gu2
            rw [f4] at gb
            exact ⟨ρ5, (Rel.take R4 f1 f2 f3).giveb1 gb, w12⟩
          exact ⟨G, _, Xd, _, R3, L, w10, bk, k2, fun ρ4 σ4 H4 R4 w4 => k1 _ _ _ R4 w4, bk⟩
      · have c : ¬ k < n := of_decide_eq_false c
        exact .inl ⟨⟨xs, SqL.of hp, by omega⟩, k1 ρ2 σ2 H2 R2 w8⟩
  | _ => cases er
theorem pd_forO {x : Str} {px : Pos} (j : Nat) (hN : X.N.Nodup) (hp : PassesOwn (model X.prog X.w) X.A X.env X.xe) (hc : X.calm = true) (he : PE X iter (tD X.K M E we)) (hb : PSs X body (tDS X.K M E tb)) (hi : X.N[j]? = some x := by rfl) (hx : Loc X.env.scope x := by first | exact Or.inl rfl | exact Or.inr rfl)
    (hf : X.fn x = true ∨ X.env.scope.names.lookup x = some .local := by first | exact .inl rfl | exact .inr rfl) (hs : ∀ x, foldedSetIterable iter X.env x = pure x := by intro _; rfl) : PS X (.For (.Name x px) iter body [] pos) (tDS X.K M E (wsForO we j tb)) :=
  PS.weak (ps_for hp hc (pi_own he) (pg_name hN hi hx hf) hb hs) forO_all
end
end El

set_option Elab.async false
set_option linter.all false
set_option maxRecDepth 100000
set_option maxHeartbeats 4000000
/-! FD: the readings of EY to FC, reckoned by simp; comprehensions that carry a state. -/
namespace El
open PySem L2
section
variable {ρ : Rho} {X : XD} {Q : Rs → Rho → Prop} {E : ED} {QA : List Rs → Rho → Prop} {k : Rs → Prop} {kt : T → Rho → Prop}
/-! written texts -/
theorem ofString_inj {a b : String} : (Str.ofString a = Str.ofString b) = (a = b) := by
  refine propext ⟨fun h => ?_, congrArg _⟩
  rw [Str.ofString_eq_toList, Str.ofString_eq_toList] at h
  have h2 := congrArg (fun x : Str => x.cps.toList) h
  simp at h2
  exact String.toList_inj.mp ((List.map_inj_right fun _ _ e => Char.toNat_inj.mp e).mp h2)
@[simp] theorem str_eq {a b : String} : (Str.ofString a = Str.ofString b) = (a = b) := ofString_inj
/-! places -/
@[simp] theorem at_nil {t : T} : t.at [] = some t := nre rfl
@[simp] theorem at_cons {t : T} {s : Stp} {π : List Stp} : t.at (s :: π) = (t.kid s).bind fun u => u.at π := nre rfl
@[simp] theorem kid_lst {p : Addr} {ts : List T} {n : Nat} : (T.lst p ts).kid (.idx n) = ts[n]? := nre rfl
@[simp] theorem kid_tup {p : Addr} {ts : List T} {n : Nat} : (T.tup p ts).kid (.idx n) = ts[n]? := nre rfl
@[simp] theorem kid_dic {p : Addr} {m : Bool} {ks : List DK} {ts : List T} {k : DK} : (T.dic p m ks ts).kid (.key k) = (posOf ks k).bind fun i => ts[i]? := nre rfl
@[simp] theorem kid_ins {p dx C : Addr} {ns : List Str} {ts : List T} {f : Str} : (T.ins p dx C ns ts).kid (.fld f) = (posOf ns f).bind fun i => ts[i]? := nre rfl
@[simp] theorem root_fz {d : D} : (T.fz d).root = none := nre rfl
@[simp] theorem root_top {p : Addr} {d : D} : (T.top p d).root = some p := nre rfl
@[simp] theorem root_lst {p : Addr} {ts : List T} : (T.lst p ts).root = some p := nre rfl
@[simp] theorem root_tup {p : Addr} {ts : List T} : (T.tup p ts).root = some p := nre rfl
@[simp] theorem root_dic {p : Addr} {m : Bool} {ks : List DK} {ts : List T} : (T.dic p m ks ts).root = some p := nre rfl
@[simp] theorem root_ins {p dx C : Addr} {ns : List Str} {ts : List T} : (T.ins p dx C ns ts).root = some p := nre rfl
theorem nodeR_at {i : Nat} {π : List Stp} {p : Addr} {t : T} (h : ρ[i]? = some (some t)) : nodeR ρ i π p = (t.at π).bind fun s => if s.root = some p then some s else none := by
  unfold nodeR
  rw [slotT_eq h]; rfl
@[simp] theorem nodeR_cons {i : Nat} {s : Stp} {π : List Stp} {p : Addr} {t : T} (h : ρ[i]? = some (some t)) : nodeR ρ i (s :: π) p = (t.at (s :: π)).bind fun s => if s.root = some p then some s else none := nodeR_at h
@[simp] theorem nodeR_nil {i : Nat} {p : Addr} {t : T} (h : ρ[i]? = some (some t)) : nodeR ρ i [] p = if t.root = some p then some t else none := nodeR_at h
@[simp] theorem putN_cons {i : Nat} {s : Stp} {π : List Stp} {u t : T} (h : ρ[i]? = some (some t)) : putN ρ i (s :: π) u = ρ.set i (some (t.put (s :: π) u)) := by
  unfold putN
  rw [slotT_eq h]
@[simp] theorem put_nil {t u : T} : t.put [] u = u := by
  cases t <;> rfl
theorem put_step {t u : T} {s : Stp} {π : List Stp} : t.put (s :: π) u = ((t.pos s).bind fun i => (t.kids[i]?).map fun x => t.setKid i (x.put π u)).getD t := by
  rw [T.put]
  cases t.pos s with
  | none => rfl
  | some i =>
    show (match t.kids[i]? with | some x => t.setKid i (x.put π u) | none => t) = _
    cases h : t.kids[i]? <;> simp [h]
@[simp] theorem put_lst {p : Addr} {ts : List T} {n : Nat} {π : List Stp} {u : T} : (T.lst p ts).put (.idx n :: π) u = ((ts[n]?).map fun x => T.lst p (ts.set n (x.put π u))).getD (.lst p ts) := put_step
@[simp] theorem put_tup {p : Addr} {ts : List T} {n : Nat} {π : List Stp} {u : T} : (T.tup p ts).put (.idx n :: π) u = ((ts[n]?).map fun x => T.tup p (ts.set n (x.put π u))).getD (.tup p ts) := put_step
@[simp] theorem put_dic {p : Addr} {m : Bool} {ks : List DK} {ts : List T} {k : DK} {π : List Stp} {u : T} : (T.dic p m ks ts).put (.key k :: π) u = ((posOf ks k).bind fun i => (ts[i]?).map fun x => T.dic p m ks (ts.set i (x.put π u))).getD (.dic p m ks ts) := put_step
@[simp] theorem put_ins {p dx C : Addr} {ns : List Str} {ts : List T} {f : Str} {π : List Stp} {u : T} : (T.ins p dx C ns ts).put (.fld f :: π) u = ((posOf ns f).bind fun i => (ts[i]?).map fun x => T.ins p dx C ns (ts.set i (x.put π u))).getD (.ins p dx C ns ts) := put_step
@[simp] theorem giv_pth {i : Nat} {π : List Stp} {p : Addr} : Rs.giv ρ (.pth i π p) = (nodeR ρ i π p).map fun s => (.new s, putN ρ i π (.fz (.ref p))) := nre rfl
@[simp] theorem out_pth {i : Nat} {π : List Stp} {p : Addr} : Rs.out ρ (.pth i π p) = (nodeR ρ i π p).map fun s => (s.val, putN ρ i π (.fz s.val)) := nre rfl
@[simp] theorem get_pth {i : Nat} {π : List Stp} {p : Addr} : Rs.get ρ (.pth i π p) = (nodeR ρ i π p).bind T.dat := nre rfl
@[simp] theorem dat_top {p : Addr} {d : D} : (T.top p d).dat = some d := nre rfl
@[simp] theorem posOf_nil {α : Type} [DecidableEq α] {k : α} : posOf [] k = none := nre rfl
@[simp] theorem posOf_cons {α : Type} [DecidableEq α] {k k' : α} {ks : List α} : posOf (k' :: ks) k = if k' = k then some 0 else (posOf ks k).map (· + 1) := nre rfl
theorem giveb_at {i : Nat} {s : Stp} {π : List Stp} {p : Addr} {t u : T} {bs : List (Option Pl)} {ts : List T} (h : ρ[i]? = some (some t)) (h2 : t.at (s :: π) = some (.fz (.ref p))) : giveb ρ (some (i, s :: π, p) :: bs) (u :: ts) = giveb (ρ.set i (some (t.put (s :: π) u))) bs ts := by
  show ((slotT ρ i).bind _) = _
  rw [slotT_eq h]
  show (match t.at (s :: π) with | some (.fz (.ref q)) => if q = p then giveb (ρ.set i (some (t.put (s :: π) u))) bs ts else none | _ => none) = _
  rw [h2]
  show (if p = p then _ else _) = _
  rw [if_pos rfl]
@[simp] theorem backs_c {ts : List T} {i : Nat} {io : List Nat} : backs ts ρ (i :: io) = (slotT ρ i).bind fun t => if t.root ≠ none ∧ (ts[i]?).bind T.root = t.root then (backs ts ρ io).map fun r => t :: r else none := nre rfl
/-! x[y] -/
@[simp ↓] theorem e_wGet {a b : WE} : wGet a b ρ X Q = a ρ X fun ra ρ1 => b ρ1 X fun rb ρ2 => bindP (rb.get ρ2) fun e => getP ρ2 ra e fun r => Q r ρ2 := nre rfl
@[simp ↓] theorem getP_val {d e : D} : getP ρ (.val d) e k = opP oGet d e fun c => k c.rs := nre rfl
@[simp ↓] theorem getP_nw {d e : D} : getP ρ (.nw d) e k = opP oGet d e fun c => k c.rs := nre rfl
@[simp ↓] theorem getP_new {u : T} {e : D} : getP ρ (.new u) e k = getK u e (fun q => rsNew q.2) k := nre rfl
@[simp ↓] theorem getP_pth {i : Nat} {π : List Stp} {p : Addr} {e : D} : getP ρ (.pth i π p) e k = bindP (nodeR ρ i π p) fun t => getK t e (fun q => rsOf i (π ++ [q.1]) q.2) k := nre rfl
@[simp ↓] theorem getK_top {p : Addr} {d e : D} {f : Stp × T → Rs} : getK (.top p d) e f k = opP oGet d e fun c => k c.rs := nre rfl
@[simp ↓] theorem getK_lst {p : Addr} {ts : List T} {e : D} {f : Stp × T → Rs} : getK (.lst p ts) e f k = bindP (kidD (.lst p ts) e) fun q => k (f q) := nre rfl
@[simp ↓] theorem getK_tup {p : Addr} {ts : List T} {e : D} {f : Stp × T → Rs} : getK (.tup p ts) e f k = bindP (kidD (.tup p ts) e) fun q => k (f q) := nre rfl
@[simp ↓] theorem getK_dic {p : Addr} {m : Bool} {ks : List DK} {ts : List T} {e : D} {f : Stp × T → Rs} : getK (.dic p m ks ts) e f k = bindP (kidD (.dic p m ks ts) e) fun q => k (f q) := nre rfl
theorem kidD_lst {p : Addr} {ts : List T} {j : Int} : kidD (.lst p ts) (.int j) = (ixN ts.length j).bind fun n => (ts[n]?).map fun u => (.idx n, u) := by
  show ((ixN ts.length j).map Stp.idx).bind (fun s => ((T.lst p ts).kid s).map fun u => (s, u)) = _
  generalize ixN ts.length j = o
  cases o <;> rfl
theorem kidD_tup {p : Addr} {ts : List T} {j : Int} : kidD (.tup p ts) (.int j) = (ixN ts.length j).bind fun n => (ts[n]?).map fun u => (.idx n, u) := by
  show ((ixN ts.length j).map Stp.idx).bind (fun s => ((T.tup p ts).kid s).map fun u => (s, u)) = _
  generalize ixN ts.length j = o
  cases o <;> rfl
theorem ixN_of {n : Nat} {k : Nat} (h : k < n) : ixN n (k : Int) = some k := by
  unfold ixN
  rw [if_pos (by omega), if_pos (by omega)]
  rfl
@[simp] theorem kidL0 {p : Addr} {a : T} {l : List T} : kidD (.lst p (a :: l)) (.int 0) = some (.idx 0, a) := by
  rw [kidD_lst, show (0 : Int) = ((0 : Nat) : Int) from rfl, ixN_of (by simp)]; rfl
@[simp] theorem kidT0 {p : Addr} {a : T} {l : List T} : kidD (.tup p (a :: l)) (.int 0) = some (.idx 0, a) := by
  rw [kidD_tup, show (0 : Int) = ((0 : Nat) : Int) from rfl, ixN_of (by simp)]; rfl
@[simp] theorem kidL1 {p : Addr} {a b : T} {l : List T} : kidD (.lst p (a :: b :: l)) (.int 1) = some (.idx 1, b) := by
  rw [kidD_lst, show (1 : Int) = ((1 : Nat) : Int) from rfl, ixN_of (by simp)]; rfl
@[simp] theorem kidT1 {p : Addr} {a b : T} {l : List T} : kidD (.tup p (a :: b :: l)) (.int 1) = some (.idx 1, b) := by
  rw [kidD_tup, show (1 : Int) = ((1 : Nat) : Int) from rfl, ixN_of (by simp)]; rfl
@[simp] theorem kidD_dic {p : Addr} {ks : List DK} {ts : List T} {e : D} : kidD (.dic p false ks ts) e = (key1 e).bind fun k => ((posOf ks (.one k)).bind fun i => ts[i]?).map fun u => (.key (.one k), u) := by
  unfold kidD
  show ((key1 e).map _).bind _ = _
  cases key1 e <;> rfl
@[simp] theorem rsNew_fz {d : D} : rsNew (.fz d) = .val d := nre rfl
@[simp] theorem rsNew_top {p : Addr} {d : D} : rsNew (.top p d) = .new (.top p d) := nre rfl
@[simp] theorem rsNew_lst {p : Addr} {ts : List T} : rsNew (.lst p ts) = .new (.lst p ts) := nre rfl
@[simp] theorem rsNew_tup {p : Addr} {ts : List T} : rsNew (.tup p ts) = .new (.tup p ts) := nre rfl
/-! parts -/
@[simp ↓] theorem parP_f {r : Rs} : parP false ρ r kt = bindP (r.out ρ) fun q => kt (.fz q.1) q.2 := by
  unfold parP partP bindP
  exact propext ⟨fun ⟨d, ρ', h, q⟩ => ⟨(d, ρ'), h, q⟩, fun ⟨q, h, w⟩ => ⟨q.1, q.2, h, w⟩⟩
@[simp ↓] theorem parP_tv {d : D} : parP true ρ (.val d) kt = kt (.fz d) ρ := nre rfl
@[simp ↓] theorem parP_tn {u : T} : parP true ρ (.new u) kt = kt u ρ := nre rfl
@[simp ↓] theorem parP_tp {i : Nat} {π : List Stp} {p : Addr} : parP true ρ (.pth i π p) kt = bindP (nodeR ρ i π p) fun s => kt s (putN ρ i π (.fz (.ref p))) := nre rfl
theorem parP_tw {d : D} (h : ∀ p, kt (.top p d) ρ) : parP true ρ (.nw d) kt := h
@[simp ↓] theorem parsP0 {bs : List Bool} {kk : List T → Rho → Prop} : parsP bs ρ [] kk = kk [] ρ := nre rfl
@[simp ↓] theorem parsP1 {bs : List Bool} {r : Rs} {rs : List Rs} {kk : List T → Rho → Prop} : parsP bs ρ (r :: rs) kk = parsP bs.tail ρ rs fun ts ρ1 => parP (bs.headD false) ρ1 r fun t ρ2 => kk (t :: ts) ρ2 := nre rfl
/-! stores -/
theorem rep1T_set {k : DK} {u : T} : ∀ {ks : List DK} {ts : List T} {n : Nat}, ks.Nodup → ks.length = ts.length → posOf ks k = some n → rep1T ks ts k u = ts.set n u
  | k' :: ks, t :: ts, n, hn, hl, h => by
    have hz : ∀ {ks : List DK} {ts : List T}, k ∉ ks → ks.length = ts.length → rep1T ks ts k u = ts := by
      intro ks
      induction ks with
      | nil => intro ts _ hl; cases ts with | nil => rfl | cons => cases hl
      | cons a l ih =>
        intro ts hk hl
        cases ts with
        | nil => cases hl
        | cons t ts =>
          show (if a = k then u else t) :: rep1T l ts k u = _
          rw [if_neg fun e => hk (by rw [e]; exact List.mem_cons_self), ih (fun z => hk (List.mem_cons_of_mem _ z)) (Nat.succ.inj hl)]
    unfold posOf at h
    show (if k' = k then u else t) :: rep1T ks ts k u = _
    by_cases e : k' = k
    · rw [if_pos e] at h ⊢
      cases h
      rw [hz (by rw [← e]; exact (List.nodup_cons.mp hn).1) (Nat.succ.inj hl)]
      rfl
    · rw [if_neg e] at h ⊢
      obtain ⟨m, h1, rfl⟩ := Option.map_eq_some_iff.mp h
      rw [rep1T_set (List.nodup_cons.mp hn).2 (Nat.succ.inj hl) h1]
      rfl
  | [], _, _, _, _, h => by cases h
  | _ :: _, [], _, _, hl, _ => by cases hl
theorem hasK_pos {k : DK} : ∀ {ks : List DK}, hasK ks k = (posOf ks k).isSome
  | [] => rfl
  | k' :: ks => by
    unfold hasK posOf
    by_cases e : k' = k
    · simp [e]
    · have := hasK_pos (k := k) (ks := ks)
      unfold hasK at this
      simp [e, this]
@[simp] theorem setT_lst {p : Addr} {ts : List T} {j : D} {u : T} : setT (.lst p ts) j u = setO (.lst p ts) j u := nre rfl
@[simp] theorem setT_dic {p : Addr} {m : Bool} {ks : List DK} {ts : List T} {j : D} {u : T} : setT (.dic p m ks ts) j u = setO (.dic p m ks ts) j u := nre rfl
@[simp] theorem setT_topf {p : Addr} {c j d : D} : setT (.top p c) j (.fz d) = (stD c j d).map (.top p) := nre rfl
@[simp] theorem setO_lst {p : Addr} {ts : List T} {j : Int} {u : T} : setO (.lst p ts) (.int j) u = (ixN ts.length j).map fun n => .lst p (ts.set n u) := nre rfl
@[simp] theorem setO_dic {p : Addr} {ks : List DK} {ts : List T} {j : D} {u : T} (hn : ks.Nodup) (hl : ks.length = ts.length) : setO (.dic p false ks ts) j u = (key1 j).bind fun k => if ts.length < 16777216 then some (match posOf ks (.one k) with | some n => .dic p false ks (ts.set n u) | none => .dic p false (ks ++ [.one k]) (ts ++ [u])) else none := by
  show ((key1 j).bind fun k => if ks.Nodup ∧ ts.length < 16777216 then some (T.dic p false (dputT ks ts (.one k) u).1 (dputT ks ts (.one k) u).2) else none) = _
  refine congrArg _ (funext fun k => ?_)
  by_cases hz : ts.length < 16777216
  · rw [if_pos ⟨hn, hz⟩, if_pos hz]
    refine congrArg some ?_
    unfold dputT
    cases h : posOf ks (.one k) with
    | none => rw [hasK_pos, h]; rfl
    | some n =>
      rw [hasK_pos, h]
      show T.dic p false ks (rep1T ks ts (.one k) u) = _
      rw [rep1T_set hn hl h]
  · rw [if_neg hz, if_neg fun z => hz z.2]
@[simp] theorem lenT_top {p : Addr} {ds : List D} : lenT (.top p (.lst ds)) = some ds.length := nre rfl
@[simp] theorem lenT_lst {p : Addr} {ts : List T} : lenT (.lst p ts) = some ts.length := nre rfl
@[simp] theorem appT_ff {p : Addr} {ds : List D} {d : D} : appT (.top p (.lst ds)) (.fz d) = some (.top p (.lst (ds ++ [d]))) := nre rfl
@[simp] theorem appT_ft {p q : Addr} {ds : List D} {d : D} : appT (.top p (.lst ds)) (.top q d) = some (.lst p (ds.map .fz ++ [.top q d])) := nre rfl
@[simp] theorem appT_fl {p q : Addr} {ds : List D} {ts : List T} : appT (.top p (.lst ds)) (.lst q ts) = some (.lst p (ds.map .fz ++ [.lst q ts])) := nre rfl
@[simp] theorem appT_fd {p q : Addr} {m : Bool} {ds : List D} {ks : List DK} {ts : List T} : appT (.top p (.lst ds)) (.dic q m ks ts) = some (.lst p (ds.map .fz ++ [.dic q m ks ts])) := nre rfl
@[simp] theorem appT_lst {p : Addr} {ts : List T} {u : T} : appT (.lst p ts) u = some (.lst p (ts ++ [u])) := by
  unfold appT; rfl
@[simp] theorem nodeA_pth {i : Nat} {π : List Stp} {p : Addr} : nodeA ρ (.pth i π p) = nodeR ρ i π p := nre rfl
@[simp] theorem putT_pth {i : Nat} {π : List Stp} {p : Addr} {t : T} : putT ρ (.pth i π p) t = putN ρ i π t := nre rfl
@[simp ↓] theorem e_setT {kp : Bool} {a o j : WE} : wsSetT kp a o j ρ X E = a ρ X fun r ρ1 => o ρ1 X fun s ρ2 => j ρ2 X fun q ρ3 => bindP (q.get ρ3) fun j => parP kp ρ3 r fun u ρ4 => bindP (nodeA ρ4 s) fun t => bindP (setT t j u) fun t' => E.nx (putT ρ4 s t') := nre rfl
@[simp ↓] theorem e_appT {kp : Bool} {o a : WE} : wsAppT kp o a ρ X E = o ρ X fun r ρ1 => bindP ((nodeA ρ1 r).bind lenT) fun _ => a ρ1 X fun q ρ2 => parP kp ρ2 q fun u ρ3 => bindP (nodeA ρ3 r) fun t => bindP (lenT t) fun n => n < 16777216 ∧ bindP (appT t u) fun t' => E.nx (putT ρ3 r t') := nre rfl
/-! displays -/
@[simp ↓] theorem e_lstO {bs : List Bool} {a : WA} : wLstO bs a ρ X Q = a ρ X fun rs ρ1 => rs.length ≤ 1000 ∧ parsP bs ρ1 rs fun ts ρ2 => ∀ p, Q (.new (.lst p ts)) ρ2 := nre rfl
@[simp ↓] theorem e_tupO {bs : List Bool} {a : WA} : wTupO bs a ρ X Q = a ρ X fun rs ρ1 => rs.length ≤ 1000 ∧ parsP bs ρ1 rs fun ts ρ2 => ∀ p, Q (.new (.tup p ts)) ρ2 := nre rfl
@[simp ↓] theorem e_dicO {bs : List Bool} {l : List (WE × WE)} : wDicO bs l ρ X Q = waPairs l ρ X fun rs ρ1 => parsP bs ρ1 rs fun ts ρ2 => bindP (pairsT ts) fun q => q.1.Nodup ∧ q.1.length ≤ 15 ∧ ∀ p, Q (.new (.dic p false q.1 q.2)) ρ2 := nre rfl
@[simp ↓] theorem e_dicF {l : List (WE × WE)} : wDicF l ρ X Q = waPairs l ρ X fun rs ρ1 => parsP [] ρ1 rs fun ts ρ2 => bindP (pairsT ts) fun q => bindP (asFz q.2) fun ds => q.1.Nodup ∧ q.1.length ≤ 15 ∧ Q (.nw (.dic false q.1 ds)) ρ2 := nre rfl
@[simp ↓] theorem e_dic0 {m : Bool} : wDic0 m ρ X Q = Q (.nw (.dic m [] [])) ρ := nre rfl
@[simp ↓] theorem e_pairs0 : waPairs [] ρ X QA = QA [] ρ := nre rfl
@[simp ↓] theorem e_pairs1 {a b : WE} {l : List (WE × WE)} : waPairs ((a, b) :: l) ρ X QA = a ρ X fun x ρ1 => b ρ1 X fun y ρ2 => waPairs l ρ2 X fun xs ρ3 => QA (x :: y :: xs) ρ3 := nre rfl
@[simp] theorem pairsT0 : pairsT [] = some ([], []) := nre rfl
@[simp] theorem pairsT1 {d : D} {t : T} {l : List T} : pairsT (.fz d :: t :: l) = (key1 d).bind fun k => (pairsT l).map fun q => (.one k :: q.1, t :: q.2) := nre rfl
@[simp] theorem asFz0 : asFz [] = some [] := nre rfl
@[simp] theorem asFz1 {d : D} {l : List T} : asFz (.fz d :: l) = (asFz l).map fun ds => d :: ds := nre rfl
/-! looks -/
@[simp ↓] theorem e_opF {o : D → D → (Os → Prop) → Prop} {a b : WE} : wOpF o a b ρ X Q = a ρ X fun ra ρ1 => b ρ1 X fun rb ρ2 => bindP (peekR ρ2 ra) fun d => bindP (peekR ρ2 rb) fun e => opP o d e fun c => bindP (flatO c) fun x => Q (.val x) ρ2 := nre rfl
@[simp ↓] theorem e_caF {o : List D → (Os → Prop) → Prop} {a : WA} : wCaF o a ρ X Q = a ρ X fun rs ρ1 => bindP (peeks ρ1 rs) fun ds => caP o ds fun c => bindP (flatO c) fun x => Q (.val x) ρ1 := nre rfl
@[simp ↓] theorem e_caT {o : List D → (Os → Prop) → Prop} {tp : Bool} {a : WA} : wCaT o tp a ρ X Q = a ρ X fun rs ρ1 => rs.length ≤ 1000 ∧ bindP (peeks ρ1 rs) fun ds => caP o [if tp = true then .tup ds else .lst ds] fun c => bindP (flatO c) fun x => Q (.val x) ρ1 := nre rfl
@[simp ↓] theorem e_isiF {cs : List TN} {a : WE} : wIsiF cs a ρ X Q = a ρ X fun r ρ1 => bindP (peekR ρ1 r) fun d => bindP d.tn fun a => Q (.val (.bl (cs.any fun c => a.is c))) ρ1 := nre rfl
@[simp ↓] theorem e_isNF {f : Bool → Bool} {a : WE} : wIsNF f a ρ X Q = a ρ X fun r ρ1 => bindP (peekR ρ1 r) fun d => Q (.val (.bl (f d.isN))) ρ1 := nre rfl
@[simp] theorem peek_val {d : D} : peekR ρ (.val d) = some d := nre rfl
@[simp] theorem peek_nw {d : D} : peekR ρ (.nw d) = some d := nre rfl
@[simp] theorem peek_new {t : T} : peekR ρ (.new t) = some t.val := nre rfl
@[simp] theorem peek_pth {i : Nat} {π : List Stp} {p : Addr} : peekR ρ (.pth i π p) = (nodeR ρ i π p).map T.val := nre rfl
@[simp] theorem peeks0 : peeks ρ [] = some [] := nre rfl
@[simp] theorem peeks1 {r : Rs} {rs : List Rs} : peeks ρ (r :: rs) = (peekR ρ r).bind fun d => (peeks ρ rs).map fun ds => d :: ds := nre rfl
@[simp] theorem val_fz {d : D} : (T.fz d).val = d := nre rfl
@[simp] theorem val_top {p : Addr} {d : D} : (T.top p d).val = d := nre rfl
@[simp] theorem val_lst {p : Addr} {ts : List T} : (T.lst p ts).val = .lst (ts.map T.val) := by rw [T.val, T.vals_map]
@[simp] theorem val_tup {p : Addr} {ts : List T} : (T.tup p ts).val = .tup (ts.map T.val) := by rw [T.val, T.vals_map]
@[simp] theorem val_dic {p : Addr} {m : Bool} {ks : List DK} {ts : List T} : (T.dic p m ks ts).val = .dic m ks (ts.map T.val) := by rw [T.val, T.vals_map]
@[simp] theorem flat_bl {b : Bool} : flatO (.val (.bl b)) = some (.bl b) := nre rfl
@[simp] theorem flat_int {b : Int} : flatO (.val (.int b)) = some (.int b) := nre rfl
@[simp] theorem flat_str {b : Str} : flatO (.val (.str b)) = some (.str b) := nre rfl
/-! unpacking -/
@[simp ↓] theorem e_unp {is : List Nat} {a : WE} : wsUnp is a ρ X E = a ρ X fun r ρ1 => unpP is r ρ1 E.nx := nre rfl
@[simp ↓] theorem unp_new {is : List Nat} {p : Addr} {ts : List T} {nx : Rho → Prop} : unpP is (.new (.tup p ts)) ρ nx = (ts.length = is.length ∧ nx (setsR ρ is ts)) := nre rfl
@[simp ↓] theorem unp_val {is : List Nat} {ds : List D} {nx : Rho → Prop} : unpP is (.val (.tup ds)) ρ nx = (ds.length = is.length ∧ nx (setsR ρ is (ds.map .fz))) := nre rfl
@[simp] theorem setsR0 : setsR ρ [] [] = ρ := nre rfl
@[simp] theorem setsR1 {i : Nat} {is : List Nat} {t : T} {ts : List T} : setsR ρ (i :: is) (t :: ts) = setsR (ρ.set i (some t)) is ts := nre rfl
/-! own loops -/
@[simp ↓] theorem e_forO {a : WE} {j : Nat} {tb : WS} : wsForO a j tb ρ X E = a ρ X fun r ρ1 => bindP (match r with | .pth i π p => some (i, π, p) | _ => none) fun q => bindP (nodeR ρ1 q.1 q.2.1 q.2.2) fun t => bindP (lenT t) fun n => forT q.1 q.2.1 q.2.2 j tb (n + 1) 0 ρ1 X E := nre rfl
theorem e_forT {i : Nat} {π : List Stp} {p : Addr} {j : Nat} {tb : WS} {m k : Nat} : forT i π p j tb (m + 1) k ρ X E = bindP (nodeR ρ i π p) fun t => bindP (lenT t) fun n => iteP (decide (k < n)) (bindP (t.kidAt k) fun u => turnP u
      (fun u => tb (ρ.set j (some u)) X ⟨fun ρ2 => forT i π p j tb m (k + 1) ρ2 X E, E.rt, E.nx, fun ρ2 => forT i π p j tb m (k + 1) ρ2 X E⟩)
      fun q => bindP (nodeR ρ i (π ++ [.idx k]) q) fun u => tb ((putN ρ i (π ++ [.idx k]) (.fz (.ref q))).set j (some u)) X ⟨fun ρ1 => backP i (π ++ [.idx k]) j q ρ1 fun ρ2 => forT i π p j tb m (k + 1) ρ2 X E, E.rt, E.nx, fun ρ1 => backP i (π ++ [.idx k]) j q ρ1 fun ρ2 => forT i π p j tb m (k + 1) ρ2 X E⟩)
      (E.nx ρ) := nre rfl
@[simp ↓] theorem turn_fz {d : D} {a : T → Prop} {b : Addr → Prop} : turnP (.fz d) a b = a (.fz d) := nre rfl
@[simp ↓] theorem turn_top {p : Addr} {d : D} {a : T → Prop} {b : Addr → Prop} : turnP (.top p d) a b = b p := nre rfl
@[simp ↓] theorem turn_lst {p : Addr} {ts : List T} {a : T → Prop} {b : Addr → Prop} : turnP (.lst p ts) a b = b p := nre rfl
@[simp] theorem kidAt_lst {p : Addr} {ts : List T} {k : Nat} : (T.lst p ts).kidAt k = ts[k]? := nre rfl
@[simp] theorem kidAt_top {p : Addr} {ds : List D} {k : Nat} : (T.top p (.lst ds)).kidAt k = (ds[k]?).map .fz := nre rfl
@[simp ↓] theorem e_back {i : Nat} {π : List Stp} {j : Nat} {q : Addr} {k : Rho → Prop} : backP i π j q ρ k = bindP (nodeR ρ j [] q) fun u' => bindP (giveb (putN ρ j [] (.fz (.ref q))) [some (i, π, q)] [u']) k := nre rfl
end
section
variable {α : Type} {g : WG} {tb : WS} {tt : WT} {te : WE} {vs : List Nat} {X : XD} {E : ED} {Q : Rs → Rho → Prop} {toD : α → D}
/-- a comprehension that carries a state -/
theorem lc_inv {xs : List α} {ρ : Rho} {t} (I : List α → List D → Rho → Prop) (hz : xs.length ≤ 16777216) (h0 : I [] [] ρ)
    (step : ∀ done x rest acc ρ (k : D → Rho → Prop) (e : Rho → Prop), xs = done ++ x :: rest → I done acc ρ → (∀ y ρ', I (done ++ [x]) (acc ++ [y]) ρ' → k y ρ') → (∀ ρ', I (done ++ [x]) acc ρ' → e ρ') →
      g (toD x) ρ fun ρ2 => tt ρ2 noX fun b ρ3 => iteP b (te ρ3 noX fun r ρ4 => bindP (r.out ρ4) fun p => k p.1 (wipeR p.2 vs)) (e (wipeR ρ3 vs)))
    (h : ∀ ys ρ, I xs ys ρ → Q (.nw (.lst ys)) ρ) : lcP g tt te vs (xs.map toD) [] ρ Q t := by
  have go : ∀ (rest done : List α) (acc : List D) (ρ : Rho), xs = done ++ rest → acc.length ≤ done.length → I done acc ρ → lcP g tt te vs (rest.map toD) acc ρ Q := by
    intro rest
    induction rest with
    | nil =>
      intro done acc ρ e hl hi
      rw [List.append_nil] at e
      subst e
      exact h acc ρ hi
    | cons x rest ih =>
      intro done acc ρ e hl hi
      rw [List.map_cons, e_lc1]
      have hx := congrArg List.length e
      rw [List.length_append, List.length_cons] at hx
      have e2 : xs = (done ++ [x]) ++ rest := by rw [e, List.append_assoc]; rfl
      refine step done x rest acc ρ (fun y ρ' => acc.length < 16777216 ∧ lcP g tt te vs (rest.map toD) (acc ++ [y]) ρ' Q) (fun ρ' => lcP g tt te vs (rest.map toD) acc ρ' Q) e hi (fun y ρ' hi' => ⟨by omega, ih _ _ ρ' e2 (by simp; omega) hi'⟩) fun ρ' hi' => ih _ _ ρ' e2 (by simp; omega) hi'
  exact go xs [] [] ρ rfl (Nat.le_refl _) h0
end
/-! bounds -/
theorem cm_l {i j : Int} (h1 : -18446744073709551616 < i) (h2 : i < 18446744073709551616) : cMul i j := .inl (.inl ⟨h1, h2⟩)
theorem cm_r {i j : Int} (h1 : -18446744073709551616 < j) (h2 : j < 18446744073709551616) : cMul i j := .inl (.inr ⟨h1, h2⟩)
@[simp] theorem cp_eq {i j : Int} : cPos i j = (0 < j) := nre rfl
theorem lg {n : Int} (h0 : 0 < n) (h : n < 18446744073709551616) : n.natAbs.log2 < 9000 := by
  have h1 : n.natAbs < 2 ^ 64 := by
    have e : (2 : Nat) ^ 64 = 18446744073709551616 := by decide
    omega
  have := (Nat.log2_lt (by omega : n.natAbs ≠ 0)).mpr h1
  omega
theorem cd_of {i j : Int} (h0 : 0 < j) (h : j < 18446744073709551616) : cDiv i j := ⟨h0, lg h0 h⟩
end El

set_option Elab.async false
set_option linter.all false
set_option maxRecDepth 100000
set_option maxHeartbeats 4000000
/-! FE: more operations: text * int, text.index, str(text), slices of texts. -/
namespace El
open PySem PySem.Spec L2 PyProof.Rows SkE
/-! ### x * y, texts too -/
def rMulS : R2 := fun x y H Q => ∃ (a : Str) (n : Int), x = .str a ∧ y = .int n ∧ MulOk a n ∧ Q (.str (Txt.mul a n)) H
theorem op_mulS {X : Cx} : OpR X (binaryOp .Mult) rMulS := by
  intro pins s σ H x y v u Q I rx ry h
  obtain ⟨a, n, rfl, rfl, hok, q⟩ := h
  obtain ⟨t, rfl⟩ := rx
  obtain ⟨t2, rfl⟩ := ry
  exact PySem.SB.mul hok fun t' k => ⟨.str (Txt.mul a n), H, I.tok _, ⟨_, rfl⟩, q⟩
def oMulA (d e : D) (k : Os → Prop) : Prop := match d, e with
  | .str a, .int n => MulOk a n ∧ k (.val (.str (Txt.mul a n)))
  | d, e => oMul d e k
def rMulB (K : PySem.W.Frag) : R2 := fun x y H Q => rMulA K x y H Q ∨ rMulS x y H Q
theorem od_mulA {K : PySem.W.Frag} : OpD K (rMulB K) oMulA := by
  intro O H v w d e Q k hf hv hw ho post
  unfold oMulA at ho
  split at ho
  · rename_i a n
    exact .inr ⟨a, n, hv.str, hw.int, ho.1, post _ _ _ (out_v (.str _)) ho.2⟩
  · exact .inl (od_mul O H v w _ _ Q k hf hv hw ho post)
/-! ### text.index(sign) -/
def oIndex (d e : D) (k : Os → Prop) : Prop := match d, e with
  | .str a, .str b => ∃ (i : Nat) (rest : List Nat), Builtin.Str.occurrences a b 0 a.length 1 = i :: rest ∧ k (.val (.int i))
  | _, _ => False
def rIndexS : V → List V → Hp → VK → Prop := fun x xs H Q => ∃ a b i rest, x = .str a ∧ xs = [.str b] ∧ Builtin.Str.occurrences a b 0 a.length 1 = i :: rest ∧ Q (.int (i : Nat)) H
theorem od_index {K : PySem.W.Frag} : OpD K (fun x y H Q => rIndexS x [y] H Q) oIndex := by
  intro O H v w d e Q k hf hv hw ho post
  cases d with
  | str a =>
    cases e with
    | str b =>
      obtain ⟨i, rest, h1, h2⟩ := ho
      exact ⟨a, b, i, rest, hv.str, by rw [hw.str], h1, post _ _ _ (out_v (.int _)) h2⟩
    | _ => exact ho.elim
  | _ => exact ho.elim
/-! ### str(x) -/
def oStrA (ds : List D) (k : Os → Prop) : Prop := match ds with
  | [.str x] => k (.val (.str x))
  | ds => oStr ds k
def rStrA : List V → Hp → VK → Prop := fun xs H Q => (∃ i, xs = [.int i] ∧ i.natAbs.log2 < 1920 ∧ Q (.str (toString i)) H) ∨ ∃ a, xs = [.str a] ∧ Q (.str a) H
theorem call_strA {X : Cx} : CallR X (.type "str") rStrA := call_str_int.or call_str_str
theorem cd_strA {K : PySem.W.Frag} : CaD K rStrA oStrA := by
  intro O H vs ds Q k hf hv ho post
  unfold oStrA at ho
  split at ho
  · obtain ⟨v, rfl, b⟩ := hv.one
    exact .inr ⟨_, by rw [b.str], post _ _ _ (out_v (.str _)) ho⟩
  · exact .inl (cd_str O H vs _ Q k hf hv ho post)
section
variable {X : Cx} {M : MC} {E : WX} {wa wb : WE} {a b o e : Expr} {pos apos cpos : Pos}
theorem pd_mulA (ha : PE X a (tD X.K M E wa)) (hb : PE X b (tD X.K M E wb)) : PE X (.BinOp a .Mult b pos) (tD X.K M E (wOp oMulA wa wb)) := pd_op (op_mulA.or op_mulS) od_mulA ha hb
theorem pd_index (ho : PE X o (tD X.K M E wa)) (he : PE X e (tD X.K M E wb))
    (hbase : attributeBase o "index" X.env (eval o X.env) = eval o X.env := by rfl)
    (hfew : ((backTo cpos (starEach [e] X.env)).all (fun x => !x.1) && (backToKw cpos (keywordEach [] X.env)).all (fun x => x.1.isSome)
      && decide (([e] : List Expr).length + ([] : List Keyword).length + (if ([] : List Keyword).isEmpty then 0 else 1) < 30)) = true := by rfl)
    (hline : (apos.endLine == cpos.line) = true := by rfl) (hs : starEach [e] X.env = (false, eval e X.env) :: starEach [] X.env := by rfl) (hplain : (backTo cpos (starEach [] X.env)).any (·.1) = false := by rfl) :
    PE X (.Call (.Attribute o "index" apos) [e] [] cpos) (tD X.K M E (wMt .str oIndex wa wb)) :=
  pd_mt (r := rIndexS) mt_sindex od_index PySem.F.plainAttrs_str PySem.F.slot_str_index PySem.F.type_str_index ho he rfl hbase hfew hline hs hplain
end
/-! ### x[::-1] -/
def oRev (d : D) (k : Os → Prop) : Prop := match d with
  | .lst ds => k (.new (.lst ds.reverse))
  | .fls ds => k (.new (.lst ds.reverse))
  | _ => False
def rRevL (K : PySem.W.Frag) : V → Hp → VK → Prop := fun x H Q => ∃ a xs, x = .ref a ∧ SqL K H a xs ∧ ∀ p, H p = none → Q (.ref p) (upd H p (.lst xs.reverse))
theorem ud_rev {K : PySem.W.Frag} : UnD K (rRevL K) oRev := by
  intro O H v d Q k hf hv ho post
  cases d with
  | lst ds =>
    obtain ⟨a, xs, rfl, h, t⟩ := hv.seqL
    exact ⟨a, xs, rfl, h, fun p hp => post _ _ _ (out_l hp t.reverse) ho⟩
  | fls ds =>
    obtain ⟨a, xs, rfl, h, t⟩ := hv.seqF
    exact ⟨a, xs, rfl, h, fun p hp => post _ _ _ (out_l hp t.reverse) ho⟩
  | _ => exact ho.elim
theorem pd_rev {X : Cx} {M : MC} {E : WX} {we : WE} {e : Expr} {k : Nat} {p1 p2 p3 pos : Pos} (he : PE X e (tD X.K M E we)) : PE X (.Subscript e (.Slice none none (some (.UnaryOp .USub (.Constant (.int 1) k p1) p2)) p3) pos) (tD X.K M E (wUn oRev we)) :=
  PE.weak (pe_revL he) (un_all ud_rev)
section
variable {k : Os → Prop}
@[simp ↓] theorem o_revL {ds : List D} : unP oRev (.lst ds) k = k (.new (.lst ds.reverse)) := nre rfl
@[simp ↓] theorem o_mulA {i j : Int} : opP oMulA (.int i) (.int j) k = (cMul i j ∧ k (.val (.int (i * j)))) := nre rfl
@[simp ↓] theorem o_mulL {xs : List D} {j : Int} : opP oMulA (.lst xs) (.int j) k = ((-1000000 ≤ j ∧ j ≤ 1000000) ∧ xs.length * j.toNat ≤ 16777216 ∧ k (.new (.lst (List.replicate j.toNat xs).flatten))) := nre rfl
@[simp ↓] theorem o_mulSt {a : Str} {n : Int} : opP oMulA (.str a) (.int n) k = (MulOk a n ∧ k (.val (.str (Txt.mul a n)))) := nre rfl
@[simp ↓] theorem o_strI {i : Int} : caP oStrA [.int i] k = (i.natAbs.log2 < 1920 ∧ k (.val (.str (toString i)))) := nre rfl
@[simp ↓] theorem o_strS {x : Str} : caP oStrA [.str x] k = k (.val (.str x)) := nre rfl
@[simp ↓] theorem o_slS {x : Str} {lo hi : Option Int} : slP (.str x) lo hi k = (x.length ≤ 16777216 ∧ k (.val (.str (cutS x lo hi)))) := nre rfl
@[simp ↓] theorem o_intI {i : Int} : caP oInt [.int i] k = k (.val (.int i)) := nre rfl
@[simp ↓] theorem o_intB {b : Bool} : caP oInt [.bl b] k = k (.val (.int (if b then 1 else 0))) := nre rfl
@[simp ↓] theorem o_inT {f : Bool → Bool} {d : D} {ds : List D} : opP (oIn f) d (.tup ds) k = (d.flat = true ∧ ds.all D.flat = true ∧ k (.val (.bl (f (ds.any fun z => eqF z d))))) := nre rfl
theorem o_inL {f : Bool → Bool} {d : D} {ds : List D} : opP (oIn f) d (.lst ds) k = (SeqAt.shaped d.py = true ∧ SeqAt.shaped (.list (D.pys ds)) = true ∧ k (.val (.bl (f (ds.any fun z => eqF z d))))) := nre rfl
@[simp ↓] theorem o_inS {f : Bool → Bool} {c : Nat} {y : Str} : opP (oIn f) (.str ⟨#[c]⟩) (.str y) k = k (.val (.bl (f (decide (c ∈ y.cps.toList))))) := by
  show (∃ c', (⟨#[c]⟩ : Str) = ⟨#[c']⟩ ∧ k (.val (.bl (f (decide (c' ∈ y.cps.toList)))))) = _
  refine propext ⟨fun ⟨c', h, q⟩ => ?_, fun q => ⟨c, rfl, q⟩⟩
  have : c = c' := by simpa using h
  subst this
  exact q
@[simp] theorem eqF_str {x y : Str} : eqF (.str x) (.str y) = decide (x = y) := by
  unfold eqF
  simp only [D.py, PyData.eqv]
  by_cases h : x = y
  · subst h; simp
  · rw [decide_eq_false h]; simpa using h
@[simp] theorem tis_ii : TN.is .int .int = true := nre rfl
@[simp] theorem tis_bi : TN.is .bl .int = true := nre rfl
@[simp] theorem tis_bb : TN.is .bl .bl = true := nre rfl
@[simp] theorem tis_ib : TN.is .int .bl = false := nre rfl
@[simp] theorem tis_ll : TN.is .lst .lst = true := nre rfl
@[simp] theorem tis_ss : TN.is .str .str = true := nre rfl
@[simp] theorem tis_tt : TN.is .tup .tup = true := nre rfl
@[simp] theorem tis_dd : TN.is .dic .dic = true := nre rfl
end
/-- an int's text -/
theorem Rp.lstS {B n V : Nat} {ds : List D} (h : ∀ d ∈ ds, ∃ W, Rp B n W d) (hw : (ds.map fun d => d.py.weight + 1).sum ≤ V) : Rp B (n + 1) V (.lst ds) := by
  have wa : ∀ ds : List D, PyData.weightAll (D.pys ds) = (ds.map fun d => d.py.weight + 1).sum := by
    intro ds
    induction ds with
    | nil => rfl
    | cons d ds ih => simp only [D.pys, PyData.weightAll, List.map_cons, List.sum_cons, ih]
  have ls : ∀ {l : List Nat} {n : Nat}, n ∈ l → n ≤ l.sum := by
    intro l
    induction l with
    | nil => intro n h; cases h
    | cons a l ih =>
      intro n h
      rw [List.sum_cons]
      rcases List.mem_cons.mp h with rfl | h
      · omega
      · have := ih h; omega
  have le : ∀ d ∈ ds, d.py.weight + 1 ≤ V := fun d hd => Nat.le_trans (ls (List.mem_map_of_mem (f := fun d : D => d.py.weight + 1) hd)) hw
  have h' : ∀ d ∈ ds, Rp B n V d := fun d hd => by
    obtain ⟨W, r⟩ := h d hd
    exact ⟨r.lay, r.sh, r.dp, r.lf, by have := le d hd; omega⟩
  have hl := Rp.lst (V := ds.length * (V + 1)) h' (Nat.le_refl _) (Nat.le_refl _)
  refine ⟨hl.lay, hl.sh, hl.dp, hl.lf, ?_⟩
  show PyData.weightAll (D.pys ds) ≤ V
  rw [wa]
  exact hw
theorem F2.snoc {α β : Type} {R : α → β → Prop} : ∀ {xs : List α} {ys : List β} {x : α} {y : β}, F2 R xs ys → R x y → F2 R (xs ++ [x]) (ys ++ [y])
  | _, _, _, _, .nil, h => .cons h .nil
  | _, _, _, _, .cons a b, h => .cons a (F2.snoc b h)
end El

set_option Elab.async false
set_option linter.all false
set_option maxRecDepth 100000
set_option maxHeartbeats 4000000
/-! FF: own objects told to a def that only reads them: let go for the call's time. -/
namespace El
open PySem L2
/-- of these things data may be made that never change -/
def TX : HO → Prop
  | .tup _ => True
  | .xd _ => True
  | _ => False
mutual
/-- no list, no dict -/
def D.noL : D → Bool
  | .tup ds => D.noLs ds
  | .kt ds => D.noLs ds
  | .lst _ => false
  | .fls _ => false
  | .dic _ _ _ => false
  | .exc _ _ _ => false
  | .lk _ _ => false
  | .xd _ d => D.noL d
  | _ => true
def D.noLs : List D → Bool
  | [] => true
  | d :: ds => D.noL d && D.noLs ds
end
mutual
/-- parts let go are no lists, no dicts -/
def T.noL : T → Bool
  | .fz d => d.noL
  | .top _ (.lst ds) => D.noLs ds
  | .top _ (.dic _ _ ds) => D.noLs ds
  | .top _ _ => false
  | .lst _ ts => T.noLs ts
  | .dic _ _ _ ts => T.noLs ts
  | .ins _ _ _ _ ts => T.noLs ts
  | .tup _ ts => T.noLs ts
def T.noLs : List T → Bool
  | [] => true
  | t :: ts => T.noL t && T.noLs ts
end
mutual
/-- no own tuple, no own dict -/
def T.noT : T → Bool
  | .fz _ => true
  | .top _ (.lst _) => true
  | .top _ _ => false
  | .lst _ ts => T.noTs ts
  | .dic _ _ _ _ => false
  | .ins _ _ _ _ ts => T.noTs ts
  | .tup _ _ => false
def T.noTs : List T → Bool
  | [] => true
  | t :: ts => T.noT t && T.noTs ts
end
def Rs.noL : Rs → Bool
  | .val d => d.noL
  | .new t => t.noL
  | .nw _ => false
  | .pth _ _ _ => true
section
variable {K : PySem.W.Frag} {O O' : Addr → Prop} {H : Hp}
mutual
theorem DAt.wide (s : ∀ a o, TX o → ¬ O a → H a = some o → ¬ O' a) : ∀ {v : V} {d : D}, DAt K O H v d → d.noL = true → DAt K O' H v d
  | _, _, .non, _ => .non
  | _, _, .bl b, _ => .bl b
  | _, _, .int i, _ => .int i
  | _, _, .str x, _ => .str x
  | _, _, .ref a, _ => .ref a
  | _, _, .ty n, _ => .ty n
  | _, _, .xd n e h, q => .xd (s _ (.xd _) trivial n e) e (DAt.wide s h (by simpa [D.noL] using q))
  | _, _, .lk _ _, q => by simp [D.noL] at q
  | _, _, .exc _ _ _, q => by simp [D.noL] at q
  | _, _, .lst n e h, q => by simp [D.noL] at q
  | _, _, .fls e h, q => by simp [D.noL] at q
  | _, _, .tup e h, q => .tup e (DAll.wide s h (by simpa [D.noL] using q))
  | _, _, .kt e h, q => .kt e (DAll.wide s h (by simpa [D.noL] using q))
  | _, _, .dk n e h, q => by simp [D.noL] at q
  | _, _, .dt n e h, q => by simp [D.noL] at q
theorem DAll.wide (s : ∀ a o, TX o → ¬ O a → H a = some o → ¬ O' a) : ∀ {vs : List V} {ds : List D}, DAll K O H vs ds → D.noLs ds = true → DAll K O' H vs ds
  | _, _, .nil, _ => .nil
  | _, _, .cons h t, q => by
    simp only [D.noLs, Bool.and_eq_true] at q
    exact .cons (DAt.wide s h q.1) (DAll.wide s t q.2)
end
mutual
theorem TAt.wide {O O' : Addr → Prop} (s : ∀ a o, TX o → ¬ O a → H a = some o → ¬ O' a) : ∀ {v : V} {t : T}, TAt K O H v t → t.noL = true → TAt K O' H v t
  | _, _, .fz h, q => .fz (h.wide s q)
  | _, _, .top (d := d) (o := o) e k, q => by
    cases d with
    | lst ds => cases o with
      | lst xs => exact .top e (show Kids K O' H (.lst xs) (.lst ds) from DAll.wide s k q)
      | _ => exact k.elim
    | dic m ks ds => cases o with
      | dK kvs => cases m with
        | false => exact .top e (show Kids K O' H (.dK kvs) (.dic false ks ds) from ⟨k.1, DAll.wide s k.2 q⟩)
        | true => exact k.elim
      | dT kvs => cases m with
        | true => exact .top e (show Kids K O' H (.dT kvs) (.dic true ks ds) from ⟨k.1, DAll.wide s k.2 q⟩)
        | false => exact k.elim
      | _ => cases m <;> exact k.elim
    | _ => cases q
  | _, _, .lst e k, q => .lst e (TAll.wide s k q)
  | _, _, .dk e g k, q => .dk e g (TAll.wide s k q)
  | _, _, .dt e g k, q => .dt e g (TAll.wide s k q)
  | _, _, .ins e g f k, q => .ins e g f (TAll.wide s k q)
  | _, _, .tup e k, q => .tup e (TAll.wide s k q)
theorem TAll.wide {O O' : Addr → Prop} (s : ∀ a o, TX o → ¬ O a → H a = some o → ¬ O' a) : ∀ {vs : List V} {ts : List T}, TAll K O H vs ts → T.noLs ts = true → TAll K O' H vs ts
  | _, _, .nil, _ => .nil
  | _, _, .cons h t, q => by
    simp only [T.noLs, Bool.and_eq_true] at q
    exact .cons (TAt.wide s h q.1) (TAll.wide s t q.2)
end
mutual
theorem TAt.noTX : ∀ {v : V} {t : T} {a : Addr}, TAt K O H v t → t.noT = true → 0 < t.cnt a → ∀ o, (TX o ∨ dicO o = true) → H a ≠ some o
  | _, _, _, .fz _, _, z, _, _ => absurd z (Nat.lt_irrefl 0)
  | _, _, a, .top (p := p) (d := d) (o := o') e k, q, z, o, x => by
    obtain rfl := one_pos z
    rw [e]
    intro w
    cases w
    cases d with
    | lst ds => cases o' <;> first | exact k.elim | exact x.elim id fun x => (by cases x)
    | dic m ks ds => cases q
    | _ => cases q
  | _, _, a, .lst (p := p) h k, q, z, o, x => by
    by_cases w : p = a
    · subst w; rw [h]; intro y; cases y; exact x.elim id fun x => (by cases x)
    · exact TAll.noTX k q (by simp only [T.cnt] at z; rw [one_ne w] at z; omega) o x
  | _, _, _, .dk _ _ _, q, _, _, _ => by simp [T.noT] at q
  | _, _, _, .dt _ _ _, q, _, _, _ => by simp [T.noT] at q
  | _, _, a, .ins (p := p) (dx := dx) h g _ k, q, z, o, x => by
    by_cases w : p = a
    · subst w; rw [h]; intro y; cases y; exact x.elim id fun x => (by cases x)
    · by_cases w2 : dx = a
      · subst w2; rw [g]; intro y; cases y; exact x.elim id fun x => (by cases x)
      · exact TAll.noTX k q (by simp only [T.cnt] at z; rw [one_ne w, one_ne w2] at z; omega) o x
  | _, _, _, .tup _ _, q, _, _, _ => by simp [T.noT] at q
theorem TAll.noTX : ∀ {vs : List V} {ts : List T} {a : Addr}, TAll K O H vs ts → T.noTs ts = true → 0 < T.cnts a ts → ∀ o, (TX o ∨ dicO o = true) → H a ≠ some o
  | _, _, _, .nil, _, z, _, _ => absurd z (Nat.lt_irrefl 0)
  | _, _, a, .cons (t := t) (ts := ts) h k, q, z, o, x => by
    simp only [T.noTs, Bool.and_eq_true] at q
    by_cases w : 0 < t.cnt a
    · exact TAt.noTX h q.1 w o x
    · exact TAll.noTX k q.2 (by simp only [T.cnts] at z; omega) o x
end
end
/-! ### what the def is told: lent, or let go -/
def lentA (io : List Nat) : Nat → List T → List T
  | _, [] => []
  | j, t :: ts => (if io.contains j = true then t else .fz t.val) :: lentA io (j + 1) ts
def restA (io : List Nat) : Nat → List T → List T
  | _, [] => []
  | j, t :: ts => (if io.contains j = true then .fz .non else t) :: restA io (j + 1) ts
theorem lentA_len {io : List Nat} : ∀ {ts : List T} {j : Nat}, (lentA io j ts).length = ts.length
  | [], _ => rfl
  | t :: ts, j => by simp only [lentA, List.length_cons, lentA_len]
theorem lentA_cnt {a : Addr} {io : List Nat} : ∀ {ts : List T} {j : Nat}, T.cnts a (lentA io j ts) + T.cnts a (restA io j ts) = T.cnts a ts
  | [], _ => rfl
  | t :: ts, j => by
    have ih := lentA_cnt (a := a) (io := io) (ts := ts) (j := j + 1)
    have z1 : (T.fz .non).cnt a = 0 := rfl
    have z2 : (T.fz t.val).cnt a = 0 := rfl
    simp only [lentA, restA, T.cnts]
    split <;> omega
theorem restA_get {io : List Nat} : ∀ {ts : List T} {j i : Nat}, io.contains (j + i) = false → (restA io j ts)[i]? = ts[i]?
  | [], _, _, _ => rfl
  | t :: ts, j, 0, h => by
    have h : io.contains j = false := h
    simp only [restA, h]
    rfl
  | t :: ts, j, i + 1, h => by
    simp only [restA, List.getElem?_cons_succ]
    exact restA_get (by rw [← h]; congr 1; omega)
theorem restA_pick {io : List Nat} {ts : List T} : ∀ {jo : List Nat}, (∀ j ∈ jo, io.contains j = false) → pick jo (restA io 0 ts) = pick jo ts
  | [], _ => rfl
  | j :: jo, h => by
    have ih := restA_pick (io := io) (ts := ts) (jo := jo) fun i z => h i (List.mem_cons_of_mem _ z)
    have e : (restA io 0 ts)[j]? = ts[j]? := restA_get (by rw [Nat.zero_add]; exact h j List.mem_cons_self)
    unfold pick at ih ⊢
    simp only [List.filterMap_cons, e, ih]
theorem lentA_all {K : PySem.W.Frag} {O O' : Addr → Prop} {H : Hp} {io : List Nat} (s : Stay O O' H H) : ∀ {vs : List V} {ts : List T} {j : Nat}, TAll K O H vs ts → (∀ a, 0 < T.cnts a (restA io j ts) → ¬ O' a) → TAll K O' H vs (lentA io j ts)
  | _, _, _, .nil, _ => .nil
  | _, _, j, .cons (t := t) (ts := ts) h k, q => by
    refine .cons ?_ (lentA_all s k fun a z => q a (by simp only [restA, T.cnts]; omega))
    simp only [restA, T.cnts] at q
    split
    · exact h.stay s fun _ _ => rfl
    · rename_i c
      refine .fz (h.freeze s fun a z => q a ?_)
      rw [if_neg c]
      omega

theorem pick_append {α : Type} (a b : List Nat) (l : List α) : pick (a ++ b) l = pick a l ++ pick b l := List.filterMap_append
theorem cH_mem' {a : Addr} {l : List (V × T)} (h : 0 < cH a l) : ∃ q ∈ l, 0 < q.2.cnt a := by
  induction l with
  | nil => exact absurd h (Nat.lt_irrefl 0)
  | cons x l ih =>
    simp only [cH] at h
    by_cases z : 0 < x.2.cnt a
    · exact ⟨x, List.mem_cons_self, z⟩
    · obtain ⟨q, m, z⟩ := ih (by omega)
      exact ⟨q, List.mem_cons_of_mem _ m, z⟩
def wCallB (M : MC) (n m : Nat) (ix : List Nat) (np : Nat) (lb : List Bool) (io jo : List Nat) (sp : DSp) (wa wk : WA) : WE := fun ρ X Q => wa ρ X fun rs ρ1 => wk ρ1 X fun qs ρ2 => rs.length = n ∧ qs.length = m ∧ bindP (lend ρ2 lb (rs ++ qs)) fun q => (pick ix q.1).length = np ∧ T.noTs (pick jo (pick ix q.1)) = true ∧
  callP M sp (lentA io 0 (pick ix q.1)) (fun r ts' => r.noL = true ∧ T.noLs ts' = true ∧ bindP (giveb q.2.2 (pick (io ++ jo) (pick ix q.2.1)) (ts' ++ pick jo (pick ix q.1))) fun ρ' => Q r ρ') fun e ts' => e.d.noL = true ∧ T.noLs ts' = true ∧ bindP (giveb q.2.2 (pick (io ++ jo) (pick ix q.2.1)) (ts' ++ pick jo (pick ix q.1))) fun ρ' => X e ρ'
section
variable {X : Cx} {M : MC} {E : WX} {k n np : Nat} {f : Addr} {fd : FuncData} {ps ks : List Str} {ix io jo : List Nat} {lb : List Bool} {sp : DSp} {x : Str} {p pos : Pos} {e : Expr} {es : List Expr} {kws : List Keyword} {wa wk : WA}
theorem call_allB {K : PySem.W.Frag} {m : Nat} (hix : ix.Nodup) (hjo : jo.Nodup) (hdj : ∀ j ∈ jo, io.contains j = false) : ∀ σ H Q, tD K M E (wCallB M n m ix np lb io jo sp wa wk) σ H Q → tCallG E n m ix (spD K np io sp) (tDA K M E wa) (tDA K M E wk) σ H Q := by
  rintro σ H Q ⟨G, ρ, Xd, Qd, R, L, w, kk⟩
  refine ⟨G, ρ, Xd, _, R, L, w, fun ρ1 vs H1 rs R1 h1 w1 => ?_⟩
  refine ⟨G.holds vs rs, ρ1, Xd, _, R1, L.holds, w1, fun ρ2 zs H2 qs R2 h2 ⟨l1, l2, w2⟩ => ?_⟩
  obtain ⟨⟨ts, bs, ρ3⟩, g, hl, nt, w2⟩ := bindP_of w2
  refine ⟨h1.length.trans l1, h2.length.trans l2, ?_⟩
  rw [holds_append h1.length] at R2
  obtain ⟨R3, fm⟩ := R2.lend (h1.append h2) g
  have R3 : Rel K M (G.plus (lentP (vs ++ zs) ts bs) (lentH (vs ++ zs) ts bs)) ρ3 σ H2 := R3
  have fm : Forms (vs ++ zs) ts bs := fm
  generalize vs ++ zs = ws at R3 fm ⊢
  have hl : (pick ix ts).length = np := hl
  have nt : T.noTs (pick jo (pick ix ts)) = true := nt
  have cl : ∀ a, cH a (lentH ws ts bs) = T.cnts a ts := fun a => fm.cnt
  have nd : ∀ a, cR a ρ3 + (T.cnts a ts + cH a G.hid) ≤ 1 := fun a => by rw [← cl a, ← cH_append]; exact R3.nd a
  have ow : ∀ a, 0 < cR a ρ3 + (T.cnts a ts + cH a G.hid) → (G.H0 a = none ∨ G.io a) ∧ ¬ M.O a := fun a z => R3.own a (show 0 < cR a ρ3 + cH a (lentH ws ts bs ++ G.hid) by rw [cH_append, cl a]; exact z)
  have inO : ∀ a, Own M G ρ3 a ∨ 0 < T.cnts a ts → Own M (G.plus (lentP ws ts bs) (lentH ws ts bs)) ρ3 a := fun a z => by
    show M.O a ∨ 0 < cR a ρ3 + cH a (lentH ws ts bs ++ G.hid)
    rw [cH_append, cl a]
    rcases z with (z | z) | z
    · exact .inl z
    · exact .inr (by omega)
    · exact .inr (by omega)
  have nOw : ∀ a, 0 < T.cnts a ts → ¬ Own M G ρ3 a := fun a z y => by
    rcases y with y | y
    · exact (ow a (by omega)).2 y
    · have := nd a; omega
  have o1 : ∀ a, M.O a → Own M G ρ3 a := fun a z => .inl z
  have o2 : ∀ a, Own M G ρ3 a → H2 a ≠ none := fun a z => R3.ownAt (inO a (.inl z))
  have pc : ∀ a, T.cnts a (pick ix ts) ≤ T.cnts a ts := fun a => pick_cnt hix
  have all : TAll K (Own M (G.plus (lentP ws ts bs) (lentH ws ts bs)) ρ3) H2 ws ts := Rel.lentAll (G := G) (ρ := ρ3) (σ := σ) fm (fun q hq => R3.pin q (List.mem_append_left _ hq)) fun q hq => R3.hid q (List.mem_append_left _ hq)
  have allx := pick_all all ix
  have pls := fm.pls.pick ix
  generalize hws : pick ix ws = ws' at allx pls ⊢
  generalize hts : pick ix ts = ts' at hl nt pc allx w2
  generalize hbs : pick ix bs = bs' at pls w2
  have lc : ∀ a, T.cnts a (lentA io 0 ts') + T.cnts a (restA io 0 ts') = T.cnts a ts' := fun a => lentA_cnt
  have jc : ∀ a, T.cnts a (pick jo ts') ≤ T.cnts a (restA io 0 ts') := fun a => by
    rw [← restA_pick hdj]; exact pick_cnt hjo
  have alive : ∀ a, 0 < T.cnts a ts' → H2 a ≠ none := fun a z => R3.ownAt (inO a (.inr (by have := pc a; omega)))
  have allp : TAll K (fun a => Own M G ρ3 a ∨ 0 < T.cnts a (lentA io 0 ts')) H2 ws' (lentA io 0 ts') := by
    refine lentA_all (stay_sub fun a z => inO a (z.imp id fun z => by have := pc a; have := lc a; omega)) allx fun a z y => ?_
    have := pc a; have := lc a; have := nd a
    rcases y with y | y
    · exact nOw a (by omega) y
    · omega
  -- what is given back, unchanged
  have allj : TAll K (Own M (G.plus (lentP ws ts bs) (lentH ws ts bs)) ρ3) H2 (pick jo ws') (pick jo ts') := pick_all allx jo
  have core : ∀ (H' : Hp) (v : V) (t : T) (tb : List T), Keeps (mcAt M (Own M G ρ3) H2 o1 o2) (lentA io 0 ts') H2 H' → TAt K (OutO (mcAt M (Own M G ρ3) H2 o1 o2) t tb) H' v t → TAll K (OutO (mcAt M (Own M G ρ3) H2 o1 o2) t tb) H' (pick io ws') tb →
      Own1 (mcAt M (Own M G ρ3) H2 o1 o2) (lentA io 0 ts') H2 t tb → t.noL = true → T.noLs tb = true → Rel K M ((G.hide v t).plus [] ((pick (io ++ jo) ws').zip (tb ++ pick jo ts'))) ρ3 σ H' := by
    rintro H' v t tb ⟨k1, kt, k2, k3⟩ rr rb ow1 n1 n2
    have zl : (pick io ws').length = tb.length := rb.length
    have zj : (pick jo ws').length = (pick jo ts').length := allj.length
    have cz : ∀ a, cH a (((pick io ws').zip tb ++ (pick jo ws').zip (pick jo ts')) ++ [(v, t)]) = t.cnt a + T.cnts a tb + T.cnts a (pick jo ts') := fun a => by
      rw [cH_append, cH_append, zip_cnt zl, zip_cnt zj]; simp only [cH]; omega
    have out : ∀ a, 0 < t.cnt a + T.cnts a tb → T.cnts a (pick jo ts') = 0 := fun a z => by
      have := jc a; have := lc a; have := pc a; have := nd a
      rcases (ow1.out a z).2 with y | y
      · exact Nat.eq_zero_of_not_pos fun q => alive a (by omega) y
      · omega
    have kj : ∀ a, 0 < T.cnts a (pick jo ts') → H' a = H2 a := fun a z => by
      have := jc a; have := lc a; have := pc a; have := nd a
      cases q : H2 a with
      | none => exact absurd q (alive a (by omega))
      | some o =>
        refine (k1 a o (show ¬ Own M G ρ3 a from nOw a (by omega)) (by omega) q).eq ?_
        cases hd : dicO o with
        | false => rfl
        | true => exact absurd q (allj.noTX nt z o (.inr hd))
    have ntj : ∀ a, 0 < T.cnts a (pick jo ts') → ∀ o, TX o → H2 a ≠ some o := fun a z o x => allj.noTX nt z o (.inl x)
    have wd : ∀ a o, TX o → ¬ OutO (mcAt M (Own M G ρ3) H2 o1 o2) t tb a → H' a = some o → ¬ (Own M G ρ3 a ∨ 0 < t.cnt a + T.cnts a tb + T.cnts a (pick jo ts')) := fun a o x n e y => by
      have n : ¬ (Own M G ρ3 a ∨ 0 < t.cnt a + T.cnts a tb) := n
      rcases y with y | y
      · exact n (.inl y)
      · by_cases z : 0 < T.cnts a (pick jo ts')
        · rw [kj a z] at e
          exact ntj a z o x e
        · exact n (.inr (by omega))
    have R4 : Rel K M (G.plus [] (((pick io ws').zip tb ++ (pick jo ws').zip (pick jo ts')) ++ [(v, t)])) ρ3 σ H' := by
      refine R3.after (fun a o n c e => ?_) kt (fun a z => ?_) k2 (fun a z => ?_) (fun a => ?_) fun q hq => ?_
      · rw [cl a] at c
        by_cases y : Own M G ρ3 a
        · exact .inl (by rw [k3 a y n]; exact e)
        · exact k1 a o y (by have := pc a; have := lc a; omega) e
      · exact k3 a (.inr z) (ow a (by omega)).2
      · rw [cz a] at z
        rw [cl a]
        by_cases y : 0 < T.cnts a (pick jo ts')
        · exact .inl (by have := jc a; have := lc a; have := pc a; omega)
        · rcases (ow1.out a (by omega)).2 with y | y
          · exact .inr y
          · exact .inl (by have := pc a; have := lc a; omega)
      · rw [cz a]
        by_cases y : 0 < t.cnt a + T.cnts a tb
        · rw [out a y]; exact ow1.nd a
        · have := jc a; have := lc a; have := pc a; have := nd a; omega
      · have e : (fun a => Own M G ρ3 a ∨ 0 < cH a (((pick io ws').zip tb ++ (pick jo ws').zip (pick jo ts')) ++ [(v, t)])) = fun a => Own M G ρ3 a ∨ 0 < t.cnt a + T.cnts a tb + T.cnts a (pick jo ts') := funext fun a => by rw [cz a]
        rw [e]
        rcases List.mem_append.mp hq with hq | hq
        · rcases List.mem_append.mp hq with hq | hq
          · exact (rb.wide wd n2).mem q hq
          · refine (allj.stay (H' := H') ⟨fun a o n e => ?_, kt⟩ kj).mem q hq
            have n1 : T.cnts a (pick jo ts') = 0 := Nat.eq_zero_of_not_pos fun z => n (inO a (.inr (by have := jc a; have := lc a; have := pc a; omega)))
            have n2 : ¬ Own M G ρ3 a := fun z => n (inO a (.inl z))
            have n3 : T.cnts a ts' = 0 := Nat.eq_zero_of_not_pos fun z => n (inO a (.inr (by have := pc a; omega)))
            refine ⟨?_, k1 a o n2 (by have := lc a; omega) e⟩
            rintro (z | z)
            · exact n2 z
            · rcases (ow1.out a (by omega)).2 with y | y
              · rw [y] at e; cases e
              · have := lc a; omega
        · obtain rfl := List.mem_singleton.mp hq
          exact rr.wide wd n1
    rw [pick_append, List.zip_append zl]
    refine R4.perm rfl rfl (fun _ h => h) (fun a => ?_) fun q hq => ?_
    · show cH a (((pick io ws').zip tb ++ (pick jo ws').zip (pick jo ts')) ++ (v, t) :: G.hid) = cH a ((((pick io ws').zip tb ++ (pick jo ws').zip (pick jo ts')) ++ [(v, t)]) ++ G.hid)
      rw [List.append_assoc _ [(v, t)]]; rfl
    · show q ∈ (((pick io ws').zip tb ++ (pick jo ws').zip (pick jo ts')) ++ [(v, t)]) ++ G.hid
      rw [List.append_assoc _ [(v, t)]]; exact hq
  refine ⟨mcAt M (Own M G ρ3) H2 o1 o2, lentA io 0 ts', _, _, ⟨⟨R3.mi, fun a _ _ => rfl⟩, allp, fun a => by have := nd a; have := pc a; have := lc a; omega, fun a z y => nOw a (by have := pc a; have := lc a; omega) y⟩, lentA_len.trans hl, w2 _ mcAt_ext, ?_, ?_⟩
  · rintro v H' r tb kp ra ⟨n1, n2, q⟩
    obtain ⟨ρ', gb, q⟩ := bindP_of q
    have gb : giveb ρ3 (pick (io ++ jo) bs') (tb ++ pick jo ts') = some ρ' := gb
    have nr : r.tr.noL = true := by
      cases r with
      | val d => exact n1
      | new t => exact n1
      | pth i π p => exact absurd rfl (ra.npth i π p)
      | nw d => exact absurd rfl (ra.nnw d)
    have R6 : Rel K M (G.hide v r.tr) ρ' σ H' := (core H' v r.tr tb kp ra.res ra.bk ra.own nr n2).giveb (pls.pick (io ++ jo)) gb
    cases r with
    | val d =>
      obtain ⟨R7, a⟩ := Rel.unhide R6
      exact kk ρ' v H' (.val d) (R7.pinned a) trivial q
    | new t => exact kk ρ' v H' (.new t) R6 trivial q
    | pth i π p => exact absurd rfl (ra.npth i π p)
    | nw d => exact absurd rfl (ra.nnw d)
  · rintro cls dd H' ex tb kp ⟨x1, ax, x2, x4⟩ bk ow1 ⟨n1, n2, q⟩
    obtain ⟨ρ', gb, q⟩ := bindP_of q
    have gb : giveb ρ3 (pick (io ++ jo) bs') (tb ++ pick jo ts') = some ρ' := gb
    have eO : ∀ M' : MC, OutO M' (.fz .non) tb = OutO M' (.fz (.xd ex.f ex.d)) tb := fun M' => funext fun a => by
      have e1 : (T.fz .non).cnt a = 0 := rfl
      have e2 : (T.fz (.xd ex.f ex.d)).cnt a = 0 := rfl
      unfold OutO
      rw [e1, e2]
    rw [eO] at x4 bk
    have ow1 : Own1 (mcAt M (Own M G ρ3) H2 o1 o2) (lentA io 0 ts') H2 (.fz (.xd ex.f ex.d)) tb := ⟨fun a => by have := ow1.nd a; have e1 : (T.fz .non).cnt a = 0 := rfl; have e2 : (T.fz (.xd ex.f ex.d)).cnt a = 0 := rfl; omega, fun a z => ow1.out a (by have e1 : (T.fz .non).cnt a = 0 := rfl; have e2 : (T.fz (.xd ex.f ex.d)).cnt a = 0 := rfl; omega)⟩
    have R5 := core H' (.ref ax) (.fz (.xd ex.f ex.d)) tb kp (.fz x4) bk ow1 n1 n2
    obtain ⟨R6, xa⟩ := Rel.unhide (R5.giveb (pls.pick (io ++ jo)) gb)
    exact L ρ' σ H' cls dd ex R6 ⟨x1, ax, x2, xa⟩ q
theorem pd_callR (F : FnG X.prog X.w X.K X.mg X.base k f fd ps (spD X.K np io sp)) (hix : ix.Nodup) (hjo : jo.Nodup) (hdj : ∀ j ∈ jo, io.contains j = false) (hG : X.A.guards = some []) (hr : Room k X.A) (tkx : Takes X E) (hb : KB X.K fd ps n ks ix) (hk : PySem.W.keepIn X.K (.ref f) = true) (hm : X.mg x = some (.ref f)) (hg : Gl X x)
    (ha : PA X (e :: es) (tDA X.K M E wa)) (hkw : PK X kws (tDA X.K M E wk)) (hall : (backToKw pos (keywordEach kws X.env)).all (·.1.isSome) = true := by rfl) (hks : (backToKw pos (keywordEach kws X.env)).filterMap (·.1) = ks := by rfl)
    (hdb : (x == ("__debug__" : Str)) = false := by decide) (he : starEach (e :: es) X.env = (false, eval e X.env) :: starEach es X.env := by rfl)
    (hpl : ((backTo pos (starEach (e :: es) X.env)).any (·.1) || (backToKw pos (keywordEach kws X.env)).any (·.1.isNone)) = false := by rfl) : PE X (.Call (.Name x p) (e :: es) kws pos) (tD X.K M E (wCallB M n ks.length ix np lb io jo sp wa wk)) :=
  PE.weak (pe_callG F hG hr tkx hb hk hm hg ha hkw hall hks hdb he hpl) (call_allB hix hjo hdj)
end
section
variable {ρ : Rho} {X : XD} {Q : Rs → Rho → Prop}
@[simp ↓] theorem e_wCallB {M : MC} {n m np : Nat} {ix io jo : List Nat} {lb : List Bool} {sp : DSp} {a k : WA} : wCallB M n m ix np lb io jo sp a k ρ X Q = a ρ X fun rs ρ1 => k ρ1 X fun qs ρ2 => rs.length = n ∧ qs.length = m ∧ bindP (lend ρ2 lb (rs ++ qs)) fun q => (pick ix q.1).length = np ∧ T.noTs (pick jo (pick ix q.1)) = true ∧
  callP M sp (lentA io 0 (pick ix q.1)) (fun r ts' => r.noL = true ∧ T.noLs ts' = true ∧ bindP (giveb q.2.2 (pick (io ++ jo) (pick ix q.2.1)) (ts' ++ pick jo (pick ix q.1))) fun ρ' => Q r ρ') fun e ts' => e.d.noL = true ∧ T.noLs ts' = true ∧ bindP (giveb q.2.2 (pick (io ++ jo) (pick ix q.2.1)) (ts' ++ pick jo (pick ix q.1))) fun ρ' => X e ρ' := nre rfl
end
end El

set_option Elab.async false
set_option linter.all false
set_option maxRecDepth 100000
set_option maxHeartbeats 4000000
/-! FG: x.pop(i); what is let go. -/
namespace El
open PySem L2
def popT (t : T) (e : D) : Option (D × T) := match t with
  | .top p (.lst ds) => match e with
    | .int i => if -(2 ^ 63) ≤ i ∧ i < 2 ^ 63 then (seqIndex? i ds.length).bind fun k => (ds[k]?).map fun d => (d, .top p (.lst (ds.eraseIdx k))) else none
    | _ => none
  | _ => none
@[simp] theorem popT_0 {p : Addr} {d : D} {ds : List D} : popT (.top p (.lst (d :: ds))) (.int 0) = some (d, .top p (.lst ds)) := by
  unfold popT
  simp [seqIndex?]
def wPop (wo we : WE) : WE := fun ρ X Q => wo ρ X fun r ρ1 => bindP ((nodeA ρ1 r).bind lenT) fun _ => we ρ1 X fun q ρ2 => bindP (q.get ρ2) fun e => bindP (nodeA ρ2 r) fun t => bindP (popT t e) fun z => Q (.val z.1) (putT ρ2 r z.2)
section
variable {X : Cx} {M : MC} {E : WX} {wo we : WE}
theorem pd_pop {o : Expr} {pa cpos : Pos} {e : Expr} (ho : PE X o (tD X.K M E wo)) (he : PE X e (tD X.K M E we))
    (hbase : attributeBase o "pop" X.env (eval o X.env) = eval o X.env := by rfl)
    (hfew : ((backTo cpos (starEach [e] X.env)).all (fun x => !x.1) && (backToKw cpos (keywordEach [] X.env)).all (fun x => x.1.isSome) && decide (([e] : List Expr).length + ([] : List Keyword).length + (if ([] : List Keyword).isEmpty then 0 else 1) < 30)) = true := by rfl)
    (hline : (pa.endLine == cpos.line) = true := by rfl) (hs : starEach [e] X.env = (false, eval e X.env) :: starEach [] X.env := by rfl) (hplain : (backTo cpos (starEach [] X.env)).any (·.1) = false := by rfl) :
    PE X (.Call (.Attribute o "pop" pa) [e] [] cpos) (tD X.K M E (wPop wo we)) := by
  refine PE.weak (pe_bm (T := "list") (id := "list.pop") PySem.F.plainAttrs_list PySem.F.slot_list_pop PySem.F.type_list_pop mt_popAt ho (pa_cons he pa_nil hs) hbase hfew hline hs hplain) fun σ H Q ⟨G, ρ, Xd, Qd, R, L, w, k1⟩ => ?_
  refine ⟨G, ρ, Xd, _, R, L, w, fun ρ1 x0 H1 r R1 h1 w1 => ?_⟩
  obtain ⟨n0, g0, w1⟩ := bindP_of w1
  obtain ⟨t0, g0, g1⟩ := Option.bind_eq_some_iff.mp g0
  obtain ⟨i, π, p, er, g0⟩ := nodeA_of g0
  subst er
  have h1 : x0 = .ref p := h1
  subst h1
  have R1 : Rel X.K M G ρ1 σ H1 := R1
  obtain ⟨xs0, e0⟩ : ∃ xs, H1 p = some (.lst xs) := by
    have ta := (R1.node g0).1
    unfold lenT at g1
    split at g1
    · obtain ⟨e, xs, h⟩ := ta.topL
      cases e
      exact ⟨xs, h⟩
    · obtain ⟨e, xs, h, _⟩ := ta.lst'
      cases e
      exact ⟨xs, h⟩
    · cases g1
  refine ⟨.inl ⟨rfl, xs0, SqL.of e0⟩, G, ρ1, Xd, _, R1, L, w1, fun ρ2 v H2 q R2 h2 w2 => ?_⟩
  obtain ⟨e, ge, w3⟩ := bindP_of w2
  obtain ⟨t, gn, w4⟩ := bindP_of w3
  obtain ⟨⟨d, t'⟩, gp, w5⟩ := bindP_of w4
  have bi := R2.get h2 ge
  have gn : nodeR ρ2 i π p = some t := gn
  unfold popT at gp
  split at gp
  · rename_i p' ds _
    split at gp
    · rename_i j
      split at gp
      · rename_i hz
        obtain ⟨n, g1, g2⟩ := Option.bind_eq_some_iff.mp gp
        obtain ⟨d0, g3, g4⟩ := Option.map_eq_some_iff.mp g2
        cases g4
        obtain ⟨tt, e1, e2, e3, e4⟩ := nodeR_of gn
        cases e3
        obtain rfl := bi.int
        have R3 : Rel X.K M G ρ2 σ H2 := R2.unhold
        obtain ⟨xs, o3, o4⟩ := R3.ownL gn
        obtain ⟨y, gy, ay⟩ := o4.get g3
        have R4 : Rel X.K M (G.pin y d) ρ2 σ H2 := R3.pinned ay
        obtain ⟨xs', o5, o6⟩ := R4.ownL gn
        rw [o3] at o5
        cases o5
        refine ⟨p, xs, j, n, y, rfl, rfl, o3, hz.1, hz.2, by rw [o4.length]; exact g1, gy, ?_⟩
        exact k1 _ _ _ (.val d) (R4.putNode gn (d' := .lst (ds.eraseIdx n)) (o6.erase n)) trivial w5
      · cases gp
    · cases gp
  · cases gp
end
section
variable {ρ : Rho} {X : XD} {Q : Rs → Rho → Prop}
@[simp ↓] theorem e_wPop {a b : WE} : wPop a b ρ X Q = a ρ X fun r ρ1 => bindP ((nodeA ρ1 r).bind lenT) fun _ => b ρ1 X fun q ρ2 => bindP (q.get ρ2) fun e => bindP (nodeA ρ2 r) fun t => bindP (popT t e) fun z => Q (.val z.1) (putT ρ2 r z.2) := nre rfl
end

/-! ### let go -/
def wFz (we : WE) : WE := fun ρ X Q => we ρ X fun r ρ1 => bindP (r.out ρ1) fun z => Q (.val z.1) z.2
theorem fz_all {K : PySem.W.Frag} {M : MC} {E : WX} {we : WE} : ∀ σ H Q, tD K M E (wFz we) σ H Q → tD K M E we σ H Q := fun σ H Q ⟨G, ρ, Xd, Qd, R, L, w, k⟩ => ⟨G, ρ, Xd, _, R, L, w, fun ρ1 v H1 r R1 h1 w1 => by
  obtain ⟨⟨d, ρ2⟩, g, w2⟩ := bindP_of w1
  obtain ⟨hd, R2⟩ := R1.out h1 g
  exact k ρ2 v H1 (.val d) (R2.pinned hd) trivial w2⟩
theorem pd_fz {X : Cx} {M : MC} {E : WX} {e : Expr} {we : WE} (h : PE X e (tD X.K M E we)) : PE X e (tD X.K M E (wFz we)) := PE.weak h fz_all
section
variable {ρ : Rho} {X : XD} {Q : Rs → Rho → Prop}
@[simp ↓] theorem e_wFz {a : WE} : wFz a ρ X Q = a ρ X fun r ρ1 => bindP (r.out ρ1) fun z => Q (.val z.1) z.2 := nre rfl
end
/-! ### places -/
@[simp] theorem kidL2 {p : Addr} {a b c : T} {l : List T} : kidD (.lst p (a :: b :: c :: l)) (.int 2) = some (.idx 2, c) := by
  rw [kidD_lst, show (2 : Int) = ((2 : Nat) : Int) from rfl, ixN_of (by simp)]; rfl
@[simp] theorem kidL3 {p : Addr} {a b c d : T} {l : List T} : kidD (.lst p (a :: b :: c :: d :: l)) (.int 3) = some (.idx 3, d) := by
  rw [kidD_lst, show (3 : Int) = ((3 : Nat) : Int) from rfl, ixN_of (by simp)]; rfl
@[simp] theorem kidT2 {p : Addr} {a b c : T} {l : List T} : kidD (.tup p (a :: b :: c :: l)) (.int 2) = some (.idx 2, c) := by
  rw [kidD_tup, show (2 : Int) = ((2 : Nat) : Int) from rfl, ixN_of (by simp)]; rfl
@[simp] theorem kidT3 {p : Addr} {a b c d : T} {l : List T} : kidD (.tup p (a :: b :: c :: d :: l)) (.int 3) = some (.idx 3, d) := by
  rw [kidD_tup, show (3 : Int) = ((3 : Nat) : Int) from rfl, ixN_of (by simp)]; rfl
@[simp] theorem ix_1_0 : ixN 1 0 = some 0 := by decide
@[simp] theorem ix_2_0 : ixN 2 0 = some 0 := by decide
@[simp] theorem ix_2_1 : ixN 2 1 = some 1 := by decide
@[simp] theorem ix_3_0 : ixN 3 0 = some 0 := by decide
@[simp] theorem ix_3_1 : ixN 3 1 = some 1 := by decide
@[simp] theorem ix_3_2 : ixN 3 2 = some 2 := by decide
@[simp] theorem ix_4_0 : ixN 4 0 = some 0 := by decide
@[simp] theorem ix_4_1 : ixN 4 1 = some 1 := by decide
@[simp] theorem ix_4_2 : ixN 4 2 = some 2 := by decide
@[simp] theorem ix_4_3 : ixN 4 3 = some 3 := by decide
@[simp] theorem ix_5_0 : ixN 5 0 = some 0 := by decide
@[simp] theorem ix_5_1 : ixN 5 1 = some 1 := by decide
@[simp] theorem ix_5_2 : ixN 5 2 = some 2 := by decide
@[simp] theorem ix_5_3 : ixN 5 3 = some 3 := by decide
@[simp] theorem ix_5_4 : ixN 5 4 = some 4 := by decide
@[simp] theorem ix_6_0 : ixN 6 0 = some 0 := by decide
@[simp] theorem ix_6_1 : ixN 6 1 = some 1 := by decide
@[simp] theorem ix_6_2 : ixN 6 2 = some 2 := by decide
@[simp] theorem ix_6_3 : ixN 6 3 = some 3 := by decide
@[simp] theorem ix_6_4 : ixN 6 4 = some 4 := by decide
@[simp] theorem ix_7_0 : ixN 7 0 = some 0 := by decide
@[simp] theorem ix_7_1 : ixN 7 1 = some 1 := by decide
@[simp] theorem ix_7_2 : ixN 7 2 = some 2 := by decide
@[simp] theorem ix_7_3 : ixN 7 3 = some 3 := by decide
@[simp] theorem ix_7_4 : ixN 7 4 = some 4 := by decide
/-! ### flags of what is read only -/
@[simp] theorem noLs_map {α : Type} {f : α → D} (h : ∀ x, (f x).noL = true) : ∀ l : List α, D.noLs (l.map f) = true
  | [] => rfl
  | x :: l => by simp only [List.map_cons, D.noLs, h x, noLs_map h l, Bool.and_self]
@[simp] theorem noLs_ints (l : List Int) : D.noLs (l.map D.int) = true := noLs_map (fun _ => rfl) l
@[simp] theorem noLs_nil : D.noLs [] = true := rfl
@[simp] theorem noLs_cons {d : D} {ds : List D} : D.noLs (d :: ds) = (d.noL && D.noLs ds) := rfl
@[simp] theorem noL_int {i : Int} : (D.int i).noL = true := rfl
@[simp] theorem noL_bl {i : Bool} : (D.bl i).noL = true := rfl
@[simp] theorem noL_str {i : Str} : (D.str i).noL = true := rfl
@[simp] theorem noL_non : D.non.noL = true := rfl
@[simp] theorem noL_tup {ds : List D} : (D.tup ds).noL = D.noLs ds := by simp [D.noL]
@[simp] theorem tnoLs_nil : T.noLs [] = true := rfl
@[simp] theorem tnoLs_cons {t : T} {ts : List T} : T.noLs (t :: ts) = (t.noL && T.noLs ts) := rfl
@[simp] theorem tnoL_fz {d : D} : (T.fz d).noL = d.noL := rfl
@[simp] theorem tnoL_top {p : Addr} {ds : List D} : (T.top p (.lst ds)).noL = D.noLs ds := rfl
@[simp] theorem tnoL_lst {p : Addr} {ts : List T} : (T.lst p ts).noL = T.noLs ts := by simp [T.noL]
@[simp] theorem tnoL_tup {p : Addr} {ts : List T} : (T.tup p ts).noL = T.noLs ts := by simp [T.noL]
@[simp] theorem tnoTs_nil : T.noTs [] = true := rfl
@[simp] theorem tnoTs_cons {t : T} {ts : List T} : T.noTs (t :: ts) = (t.noT && T.noTs ts) := rfl
@[simp] theorem tnoT_fz {d : D} : (T.fz d).noT = true := rfl
@[simp] theorem tnoT_top {p : Addr} {ds : List D} : (T.top p (.lst ds)).noT = true := rfl
@[simp] theorem tnoT_lst {p : Addr} {ts : List T} : (T.lst p ts).noT = T.noTs ts := by simp [T.noT]
@[simp] theorem rnoL_val {d : D} : (Rs.val d).noL = d.noL := rfl
@[simp] theorem rnoL_new {t : T} : (Rs.new t).noL = t.noL := rfl
@[simp] theorem lentA_nil {io : List Nat} {j : Nat} : lentA io j [] = [] := rfl
@[simp] theorem lentA_cons {io : List Nat} {j : Nat} {t : T} {ts : List T} : lentA io j (t :: ts) = (if io.contains j = true then t else .fz t.val) :: lentA io (j + 1) ts := rfl
@[simp] theorem tval_fz {d : D} : (T.fz d).val = d := rfl
@[simp] theorem tval_top {p : Addr} {d : D} : (T.top p d).val = d := rfl
end El

set_option Elab.async false
set_option linter.all false
set_option maxRecDepth 100000
set_option maxHeartbeats 4000000
/-! FH: repr of anything but dicts. -/
namespace El
open PySem L2
def rReprS : List V → Hp → VK → Prop := fun xs H Q => (∃ i : Int, xs = [.int i] ∧ i.natAbs.log2 < 1920 ∧ Q (.str (toString i)) H) ∨ (∃ b : Bool, xs = [.bl b] ∧ Q (.str (if b then "True" else "False")) H) ∨ (xs = [.non] ∧ Q (.str "None") H) ∨ ∃ x, xs = [.str x] ∧ (reprText x).length ≤ sizeLine ∧ Q (.str (reprText x)) H
theorem call_reprS {X : Cx} : CallR X (.builtin "repr") rReprS := by
  rintro pins s σ H xs us Q I r (⟨i, rfl, hz, q⟩ | ⟨b, rfl, q⟩ | ⟨rfl, q⟩ | ⟨x, rfl, hz, q⟩)
  · obtain ⟨u, rfl, t, rfl⟩ := vals1 r
    exact PySem.P.repr_of_int hz ⟨.str _, H, I.tok _, ⟨_, rfl⟩, q⟩
  · obtain ⟨u, rfl, rfl⟩ := vals1 r
    exact PySem.P.repr_of_bool ⟨.str _, H, I.tok _, ⟨_, rfl⟩, q⟩
  · obtain ⟨u, rfl, rfl⟩ := vals1 r
    exact PySem.P.repr_of_none ⟨.str _, H, I.tok _, ⟨_, rfl⟩, q⟩
  · obtain ⟨u, rfl, t, rfl⟩ := vals1 r
    exact PySem.P.repr_of_str ⟨.str _, H, I.tok _, ⟨_, rfl⟩, q⟩ hz
def D.canShow : D → Bool
  | .ref _ => false
  | .ty _ => false
  | .dic _ _ _ => false
  | .kt _ => false
  | .exc _ _ _ => false
  | .xd _ _ => false
  | .lk _ _ => false
  | _ => true
def oReprA (n : Nat) (ds : List D) (k : Os → Prop) : Prop := ∃ d : D, ds = [d] ∧ d.canShow = true ∧ d.py.canLay0 = true ∧ d.py.showable = true ∧ d.py.depth ≤ n ∧ d.py.shown.length ≤ 16777216 ∧ k (.val (.str d.py.shown))
def rReprA (K : PySem.W.Frag) (n : Nat) : List V → Hp → VK → Prop := fun xs H Q => rRepr K n xs H Q ∨ rReprS xs H Q
theorem call_reprB {X : Cx} {n : Nat} (hg : X.A.guards = some []) (hu : X.A.units + (n + 1) < cLine) : CallR X (.builtin "repr") (rReprA X.K n) := (call_reprA hg hu).or call_reprS
theorem cd_reprA {K : PySem.W.Frag} {n : Nat} : CaD K (rReprA K n) (oReprA n) := by
  rintro O H vs ds Q k hf hv ⟨d, rfl, hd, h1, h2, h3, h4, ho⟩ post
  obtain ⟨v, rfl, b⟩ := hv.one
  cases d with
  | lst ds => exact .inl (cd_repr O H [v] [.lst ds] Q k hf hv ⟨_, rfl, trivial, h1, h2, h3, h4, ho⟩ post)
  | fls ds => exact .inl (cd_repr O H [v] [.fls ds] Q k hf hv ⟨_, rfl, trivial, h1, h2, h3, h4, ho⟩ post)
  | tup ds => exact .inl (cd_repr O H [v] [.tup ds] Q k hf hv ⟨_, rfl, trivial, h1, h2, h3, h4, ho⟩ post)
  | int i => exact .inr (.inl ⟨i, by rw [b.int], by simpa [D.py, PyData.showable] using h2, post _ _ _ (out_v (.str _)) ho⟩)
  | bl i => exact .inr (.inr (.inl ⟨i, by rw [b.bl], post _ _ _ (out_v (.str _)) ho⟩))
  | non => exact .inr (.inr (.inr (.inl ⟨by rw [b.non], post _ _ _ (out_v (.str _)) ho⟩)))
  | str x => exact .inr (.inr (.inr (.inr ⟨x, by rw [b.str], by rw [sizeLine_eq]; exact h4, post _ _ _ (out_v (.str _)) ho⟩)))
  | _ => cases hd
theorem o_reprA {B W : Nat} {d : D} {k : Os → Prop} (hd : d.canShow = true) (h : Rp B 64 W d) (hB : 8 ≤ B) (hW : (B + 2) * W + B ≤ 16777216) (hk : k (.val (shw d))) : oReprA 64 [d] k := by
  refine ⟨d, rfl, hd, h.lay, h.sh, h.dp, ?_, hk⟩
  have h1 := PyData.shown_le B hB d.py h.lf
  have h2 := Nat.mul_le_mul_left (B + 2) h.wt
  omega
end El

set_option Elab.async false
set_option linter.all false
set_option maxRecDepth 100000
set_option maxHeartbeats 2000000
namespace PySem
namespace Err_why
open PySem.W PySem.Calls PyProof.Rows PySem.HandSPX
/-! ### the text of __init__ -/
def iA (p1 p2 : Pos) : Arguments := { posonlyargs := [], args := [{ arg := "self", annotation := none, pos := p1 }, { arg := "why", annotation := none, pos := p2 }], vararg := none, kwonlyargs := [], kw_defaults := [], kwarg := none, defaults := [] }
def iB (q1 q2 q3 q4 : Pos) : List Stmt := [.Assign [.Attribute (.Name "self" q1) "why" q2] (.Name "why" q3) q4]
def iS : Scope := { kind := .function, names := [(PySem.Str.ofString "self", .local), (PySem.Str.ofString "why", .local)], isGenerator := false, isCoroutine := false, more := [] }
/-- what the written part says of Low, at C, and of its __init__, at fI -/
structure ErrTxt (K : Frag) (mg : Str → Option Value) (x q0 : Str) (C fI : Addr) : Prop where
  gC : mg x = some (.ref C)
  cls : ∃ nm q N bs bm sn sub ab col dd k0 k1 k2 k3 k5, K.lookup C = some (excClassObj nm q C N bs bm true sn sub ab col dd k0 k1 k2 k3 k5 "ValueError.__new__") ∧ refsVE bm = true
  sa : findIn K (.ref C) "__setattr__" = some (some (.builtin "object.__setattr__"))
  ga : findIn K (.ref C) "__getattribute__" = some (some (.builtin "BaseException.__getattribute__"))
  gg : findIn K (.ref C) "__getattr__" = some none
  noN : findIn K (.ref C) "why" = some none
  iC : findIn K (.ref C) "__init__" = some (some (.ref fI))
  tC : typeIn K (.ref fI) = some (.type "function")
  kC : keepIn K (.ref C) = true
  exC : subIn K (.ref C) (.type "BaseException") = some true
  tyC : typeIn K (.ref C) = some (.type "type")
  hdC : hasDictIn K C = true
  te : exmOne K (.ref C) (.ref C) = some true
  fn : ∃ (oc : Value) (od : Option Addr) (doc pm : Value) (an : Option Addr) (cdv ct : Value) (osl : Array (Option Value)) (p1 p2 q1 q2 q3 q4 : Pos),
    K.lookup fI = some ⟨oc, od, .func (fnOf "__init__" q0 (iA p1 p2) (iB q1 q2 q3 q4) iS .none .none doc pm an cdv ct), osl⟩ ∧ codeIn K cdv q0 = true
theorem one_size (v : Value) : [v].length ≤ sizeLine := by
  rw [sizeLine_eq]
  exact (by decide : 1 ≤ 16777216)
theorem kept_but {K : Frag} {h h' : Heap} {x : Addr} (X : K.In h) (hx : K.lookup x = none) (k : ∀ b o, b ≠ x → h.get? b = some o → h'.get? b = some o) : K.In h' := fun a o e =>
  k a o (fun z => by rw [z, hx] at e; cases e) (X a o e)
theorem ldC {M : Model} {s : Shared} {name : Str} {scope : Scope} {L a : Addr} {cd : Value} {m : Str → Option Value} {x : Str} {pos : Pos} {v : Value} {Q : Value → Shared → Prop} {A : Around} {E : Value → Shared → Prop} (hn : s.heap.Ns L m) (hv : m x = some v) (h : Q v s)
    (hk : scope.kind = .function := by rfl) (hl : (envOfC name scope L a cd).kindOf x = some .local := by rfl) (hd : (x == ("__debug__" : Str)) = false := by decide) :
    wpAny M A (eval (.Name x pos) (envOfC name scope L a cd)) Q E s := wpAny_Name (wpAny_loadName_local hk hl hn hv h) hd
/-- what __init__ leaves of a fresh exception at x -/
structure InitEnd (h h' : Heap) (x C dx t1 : Addr) (v : Value) : Prop where
  keep : ∀ b o, b ≠ x → h.get? b = some o → h'.get? b = some o
  obj : h'.get? x = some { cls := .ref C, dict := some dx, data := .fields #[.ref t1, .none, .none, .none, .bool false, .none] }
  dbig : h.objs.size ≤ dx
  dne : dx ≠ x
  ns : h'.Ns1 dx (fun y => if y = "why" then some v else none)
/-- a made Low -/
structure OwnMade (h h' : Heap) (e C d : Addr) (v : Value) : Prop where
  keep : ∀ b o, h.get? b = some o → h'.get? b = some o
  new : h.objs.size ≤ e
  obj : ∃ oe vs, h'.get? e = some oe ∧ oe.cls = .ref C ∧ oe.dict = some d ∧ oe.data = .fields vs ∧ vs[1]? = some .none
  dbig : h.objs.size ≤ d
  dne : d ≠ e
  ns : h'.Ns1 d (fun y => if y = "why" then some v else none)
section
variable {prog : Program} {w : World} {A : Around} {E : Value → Shared → Prop} {R : Result → Shared → Prop} {s : Shared} {K : Frag} {mg : Str → Option Value} {C fI : Addr} {x0 q0 : Str}
theorem err_init (T : ErrTxt K mg x0 q0 C fI) {x t0 : Addr} {v : Value} (X : K.In s.heap) (hlim : s.heap.NoLimit) (hx : s.heap.get? x = some (excO C t0)) (hnx : K.lookup x = none) (hroom : A.depth < recursionLimit)
    (hq : ∀ h' tk dx, InitEnd s.heap h' x C dx t0 v → R (.ok (.ret .none)) { s with heap := h', toks := tk }) :
    codeAny (model prog w) A (.call (.ref fI) ⟨[.ref x, v], []⟩) R s := by
  obtain ⟨oc, od, doc, pm, an, cdv, ct, osl, p1, p2, q1, q2, q3, q4, ho, hcd⟩ := T.fn
  obtain ⟨nm, q, N, bs, bm, sn, sub, ab, col, dd, k0, k1, k2, k3, k5, hC, hbm⟩ := T.cls
  have hcl : clsIn K C = some { name := nm, bases := bs, mro := .ref C :: bm, ns := N, qualname := q, hasDict := true, slotNames := sn, subclasses := sub, abstract := ab, collection := col, hasDel := false } := by unfold clsIn; rw [hC] <;> rfl
  refine Att.call_fn (binds := [("self", .ref x), ("why", v)]) X hlim ho hcd hroom (BindsTo.of_eq (by first | rfl | with_unfolding_all rfl)) (by first | rfl | decide | with_unfolding_all rfl) (fun s₁ IC => ?_) rfl rfl rfl
  obtain ⟨h₁, tk₁, rfl⟩ := IC.toInCall.same
  have k : ∀ b o, s.heap.get? b = some o → h₁.get? b = some o := IC.toInCall.keep
  have hn := IC.toInCall.ns
  have hxL : s.heap.objs.size ≠ x := Nat.ne_of_gt (Heap.lt_size hx)
  have X₁ : K.In h₁ := X.keeps k
  have hx₁ := k _ _ hx
  -- self.by = by
  show wpAny _ _ (execs _ _) _ _ _
  refine wpAny_execs_cons (plainObj_wpAny_Assign_Attribute ?_)
  refine ldC (v := v) hn (by first | rfl | with_unfolding_all rfl | kernel_rfl) (ldC (v := .ref x) hn (by first | rfl | with_unfolding_all rfl | kernel_rfl) ?_)
  refine set_plain X₁ (ox := excO C t0) (od := none) ⟨hx₁, rfl, rfl, trivial⟩ T.sa ?_
  refine exc_osa X₁ hx₁ hcl (show refsVE (.ref C :: bm) = true from hbm) rfl T.noN (fun h₃ tk₃ dx k₃ dn dne hx₃ hn₃ => ?_)
  show wpAny _ _ (execs _ _) _ _ _
  have z : s.heap.objs.size < h₁.objs.size := hn.lt
  exact wpAny_execs_nil (hq h₃ tk₃ dx ⟨fun b o hb e => k₃ b o hb (k b o e), hx₃, Nat.le_of_lt (Nat.lt_of_lt_of_le z dn), dne, hn₃⟩)
theorem err_made (T : ErrTxt K mg x0 q0 C fI) {v : Value} (X : K.In s.heap) (hlim : s.heap.NoLimit) (hroom : A.depth + 1 < recursionLimit)
    (hq : ∀ h' tk e d, OwnMade s.heap h' e C d v → R (.ok (.ret (.ref e))) { s with heap := h', toks := tk }) :
    codeAny (model prog w) A (.call (.ref C) ⟨[v], []⟩) R s := by
  obtain ⟨nm, q, N, bs, bm, sn, sub, ab, col, dd, k0, k1, k2, k3, k5, hC, hbm⟩ := T.cls
  obtain ⟨hp, g, dr, tk, os⟩ := s
  have k : ∀ b o, hp.get? b = some o → ((hp.push (kdv_tup [v])).push (excO C hp.objs.size)).get? b = some o := fun b o e => Heap.get?_push_of_some _ (Heap.get?_push_of_some _ e)
  have hget : ((hp.push (kdv_tup [v])).push (excO C hp.objs.size)).get? (hp.objs.size + 1) = some (excO C hp.objs.size) := by heap_get
  have hnx : K.lookup (hp.objs.size + 1) = none := by
    cases e : K.lookup (hp.objs.size + 1) with
    | none => rfl
    | some o =>
      have z : hp.get? (hp.objs.size + 1) = some o := X _ _ e
      exact absurd (Nat.lt_of_succ_lt (Heap.lt_size z)) (Nat.lt_irrefl _)
  refine call_own F.excBase_ValueError (fun X => refsVE_contains X bm hbm) (X _ _ hC) (looks_findIn X T.iC) (fun self => bind_fn X self T.tC) (one_size v) ?_
  refine err_init (s := ⟨(hp.push (kdv_tup [v])).push (excO C hp.objs.size), g, dr, tk, os⟩) T (X.keeps k) (hlim.keeps k) hget hnx ?_ fun h' tk' dx ⟨k', hx, dn, dne, hns⟩ => ?_
  · show A.depth + 1 < recursionLimit
    exact hroom
  · have old : ∀ b o, hp.get? b = some o → h'.get? b = some o := fun b o e => k' b o (Nat.ne_of_lt (Nat.lt_succ_of_lt (Heap.lt_size e))) (k b o e)
    have z : hp.objs.size + 1 + 1 ≤ dx := by
      first
        | (simpa only [Heap.size_push] using dn)
        | exact dn
        | (have q := dn; rw [Heap.size_push, Heap.size_push] at q; exact q)
    exact ⟨rfl, hq h' tk' (hp.objs.size + 1) dx ⟨old, Nat.le_succ _, ⟨_, _, hx, rfl, rfl, rfl, rfl⟩, Nat.le_trans (Nat.le_trans (Nat.le_succ _) (Nat.le_succ _)) z, dne, hns⟩⟩
end
end Err_why
end PySem
namespace L2
open PySem PySem.Spec PyProof.Rows
theorem relO_why {v : V} {v' : Value} (r : RelV v v') (f : Str) : RelO (List.lookup f [(("why" : Str), v)]) (if f = "why" then some v' else none) := by
  by_cases hw : f = "why"
  · subst hw
    rw [if_pos rfl]
    have q : List.lookup ("why" : Str) [(("why" : Str), v)] = some v := by simp [List.lookup]
    rw [q]
    exact r
  · rw [if_neg hw]
    have qw : (f == ("why" : Str)) = false := by simpa using hw
    have q2 : List.lookup f [(("why" : Str), v)] = none := by simp [List.lookup, qw]
    rw [q2]
    trivial
section
variable {X : Cx} {C fI : Addr} {x0 q0 : Str}
/-- Low(e) -/
def tMk_why (C : Addr) (ta : TA) : St → Hp → XK → Prop := fun σ H Q => ta σ H fun vs H1 => ∃ v, vs = [v] ∧ ∀ d, H1 d = none → Q (.ref C) (some d) (upd H1 d (.xd [(("why" : Str), v)]))
theorem pmk_why {a : Expr} {ta : TA} {p pos : Pos} {k : Nat} (T : PySem.Err_why.ErrTxt X.K X.mg x0 q0 C fI) (hr : Room k X.A) (ha : PA X [a] ta) (hg : Gl X x0) (hdb : (x0 == ("__debug__" : Str)) = false := by decide)
    (he : starEach (a :: []) X.env = (false, eval a X.env) :: starEach [] X.env := by rfl) (hpl : (backTo pos (starEach [] X.env)).any (·.1) = false := by rfl) :
    PMk X (.Call (.Name x0 p) [a] [] pos) (tMk_why C ta) := by
  intro pins s σ H Q I h
  refine wpAny_Call_Name_kw (ld_glob I hg T.gC ?_ hdb)
  refine PySem.W.callWith_K (h₀ := X.base) I.ok.mod.kin T.kC (thn (ha.run pos pins s σ H _ I h) fun us s1 hh => ?_) he hpl
  obtain ⟨vs, H1, I1, r1, v, ev, q1⟩ := hh
  subst ev
  refine ⟨I1.kIn, ?_⟩
  cases r1 with
  | cons rv rn =>
    rename_i v' us'
    cases rn
    show wpAny _ _ (call (.ref C) [v']) _ _ _
    have hlim := I1.nolimit
    obtain ⟨hp, g, dr, tk, os⟩ := s1
    refine wpAny_call (PySem.Err_why.err_made T I1.kIn hlim (by have := hr.dp; omega) fun h' tk' e d M => ?_)
    show MkP X pins σ Q (.ref e) ⟨h', g, dr, tk', os⟩
    obtain ⟨oe, fv, hoe, hc, hd, hdat, h1⟩ := M.obj
    have hns := M.ns
    obtain ⟨G', g1, g2⟩ := restrict h' fun b => decide (b ≠ e)
    have gk : ∀ b, b ≠ e → G'.get? b = h'.get? b := fun b hb => g1 b (decide_eq_true hb)
    have ge : G'.get? e = none := g2 e (by simp)
    have old : ∀ b o, hp.get? b = some o → G'.get? b = some o := fun b o q => (gk b (Nat.ne_of_lt (Nat.lt_of_lt_of_le (Heap.lt_size q) M.new))).trans (M.keep b o q)
    have ob : ObjOk X.prog X.w (upd H1 d (.xd [(("why" : Str), v)])) G' d (.xd [(("why" : Str), v)]) :=
      ⟨_, hns.at (fun o q => (gk d M.dne).trans q), fun f => relO_why rv f⟩
    have J : Inv X pins σ (upd H1 d (.xd [(("why" : Str), v)])) ⟨G', g, dr, tk', os⟩ := I1.laid (t' := tk') old M.dbig ob
    refine ⟨e, oe, fv, ⟨G', g, dr, tk', os⟩, _, .ref C, some d, rfl, J, fun b o q => ?_, ge, hoe, ⟨hc, hd⟩, hdat, h1, ?_, rfl, I1.bare, raises_own T.exC T.tyC, q1 d (I1.hok.fresh M.dbig)⟩
    · by_cases hb : b = e
      · have q' : G'.get? b = some o := q
        rw [hb, ge] at q'; cases q'
      · exact (gk b hb).symm.trans q
    · rw [upd_ne (Ne.symm M.dne)]
      exact I1.hok.fresh M.new
/-- raise Low(e) -/
def tRaise_why (C : Addr) (W : WX) (ta : TA) : TS := fun _ σ H => tMk_why C ta σ H fun cls d H' => W cls d σ H'
theorem ps_raise_why {a : Expr} {ta : TA} {W : WX} {p pos pos2 : Pos} {k : Nat} (hc : X.calm = true) (T : PySem.Err_why.ErrTxt X.K X.mg x0 q0 C fI) (hr : Room k X.A) (tk : Takes X W) (ha : PA X [a] ta) (hg : Gl X x0) (hdb : (x0 == ("__debug__" : Str)) = false := by decide)
    (he : starEach (a :: []) X.env = (false, eval a X.env) :: starEach [] X.env := by rfl) (hpl : (backTo pos (starEach [] X.env)).any (·.1) = false := by rfl) :
    PS X (.Raise (some (.Call (.Name x0 p) [a] [] pos)) none pos2) (tRaise_why C W ta) := ps_raise hc tk (pmk_why T hr ha hg hdb he hpl)
end
end L2

set_option Elab.async false
set_option linter.all false
set_option maxRecDepth 100000
set_option maxHeartbeats 4000000
/-! GC: raise C(e). -/
namespace El
open PySem L2
/-- what a test says of a class -/
def relP (t : Addr → Bool → Prop) (c : Addr) (k : Bool → Prop) (_ : Tag k := ⟨⟩) : Prop := ∃ b, t c b ∧ k b
/-- a table of classes by their names -/
def inT (C : Str → Addr) (l : List (Str × Bool)) : Addr → Bool → Prop := fun c b => ∃ nm, (nm, b) ∈ l ∧ c = C nm
theorem relP_C {C : Str → Addr} {l : List (Str × Bool)} {nm : Str} {b : Bool} {k : Bool → Prop} {t} (h : (nm, b) ∈ l) (hk : k b) : relP (inT C l) (C nm) k t := ⟨b, ⟨nm, h, rfl⟩, hk⟩
theorem inT_all {C : Str → Addr} {l : List (Str × Bool)} {P : Addr → Bool → Prop} (h : ∀ q ∈ l, P (C q.1) q.2) : ∀ c b, inT C l c b → P c b := fun c b ⟨nm, m, e⟩ => by rw [e]; exact h _ m
def wsRaise (C : Addr) (f : Str) (we : WE) : WS := fun ρ X _ => we ρ X fun r ρ1 => bindP (r.out ρ1) fun z => X ⟨C, f, z.1⟩ z.2
/-- an exception whose field holds what was told -/
def tMkX (C : Addr) (f : Str) (te : TE) (W : WX) : TS := fun _ σ H => te σ H fun v H1 => ∀ d, H1 d = none → W (.ref C) (some d) σ (upd H1 d (.xd [(f, v)]))
theorem raise_all {K : PySem.W.Frag} {M : MC} {E : WX} {C : Addr} {f : Str} {we : WE} : ∀ D σ H, tDS K M E (wsRaise C f we) D σ H → tMkX C f (tD K M E we) E D σ H := by
  rintro D σ H ⟨G, ρ, Xd, Qd, R, L, w, _⟩
  refine ⟨G, ρ, Xd, _, R, L, w, fun ρ1 v H1 r R1 h1 w1 d hd => ?_⟩
  obtain ⟨⟨x, ρ2⟩, g, q⟩ := bindP_of w1
  obtain ⟨hx, R2⟩ := R1.out h1 g
  exact L ρ2 σ _ _ _ ⟨C, f, x⟩ (R2.new hd) ⟨rfl, d, rfl, .xd (R2.fresh hd) upd_same (hx.stay (stay_new hd))⟩ q
section
variable {X : Cx} {M : MC} {E : WX} {C fI : Addr} {x0 q0 : Str} {we : WE} {e : Expr} {p pos pos2 : Pos} {k : Nat}
theorem pd_raise_why (hc : X.calm = true) (T : PySem.Err_why.ErrTxt X.K X.mg x0 q0 C fI) (hr : Room k X.A) (tk : Takes X E) (he : PE X e (tD X.K M E we)) (hg : Gl X x0) (hdb : (x0 == ("__debug__" : Str)) = false := by decide)
    (hs : starEach (e :: []) X.env = (false, eval e X.env) :: starEach [] X.env := by rfl) (hpl : (backTo pos (starEach [] X.env)).any (·.1) = false := by rfl) : PS X (.Raise (some (.Call (.Name x0 p) [e] [] pos)) none pos2) (tDS X.K M E (wsRaise C "why" we)) :=
  PS.weak (ps_raise_why hc T hr tk (pa_cons he pa_nil hs) hg hdb hs hpl) fun D σ H h => by
    have h2 := raise_all (C := C) (f := "why") D σ H h
    obtain ⟨G, ρ, Xd, Qd, R, L, w, q⟩ := h2
    exact ⟨G, ρ, Xd, Qd, R, L, w, fun ρ1 v H1 r R1 h1 w1 => ⟨v, rfl, fun d hd => q ρ1 v H1 r R1 h1 w1 d hd⟩⟩
end
section
variable {ρ : Rho} {X : XD} {D : ED}
@[simp ↓] theorem e_raise {C : Addr} {f : Str} {a : WE} : wsRaise C f a ρ X D = a ρ X fun r ρ1 => bindP (r.out ρ1) fun z => X ⟨C, f, z.1⟩ z.2 := nre rfl
end
end El

set_option Elab.async false
set_option linter.all false
set_option maxRecDepth 100000
set_option maxHeartbeats 4000000
/-! GD: try, the caught exception kept under another name. -/
namespace El
open PySem L2
/-- except .. as (slot i): (slot j) = (slot i); tst: whether a class is taken -/
def wsTry1 (tst : Addr → Bool → Prop) (i j : Nat) (tb : WS) : WS := fun ρ X D => tb ρ (fun e ρ1 => relP tst e.c fun b => iteP b ((i < ρ1.length ∧ i ≠ j) ∧ D.nx ((ρ1.set j (some (.fz (.exc e.c e.f e.d)))).set i none)) (X e ρ1)) D
section
variable {X : Cx} {M : MC} {E : WX} {tst : Addr → Bool → Prop} {cs : List Value} {te : Expr} {n y : Str} {i j : Nat} {body : List Stmt} {wb : WS} {np yp ap pos pos' : Pos}
theorem pd_try1 (hs : X.stack = X.env :: X.outer) (hf : X.env.frame = some X.env.locals) (hN : X.N.Nodup) (hex : X.ex = []) (tk : Takes X E) (htst : ∀ c b, tst c b → PySem.W.exmAny X.K (.ref c) cs = some b) (ht : TestX X te cs)
    (hi : X.N[i]? = some n) (hln : X.env.kindOf n = some .local) (hj : X.N[j]? = some y) (hy : X.env.scope.names.lookup y = some .local) (hv : Vis X.env.scope n) (hd : (n == ("__debug__" : Str)) = false) (hcd : (n == ("__classdict__" : Str)) = false)
    (hb : ∀ (W : WX) (pn : List (Addr × Obj)) (xe : Value → Shared → Prop), Takes (X.tr pn xe) W → PassesOwn (model X.prog X.w) X.A X.env xe → PSs (X.tr pn xe) body (tDS X.K M W wb))
    (hsw : swapsWith (.Name n np) (some (.Name y yp)) ap.line X.env = pure false := by rfl) :
    PS X (.Try body [.ExceptHandler (some te) (some n) [.Assign [.Name y yp] (.Name n np) ap] pos'] [] [] pos) (tDS X.K M E (wsTry1 tst i j wb)) := by
  refine PS.weak (ps_try_keep (l := [(cs, i, fun _ _ _ => tAsg (tVar i) (gName j))]) hs hf hN hex tk (tb := fun W => tDS X.K M W wb) hb (HdsK.cons ht hi hln (fun a oe cls d pn hz hfl => ?_) .nil)) fun D σ H ⟨G, ρ, Xd, Qd, R, L, w, k1, k2, k3, k4⟩ => ⟨G, ρ, _, Qd, R, ?_, w, k1, k2, k3, k4⟩
  · exact pss_one (ps_set hN hj (.inl hy) (pe_var hi hv hd hcd) hsw (.inr hy))
  · rintro ρ1 σ1 H1 cls dd e R1 ex x
    obtain ⟨rfl, ax, rfl, hx⟩ := ex
    obtain ⟨b, g, x2⟩ := (show ∃ b, tst e.c b ∧ _ from x)
    refine ⟨b, htst _ _ g, fun hb a ha => ?_, fun hb => ?_⟩
    · subst hb
      obtain ⟨⟨hl, ne⟩, q⟩ := (show _ ∧ _ from x2)
      have hl' : i < σ1.length := R1.len ▸ hl
      refine ⟨.ref a, List.getElem?_set_self hl', ?_⟩
      have dx : DAt X.K (Own M G ρ1) (upd H1 a (ExV (.ref e.c) (some ax) a)) (.ref a) (.exc e.c e.f e.d) := .exc (R1.fresh ha) upd_same (hx.stay (stay_new ha))
      have R3 := (R1.new (o := ExV (.ref e.c) (some ax) a) ha).set (i := j) dx
      refine k1 _ _ _ (R3.forget ?_ ?_ fun k c z => ?_) q
      · simp [R1.len]
      · simp
      · have nk : k ≠ i := fun q => by
          subst q
          rw [List.getElem?_set_self (by simpa using hl)] at z
          cases z
        rw [List.getElem?_set_ne nk.symm] at z
        refine ⟨z, ?_⟩
        rw [List.getElem?_set_ne nk.symm, List.set_comm _ _ ne, List.getElem?_set_ne nk.symm]
    · subst hb
      exact L ρ1 σ1 H1 _ _ e R1 ⟨rfl, ax, rfl, hx⟩ x2
end
end El

set_option Elab.async false
set_option linter.all false
set_option maxRecDepth 100000
set_option maxHeartbeats 4000000
/-! GE: isinstance and fields of a kept exception. -/
namespace El
open PySem L2
def excC : D → Option Addr
  | .exc C _ _ => some C
  | _ => none
def excF (f : Str) : D → Option (Addr × D)
  | .exc C g d => if g = f then some (C, d) else none
  | _ => none
theorem excC_of {d : D} {C : Addr} (h : excC d = some C) : ∃ f e, d = .exc C f e := by
  cases d <;> cases h
  exact ⟨_, _, rfl⟩
theorem excF_of {d e : D} {f : Str} {C : Addr} (h : excF f d = some (C, e)) : d = .exc C f e := by
  cases d with
  | exc C' g d' =>
    unfold excF at h
    by_cases q : g = f
    · subst q
      simp only [if_true] at h
      cases h
      rfl
    · simp only [if_neg q] at h
      cases h
  | _ => cases h
def wIsE (t : Addr → Bool → Prop) (we : WE) : WE := fun ρ X Q => we ρ X fun r ρ1 => bindP (r.get ρ1) fun d => bindP (excC d) fun c => relP t c fun b => Q (.val (.bl b)) ρ1
def wFld (f : Str) (ok : Addr → Bool) (we : WE) : WE := fun ρ X Q => we ρ X fun r ρ1 => bindP (r.get ρ1) fun d => bindP (excF f d) fun q => ok q.1 = true ∧ Q (.val q.2) ρ1
section
variable {X : Cx} {M : MC} {E : WX} {e : Expr} {we : WE} {p p2 pos : Pos}
theorem pd_isE {T : Str} {vC : V} {cv : Value} {t : Addr → Bool → Prop} (ht : ∀ c b, t c b → ExcC X.K c ∧ PySem.W.kitOne X.K (.ref c) cv = some b) (hcv : ∀ u, RelV vC u → u = cv) (hg : Gl X "isinstance") (hm : X.mg "isinstance" = none) (he : PE X e (tD X.K M E we)) (hT : PE X (.Name T p2) (tC vC))
    (hs : starEach (e :: [.Name T p2]) X.env = (false, eval e X.env) :: starEach [.Name T p2] X.env := by rfl) (hs2 : starEach [.Name T p2] X.env = (false, eval (.Name T p2) X.env) :: starEach [] X.env := by rfl) (hpl : (backTo pos (starEach [.Name T p2] X.env)).any (·.1) = false := by rfl) :
    PE X (.Call (.Name "isinstance" p) [e, .Name T p2] [] pos) (tD X.K M E (wIsE t we)) := by
  refine PE.weak (pe_callB call_isV hg hm rfl (pa_cons he (pa_cons hT pa_nil hs2) hs) (by decide) (by decide) hs hpl) fun σ H Q ⟨G, ρ, Xd, Qd, R, L, w, k⟩ => ⟨G, ρ, Xd, _, R, L, w, fun ρ1 v H1 r R1 h1 w1 => ?_⟩
  obtain ⟨d, g, w2⟩ := bindP_of w1
  obtain ⟨c, hc, w3⟩ := bindP_of w2
  obtain ⟨b, hb, w4⟩ := (show ∃ b, t c b ∧ _ from w3)
  obtain ⟨f, x, rfl⟩ := excC_of hc
  obtain ⟨C, hk⟩ := ht c b hb
  cases ((R1.get h1 g).val trivial) with
  | exc n ea hx =>
    cases hx with
    | xd n2 ed hx2 => exact ⟨_, c, _, _, vC, cv, b, rfl, ea, ed, C, hcv, hk, k ρ1 _ H1 (.val (.bl b)) (R1.unhold.pinned (.bl _)) trivial w4⟩
theorem pd_fld {f : Str} {ok : Addr → Bool} (hok : ∀ c, ok c = true → XfC X.K c ∧ PySem.W.findIn X.K (.ref c) f = some none) (he : PE X e (tD X.K M E we)) (hb : attributeBase e f X.env (eval e X.env) = eval e X.env := by rfl) : PE X (.Attribute e f pos) (tD X.K M E (wFld f ok we)) := by
  refine PE.weak (pe_xv he hb) fun σ H Q ⟨G, ρ, Xd, Qd, R, L, w, k⟩ => ⟨G, ρ, Xd, _, R, L, w, fun ρ1 v H1 r R1 h1 w1 => ?_⟩
  obtain ⟨d, g, w2⟩ := bindP_of w1
  obtain ⟨⟨c, x⟩, hc, ho, w3⟩ := bindP_of w2
  obtain rfl := excF_of hc
  obtain ⟨T, hn⟩ := hok c ho
  have hb := (R1.get h1 g).val trivial
  cases hb with
  | exc n ea hx =>
    cases hx with
    | xd n2 ed hx2 => exact ⟨_, c, _, _, _, rfl, ea, ed, T, hn, by simp [List.lookup], k ρ1 _ H1 (.val x) (R1.unhold.pinned (hx2.stay (stay_sub fun a z => own_hold z))) trivial w3⟩
end
section
variable {ρ : Rho} {X : XD} {Q : Rs → Rho → Prop} {D' : ED}
@[simp ↓] theorem e_isE {t : Addr → Bool → Prop} {a : WE} : wIsE t a ρ X Q = a ρ X fun r ρ1 => bindP (r.get ρ1) fun d => bindP (excC d) fun c => relP t c fun b => Q (.val (.bl b)) ρ1 := nre rfl
@[simp ↓] theorem e_fld {f : Str} {ok : Addr → Bool} {a : WE} : wFld f ok a ρ X Q = a ρ X fun r ρ1 => bindP (r.get ρ1) fun d => bindP (excF f d) fun q => ok q.1 = true ∧ Q (.val q.2) ρ1 := nre rfl
@[simp ↓] theorem e_try1 {tst : Addr → Bool → Prop} {i j : Nat} {tb : WS} : wsTry1 tst i j tb ρ X D' = tb ρ (fun e ρ1 => relP tst e.c fun b => iteP b ((i < ρ1.length ∧ i ≠ j) ∧ D'.nx ((ρ1.set j (some (.fz (.exc e.c e.f e.d)))).set i none)) (X e ρ1)) D' := nre rfl
@[simp] theorem tn_kt {ks : List D} : (D.kt ks).tn = some .tup := nre rfl
@[simp] theorem n_exc {C : Addr} {f : Str} {d : D} : D.isN (.exc C f d) = false := nre rfl
@[simp] theorem n_kt {ks : List D} : D.isN (.kt ks) = false := nre rfl
@[simp ↓] theorem o_ixK {ds : List D} {i : Int} {k : Os → Prop} : opP oIx (.kt ds) (.int i) k = bindP (atI ds i) fun c => k (.val c) := nre rfl
@[simp ↓] theorem o_lenK {ds : List D} {k : Os → Prop} : caP oLen [.kt ds] k = k (.val (.int ds.length)) := nre rfl
@[simp] theorem i_kt {ds : List D} : itemsD (.kt ds) = some ds := nre rfl
@[simp] theorem f_kt {b : List D} : D.flat (.kt b) = false := nre rfl
@[simp ↓] theorem o_slK {ds : List D} {lo hi : Option Int} {k : Os → Prop} : slP (.kt ds) lo hi k = (((HT.sIx ds.length 0 lo = 0 ∧ HT.sIx ds.length ds.length hi = ds.length) → k (.val (.kt ds))) ∧ k (.val (.tup (cutD ds lo hi)))) := nre rfl
@[simp ↓] theorem o_inK {f : Bool → Bool} {d : D} {ds : List D} {k : Os → Prop} : opP (oIn f) d (.kt ds) k = (d.flat = true ∧ ds.all D.flat = true ∧ k (.val (.bl (f (ds.any fun z => eqF z d))))) := nre rfl
@[simp] theorem excC_exc {C : Addr} {f : Str} {d : D} : excC (.exc C f d) = some C := nre rfl
@[simp] theorem excF_exc {C : Addr} {f : Str} {d : D} : excF f (.exc C f d) = some (C, d) := by
  simp [excF]
end
end El

set_option Elab.async false
set_option linter.all false
set_option maxRecDepth 100000
set_option maxHeartbeats 4000000
/-! GF: repr of lists that hold dicts; str of lists; dict(enumerate(xs)). -/
namespace El
open PySem L2
mutual
/-- what may be shown, dicts of ints and texts too -/
def D.canR : D → Bool
  | .non => true
  | .bl _ => true
  | .int _ => true
  | .str _ => true
  | .tup ds => D.canRs ds
  | .kt ds => D.canRs ds
  | .lst ds => D.canRs ds
  | .dic m _ ds => !m && D.canRs ds
  | _ => false
def D.canRs : List D → Bool
  | [] => true
  | d :: ds => D.canR d && D.canRs ds
end
section
variable {P : Program} {w : World} {h : Heap}
def ShowK (P : Program) (w : World) (h : Heap) (u : Value) (d : PyData) : Prop := (∃ as, Reads h u d as) ∧ ∃ bs, ReadAtMost h d.depth bs ∧ ReprK P w bs h d.depth u d.shown
def ShowsK (P : Program) (w : World) (h : Heap) (us : List Value) (ds : List PyData) : Prop := (∃ as, ReadsAll h us ds as) ∧ ∃ bs, ReadAtMost h (PyData.depthAll ds) bs ∧ ReprAllK P w bs h (PyData.depthAll ds) us (PyData.shownAll ds)
theorem ShowK.plain {u : Value} {d : PyData} {as : List Addr} (r : Reads h u d as) (hs : d.showable = true) (hn : d.hasDict = false) (hz : d.shown.length ≤ sizeLine) : ShowK P w h u d :=
  ⟨⟨as, r⟩, ReprK.of_reads r hs (PyData.noDict_hsm hn) hz⟩
theorem ShowsK.nil : ShowsK P w h [] [] := ⟨⟨_, .nil⟩, [], (fun _ q => nomatch q), .nil⟩
theorem ShowsK.cons {u : Value} {d : PyData} {us : List Value} {ds : List PyData} (a : ShowK P w h u d) (b : ShowsK P w h us ds) : ShowsK P w h (u :: us) (d :: ds) := by
  obtain ⟨⟨as, r⟩, B1, m1, k1⟩ := a
  obtain ⟨⟨as2, r2⟩, B2, m2, k2⟩ := b
  have e1 : d.depth ≤ PyData.depthAll (d :: ds) := by simp only [PyData.depthAll]; exact Nat.le_max_left ..
  have e2 : PyData.depthAll ds ≤ PyData.depthAll (d :: ds) := by simp only [PyData.depthAll]; exact Nat.le_max_right ..
  refine ⟨⟨_, .cons r r2⟩, B1 ++ B2, (m1.mono e1).append (m2.mono e2), ?_⟩
  have q : PyData.shownAll (d :: ds) = d.shown :: PyData.shownAll ds := by simp only [PyData.shownAll]
  rw [q]
  exact .cons ((k1.more fun z hz => List.mem_append.mpr (.inl hz)).level_le e1) (k2.more_le (fun z hz => List.mem_append.mpr (.inr hz)) e2)
theorem ShowK.lst {a : Addr} {o : Obj} {l : List Value} {n : Nat} {ds : List PyData} (ho : h.get? a = some o) (hc : o.cls = .type "list") (hd : o.data = .seq l.toArray n) (A : ShowsK P w h l ds) : ShowK P w h (.ref a) (.list ds) := by
  obtain ⟨⟨as, r0⟩, B, mB, kB⟩ := A
  have rr : Reads h (.ref a) (.list ds) _ := .list ho hc hd r0
  have dp : (PyData.list ds).depth = PyData.depthAll ds + 1 := by simp only [PyData.depth]
  have out := not_mem_of_deeper rr (by omega) mB
  refine ⟨⟨_, rr⟩, a :: B, rr |> fun z => ReadAtMost.cons z (by omega) mB, ?_⟩
  rw [dp, show (PyData.list ds).shown = listText (PyData.shownAll ds) by simp only [PyData.shown]]
  cases l with
  | nil =>
    cases r0
    rw [show PyData.shownAll [] = [] by simp only [PyData.shownAll], listText_nil]
    exact ReprK.listEmpty ho hc hd
  | cons x l => exact ReprK.list ho hc hd out (by simpa using kB.length_eq) fun i y q => kB.item i y (by simpa using q)
theorem ShowK.tup {a : Addr} {o : Obj} {its : Array Value} {n : Nat} {ds : List PyData} (ho : h.get? a = some o) (hc : o.cls = .type "tuple") (hd : o.data = .seq its n) (A : ShowsK P w h its.toList ds) : ShowK P w h (.ref a) (.tuple ds) := by
  obtain ⟨⟨as, r0⟩, B, mB, kB⟩ := A
  have rr : Reads h (.ref a) (.tuple ds) _ := .tuple ho hc hd r0
  have dp : (PyData.tuple ds).depth = PyData.depthAll ds + 1 := by simp only [PyData.depth]
  have out := not_mem_of_deeper rr (by omega) mB
  refine ⟨⟨_, rr⟩, a :: B, rr |> fun z => ReadAtMost.cons z (by omega) mB, ?_⟩
  rw [dp, show (PyData.tuple ds).shown = tupleText (PyData.shownAll ds) by simp only [PyData.shown]]
  exact ReprK.tuple ho hc hd out kB
theorem ShowK.dic {a : Addr} {o : Obj} {es : Array DictEntry} {n : Nat} {kvs : List (PyData × PyData)} (ho : h.get? a = some o) (hc : o.cls = .type "dict") (hd : o.data = .dict es n) (hsys : (a == sysModules) = false)
    (A : ShowsK P w h (es.toList.map (·.key)) (kvs.map (·.1))) (B : ShowsK P w h (es.toList.map (·.val)) (kvs.map (·.2))) : ShowK P w h (.ref a) (.dict kvs) := by
  obtain ⟨⟨as1, r1⟩, B1, m1, k1⟩ := A
  obtain ⟨⟨as2, r2⟩, B2, m2, k2⟩ := B
  have rr : Reads h (.ref a) (.dict kvs) _ := .dict ho hc hd r1 r2
  have dp : (PyData.dict kvs).depth = PyData.depthKv kvs + 1 := by simp only [PyData.depth]
  have e1 := PyData.depthAll_keys_le kvs
  have e2 := PyData.depthAll_vals_le kvs
  have mB : ReadAtMost h (PyData.depthKv kvs) (B1 ++ B2) := (m1.mono e1).append (m2.mono e2)
  have out := not_mem_of_deeper rr (by omega) mB
  refine ⟨⟨_, rr⟩, a :: (B1 ++ B2), rr |> fun z => ReadAtMost.cons z (by omega) mB, ?_⟩
  rw [dp, show (PyData.dict kvs).shown = dictText (PyData.shownKv kvs) by simp only [PyData.shown], PyData.shownKv_eq]
  exact ReprK.dict ho hc hd hsys out (ReprEntriesK.of_two _ _ _ (k1.more_le (fun z hz => List.mem_append.mpr (.inl hz)) e1) (k2.more_le (fun z hz => List.mem_append.mpr (.inr hz)) e2))
theorem keys_show : ∀ {es : List DictEntry} {vs : List (Key × Value)}, Pairs (mixKind P w) es vs → PyData.showableAll (vs.map fun p => keyPy p.1) = true → (∀ t ∈ PyData.shownAll (vs.map fun p => keyPy p.1), t.length ≤ sizeLine) →
    ShowsK P w h (es.map (·.key)) (vs.map fun p => keyPy p.1)
  | _, _, .nil, _, _ => .nil
  | _, _, .cons (e := e) (kv := kv) (kvs := kvs) hk hv hp, hs, hz => by
    rw [List.map_cons] at hs hz
    simp only [PyData.showableAll, Bool.and_eq_true] at hs
    simp only [PyData.shownAll] at hz
    rw [List.map_cons, List.map_cons]
    refine .cons ?_ (keys_show hp hs.2 fun t ht => hz t (List.mem_cons_of_mem _ ht))
    have z := hz _ List.mem_cons_self
    have s := hs.1
    obtain ⟨k, v⟩ := kv
    rcases keyIs_shape hk with ⟨i, t, e1, e2⟩ | ⟨x, t, e1, e2⟩
    · simp only at e1
      subst e1
      rw [e2]
      exact ShowK.plain (.int i t) s rfl z
    · simp only at e1
      subst e1
      rw [e2]
      exact ShowK.plain (.str x t) s rfl z
end
section
variable {X : Cx} {pins : List (Addr × Obj)} {σ : St} {H : Hp} {s : Shared} {O : Addr → Prop}
theorem pairs_vals {P : Program} {w : World} : ∀ {es : List DictEntry} {vs : List (Key × Value)}, Pairs (mixKind P w) es vs → es.map (·.val) = vs.map (·.2)
  | _, _, .nil => rfl
  | _, _, .cons hk hv hp => by rw [List.map_cons, List.map_cons, hv, pairs_vals hp]
theorem kv_vals : ∀ {kvs : List (Key × V)} {vs : List (Key × Value)}, KV kvs vs → Vals (kvs.map (·.2)) (vs.map (·.2))
  | _, _, .nil => .nil
  | _, _, .cons h t => .cons h.2 (kv_vals t)
theorem dk_zip (ks : List Key) (ds : List D) : ((ks.map DK.one).map dkPy).zip (D.pys ds) = (ks.map keyPy).zip (D.pys ds) := by
  rw [List.map_map]
  congr 1
  refine List.map_congr_left fun k _ => ?_
  rcases k with i | x <;> rfl
mutual
theorem DAt.shows (I : Inv X pins σ H s) : ∀ {v : V} {d : D} {u : Value}, DAt X.K O H v d → d.canR = true → RelV v u → d.py.showable = true → d.py.shown.length ≤ sizeLine → ShowK X.prog X.w s.heap u d.py
  | _, _, _, .non, _, r, hs, hz => by cases r; exact .plain .none hs rfl hz
  | _, _, _, .bl b, _, r, hs, hz => by cases r; exact .plain (.bool b) hs rfl hz
  | _, _, _, .int i, _, r, hs, hz => by obtain ⟨t, rfl⟩ := r; exact .plain (.int i t) hs rfl hz
  | _, _, _, .str x, _, r, hs, hz => by obtain ⟨t, rfl⟩ := r; exact .plain (.str x t) hs rfl hz
  | _, _, _, .ref _, hc, _, _, _ => by exact absurd hc (by simp [D.canR])
  | _, _, _, .ty _, hc, _, _, _ => by exact absurd hc (by simp [D.canR])
  | _, _, _, .xd _ _ _, hc, _, _, _ => by exact absurd hc (by simp [D.canR])
  | _, _, _, .exc _ _ _, hc, _, _, _ => by exact absurd hc (by simp [D.canR])
  | _, _, _, .lk _ _, hc, _, _, _ => by exact absurd hc (by simp [D.canR])
  | _, _, _, .fls _ _, hc, _, _, _ => by exact absurd hc (by simp [D.canR])
  | _, _, _, .dt _ _ _, hc, _, _, _ => by exact absurd hc (by simp [D.canR])
  | _, _, _, .lst (ds := ds) n e t, hc, r, hs, hz => by
    cases r
    obtain ⟨its, rv, ⟨o, m, ho, hcl, _, hda⟩, _⟩ := I.list (.inl (.inl e))
    have hz' : (listText (PyData.shownAll (D.pys ds))).length ≤ sizeLine := by simpa only [D.py, PyData.shown] using hz
    exact ShowK.lst ho hcl hda (DAll.shows I t (by simpa [D.canR] using hc) rv (by simpa [D.py, PyData.showable] using hs) fun q hq => Nat.le_trans (listText_mem_le hq) hz')
  | _, _, _, .tup (ds := ds) e t, hc, r, hs, hz => by
    cases r
    obtain ⟨its, rv, ⟨o, ho, hcl, m, hda⟩, _⟩ := I.tuple (.inl (.inl e))
    have hz' : (tupleText (PyData.shownAll (D.pys ds))).length ≤ sizeLine := by simpa only [D.py, PyData.shown] using hz
    exact ShowK.tup ho hcl hda (DAll.shows I t (by simpa [D.canR] using hc) rv (by simpa [D.py, PyData.showable] using hs) fun q hq => Nat.le_trans (tupleText_mem_le hq) hz')
  | _, _, _, .kt (a := a) (xs := xs) (ds := ds) e t, hc, r, hs, hz => by
    cases r
    have e' : SqT X.K H a xs := by
      rcases e with (e | ⟨o, e⟩) | e
      · cases e
      · cases e
      · exact .inr e
    obtain ⟨its, rv, ⟨o, ho, hcl, m, hda⟩, _⟩ := I.tuple e'
    have hz' : (tupleText (PyData.shownAll (D.pys ds))).length ≤ sizeLine := by simpa only [D.py, PyData.shown] using hz
    exact ShowK.tup ho hcl hda (DAll.shows I t (by simpa [D.canR] using hc) rv (by simpa [D.py, PyData.showable] using hs) fun q hq => Nat.le_trans (tupleText_mem_le hq) hz')
  | _, _, _, .dk (kvs := kvs) (ds := ds) n e t, hc, r, hs, hz => by
    cases r
    obtain ⟨_, hsy, vs, rel, o, es, ep, ho, hx, hdat, _, hp, _⟩ := dk_rd I.hok e
    have lk : kvs.length = ds.length := by have := t.length; simpa using this
    have ep : (D.dic false (kvs.map fun p => .one p.1) ds).py = .dict ((kvs.map fun p => keyPy p.1).zip (D.pys ds)) := by
      simp only [D.py]
      have := dk_zip (kvs.map (·.1)) ds
      simp only [List.map_map] at this ⊢
      exact congrArg _ this
    have ld : (kvs.map fun p => keyPy p.1).length = (D.pys ds).length := by rw [D.pys_map]; simp [lk]
    have z1 : ((kvs.map fun p => keyPy p.1).zip (D.pys ds)).map (·.1) = kvs.map fun p => keyPy p.1 := List.map_fst_zip (by omega)
    have z2 : ((kvs.map fun p => keyPy p.1).zip (D.pys ds)).map (·.2) = D.pys ds := List.map_snd_zip (by omega)
    have z3 : (kvs.map fun p => keyPy p.1) = vs.map fun p => keyPy p.1 := by
      have := congrArg (List.map keyPy) rel.keys
      simp only [List.map_map] at this
      exact this
    rw [ep] at hs hz ⊢
    revert hs hz z1 z2
    generalize (kvs.map fun p => keyPy p.1).zip (D.pys ds) = kd
    intro hs hz z1 z2
    have hz' : (dictText (PyData.shownKv kd)).length ≤ sizeLine := by simpa only [PyData.shown] using hz
    obtain ⟨s1, s2⟩ := PyData.showableKv_split kd (by simpa [PyData.showable] using hs)
    refine ShowK.dic ho hx.1 hdat hsy ?_ ?_
    · rw [z1, z3]
      refine keys_show hp (by rw [← z3, ← z1]; exact s1) fun q hq => ?_
      rw [← z3, ← z1] at hq
      obtain ⟨p, h1, h2⟩ := PyData.shownKv_key_le kd q hq
      exact Nat.le_trans h2 (Nat.le_trans (dictText_mem_le h1) hz')
    · rw [z2, pairs_vals hp]
      refine DAll.shows I t (by simpa [D.canR] using hc) (kv_vals rel) (by rw [← z2]; exact s2) fun q hq => ?_
      rw [← z2] at hq
      obtain ⟨p, h1, h2⟩ := PyData.shownKv_val_le kd q hq
      exact Nat.le_trans h2 (Nat.le_trans (dictText_mem_le h1) hz')
theorem DAll.shows (I : Inv X pins σ H s) : ∀ {vs : List V} {ds : List D} {us : List Value}, DAll X.K O H vs ds → D.canRs ds = true → Vals vs us → PyData.showableAll (D.pys ds) = true → (∀ t ∈ PyData.shownAll (D.pys ds), t.length ≤ sizeLine) → ShowsK X.prog X.w s.heap us (D.pys ds)
  | _, _, _, .nil, _, r, _, _ => by cases r; exact .nil
  | _, _, _, .cons a t, hc, r, hs, hz => by
    cases r with
    | cons r rr =>
      simp only [D.canRs, Bool.and_eq_true] at hc
      simp only [D.pys, PyData.showableAll, Bool.and_eq_true] at hs
      simp only [D.pys, PyData.shownAll] at hz
      exact .cons (DAt.shows I a hc.1 r hs.1 (hz _ List.mem_cons_self)) (DAll.shows I t hc.2 rr hs.2 fun q hq => hz q (List.mem_cons_of_mem _ hq))
end
/-- repr of a list of one thing or more -/
def rReprG (K : PySem.W.Frag) (n : Nat) : List V → Hp → VK → Prop := fun xs H Q => ∃ (a : Addr) (y : V) (ys : List V) (ds : List D) (O : Addr → Prop), xs = [.ref a] ∧ H a = some (.lst (y :: ys)) ∧ DAll K O H (y :: ys) ds ∧ D.canRs ds = true ∧ PyData.showableAll (D.pys ds) = true ∧
  PyData.depthAll (D.pys ds) + 1 ≤ n ∧ (listText (PyData.shownAll (D.pys ds))).length ≤ sizeLine ∧ Q (.str (listText (PyData.shownAll (D.pys ds)))) H
theorem call_reprG0 {n : Nat} (hg : X.A.guards = some []) (hu : X.A.units + (n + 1) < cLine) : CallR X (.builtin "repr") (rReprG X.K n) := by
  intro pins s σ H xs us Q I r q
  obtain ⟨a, y, ys, ds, O, rfl, e, t, hc, hs, hn, hz, q⟩ := q
  obtain rfl := r.ref1
  obtain ⟨its, rv, ⟨o, m, ho, hcl, _, hda⟩, _⟩ := I.list (.inl (.inl e))
  have A := DAll.shows I t hc rv hs fun q hq => Nat.le_trans (listText_mem_le hq) hz
  cases rv with
  | cons r0 rr =>
    rename_i v0 vr
    obtain ⟨⟨as, r0⟩, B, mB, kB⟩ := A
    have rr : Reads s.heap (.ref a) (.list (D.pys ds)) _ := .list ho hcl hda r0
    have dp : (PyData.list (D.pys ds)).depth = PyData.depthAll (D.pys ds) + 1 := by simp only [PyData.depth]
    have out := not_mem_of_deeper rr (by omega) mB
    refine call_repr_slot (by omega) ⟨o, ho, hcl⟩ F.slot_list_repr.toG ?_
    refine call_list_reprK (as := B) (h₀ := s.heap) (d := PyData.depthAll (D.pys ds)) ho hcl hda out (by simpa using kB.length_eq) (fun i y q => kB.item i y (by simpa using q)) (g := []) hg (fun b _ => Clear.nil b) (by show X.A.units + 1 + _ < _; omega) (fun b o q => q) (fun h' u tk hk => ?_) hz
    exact ⟨_, _, rfl, .str _, H, I.kept hk, ⟨u, rfl⟩, q⟩
end

/-- what may be shown, and how long -/
structure RpG (B n W : Nat) (d : D) : Prop where
  cr : d.canR = true
  sh : d.py.showable = true
  dp : d.py.depth ≤ n
  lf : d.py.leavesShort B = true
  wt : d.py.weight ≤ W
theorem Rp.g {B n W : Nat} {d : D} (h : Rp B n W d) (c : d.canR = true) : RpG B n W d := ⟨c, h.sh, h.dp, h.lf, h.wt⟩
theorem RpG.mono {B n W n' W' : Nat} {d : D} (h : RpG B n W d) (h1 : n ≤ n') (h2 : W ≤ W') : RpG B n' W' d := ⟨h.cr, h.sh, Nat.le_trans h.dp h1, h.lf, Nat.le_trans h.wt h2⟩
theorem RpG.all {B n W : Nat} : ∀ {ds : List D}, (∀ d ∈ ds, RpG B n W d) → D.canRs ds = true ∧ PyData.showableAll (D.pys ds) = true ∧ PyData.depthAll (D.pys ds) ≤ n ∧ PyData.leavesShortAll B (D.pys ds) = true ∧ PyData.weightAll (D.pys ds) ≤ ds.length * (W + 1)
  | [], _ => ⟨rfl, rfl, Nat.zero_le _, rfl, Nat.zero_le _⟩
  | d :: ds, h => by
    have h1 := h d List.mem_cons_self
    obtain ⟨a1, a2, a3, a4, a5⟩ := RpG.all fun e he => h e (List.mem_cons_of_mem _ he)
    refine ⟨?_, ?_, ?_, ?_, ?_⟩
    · simp only [D.canRs, h1.cr, a1, Bool.and_self]
    · simp only [D.pys, PyData.showableAll, h1.sh, a2, Bool.and_self]
    · simp only [D.pys, PyData.depthAll]; exact Nat.max_le.mpr ⟨h1.dp, a3⟩
    · simp only [D.pys, PyData.leavesShortAll, h1.lf, a4, Bool.and_self]
    · simp only [D.pys, PyData.weightAll, List.length_cons]
      have := h1.wt
      rw [Nat.succ_mul]
      omega
theorem RpG.lst {B n W m V : Nat} {ds : List D} (h : ∀ d ∈ ds, RpG B n W d) (hm : ds.length ≤ m) (hV : m * (W + 1) ≤ V) : RpG B (n + 1) V (.lst ds) := by
  obtain ⟨a1, a2, a3, a4, a5⟩ := RpG.all h
  have := Nat.mul_le_mul_right (W + 1) hm
  exact ⟨by simp only [D.canR, a1], by simp only [D.py, PyData.showable, a2], by simp only [D.py, PyData.depth]; omega, by simp only [D.py, PyData.leavesShort, a4], by simp only [D.py, PyData.weight]; omega⟩
theorem RpG.tup {B n W m V : Nat} {ds : List D} (h : ∀ d ∈ ds, RpG B n W d) (hm : ds.length ≤ m) (hV : m * (W + 1) ≤ V) : RpG B (n + 1) V (.tup ds) := by
  obtain ⟨a1, a2, a3, a4, a5⟩ := RpG.all h
  have := Nat.mul_le_mul_right (W + 1) hm
  exact ⟨by simp only [D.canR, a1], by simp only [D.py, PyData.showable, a2], by simp only [D.py, PyData.depth]; omega, by simp only [D.py, PyData.leavesShort, a4], by simp only [D.py, PyData.weight]; omega⟩
theorem RpG.kv {B n W : Nat} : ∀ {ks vs : List PyData}, (∀ k ∈ ks, k.showable = true ∧ k.depth ≤ n ∧ k.leavesShort B = true ∧ k.weight ≤ W) → (∀ k ∈ vs, k.showable = true ∧ k.depth ≤ n ∧ k.leavesShort B = true ∧ k.weight ≤ W) →
    PyData.showableKv (ks.zip vs) = true ∧ PyData.depthKv (ks.zip vs) ≤ n ∧ PyData.leavesShortKv B (ks.zip vs) = true ∧ PyData.weightKv (ks.zip vs) ≤ vs.length * (2 * W + 2)
  | [], vs, _, _ => by simp only [List.zip_nil_left]; exact ⟨rfl, Nat.zero_le _, rfl, Nat.zero_le _⟩
  | k :: ks, [], _, _ => by simp only [List.zip_nil_right]; exact ⟨rfl, Nat.zero_le _, rfl, Nat.zero_le _⟩
  | k :: ks, v :: vs, h1, h2 => by
    obtain ⟨k1, k2, k3, k4⟩ := h1 k List.mem_cons_self
    obtain ⟨v1, v2, v3, v4⟩ := h2 v List.mem_cons_self
    obtain ⟨a1, a2, a3, a4⟩ := RpG.kv (fun e he => h1 e (List.mem_cons_of_mem _ he)) (fun e he => h2 e (List.mem_cons_of_mem _ he))
    rw [List.zip_cons_cons]
    refine ⟨?_, ?_, ?_, ?_⟩
    · simp only [PyData.showableKv, k1, v1, a1, Bool.and_self]
    · simp only [PyData.depthKv]; omega
    · simp only [PyData.leavesShortKv, k3, v3, a3, Bool.and_self]
    · simp only [PyData.weightKv, List.length_cons]
      have := Nat.add_mul vs.length 1 (2 * W + 2)
      omega
theorem RpG.dic {B n W m V : Nat} {ks : List DK} {ds : List D} (hk : ∀ k ∈ ks, (dkPy k).showable = true ∧ (dkPy k).depth ≤ n ∧ (dkPy k).leavesShort B = true ∧ (dkPy k).weight ≤ W) (h : ∀ d ∈ ds, RpG B n W d) (hm : ds.length ≤ m) (hV : m * (2 * W + 2) ≤ V) : RpG B (n + 1) V (.dic false ks ds) := by
  obtain ⟨b1, _⟩ := RpG.all h
  have hv : ∀ k ∈ D.pys ds, k.showable = true ∧ k.depth ≤ n ∧ k.leavesShort B = true ∧ k.weight ≤ W := by
    intro k q
    rw [D.pys_map] at q
    obtain ⟨d, q1, rfl⟩ := List.mem_map.mp q
    have := h d q1
    exact ⟨this.sh, this.dp, this.lf, this.wt⟩
  obtain ⟨a1, a2, a3, a4⟩ := RpG.kv (B := B) (n := n) (W := W) (ks := ks.map dkPy) (vs := D.pys ds) (fun k q => by obtain ⟨d, q1, rfl⟩ := List.mem_map.mp q; exact hk d q1) hv
  have e : (D.pys ds).length = ds.length := by rw [D.pys_map, List.length_map]
  rw [e] at a4
  have := Nat.mul_le_mul_right (2 * W + 2) hm
  exact ⟨by simp only [D.canR, b1, Bool.not_false, Bool.and_self], by simp only [D.py, PyData.showable, a1], by simp only [D.py, PyData.depth]; omega, by simp only [D.py, PyData.leavesShort, a3], by simp only [D.py, PyData.weight]; omega⟩
def oReprG (n : Nat) (ds : List D) (k : Os → Prop) : Prop := oReprA n ds k ∨ ∃ (d : D) (es : List D), ds = [.lst (d :: es)] ∧ (D.lst (d :: es)).canR = true ∧ (D.lst (d :: es)).py.showable = true ∧ (D.lst (d :: es)).py.depth ≤ n ∧ (D.lst (d :: es)).py.shown.length ≤ 16777216 ∧ k (.val (shw (.lst (d :: es))))
def rReprGA (K : PySem.W.Frag) (n : Nat) : List V → Hp → VK → Prop := fun xs H Q => rReprA K n xs H Q ∨ rReprG K n xs H Q
theorem call_reprG {X : Cx} {n : Nat} (hg : X.A.guards = some []) (hu : X.A.units + (n + 1) < cLine) : CallR X (.builtin "repr") (rReprGA X.K n) := (call_reprB hg hu).or (call_reprG0 hg hu)
theorem cd_reprG {K : PySem.W.Frag} {n : Nat} : CaD K (rReprGA K n) (oReprG n) := by
  rintro O H vs ds Q k hf hv (ho | ⟨d, es, rfl, h1, h2, h3, h4, ho⟩) post
  · exact .inl (cd_reprA O H vs ds Q k hf hv ho post)
  · obtain ⟨v, rfl, b⟩ := hv.one
    obtain ⟨a, xs, rfl, e, t⟩ := b.lst
    have e1 : (D.lst (d :: es)).py.shown = listText (PyData.shownAll (D.pys (d :: es))) := by simp only [D.py, PyData.shown]
    cases t with
    | cons t0 tt =>
      refine .inr ⟨a, _, _, d :: es, O, rfl, e, .cons t0 tt, by simpa only [D.canR] using h1, by simpa only [D.py, PyData.showable] using h2, by simpa only [D.py, PyData.depth] using h3, ?_, ?_⟩
      · rw [← e1, sizeLine_eq]; exact h4
      · rw [← e1]; exact post _ _ _ (out_v (.str _)) ho
theorem o_reprG {B W : Nat} {d : D} {es : List D} {k : Os → Prop} (h : RpG B 64 W (.lst (d :: es))) (hB : 8 ≤ B) (hW : (B + 2) * W + B ≤ 16777216) (hk : k (.val (shw (.lst (d :: es))))) : oReprG 64 [.lst (d :: es)] k := by
  refine .inr ⟨d, es, rfl, h.cr, h.sh, h.dp, ?_, hk⟩
  have h1 := PyData.shown_le B hB _ h.lf
  have h2 := Nat.mul_le_mul_left (B + 2) h.wt
  omega
/-! ### str of a list -/
theorem hr103 {k : Nat} {A : Around} (r : Room k A) : A.units + (64 + 3) < cLine := by have := r.un; omega
theorem call_strL {X : Cx} {n : Nat} (hg : X.A.guards = some []) (hu : X.A.units + (n + 3) < cLine) : CallR X (.type "str") (rRepr X.K n) := by
  intro pins s σ H xs us Q I r h
  obtain ⟨a, d, rfl, hd, hl, hs, hn, hz, q⟩ := h
  obtain rfl := r.ref1
  obtain ⟨as, rd⟩ := Dp.reads I d (.ref a) (.ref a) hd rfl
  exact str_of_reads rd hs (PyData.noDict_hsm (PyData.hasDict_of_canLay d hl)) hg (by omega) (fun b o e => e) (fun h' u tk hk => ⟨.str d.shown, H, I.kept hk, ⟨u, rfl⟩, q⟩) hz
def oStrG (n : Nat) (ds : List D) (k : Os → Prop) : Prop := match ds with
  | [.lst es] => oRepr n [.lst es] k
  | ds => oStrA ds k
def rStrG (K : PySem.W.Frag) (n : Nat) : List V → Hp → VK → Prop := fun xs H Q => rStrA xs H Q ∨ rRepr K n xs H Q
theorem call_strG {X : Cx} {n : Nat} (hg : X.A.guards = some []) (hu : X.A.units + (n + 3) < cLine) : CallR X (.type "str") (rStrG X.K n) := call_strA.or (call_strL hg hu)
theorem cd_strG {K : PySem.W.Frag} {n : Nat} : CaD K (rStrG K n) (oStrG n) := by
  intro O H vs ds Q k hf hv ho post
  unfold oStrG at ho
  split at ho
  · exact .inr (cd_repr O H vs _ Q k hf hv ho post)
  · exact .inl (cd_strA O H vs _ Q k hf hv ho post)
/-! ### dict(enumerate(xs)) -/
def numK : Nat → List V → List (Key × V)
  | _, [] => []
  | i, x :: xs => (.inl (i : Int), x) :: numK (i + 1) xs
def numV : Nat → List Value → List (Key × Value)
  | _, [] => []
  | i, x :: xs => (.inl (i : Int), x) :: numV (i + 1) xs
theorem numKV : ∀ {xs : List V} {us : List Value} (i : Nat), Vals xs us → KV (numK i xs) (numV i us)
  | _, _, _, .nil => .nil
  | _, _, i, .cons h t => .cons ⟨rfl, h⟩ (numKV (i + 1) t)
theorem numV_len : ∀ (us : List Value) (i : Nat), (numV i us).length = us.length
  | [], _ => rfl
  | _ :: us, i => by simp [numV, numV_len us]
theorem numV_get : ∀ (us : List Value) (i j : Nat) (v : Value), us[j]? = some v → (numV i us)[j]? = some (.inl ((i + j : Nat) : Int), v)
  | [], _, _, _, h => by simp at h
  | u :: us, i, 0, v, h => by simp at h; subst h; rfl
  | u :: us, i, j + 1, v, h => by
    have := numV_get us (i + 1) j v (by simpa using h)
    rw [show i + 1 + j = i + (j + 1) by omega] at this
    exact this
theorem numK_merge : ∀ (xs : List V) (i : Nat) (acc : List (Key × V)), (∀ j : Nat, i ≤ j → valV acc (.inl (j : Int)) = none) → mergeK acc (numK i xs) = acc ++ numK i xs
  | [], i, acc, _ => by simp [mergeK, numK]
  | x :: xs, i, acc, h => by
    have e : mergeK acc (numK i (x :: xs)) = mergeK (putK acc (.inl (i : Int)) x) (numK (i + 1) xs) := rfl
    have n0 := h i (Nat.le_refl _)
    rw [e, putK_new x n0, numK_merge xs (i + 1) _ fun j hj => ?_]
    · simp [numK]
    · rw [valV_snoc _ _ _ _ n0, if_neg (by intro q; injection q with q; omega)]
      exact h j (by omega)
theorem numK_keys : ∀ (xs : List V) (i : Nat), (numK i xs).map (fun p => DK.one p.1) = (List.range' i xs.length).map fun j : Nat => DK.one (.inl (j : Int))
  | [], _ => rfl
  | x :: xs, i => by
    rw [List.length_cons, List.range'_succ]
    simp only [numK, List.map_cons]
    rw [numK_keys xs]
theorem numK_vals : ∀ (xs : List V) (i : Nat), (numK i xs).map (·.2) = xs
  | [], _ => rfl
  | x :: xs, i => by simp [numK, numK_vals xs]
def rDicEn (K : PySem.W.Frag) : V → Hp → VK → Prop := fun x H Q => ∃ a xs, x = .ref a ∧ SqL K H a xs ∧ ∀ p, H p = none → Q (.ref p) (upd H p (.dK (numK 0 xs)))
theorem pe_dicEn {X : Cx} {e : Expr} {te : TE} {p1 p2 pos pos2 : Pos} (hcalm : X.calm = true) (hgd : Gl X "dict") (hmd : X.mg "dict" = none) (hge : Gl X "enumerate") (hme : X.mg "enumerate" = none) (he : PE X e te)
    (hs : starEach [e] X.env = (false, eval e X.env) :: starEach [] X.env := by rfl) : PE X (.Call (.Name "dict" p1) [.Call (.Name "enumerate" p2) [e] [] pos2] [] pos) (fun σ H Q => te σ H fun x H1 => rDicEn X.K x H1 Q) := by
  refine ⟨fun pins s σ H Q I h => ?_⟩
  refine wpAny_Call_Name_kw (ld_blt I hgd hmd PyProof.Rows.boot_dict ?_)
  refine PyProof.Rows.callWith_type1 ?_ rfl rfl
  refine Calls.spliced_cons ?_
  refine wpAny_Call_Name_kw (ld_blt I hge hme PyProof.Rows.boot_enumerate ?_)
  refine PyProof.Rows.callWith_type1 (thn ((pa_cons he pa_nil hs).run pos2 pins s σ H (fun vs H1 => match vs with | [x] => rDicEn X.K x H1 Q | _ => False) I h) fun us s1 ⟨vs, H1, I1, r1, q1⟩ => ?_) hs rfl
  · match vs, r1, q1 with
    | [x], r1, ⟨a, xs, ea, hq, q⟩ => ?_
    subst ea
    obtain rfl := r1.ref1
    obtain ⟨its, rv, pl, hz⟩ := I1.list hq
    have hl := rv.length
    refine call_enumerate_list pl.isList fun h' hen hit hsz hk => ?_
    refine Calls.spliced_nil ?_
    have hla : a < s1.heap.objs.size := by obtain ⟨o, ho, _⟩ := pl.isList; exact Heap.lt_size ho
    have P := PairArg.enumerate (prog := X.prog) (w := X.w) (s1.heap.objs.size + 1) s1.heap.objs.size a (Nat.succ_ne_self _) (Nat.ne_of_lt (Nat.lt_succ_of_lt hla)) (Nat.ne_of_lt hla) its.toArray
    refine PySem.call_dict_pairs (knd := mixKind X.prog X.w) (kvs := numV 0 its) P (I.ok.hd hcalm) ⟨⟨_, hen⟩, hit, pl.isList.at fun o z => hk _ _ z⟩ ⟨by rw [numV_len]; simp, fun i key v hr => ?_⟩ (by simp; omega) fun h2 tk hd' hk2 => ?_
    · obtain ⟨⟨t, rfl⟩, hi⟩ := hr
      refine ⟨.inl (i : Int), by simpa using numV_get its 0 i v (by simpa using hi), ?_⟩
      exact kV_is (P := X.prog) (w := X.w) (k := .inl (i : Int)) ⟨t, rfl⟩
    · have big : sysModules < h'.objs.size := Nat.lt_of_lt_of_le I1.big (by omega)
      have hm : (h'.objs.size == sysModules) = false := beq_eq_false_iff_ne.mpr (Nat.ne_of_gt big)
      have em : mergeK [] (numK 0 xs) = numK 0 xs := by rw [numK_merge _ _ _ fun _ _ => rfl]; rfl
      have rel : KV (mergeK [] (numK 0 xs)) (merged [] (numV 0 its)) := (numKV 0 rv).merge .nil
      rw [em] at rel
      have hlen : (numK 0 xs).length ≤ sizeLine := by
        have := congrArg List.length (numK_vals xs 0)
        rw [List.length_map] at this
        omega
      have ks : ∀ b u, s1.heap.get? b = some u → h2.get? b = some u := fun b u z => hk2 b u (fun q => by
        have l := Heap.lt_size z
        simp only [List.mem_cons, List.not_mem_nil, or_false] at q
        rcases q with q | q
        · exact absurd (q ▸ l) (Nat.not_lt.mpr (Nat.le_succ _))
        · exact absurd (q ▸ l) (Nat.lt_irrefl _)) (hk _ _ z)
      have hp : s1.heap.objs.size ≤ h'.objs.size := by omega
      exact ⟨.ref h'.objs.size, upd H1 h'.objs.size (.dK (numK 0 xs)), I1.laid (t' := tk) ks hp (show ObjOk X.prog X.w _ _ _ (.dK (numK 0 xs)) from ⟨hlen, hm, _, rel, hd'⟩), rfl, q _ (I1.hok.fresh hp)⟩
def oDicEn (d : D) (k : Os → Prop) : Prop := match d with
  | .lst ds => k (.val (.dic false ((List.range' 0 ds.length).map fun j : Nat => DK.one (.inl (j : Int))) ds))
  | _ => False
theorem ud_dicEn {K : PySem.W.Frag} : UnD K (rDicEn K) oDicEn := by
  intro O H v d Q k hf hv ho post
  cases d with
  | lst ds =>
    obtain ⟨a, xs, rfl, h, t⟩ := hv.seqL
    refine ⟨a, xs, rfl, h, fun p hp => post _ _ (.val _) ⟨.one hp, ?_⟩ ho⟩
    have := DAt.dk (K := K) (O := O) (H := upd H p (.dK (numK 0 xs))) (a := p) (kvs := numK 0 xs) (ds := ds) (hf p hp) (.inl upd_same) (by rw [numK_vals]; exact t.stay (stay_new hp))
    rw [numK_keys, t.length] at this
    exact this
  | _ => exact ho.elim
theorem pd_dicEn {X : Cx} {M : MC} {E : WX} {we : WE} {e : Expr} {p1 p2 pos pos2 : Pos} (hcalm : X.calm = true) (hgd : Gl X "dict") (hmd : X.mg "dict" = none) (hge : Gl X "enumerate") (hme : X.mg "enumerate" = none) (he : PE X e (tD X.K M E we))
    (hs : starEach [e] X.env = (false, eval e X.env) :: starEach [] X.env := by rfl) : PE X (.Call (.Name "dict" p1) [.Call (.Name "enumerate" p2) [e] [] pos2] [] pos) (tD X.K M E (wUn oDicEn we)) :=
  PE.weak (pe_dicEn hcalm hgd hmd hge hme he hs) (un_all ud_dicEn)
@[simp ↓] theorem o_dicEn {ds : List D} {k : Os → Prop} : unP oDicEn (.lst ds) k = k (.val (.dic false ((List.range' 0 ds.length).map fun j : Nat => DK.one (.inl (j : Int))) ds)) := nre rfl
@[simp ↓] theorem o_strGI {n : Nat} {i : Int} {k : Os → Prop} : caP (oStrG n) [.int i] k = (i.natAbs.log2 < 1920 ∧ k (.val (.str (toString i)))) := nre rfl
@[simp ↓] theorem o_strGS {n : Nat} {x : Str} {k : Os → Prop} : caP (oStrG n) [.str x] k = k (.val (.str x)) := nre rfl
theorem o_strGL {B W : Nat} {ds : List D} {k : Os → Prop} (h : Rp B 64 W (.lst ds)) (hB : 8 ≤ B) (hW : (B + 2) * W + B ≤ 16777216) (hk : k (.val (shw (.lst ds)))) : caP (oStrG 64) [.lst ds] k := o_repr (d := .lst ds) rfl h hB hW hk
end El

set_option Elab.async false
set_option linter.all false
set_option maxRecDepth 100000
set_option maxHeartbeats 4000000
/-! GI: t[::-1] of a tuple of three. -/
namespace RevT
open PySem PyProof.Rows
open PySem.SeqAt
open PySem.AutoSeq1 (wpAny_loadPart')
open PySem.MeetsSeq PySem.MeetsSeq2 PySem.MeetsSeq3
open HT
section
variable {prog : Program} {w : World} {A : Around} {E : Value → Shared → Prop} {s : Shared}
theorem applied3 {sl : Addr} {vl vu vs : Value} {Q : Int × Int × Nat → Shared → Prop} (hs : s.heap.IsSliceOf sl vl vu vs) (pl : IsPart vl none) (pu : IsPart vu none) (ps : IsPart vs (some (-1)))
    (h : Q (2, -1, 3) s) : wpAny (model prog w) A (Builtin.Slice.sliceApplied (.ref sl) (pure ((3 : Nat) : Int))) Q E s := by
  obtain ⟨ob, hob, hcl, hda⟩ := id hs
  unfold Builtin.Slice.sliceApplied Builtin.Slice.sliceFields
  refine wpAny_bind (wpAny_bind (wpAny_field hob hda (x := vl) rfl (wpAny_bind (wpAny_field hob hda (x := vu) rfl (wpAny_bind (wpAny_field hob hda (x := vs) rfl (wpAny_pure ?_)))))))
  refine wpAny_bind (slicePart_ ps ?_)
  show wpAny _ _ (if ((-1 : Int) == 0) = true then _ else _) _ _ s
  rw [if_neg (by decide)]
  exact wpAny_bind (slicePart_ pl (wpAny_bind (slicePart_ pu (wpAny_bind (wpAny_pure (wpAny_pure h))))))
theorem getItem3 {T0 sl : Addr} {x y z vl vu vs : Value} {Q : Value → Shared → Prop} (H0 : IsTup s.heap T0 #[x, y, z]) (hs : s.heap.IsSliceOf sl vl vu vs) (pl : IsPart vl none) (pu : IsPart vu none) (ps : IsPart vs (some (-1)))
    (h : Q (.ref s.heap.objs.size) { s with heap := s.heap.push { cls := .type "tuple", data := .seq #[z, y, x] } }) : wpAny (model prog w) A (getItem (.ref T0) (.ref sl)) Q E s := by
  have fits : sizeOk (.seq #[z, y, x]) := by
    show (3 : Nat) ≤ sizeLine
    decide
  obtain ⟨ob, hob, hcl, hda⟩ := id hs
  have ty : s.TypeIs (.ref sl) "slice" := ⟨ob, hob, hcl⟩
  unfold getItem
  try with_reducible refine wpAny_holding ?_
  first | refine wpAny_bind (wpAny_pure ?_) | skip
  refine wpAny_bind (wpAny_sequenceKey H0.typeIs (by decide) ?_)
  refine wpAny_bind (wpAny_callSpecial?_slot (name := Str.ofString "__getitem__") H0.typeIs PyProof.Rows.slot_tuple_getitem
    (wpAny_call_entry PyProof.Rows.slot_tuple_getitem H0.typeIs entry_tuple_getitem ?_ (args_tuple_getitem _ _)))
  show wpAny _ _ (Builtin.Tuple.tupleItemsOf (.ref T0) >>= _) _ _ s
  refine wpAny_bind (tupleItemsOf_ H0 ?_)
  refine wpAny_bind (wpAny_typeOf ty ?_)
  rw [if_pos (by decide)]
  refine wpAny_bind (applied3 hs pl pu ps ?_)
  show wpAny _ _ (if (((2 : Int) == 0 && (-1 : Int) == 1 && (3 : Nat) == 3) = true) then _ else _) _ _ s
  rw [if_neg (by decide)]
  have pick : ((List.range 3).filterMap fun (k : Nat) => (#[x, y, z] : Array Value)[((2 : Int) + (k : Int) * (-1)).toNat]?).toArray = #[z, y, x] := rfl
  rw [pick]
  first
    | exact wpAny_bind (m := Builtin.Tuple.tupleExact _) (wpAny_newObj_type (wpAny_pure ⟨_, rfl, wpAny_pure h⟩) fits)
    | exact wpAny_bind (m := Builtin.Tuple.tupleExact _) (wpAny_newObj_type (wpAny_bind (wpAny_pure (wpAny_pure ⟨_, rfl, wpAny_pure h⟩))) fits)
    | exact wpAny_bind (wpAny_bind (m := Builtin.Tuple.tupleExact _) (wpAny_newObj_type (wpAny_pure (wpAny_pure ⟨_, rfl, wpAny_pure h⟩)) fits))
    | exact wpAny_bind (wpAny_bind (m := Builtin.Tuple.tupleExact _) (wpAny_newObj_type (wpAny_pure ⟨_, rfl, wpAny_pure h⟩) fits))
end
end RevT
namespace El
open PySem PySem.Spec PyProof.Rows L2
def rRevT (K : PySem.W.Frag) : V → Hp → VK → Prop := fun x H Q => ∃ a u v w, x = .ref a ∧ SqT K H a [u, v, w] ∧ ∀ p, H p = none → Q (.ref p) (upd H p (.tup [w, v, u]))
theorem pe_revT {X : Cx} {e : Expr} {te : TE} {k : Nat} {p1 p2 p3 pos : Pos} (he : PE X e te) : PE X (.Subscript e (.Slice none none (some (.UnaryOp .USub (.Constant (.int 1) k p1) p2)) p3) pos) (fun σ H Q => te σ H fun x H1 => rRevT X.K x H1 Q) := by
  refine ⟨fun pins s σ H Q I h => ?_⟩
  refine Subscript_ (thn (he.run pins s σ H _ I h) fun v s1 ⟨x, H1, I1, r1, a, b, c, d, ex, hx, q⟩ => ?_)
  subst ex
  cases r1
  have back : PO X (some (.UnaryOp .USub (.Constant (.int 1) k p1) p2)) (tPart (tUn (rU fun i => .int (-i)) (tC (.int 1)))) := po_some (pe_un un_neg pe_int)
  refine wpAny_Slice (thn (po_none.run pins s1 σ H1 (fun o G => o = none ∧ G = H1) I1 ⟨rfl, rfl⟩) fun vl s2 ⟨l, H2, I2, pl, el, e2⟩ => ?_)
  subst el e2
  refine thn (po_none.run pins s2 σ H2 (fun o G => o = none ∧ G = H2) I2 ⟨rfl, rfl⟩) fun vu s3 ⟨u, H3, I3, pu, eu, e3⟩ => ?_
  subst eu e3
  refine thn (back.run pins s3 σ H3 (fun o G => o = some (-1) ∧ G = H3) I3 ⟨1, rfl, -1, rfl, rfl, rfl⟩) fun vs s4 ⟨o, H4, I4, ps, eo, e4⟩ => ?_
  subst eo e4
  have I5 : Inv X pins σ H4 { s4 with heap := s4.heap.push { cls := .type "slice", data := .fields #[vl, vu, vs] } } := I4.kept (t' := s4.toks) fun b ob q => Heap.get?_push_of_some _ q
  obtain ⟨its, r, ht, hz⟩ := I5.tuple hx
  obtain ⟨i1, i2, i3, rfl, q1, q2, q3⟩ : ∃ i1 i2 i3, its = [i1, i2, i3] ∧ RelV b i1 ∧ RelV c i2 ∧ RelV d i3 := by
    cases r with | cons q1 r => cases r with | cons q2 r => cases r with | cons q3 r => cases r; exact ⟨_, _, _, rfl, q1, q2, q3⟩
  show wpAny (model X.prog X.w) X.A (subscriptTail e (.Slice none none (some (.UnaryOp .USub (.Constant (.int 1) k p1) p2)) p3) (.ref a) (.ref s4.heap.objs.size)) (EP X pins σ Q) X.xe { s4 with heap := s4.heap.push { cls := .type "slice", data := .fields #[vl, vu, vs] } }
  refine tail_any (ops := [.ref a, .ref s4.heap.objs.size]) ht.typeIs PyProof.Rows.slot_tuple_getitem.lookup ?_ (by with_unfolding_all rfl)
  refine RevT.getItem3 ht (Heap.IsSliceOf.new _ vl vu vs) pl pu ps ?_
  exact ⟨.ref _, _, I5.laid (t' := s4.toks) (o := .tup [d, c, b]) (fun b ob q => Heap.get?_push_of_some _ q) (Nat.le_refl _) ⟨by show 3 ≤ sizeLine; decide, [i3, i2, i1], .cons q3 (.cons q2 (.cons q1 .nil)), IsTup.new _ _⟩, rfl, q _ (I5.hok.fresh (Nat.le_refl _))⟩
def oRevT (d : D) (k : Os → Prop) : Prop := match d with
  | .tup [x, y, z] => k (.val (.tup [z, y, x]))
  | _ => False
theorem ud_revT {K : PySem.W.Frag} : UnD K (rRevT K) oRevT := by
  intro O H v d Q k hf hv ho post
  unfold oRevT at ho
  split at ho
  · obtain ⟨a, xs, rfl, h, t⟩ := hv.seqT
    cases t with | cons t1 t => cases t with | cons t2 t => cases t with | cons t3 t =>
      cases t
      exact ⟨a, _, _, _, rfl, h, fun p hp => post _ _ _ (out_t hp (hf p hp) (.cons t3 (.cons t2 (.cons t1 .nil)))) ho⟩
  · exact ho.elim
theorem pd_revT {X : Cx} {M : MC} {E : WX} {we : WE} {e : Expr} {k : Nat} {p1 p2 p3 pos : Pos} (he : PE X e (tD X.K M E we)) : PE X (.Subscript e (.Slice none none (some (.UnaryOp .USub (.Constant (.int 1) k p1) p2)) p3) pos) (tD X.K M E (wUn oRevT we)) :=
  PE.weak (pe_revT he) (un_all ud_revT)
@[simp ↓] theorem o_revT {x y z : D} {k : Os → Prop} : unP oRevT (.tup [x, y, z]) k = k (.val (.tup [z, y, x])) := nre rfl
end El

set_option Elab.async false
set_option linter.all false
set_option maxRecDepth 100000
set_option maxHeartbeats 4000000
/-! GH: the classes' facts, as the head hands them over. -/
namespace El
open PySem L2
theorem allc {α : Type} {P : α → Prop} {a : α} {l : List α} (h : P a) (t : ∀ q ∈ l, P q) : ∀ q ∈ a :: l, P q := fun q hq => by
  rcases List.mem_cons.mp hq with rfl | hq
  · exact h
  · exact t q hq
theorem alln {α : Type} {P : α → Prop} : ∀ q ∈ ([] : List α), P q := fun _ h => nomatch h
/-- addresses by names -/
theorem names_map : ∀ (l : List (Str × Addr)), (l.map (·.1)).Nodup → ∃ C : Str → Addr, ∀ q ∈ l, C q.1 = q.2
  | [], _ => ⟨fun _ => 0, alln⟩
  | (n, a) :: l, h => by
    obtain ⟨h1, h2⟩ := List.nodup_cons.mp h
    obtain ⟨C, hC⟩ := names_map l h2
    refine ⟨fun x => if x = n then a else C x, allc (if_pos rfl) fun q hq => ?_⟩
    have : ¬ q.1 = n := fun e => h1 (e ▸ List.mem_map.mpr ⟨q, hq, rfl⟩)
    show (if q.1 = n then a else C q.1) = q.2
    rw [if_neg this]
    exact hC q hq
section
variable {K : PySem.W.Frag} {c d : Addr} {b b2 b3 : Bool} {cls : Value}
theorem exm_own (h1 : PySem.W.subIn K (.ref d) (.type "BaseException") = some true) (hd : PySem.W.hasDictIn K d = true) (ht : PySem.W.typeIn K (.ref d) = some (.type "type")) (h4 : PySem.W.subIn K cls (.ref d) = some b) : PySem.W.exmOne K cls (.ref d) = some b := PySem.W.exm_ref h1 hd ht h4
theorem exm1 {v : Value} (h : PySem.W.exmOne K cls v = some b) : PySem.W.exmAny K cls [v] = some b := by
  unfold PySem.W.exmAny PySem.W.exmAny
  rw [h]
  simp
theorem exm2 {v u : Value} (h : PySem.W.exmOne K cls v = some b) (h2 : PySem.W.exmOne K cls u = some b2) : PySem.W.exmAny K cls [v, u] = some (b || b2) := by
  unfold PySem.W.exmAny
  rw [h, exm1 h2]
theorem exm3 {v u z : Value} (h : PySem.W.exmOne K cls v = some b) (h2 : PySem.W.exmOne K cls u = some b2) (h3 : PySem.W.exmOne K cls z = some b3) : PySem.W.exmAny K cls [v, u, z] = some (b || (b2 || b3)) := by
  unfold PySem.W.exmAny
  rw [h, exm2 h2 h3]
theorem any_of {α : Type} {p : α → Bool} {x : Option α} (e : x.any p = true) : x.isSome = true := by
  cases x with
  | none => cases e
  | some _ => rfl
theorem kit_own (hs : PySem.W.subIn K (.ref c) (.ref c) = some true) (h4 : PySem.W.subIn K (.ref c) (.ref d) = some b) (hd : PySem.W.hasDictIn K d = true) (ht : PySem.W.typeIn K (.ref d) = some (.type "type")) : PySem.W.kitOne K (.ref c) (.ref d) = some b := by
  unfold PySem.W.kitOne
  split
  · rename_i e
    have e : Value.ref c = .ref d := eq_of_beq e
    cases e
    exact hs.symm.trans h4
  · have e2 : ((PySem.W.clsIn K d).isSome && PySem.W.typeIn K (.ref d) == some (.type "type")) = true := by rw [any_of hd, ht] <;> rfl
    show (if ((PySem.W.clsIn K d).isSome && PySem.W.typeIn K (.ref d) == some (.type "type")) = true then PySem.W.subIn K (.ref c) (.ref d) else none) = some b
    rw [if_pos e2]
    exact h4
theorem kit_bi {T : String} (hm : PySem.W.kitMeta T = true) (h4 : PySem.W.subIn K (.ref c) (.type T) = some b) : PySem.W.kitOne K (.ref c) (.type T) = some b := by
  unfold PySem.W.kitOne
  have e : ¬ (Value.ref c == .type T) = true := fun e => nomatch (eq_of_beq e)
  rw [if_neg e]
  show (if PySem.W.kitMeta T = true then PySem.W.subIn K (.ref c) (.type T) else none) = some b
  rw [if_pos hm]
  exact h4
end
end El

set_option Elab.async false
set_option linter.all false
set_option maxRecDepth 100000
set_option maxHeartbeats 4000000
/-! GJ: sorted(list of texts), sorted(list of ints). -/
namespace El
open PySem L2
def oSorted (ds : List D) (k : Os → Prop) : Prop := match ds with
  | [.lst xs] => (∃ ss : List Str, xs = ss.map D.str ∧ ss.length < 64 ∧ ∀ ys : List Str, ys.Perm ss → PyProof.Rows.sortedS ys = true → k (.new (.lst (ys.map D.str)))) ∨
    ∃ ns : List Int, xs = ns.map D.int ∧ ns.length < 64 ∧ ∀ ms : List Int, ms.Perm ns → ms.Pairwise (· ≤ ·) → k (.new (.lst (ms.map D.int)))
  | _ => False
def rSortedA (K : PySem.W.Frag) : List V → Hp → VK → Prop := fun xs H Q => rSortedS K xs H Q ∨ rSorted K xs H Q
theorem cr_sortedA {X : Cx} : CallR X (.builtin "sorted") (rSortedA X.K) := cr_sortedS.or cr_sorted
theorem cd_sorted {K : PySem.W.Frag} : CaD K (rSortedA K) oSorted := by
  intro O H vs ds Q k hf hv ho post
  unfold oSorted at ho
  split at ho
  · obtain ⟨v, rfl, b⟩ := hv.one
    obtain ⟨a, xs, rfl, hs, t⟩ := b.seqL
    rcases ho with ⟨ss, rfl, hl, ho⟩ | ⟨ss, rfl, hl, ho⟩
    · rw [DAll.strs t] at hs
      exact .inl ⟨a, ss, rfl, hs, hl, fun ys p h1 h2 hp => post _ _ _ (out_l hp (DAll.of_strs _ _ _ ys)) (ho ys h1 h2)⟩
    · rw [DAll.ints t] at hs
      exact .inr ⟨a, ss, rfl, hs, hl, fun ys p h1 h2 hp => post _ _ _ (out_l hp (DAll.of_ints _ _ _ ys)) (ho ys h1 h2)⟩
  · exact ho.elim
theorem o_sortS {ss : List Str} {k : Os → Prop} {t} (hl : ss.length < 64) (h : ∀ ys : List Str, ys.Perm ss → PyProof.Rows.sortedS ys = true → k (.new (.lst (ys.map D.str)))) : caP oSorted [.lst (ss.map D.str)] k t := .inl ⟨ss, rfl, hl, h⟩
theorem o_sortI {ss : List Int} {k : Os → Prop} {t} (hl : ss.length < 64) (h : ∀ ys : List Int, ys.Perm ss → ys.Pairwise (· ≤ ·) → k (.new (.lst (ys.map D.int)))) : caP oSorted [.lst (ss.map D.int)] k t := .inr ⟨ss, rfl, hl, h⟩
end El

set_option Elab.async false
set_option linter.all false
set_option maxRecDepth 100000
set_option maxHeartbeats 4000000
/-! TX: short texts of plain signs. -/
namespace Cw
open PySem L2 El TL
/-- a short text of plain signs -/
structure Sm (b : Nat) (t : Str) : Prop where
  len : t.length ≤ b
  asc : ∀ c ∈ tl t, c < 128
theorem Sm.app {a b : Nat} {x y : Str} (hx : Sm a x) (hy : Sm b y) : Sm (a + b) (x ++ y) := by
  refine ⟨?_, fun c hc => ?_⟩
  · have := hx.len; have := hy.len
    rw [Str.length_append]; omega
  · rw [tl_append] at hc
    exact (List.mem_append.mp hc).elim (hx.asc c) (hy.asc c)
theorem Sm.mono {a b : Nat} {x : Str} (h : Sm a x) (hl : a ≤ b) : Sm b x := ⟨Nat.le_trans h.len hl, h.asc⟩
theorem Sm.join {a b : Nat} {x : Str} (hx : Sm a x) : ∀ {ys : List Str}, (∀ y ∈ ys, Sm b y) → Sm (ys.length * (a + b)) (Txt.join x ys)
  | [], _ => by
    rw [join_eq]
    exact ⟨Nat.zero_le _, fun c hc => by cases hc⟩
  | [y], h => by
    rw [join_eq]
    exact (h y List.mem_cons_self).mono (by simp)
  | y :: z :: ys, h => by
    have ih := Sm.join hx (ys := z :: ys) fun w hw => h w (List.mem_cons_of_mem _ hw)
    rw [join_eq] at ih ⊢
    have := ((h y List.mem_cons_self).app hx).app ih
    refine Sm.mono (x := y ++ x ++ Str.join x (z :: ys)) this ?_
    simp only [List.length_cons]
    rw [Nat.add_mul, Nat.add_mul, Nat.add_mul]
    omega
theorem sum_le {b : Nat} : ∀ {ys : List Str}, (∀ y ∈ ys, y.length ≤ b) → (ys.map (·.length)).sum ≤ ys.length * b
  | [], _ => Nat.zero_le _
  | y :: ys, h => by
    have ih := sum_le fun w hw => h w (List.mem_cons_of_mem _ hw)
    have := h y List.mem_cons_self
    simp only [List.map_cons, List.sum_cons, List.length_cons]
    rw [Nat.add_mul]
    omega
theorem sm_of {b : Nat} {t : Str} (h : t.length ≤ b ∧ ∀ c ∈ tl t, c < 128) : Sm b t := ⟨h.1, h.2⟩
theorem sm_int {i : Int} {k : Nat} (hk : 0 < k) (h : i.natAbs.log2 < k) : Sm (k + 1) (Str.ofString (toString i)) := by
  refine ⟨by rw [ofString_length]; exact int_text_length_le hk h, fun c hc => ?_⟩
  by_cases q : c < 128
  · exact q
  · exact absurd hc (PyProof.Rows.int_text_free' c ⟨by omega, by omega⟩ i)
theorem Sm.ok {b : Nat} {t : Str} (h : Sm b t) : PyData.strOk t = true := by
  unfold PyData.strOk
  rw [Array.all_eq_true_iff_forall_mem]
  intro c hc
  have := h.asc c (Array.mem_toList_iff.mpr hc)
  simp
  omega
theorem Sm.rp {b B n W : Nat} {t : Str} (h : Sm b t) (hw : b ≤ W) : Rp B n W (.str t) := Rp.str h.ok (Nat.le_trans h.len hw)
theorem at_strs (l : List Str) {r : Int} (h0 : 0 ≤ r) (h1 : r < l.length) : ∃ t ∈ l, atI (l.map D.str) r = some (.str t) := by
  obtain ⟨n, rfl⟩ : ∃ n : Nat, r = (n : Int) := ⟨r.toNat, by omega⟩
  have hl : n < l.length := by omega
  exact ⟨l[n], List.getElem_mem hl, atI_nat (by rw [List.getElem?_map, List.getElem?_eq_getElem hl]; rfl)⟩
theorem at_mem (l : List D) {r : Int} (h0 : 0 ≤ r) (h1 : r < l.length) : ∃ t ∈ l, atI l r = some t := by
  obtain ⟨n, rfl⟩ : ∃ n : Nat, r = (n : Int) := ⟨r.toNat, by omega⟩
  have hl : n < l.length := by omega
  exact ⟨l[n], List.getElem_mem hl, atI_nat (List.getElem?_eq_getElem hl)⟩
theorem lgk {i : Int} {k : Nat} (h : i.natAbs < 2 ^ k) (hk : 0 < k) : i.natAbs.log2 < k := by
  by_cases z : i.natAbs = 0
  · rw [z]; simpa using hk
  · exact (Nat.log2_lt z).mpr h
end Cw

set_option Elab.async false
set_option linter.all false
set_option maxRecDepth 100000
set_option maxHeartbeats 4000000
namespace Cw
open PySem L2 El
open PyProof.Rows (envOfC)
def top (i : Nat) : Stmt := PySem.Challenge.pw_coinplace_k76_statements_as_texts.main.body.getD i (.Pass ⟨0, 0, 0, 0⟩)
abbrev s_line_of : Stmt := top 1
abbrev s_statement_text : Stmt := top 2
abbrev s__law_begun : Stmt := top 4
abbrev s__law_draw : Stmt := top 5
abbrev s__law_names : Stmt := top 6
abbrev s__law_changed : Stmt := top 7
abbrev s_law : Stmt := top 8
structure Tops (K : PySem.W.Frag) (mg : Str → Option Value) where
  d_line_of : DefAt K mg "line_of" s_line_of
  d_statement_text : DefAt K mg "statement_text" s_statement_text
  d__law_begun : DefAt K mg "_law_begun" s__law_begun
  d__law_draw : DefAt K mg "_law_draw" s__law_draw
  d__law_names : DefAt K mg "_law_names" s__law_names
  d__law_changed : DefAt K mg "_law_changed" s__law_changed
  d_law : DefAt K mg "law" s_law
  b_len : mg "len" = none
  b_max : mg "max" = none
  b_range : mg "range" = none
  b_repr : mg "repr" = none
  b_sorted : mg "sorted" = none
  b_str : mg "str" = none
  b_sum : mg "sum" = none
  b_tuple : mg "tuple" = none
theorem kb_line_of_1_ {K : PySem.W.Frag} {mg : Str → Option Value} (T : Tops K mg) : KB K T.d_line_of.fd ["things"] 1 [] [0] :=
  kb_of T.d_line_of.F fun _ _ _ _ _ _ us ws h1 h2 => match us, ws, h1, h2 with | [_], [], _, _ => rfl
theorem kb__law_draw_2_ {K : PySem.W.Frag} {mg : Str → Option Value} (T : Tops K mg) : KB K T.d__law_draw.fd ["_law_m", "_law_many"] 2 [] [0, 1] :=
  kb_of T.d__law_draw.F fun _ _ _ _ _ _ us ws h1 h2 => match us, ws, h1, h2 with | [_, _], [], _, _ => rfl
theorem kb__law_begun_1_ {K : PySem.W.Frag} {mg : Str → Option Value} (T : Tops K mg) : KB K T.d__law_begun.fd ["_law_script"] 1 [] [0] :=
  kb_of T.d__law_begun.F fun _ _ _ _ _ _ us ws h1 h2 => match us, ws, h1, h2 with | [_], [], _, _ => rfl
theorem kb__law_names_2_ {K : PySem.W.Frag} {mg : Str → Option Value} (T : Tops K mg) : KB K T.d__law_names.fd ["_law_m", "_law_many"] 2 [] [0, 1] :=
  kb_of T.d__law_names.F fun _ _ _ _ _ _ us ws h1 h2 => match us, ws, h1, h2 with | [_, _], [], _, _ => rfl
theorem kb__law_changed_2_ {K : PySem.W.Frag} {mg : Str → Option Value} (T : Tops K mg) : KB K T.d__law_changed.fd ["_law_m", "_law_name"] 2 [] [0, 1] :=
  kb_of T.d__law_changed.F fun _ _ _ _ _ _ us ws h1 h2 => match us, ws, h1, h2 with | [_, _], [], _, _ => rfl
theorem kb_statement_text_1_ {K : PySem.W.Frag} {mg : Str → Option Value} (T : Tops K mg) : KB K T.d_statement_text.fd ["statement"] 1 [] [0] :=
  kb_of T.d_statement_text.F fun _ _ _ _ _ _ us ws h1 h2 => match us, ws, h1, h2 with | [_], [], _, _ => rfl
theorem kb_statement_text_0_statement {K : PySem.W.Frag} {mg : Str → Option Value} (T : Tops K mg) : KB K T.d_statement_text.fd ["statement"] 0 ["statement"] [0] :=
  kb_of T.d_statement_text.F fun _ _ _ _ _ _ us ws h1 h2 => match us, ws, h1, h2 with | [], [_], _, _ => rfl
def w_line_of (M : MC) : WS :=
  (wsRet (wMt .str oJoin (wC (.str " ")) (wLc (wiSeq (wVar 0)) (wgName 1) wYes (wCa oStrA (waCons (wVar 1) waNil)) [1])))
theorem sc_line_of : FnScope ["things", "thing"] ["things"] (defScope s_line_of) := ⟨rfl, rfl, rfl, by decide +kernel, rfl, by decide +kernel, by decide +kernel⟩
theorem c_line_of {P : Program} {w : World} {K : PySem.W.Frag} {mg : Str → Option Value} {base : Heap} (T : Tops K mg) (M : MC) {cd : Value} {A : Around} {outer : List Env} {s : Shared} {H : Hp} {E : XK} (hG : A.guards = some []) (hr : Room 0 (A.deeper (envOfC "line_of" (defScope s_line_of) s.heap.objs.size T.d_line_of.f cd))) :
    PSs (cxG P w K mg base ["things", "thing"] "line_of" (defScope s_line_of) T.d_line_of.f cd A outer s H E) (defBody s_line_of) (tDS K M (fun cls dd _ H => E cls dd H) (w_line_of M)) :=
  have nd := sc_line_of.nd
  (pd_last (pd_ret (pd_join pd_str (pd_lc rfl nd (own := [("thing", 1)]) (blkOk_by (by rfl)) (pd_iseq (pd_var 0)) (fun _ _ _ _ _ => (pd_gname 1 nd)) (fun _ _ _ _ _ => pd_ynil) (fun _ _ _ _ _ => (pd_callTy call_strA cd_strA (by rfl) T.b_str (by decide +kernel) (pd_acons (pd_var 1) pd_anil)))))))
def sp_line_of : DSp := fun M ts Q E => w_line_of M (rho0 2 ts) (excD [] ts E) (endD [] ts Q)
theorem law_line_of : ∀ M ts Qd Ed, ts.length = 1 → sp_line_of M ts Qd Ed → w_line_of M (rho0 2 ts) (excD [] ts Ed) (endD [] ts Qd) := fun _ _ _ _ _ h => h
theorem ok_line_of {P : Program} {w : World} {K : PySem.W.Frag} {mg : Str → Option Value} {base : Heap} (T : Tops K mg) : FnG P w K mg base 1 T.d_line_of.f T.d_line_of.fd ["things"] (spD K 1 [] sp_line_of) :=
  fnD T.d_line_of.F sc_line_of (by decide) (fun M cd A outer s H E hG hr => c_line_of T M hG hr) law_line_of
def w_statement_text (M : MC) : WS :=
  (wsSeq (wsUnp [3, 4, 5, 6, 7] (wVar 0)) (wsSeq (wsSet 1 (wLc (wiSeq (wVar 6)) (wgTup 2 (wgCons (wgName 8) (wgCons (wgName 9) wgNil))) wYes (wCall M 1 0 [0] 1 [] [] sp_line_of (waCons (wOp oAdd (wVar 8) (wTup (waCons (wVar 9) waNil))) waNil) waNil) [8, 9])) (wsSeq (wsSet 2 (wLst (waCons (wCall M 1 0 [0] 1 [] [] sp_line_of (waCons (wTup (waCons (wC (.str "statement")) (waCons (wVar 3) (waCons (wVar 4) waNil)))) waNil) waNil) (waCons (wCall M 1 0 [0] 1 [] [] sp_line_of (waCons (wTup (waCons (wC (.str "opening")) (waCons (wVar 5) waNil))) waNil) waNil) waNil)))) (wsRet (wMt .str oJoin (wC (.str "\n")) (wOp oAdd (wOp oAdd (wVar 2) (wVar 1)) (wLst (waCons (wCall M 1 0 [0] 1 [] [] sp_line_of (waCons (wTup (waCons (wC (.str "closing")) (waCons (wVar 7) waNil))) waNil) waNil) waNil))))))))
theorem sc_statement_text : FnScope ["statement", "rows", "first", "account", "day", "opening", "lines", "closing", "deed", "count"] ["statement"] (defScope s_statement_text) := ⟨rfl, rfl, rfl, by decide +kernel, rfl, by decide +kernel, by decide +kernel⟩
theorem c_statement_text {P : Program} {w : World} {K : PySem.W.Frag} {mg : Str → Option Value} {base : Heap} (T : Tops K mg) (M : MC) {cd : Value} {A : Around} {outer : List Env} {s : Shared} {H : Hp} {E : XK} (hG : A.guards = some []) (hr : Room 1 (A.deeper (envOfC "statement_text" (defScope s_statement_text) s.heap.objs.size T.d_statement_text.f cd))) :
    PSs (cxG P w K mg base ["statement", "rows", "first", "account", "day", "opening", "lines", "closing", "deed", "count"] "statement_text" (defScope s_statement_text) T.d_statement_text.f cd A outer s H E) (defBody s_statement_text) (tDS K M (fun cls dd _ H => E cls dd H) (w_statement_text M)) :=
  have nd := sc_statement_text.nd
  (pd_cons (pd_unp rfl (pd_var 0) (pg_ncons 3 nd (pg_ncons 4 nd (pg_ncons 5 nd (pg_ncons 6 nd (pg_ncons 7 nd pg_nnil)))))) (pd_cons (pd_setLc 1 rfl nd (own := [("deed", 8), ("count", 9)]) (blkOk_by (by rfl)) (pd_iseq (pd_var 6)) (fun _ _ _ _ _ => (pd_gtup 2 rfl (pd_gcons (pd_gname 8 nd) (pd_gcons (pd_gname 9 nd) pd_gnil)))) (fun _ _ _ _ _ => pd_ynil) (fun _ _ _ _ _ => (pd_call (lb := []) (ok_line_of T) (by decide) hG (hr.mono (by decide)) takes0 (kb_line_of_1_ T) T.d_line_of.F.kp T.d_line_of.m (by rfl) (pd_acons (pd_add (pd_var 8) (pd_tup (pd_acons (pd_var 9) pd_anil))) pd_anil) pd_knil))) (pd_cons (pd_set 2 nd (pd_lst (pd_acons (pd_call (lb := []) (ok_line_of T) (by decide) hG (hr.mono (by decide)) tdX (kb_line_of_1_ T) T.d_line_of.F.kp T.d_line_of.m (by rfl) (pd_acons (pd_tup (pd_acons pd_str (pd_acons (pd_var 3) (pd_acons (pd_var 4) pd_anil)))) pd_anil) pd_knil) (pd_acons (pd_call (lb := []) (ok_line_of T) (by decide) hG (hr.mono (by decide)) tdX (kb_line_of_1_ T) T.d_line_of.F.kp T.d_line_of.m (by rfl) (pd_acons (pd_tup (pd_acons pd_str (pd_acons (pd_var 5) pd_anil))) pd_anil) pd_knil) pd_anil)))) (pd_last (pd_ret (pd_join pd_str (pd_add (pd_add (pd_var 2) (pd_var 1)) (pd_lst (pd_acons (pd_call (lb := []) (ok_line_of T) (by decide) hG (hr.mono (by decide)) tdX (kb_line_of_1_ T) T.d_line_of.F.kp T.d_line_of.m (by rfl) (pd_acons (pd_tup (pd_acons pd_str (pd_acons (pd_var 7) pd_anil))) pd_anil) pd_knil) pd_anil)))))))))
def sp_statement_text : DSp := fun M ts Q E => w_statement_text M (rho0 10 ts) (excD [] ts E) (endD [] ts Q)
theorem law_statement_text : ∀ M ts Qd Ed, ts.length = 1 → sp_statement_text M ts Qd Ed → w_statement_text M (rho0 10 ts) (excD [] ts Ed) (endD [] ts Qd) := fun _ _ _ _ _ h => h
theorem ok_statement_text {P : Program} {w : World} {K : PySem.W.Frag} {mg : Str → Option Value} {base : Heap} (T : Tops K mg) : FnG P w K mg base 2 T.d_statement_text.f T.d_statement_text.fd ["statement"] (spD K 1 [] sp_statement_text) :=
  fnD T.d_statement_text.F sc_statement_text (by decide) (fun M cd A outer s H E hG hr => c_statement_text T M hG hr) law_statement_text
def w__law_begun (M : MC) : WS :=
  (wsSeq (wsSet 1 (wDicO [false, true, false, false, false, false] (((wC (.str "great")), (wLc (wiSeq (wVar 0)) (wgName 2) (wB (wOp oGe (wVar 2) (wOp oPow (wC (.int 10)) (wC (.int 18))))) (wVar 2) [2])) :: (((wC (.str "small")), (wC (.int 0))) :: (((wC (.str "at")), (wC (.int 0))) :: []))))) (wsSeq (wsFor (wiSeq (wVar 0)) (wgName 2) (wsIf (wB (wOp oLt (wVar 2) (wOp oPow (wC (.int 10)) (wC (.int 18))))) (wsSetT false (wOp oAdd (wOp oAdd (wOp oMulA (wGet (wVar 1) (wC (.str "small"))) (wOp oPow (wC (.int 10)) (wC (.int 18)))) (wOp oMod (wVar 2) (wOp oPow (wC (.int 10)) (wC (.int 18))))) (wC (.int 1))) (wVar 1) (wC (.str "small"))) wsNext)) (wsRet (wVar 1))))
theorem sc__law_begun : FnScope ["_law_script", "_law_m", "_law_cell"] ["_law_script"] (defScope s__law_begun) := ⟨rfl, rfl, rfl, by decide +kernel, rfl, by decide +kernel, by decide +kernel⟩
theorem c__law_begun {P : Program} {w : World} {K : PySem.W.Frag} {mg : Str → Option Value} {base : Heap} (T : Tops K mg) (M : MC) {cd : Value} {A : Around} {outer : List Env} {s : Shared} {H : Hp} {E : XK} (hG : A.guards = some []) (hr : Room 0 (A.deeper (envOfC "_law_begun" (defScope s__law_begun) s.heap.objs.size T.d__law_begun.f cd))) :
    PSs (cxG P w K mg base ["_law_script", "_law_m", "_law_cell"] "_law_begun" (defScope s__law_begun) T.d__law_begun.f cd A outer s H E) (defBody s__law_begun) (tDS K M (fun cls dd _ H => E cls dd H) (w__law_begun M)) :=
  have nd := sc__law_begun.nd
  (pd_cons (pd_set 1 nd (pd_dicO (bs := [false, true, false, false, false, false]) (pd_dcons pd_str (pd_lc rfl nd (own := [("_law_cell", 2)]) (blkOk_by (by rfl)) (pd_iseq (pd_var 0)) (fun _ _ _ _ _ => (pd_gname 2 nd)) (fun _ _ _ _ _ => (pd_yone (pt_ge (pd_var 2) (pd_pow pd_int pd_int)))) (fun _ _ _ _ _ => (pd_var 2))) (pd_dcons pd_str pd_int (pd_dcons pd_str pd_int pd_dnil))))) (pd_cons (pd_for (passes_of rfl) rfl (pd_iseq (pd_var 0)) (pd_gname 2 nd) (pd_last (pd_ifS (pt_lt (pd_var 2) (pd_pow pd_int pd_int)) (pd_last (pd_setT (keep := false) (hr1 hr) (pd_add (pd_add (pd_mulA (pd_getP (hr1 hr) (pd_var 1) pd_str) (pd_pow pd_int pd_int)) (pd_mod (pd_var 2) (pd_pow pd_int pd_int))) pd_int) (pd_var 1) pd_str)) pd_nil))) (pd_last (pd_ret (pd_var 1)))))
def sp__law_begun : DSp := fun M ts Q E => w__law_begun M (rho0 3 ts) (excD [] ts E) (endD [] ts Q)
theorem law__law_begun : ∀ M ts Qd Ed, ts.length = 1 → sp__law_begun M ts Qd Ed → w__law_begun M (rho0 3 ts) (excD [] ts Ed) (endD [] ts Qd) := fun _ _ _ _ _ h => h
theorem ok__law_begun {P : Program} {w : World} {K : PySem.W.Frag} {mg : Str → Option Value} {base : Heap} (T : Tops K mg) : FnG P w K mg base 1 T.d__law_begun.f T.d__law_begun.fd ["_law_script"] (spD K 1 [] sp__law_begun) :=
  fnD T.d__law_begun.F sc__law_begun (by decide) (fun M cd A outer s H E hG hr => c__law_begun T M hG hr) law__law_begun
def v__law_draw_7 (M : MC) : WS :=
  (wsSeq (wsSetT false (wOp oFdiv (wVar 6) (wVar 1)) (wGet (wVar 0) (wC (.str "great"))) (wVar 5)) (wsRet (wOp oMod (wVar 6) (wVar 1))))
def v__law_draw_12 (M : MC) : WS :=
  (wsRet (wOp oMod (wOp oFdiv (wOp oMod (wOp oMulA (wOp oMulA (wVar 4) (wVar 4)) (wVar 4)) (wGet (wVar 3) (wOp oMod (wVar 2) (wC (.int 8))))) (wC (.int 7))) (wVar 1)))
def v__law_draw_6 (M : MC) : WS :=
  (wsIf (wB (wOp oGt (wVar 6) (wC (.int 0)))) (v__law_draw_7 M) wsNext)
def v__law_draw_5 (M : MC) : WS :=
  (wsSeq (wsSet 6 (wGet (wGet (wVar 0) (wC (.str "great"))) (wVar 5))) (v__law_draw_6 M))
def v__law_draw_4 (M : MC) : WS :=
  (wsSeq (wsSet 5 (wOp oMod (wVar 2) (wCaF oLen (waCons (wGet (wVar 0) (wC (.str "great"))) waNil)))) (v__law_draw_5 M))
def v__law_draw_11 (M : MC) : WS :=
  (wsSeq (wsSet 4 (wOp oMod (wOp oAdd (wOp oMulA (wVar 4) (wOp oAdd (wC (.int 48271)) (wOp oMulA (wC (.int 2)) (wVar 2)))) (wOp oMulA (wC (.int 104729)) (wVar 2))) (wGet (wVar 3) (wOp oMod (wVar 2) (wC (.int 8)))))) (v__law_draw_12 M))
def v__law_draw_10 (M : MC) : WS :=
  (wsSeq (wsSet 4 (wOp oMod (wOp oAdd (wOp oAdd (wGet (wVar 0) (wC (.str "small"))) (wOp oMulA (wC (.int 7919)) (wVar 2))) (wC (.int 17))) (wGet (wVar 3) (wOp oMod (wVar 2) (wC (.int 8)))))) (v__law_draw_11 M))
def v__law_draw_9 (M : MC) : WS :=
  (wsSeq (wsSet 3 (wLst (waCons (wC (.int 2147483647)) (waCons (wC (.int 2147483629)) (waCons (wC (.int 2147483587)) (waCons (wC (.int 2147483579)) (waCons (wC (.int 2147483563)) (waCons (wC (.int 2147483549)) (waCons (wC (.int 2147483543)) (waCons (wC (.int 2147483497)) waNil)))))))))) (v__law_draw_10 M))
def v__law_draw_3 (M : MC) : WS :=
  (wsSeq (wsIf (wB (wOpF oNe (wGet (wVar 0) (wC (.str "great"))) (wLst waNil))) (v__law_draw_4 M) wsNext) (v__law_draw_9 M))
def v__law_draw_2 (M : MC) : WS :=
  (wsSeq (wsSetT false (wOp oAdd (wVar 2) (wC (.int 1))) (wVar 0) (wC (.str "at"))) (v__law_draw_3 M))
def v__law_draw_1 (M : MC) : WS :=
  (wsSeq (wsSet 2 (wGet (wVar 0) (wC (.str "at")))) (v__law_draw_2 M))
def w__law_draw (M : MC) : WS :=
  (wsSeq (wsSet 2 (wGet (wVar 0) (wC (.str "at")))) (wsSeq (wsSetT false (wOp oAdd (wVar 2) (wC (.int 1))) (wVar 0) (wC (.str "at"))) (wsSeq (wsIf (wB (wOpF oNe (wGet (wVar 0) (wC (.str "great"))) (wLst waNil))) (wsSeq (wsSet 5 (wOp oMod (wVar 2) (wCaF oLen (waCons (wGet (wVar 0) (wC (.str "great"))) waNil)))) (wsSeq (wsSet 6 (wGet (wGet (wVar 0) (wC (.str "great"))) (wVar 5))) (wsIf (wB (wOp oGt (wVar 6) (wC (.int 0)))) (wsSeq (wsSetT false (wOp oFdiv (wVar 6) (wVar 1)) (wGet (wVar 0) (wC (.str "great"))) (wVar 5)) (wsRet (wOp oMod (wVar 6) (wVar 1)))) wsNext))) wsNext) (wsSeq (wsSet 3 (wLst (waCons (wC (.int 2147483647)) (waCons (wC (.int 2147483629)) (waCons (wC (.int 2147483587)) (waCons (wC (.int 2147483579)) (waCons (wC (.int 2147483563)) (waCons (wC (.int 2147483549)) (waCons (wC (.int 2147483543)) (waCons (wC (.int 2147483497)) waNil)))))))))) (wsSeq (wsSet 4 (wOp oMod (wOp oAdd (wOp oAdd (wGet (wVar 0) (wC (.str "small"))) (wOp oMulA (wC (.int 7919)) (wVar 2))) (wC (.int 17))) (wGet (wVar 3) (wOp oMod (wVar 2) (wC (.int 8)))))) (wsSeq (wsSet 4 (wOp oMod (wOp oAdd (wOp oMulA (wVar 4) (wOp oAdd (wC (.int 48271)) (wOp oMulA (wC (.int 2)) (wVar 2)))) (wOp oMulA (wC (.int 104729)) (wVar 2))) (wGet (wVar 3) (wOp oMod (wVar 2) (wC (.int 8)))))) (wsRet (wOp oMod (wOp oFdiv (wOp oMod (wOp oMulA (wOp oMulA (wVar 4) (wVar 4)) (wVar 4)) (wGet (wVar 3) (wOp oMod (wVar 2) (wC (.int 8))))) (wC (.int 7))) (wVar 1)))))))))
theorem sc__law_draw : FnScope ["_law_m", "_law_many", "_law_k", "_law_primes", "_law_mixed", "_law_at", "_law_cell"] ["_law_m", "_law_many"] (defScope s__law_draw) := ⟨rfl, rfl, rfl, by decide +kernel, rfl, by decide +kernel, by decide +kernel⟩
theorem c__law_draw {P : Program} {w : World} {K : PySem.W.Frag} {mg : Str → Option Value} {base : Heap} (T : Tops K mg) (M : MC) {cd : Value} {A : Around} {outer : List Env} {s : Shared} {H : Hp} {E : XK} (hG : A.guards = some []) (hr : Room 0 (A.deeper (envOfC "_law_draw" (defScope s__law_draw) s.heap.objs.size T.d__law_draw.f cd))) :
    PSs (cxG P w K mg base ["_law_m", "_law_many", "_law_k", "_law_primes", "_law_mixed", "_law_at", "_law_cell"] "_law_draw" (defScope s__law_draw) T.d__law_draw.f cd A outer s H E) (defBody s__law_draw) (tDS K M (fun cls dd _ H => E cls dd H) (w__law_draw M)) :=
  have nd := sc__law_draw.nd
  (pd_cons (pd_set 2 nd (pd_getP (hr1 hr) (pd_var 0) pd_str)) (pd_cons (pd_setT (keep := false) (hr1 hr) (pd_add (pd_var 2) pd_int) (pd_var 0) pd_str) (pd_cons (pd_ifS (pt_neF (hr64 hr) (pd_getP (hr1 hr) (pd_var 0) pd_str) (pd_lst pd_anil)) (pd_cons (pd_set 5 nd (pd_mod (pd_var 2) (pd_callBF call_lenA cd_len (by rfl) T.b_len (by decide +kernel) (pd_acons (pd_getP (hr1 hr) (pd_var 0) pd_str) pd_anil)))) (pd_cons (pd_set 6 nd (pd_getP (hr1 hr) (pd_getP (hr1 hr) (pd_var 0) pd_str) (pd_var 5))) (pd_last (pd_ifS (pt_gt (pd_var 6) pd_int) (pd_cons (pd_setT (keep := false) (hr1 hr) (pd_fdiv (pd_var 6) (pd_var 1)) (pd_getP (hr1 hr) (pd_var 0) pd_str) (pd_var 5)) (pd_last (pd_ret (pd_mod (pd_var 6) (pd_var 1))))) pd_nil)))) pd_nil) (pd_cons (pd_set 3 nd (pd_lst (pd_acons pd_int (pd_acons pd_int (pd_acons pd_int (pd_acons pd_int (pd_acons pd_int (pd_acons pd_int (pd_acons pd_int (pd_acons pd_int pd_anil)))))))))) (pd_cons (pd_set 4 nd (pd_mod (pd_add (pd_add (pd_getP (hr1 hr) (pd_var 0) pd_str) (pd_mulA pd_int (pd_var 2))) pd_int) (pd_getP (hr1 hr) (pd_var 3) (pd_mod (pd_var 2) pd_int)))) (pd_cons (pd_set 4 nd (pd_mod (pd_add (pd_mulA (pd_var 4) (pd_add pd_int (pd_mulA pd_int (pd_var 2)))) (pd_mulA pd_int (pd_var 2))) (pd_getP (hr1 hr) (pd_var 3) (pd_mod (pd_var 2) pd_int)))) (pd_last (pd_ret (pd_mod (pd_fdiv (pd_mod (pd_mulA (pd_mulA (pd_var 4) (pd_var 4)) (pd_var 4)) (pd_getP (hr1 hr) (pd_var 3) (pd_mod (pd_var 2) pd_int))) pd_int) (pd_var 1))))))))))
def sp__law_draw : DSp := fun M ts Q E => w__law_draw M (rho0 7 ts) (excD [0] ts E) (endD [0] ts Q)
theorem law__law_draw : ∀ M ts Qd Ed, ts.length = 2 → sp__law_draw M ts Qd Ed → w__law_draw M (rho0 7 ts) (excD [0] ts Ed) (endD [0] ts Qd) := fun _ _ _ _ _ h => h
theorem ok__law_draw {P : Program} {w : World} {K : PySem.W.Frag} {mg : Str → Option Value} {base : Heap} (T : Tops K mg) : FnG P w K mg base 1 T.d__law_draw.f T.d__law_draw.fd ["_law_m", "_law_many"] (spD K 2 [0] sp__law_draw) :=
  fnD T.d__law_draw.F sc__law_draw (by decide) (fun M cd A outer s H E hG hr => c__law_draw T M hG hr) law__law_draw
def v__law_names_6 (M : MC) : WS :=
  (wsRet (wCa oSorted (waCons (wLc (wiR1 (waCons (wVar 1) waNil)) (wgName 8) wYes (wGet (wVar 2) (wOp oMod (wOp oAdd (wVar 6) (wOp oMulA (wC (.int 5)) (wVar 8))) (wC (.int 23)))) [8]) waNil)))
def v__law_names_8 (M : MC) : WS :=
  (wsRet (wCa oSorted (waCons (wLc (wiR1 (waCons (wVar 1) waNil)) (wgName 8) wYes (wSl (wVar 3) woNone (woSome (wOp oAdd (wC (.int 1)) (wOp oMod (wOp oAdd (wVar 6) (wOp oMulA (wC (.int 3)) (wVar 8))) (wC (.int 8)))))) [8]) waNil)))
def v__law_names_10 (M : MC) : WS :=
  (wsRet (wCa oSorted (waCons (wLc (wiSeq (wVar 4)) (wgName 9) wYes (wOp oAdd (wSl (wVar 3) woNone (woSome (wOp oMulA (wCall M 2 0 [0, 1] 2 [true, false] [0] sp__law_draw (waCons (wVar 0) (waCons (wC (.int 8)) waNil)) waNil) (wOp oSub (wVar 5) (wC (.int 2)))))) (wVar 9)) [9]) waNil)))
def v__law_names_9 (M : MC) : WS :=
  (wsSeq (wsSet 4 (wLc (wiR1 (waCons (wVar 1) waNil)) (wgName 8) wYes (wGet (wVar 7) (wOp oMod (wOp oAdd (wVar 6) (wOp oMulA (wC (.int 5)) (wVar 8))) (wC (.int 26)))) [8])) (v__law_names_10 M))
def v__law_names_7 (M : MC) : WS :=
  (wsSeq (wsIf (wB (wOpF oEq (wVar 5) (wC (.int 1)))) (v__law_names_8 M) wsNext) (v__law_names_9 M))
def v__law_names_5 (M : MC) : WS :=
  (wsSeq (wsIf (wB (wOpF oEq (wVar 5) (wC (.int 0)))) (v__law_names_6 M) wsNext) (v__law_names_7 M))
def v__law_names_4 (M : MC) : WS :=
  (wsSeq (wsSet 3 (wMt .str oJoin (wC (.str "")) (wLc (wiR1 (waCons (wC (.int 8)) waNil)) (wgName 8) wYes (wGet (wVar 7) (wCall M 2 0 [0, 1] 2 [true, false] [0] sp__law_draw (waCons (wVar 0) (waCons (wC (.int 26)) waNil)) waNil)) [8]))) (v__law_names_5 M))
def v__law_names_3 (M : MC) : WS :=
  (wsSeq (wsSet 2 (wOp oAdd (wVar 2) (wLst (waCons (wC (.str "lost")) (waCons (wC (.str "rate")) (waCons (wC (.str "interest")) (waCons (wC (.str "fee")) (waCons (wC (.str "keep")) (waCons (wC (.str "strike")) (waCons (wC (.str "free")) (waCons (wC (.str "held")) waNil))))))))))) (v__law_names_4 M))
def v__law_names_2 (M : MC) : WS :=
  (wsSeq (wsSet 2 (wMt .str oSplit (wC (.str "money account letter step in out fund move change hold settle release refund dispute won")) (wC (.str " ")))) (v__law_names_3 M))
def v__law_names_1 (M : MC) : WS :=
  (wsSeq (wsUnp [5, 6, 7] (wTupO [true, true, true] (waCons (wCall M 2 0 [0, 1] 2 [true, false] [0] sp__law_draw (waCons (wVar 0) (waCons (wC (.int 4)) waNil)) waNil) (waCons (wCall M 2 0 [0, 1] 2 [true, false] [0] sp__law_draw (waCons (wVar 0) (waCons (wC (.int 26)) waNil)) waNil) (waCons (wC (.str "abcdefghijklmnopqrstuvwxyz")) waNil))))) (v__law_names_2 M))
def w__law_names (M : MC) : WS :=
  (wsSeq (wsUnp [5, 6, 7] (wTupO [true, true, true] (waCons (wCall M 2 0 [0, 1] 2 [true, false] [0] sp__law_draw (waCons (wVar 0) (waCons (wC (.int 4)) waNil)) waNil) (waCons (wCall M 2 0 [0, 1] 2 [true, false] [0] sp__law_draw (waCons (wVar 0) (waCons (wC (.int 26)) waNil)) waNil) (waCons (wC (.str "abcdefghijklmnopqrstuvwxyz")) waNil))))) (wsSeq (wsSet 2 (wMt .str oSplit (wC (.str "money account letter step in out fund move change hold settle release refund dispute won")) (wC (.str " ")))) (wsSeq (wsSet 2 (wOp oAdd (wVar 2) (wLst (waCons (wC (.str "lost")) (waCons (wC (.str "rate")) (waCons (wC (.str "interest")) (waCons (wC (.str "fee")) (waCons (wC (.str "keep")) (waCons (wC (.str "strike")) (waCons (wC (.str "free")) (waCons (wC (.str "held")) waNil))))))))))) (wsSeq (wsSet 3 (wMt .str oJoin (wC (.str "")) (wLc (wiR1 (waCons (wC (.int 8)) waNil)) (wgName 8) wYes (wGet (wVar 7) (wCall M 2 0 [0, 1] 2 [true, false] [0] sp__law_draw (waCons (wVar 0) (waCons (wC (.int 26)) waNil)) waNil)) [8]))) (wsSeq (wsIf (wB (wOpF oEq (wVar 5) (wC (.int 0)))) (wsRet (wCa oSorted (waCons (wLc (wiR1 (waCons (wVar 1) waNil)) (wgName 8) wYes (wGet (wVar 2) (wOp oMod (wOp oAdd (wVar 6) (wOp oMulA (wC (.int 5)) (wVar 8))) (wC (.int 23)))) [8]) waNil))) wsNext) (wsSeq (wsIf (wB (wOpF oEq (wVar 5) (wC (.int 1)))) (wsRet (wCa oSorted (waCons (wLc (wiR1 (waCons (wVar 1) waNil)) (wgName 8) wYes (wSl (wVar 3) woNone (woSome (wOp oAdd (wC (.int 1)) (wOp oMod (wOp oAdd (wVar 6) (wOp oMulA (wC (.int 3)) (wVar 8))) (wC (.int 8)))))) [8]) waNil))) wsNext) (wsSeq (wsSet 4 (wLc (wiR1 (waCons (wVar 1) waNil)) (wgName 8) wYes (wGet (wVar 7) (wOp oMod (wOp oAdd (wVar 6) (wOp oMulA (wC (.int 5)) (wVar 8))) (wC (.int 26)))) [8])) (wsRet (wCa oSorted (waCons (wLc (wiSeq (wVar 4)) (wgName 9) wYes (wOp oAdd (wSl (wVar 3) woNone (woSome (wOp oMulA (wCall M 2 0 [0, 1] 2 [true, false] [0] sp__law_draw (waCons (wVar 0) (waCons (wC (.int 8)) waNil)) waNil) (wOp oSub (wVar 5) (wC (.int 2)))))) (wVar 9)) [9]) waNil))))))))))
theorem sc__law_names : FnScope ["_law_m", "_law_many", "_law_own", "_law_base", "_law_ends", "_law_way", "_law_first", "_law_small", "_law_k", "_law_end"] ["_law_m", "_law_many"] (defScope s__law_names) := ⟨rfl, rfl, rfl, by decide +kernel, rfl, by decide +kernel, by decide +kernel⟩
theorem c__law_names {P : Program} {w : World} {K : PySem.W.Frag} {mg : Str → Option Value} {base : Heap} (T : Tops K mg) (M : MC) {cd : Value} {A : Around} {outer : List Env} {s : Shared} {H : Hp} {E : XK} (hG : A.guards = some []) (hr : Room 1 (A.deeper (envOfC "_law_names" (defScope s__law_names) s.heap.objs.size T.d__law_names.f cd))) :
    PSs (cxG P w K mg base ["_law_m", "_law_many", "_law_own", "_law_base", "_law_ends", "_law_way", "_law_first", "_law_small", "_law_k", "_law_end"] "_law_names" (defScope s__law_names) T.d__law_names.f cd A outer s H E) (defBody s__law_names) (tDS K M (fun cls dd _ H => E cls dd H) (w__law_names M)) :=
  have nd := sc__law_names.nd
  (pd_cons (pd_unp rfl (pd_tupO (bs := [true, true, true]) (pd_acons (pd_call (lb := [true, false]) (ok__law_draw T) (by decide) hG (hr.mono (by decide)) tdX (kb__law_draw_2_ T) T.d__law_draw.F.kp T.d__law_draw.m (by rfl) (pd_acons (pd_var 0) (pd_acons pd_int pd_anil)) pd_knil) (pd_acons (pd_call (lb := [true, false]) (ok__law_draw T) (by decide) hG (hr.mono (by decide)) tdX (kb__law_draw_2_ T) T.d__law_draw.F.kp T.d__law_draw.m (by rfl) (pd_acons (pd_var 0) (pd_acons pd_int pd_anil)) pd_knil) (pd_acons pd_str pd_anil)))) (pg_ncons 5 nd (pg_ncons 6 nd (pg_ncons 7 nd pg_nnil)))) (pd_cons (pd_set 2 nd (pd_split pd_str pd_str)) (pd_cons (pd_set 2 nd (pd_add (pd_var 2) (pd_lst (pd_acons pd_str (pd_acons pd_str (pd_acons pd_str (pd_acons pd_str (pd_acons pd_str (pd_acons pd_str (pd_acons pd_str (pd_acons pd_str pd_anil))))))))))) (pd_cons (pd_set 3 nd (pd_join pd_str (pd_lc rfl nd (own := [("_law_k", 8)]) (blkOk_by (by rfl)) (pd_r1 (by rfl) T.b_range (pd_acons pd_int pd_anil)) (fun _ _ _ _ _ => (pd_gname 8 nd)) (fun _ _ _ _ _ => pd_ynil) (fun _ _ _ _ _ => (pd_getP (hr1 hr) (pd_var 7) (pd_call (lb := [true, false]) (ok__law_draw T) (by decide) hG (hr.mono (by decide)) takes0 (kb__law_draw_2_ T) T.d__law_draw.F.kp T.d__law_draw.m (by rfl) (pd_acons (pd_var 0) (pd_acons pd_int pd_anil)) pd_knil)))))) (pd_cons (pd_ifS (pt_eqF (hr64 hr) (pd_var 5) pd_int) (pd_last (pd_ret (pd_callB cr_sortedA cd_sorted (by rfl) T.b_sorted (by decide +kernel) (pd_acons (pd_lc rfl nd (own := [("_law_k", 8)]) (blkOk_by (by rfl)) (pd_r1 (by rfl) T.b_range (pd_acons (pd_var 1) pd_anil)) (fun _ _ _ _ _ => (pd_gname 8 nd)) (fun _ _ _ _ _ => pd_ynil) (fun _ _ _ _ _ => (pd_getP (hr1 hr) (pd_var 2) (pd_mod (pd_add (pd_var 6) (pd_mulA pd_int (pd_var 8))) pd_int)))) pd_anil)))) pd_nil) (pd_cons (pd_ifS (pt_eqF (hr64 hr) (pd_var 5) pd_int) (pd_last (pd_ret (pd_callB cr_sortedA cd_sorted (by rfl) T.b_sorted (by decide +kernel) (pd_acons (pd_lc rfl nd (own := [("_law_k", 8)]) (blkOk_by (by rfl)) (pd_r1 (by rfl) T.b_range (pd_acons (pd_var 1) pd_anil)) (fun _ _ _ _ _ => (pd_gname 8 nd)) (fun _ _ _ _ _ => pd_ynil) (fun _ _ _ _ _ => (pd_slice (pd_var 3) pd_onone (pd_osome (pd_add pd_int (pd_mod (pd_add (pd_var 6) (pd_mulA pd_int (pd_var 8))) pd_int)))))) pd_anil)))) pd_nil) (pd_cons (pd_setLc 4 rfl nd (own := [("_law_k", 8)]) (blkOk_by (by rfl)) (pd_r1 (by rfl) T.b_range (pd_acons (pd_var 1) pd_anil)) (fun _ _ _ _ _ => (pd_gname 8 nd)) (fun _ _ _ _ _ => pd_ynil) (fun _ _ _ _ _ => (pd_getP (hr1 hr) (pd_var 7) (pd_mod (pd_add (pd_var 6) (pd_mulA pd_int (pd_var 8))) pd_int)))) (pd_last (pd_ret (pd_callB cr_sortedA cd_sorted (by rfl) T.b_sorted (by decide +kernel) (pd_acons (pd_lc rfl nd (own := [("_law_end", 9)]) (blkOk_by (by rfl)) (pd_iseq (pd_var 4)) (fun _ _ _ _ _ => (pd_gname 9 nd)) (fun _ _ _ _ _ => pd_ynil) (fun _ _ _ _ _ => (pd_add (pd_slice (pd_var 3) pd_onone (pd_osome (pd_mulA (pd_call (lb := [true, false]) (ok__law_draw T) (by decide) hG (hr.mono (by decide)) takes0 (kb__law_draw_2_ T) T.d__law_draw.F.kp T.d__law_draw.m (by rfl) (pd_acons (pd_var 0) (pd_acons pd_int pd_anil)) pd_knil) (pd_sub (pd_var 5) pd_int)))) (pd_var 9)))) pd_anil)))))))))))
def sp__law_names : DSp := fun M ts Q E => w__law_names M (rho0 10 ts) (excD [0] ts E) (endD [0] ts Q)
theorem law__law_names : ∀ M ts Qd Ed, ts.length = 2 → sp__law_names M ts Qd Ed → w__law_names M (rho0 10 ts) (excD [0] ts Ed) (endD [0] ts Qd) := fun _ _ _ _ _ h => h
theorem ok__law_names {P : Program} {w : World} {K : PySem.W.Frag} {mg : Str → Option Value} {base : Heap} (T : Tops K mg) : FnG P w K mg base 2 T.d__law_names.f T.d__law_names.fd ["_law_m", "_law_many"] (spD K 2 [0] sp__law_names) :=
  fnD T.d__law_names.F sc__law_names (by decide) (fun M cd A outer s H E hG hr => c__law_names T M hG hr) law__law_names
def v__law_changed_8 (M : MC) : WS :=
  (wsRet (wCa oTuple (waCons (wLc (wiSeq (wVar 2)) (wgName 6) wYes (wTup (waCons (wVar 6) (waCons (wGet (wVar 2) (wVar 6)) waNil))) [6]) waNil)))
def v__law_changed_7 (M : MC) : WS :=
  (wsSetT false (wGet (wLst (waCons (wVar 9) (waCons (wOp oSub (wC (.int 0)) (wVar 9)) (waCons (wVar 10) (waCons (wOp oSub (wC (.int 0)) (wVar 10)) waNil))))) (wCall M 2 0 [0, 1] 2 [true, false] [0] sp__law_draw (waCons (wVar 0) (waCons (wC (.int 4)) waNil)) waNil)) (wVar 2) (wVar 6))
def v__law_changed_6 (M : MC) : WS :=
  (wsSeq (wsSet 6 (wGet (wLst (waCons (wGet (wVar 5) (wC (.int 0))) (waCons (wGet (wVar 5) (wC (.int 0))) (waCons (wGet (wVar 5) (wC (.int 1))) (waCons (wGet (wVar 5) (wC (.int 2))) (waCons (wGet (wVar 5) (wC (.int 3))) waNil)))))) (wVar 7))) (v__law_changed_7 M))
def v__law_changed_5 (M : MC) : WS :=
  (wsSeq (wsSet 5 (wLst (waCons (wTup (waCons (wC (.str "letter")) (waCons (wOp oAdd (wC (.int 1)) (wVar 8)) waNil))) (waCons (wTup (waCons (wC (.str "paid")) (waCons (wVar 4) (waCons (wVar 1) waNil)))) (waCons (wTup (waCons (wC (.str "order")) (waCons (wOp oAdd (wC (.int 1)) (wVar 8)) (waCons (wOp oSub (wVar 4) (wOp oMod (wVar 9) (wC (.int 29)))) waNil)))) (waCons (wTup (waCons (wC (.str "repaid")) (waCons (wVar 4) (waCons (wOp oAdd (wC (.int 1)) (wVar 8)) waNil)))) waNil)))))) (v__law_changed_6 M))
def v__law_changed_4 (M : MC) : WS :=
  (wsSeq (wsSet 4 (wOp oAdd (wC (.int 30)) (wOp oMulA (wC (.int 30)) (wOp oMod (wVar 8) (wC (.int 4)))))) (v__law_changed_5 M))
def v__law_changed_3 (M : MC) : WS :=
  (wsSeq (wsUnp [7, 8, 9, 10] (wTupO [true, true, true, true] (waCons (wCall M 2 0 [0, 1] 2 [true, false] [0] sp__law_draw (waCons (wVar 0) (waCons (wC (.int 5)) waNil)) waNil) (waCons (wCall M 2 0 [0, 1] 2 [true, false] [0] sp__law_draw (waCons (wVar 0) (waCons (wC (.int 80)) waNil)) waNil) (waCons (wOp oAdd (wC (.int 1)) (wCall M 2 0 [0, 1] 2 [true, false] [0] sp__law_draw (waCons (wVar 0) (waCons (wC (.int 40)) waNil)) waNil)) (waCons (wOp oAdd (wC (.int 1)) (wCall M 2 0 [0, 1] 2 [true, false] [0] sp__law_draw (waCons (wVar 0) (waCons (wOp oPow (wC (.int 10)) (wC (.int 11))) waNil)) waNil)) waNil)))))) (v__law_changed_4 M))
def v__law_changed_2 (M : MC) : WS :=
  (wsSeq (wsFor (wiR1 (waCons (wCall M 2 0 [0, 1] 2 [true, false] [0] sp__law_draw (waCons (wVar 0) (waCons (wC (.int 7)) waNil)) waNil) waNil)) (wgName 3) (v__law_changed_3 M)) (v__law_changed_8 M))
def v__law_changed_1 (M : MC) : WS :=
  (wsSeq (wsSet 2 (wDic0 true)) (v__law_changed_2 M))
def w__law_changed (M : MC) : WS :=
  (wsSeq (wsSet 2 (wDic0 true)) (wsSeq (wsFor (wiR1 (waCons (wCall M 2 0 [0, 1] 2 [true, false] [0] sp__law_draw (waCons (wVar 0) (waCons (wC (.int 7)) waNil)) waNil) waNil)) (wgName 3) (wsSeq (wsUnp [7, 8, 9, 10] (wTupO [true, true, true, true] (waCons (wCall M 2 0 [0, 1] 2 [true, false] [0] sp__law_draw (waCons (wVar 0) (waCons (wC (.int 5)) waNil)) waNil) (waCons (wCall M 2 0 [0, 1] 2 [true, false] [0] sp__law_draw (waCons (wVar 0) (waCons (wC (.int 80)) waNil)) waNil) (waCons (wOp oAdd (wC (.int 1)) (wCall M 2 0 [0, 1] 2 [true, false] [0] sp__law_draw (waCons (wVar 0) (waCons (wC (.int 40)) waNil)) waNil)) (waCons (wOp oAdd (wC (.int 1)) (wCall M 2 0 [0, 1] 2 [true, false] [0] sp__law_draw (waCons (wVar 0) (waCons (wOp oPow (wC (.int 10)) (wC (.int 11))) waNil)) waNil)) waNil)))))) (wsSeq (wsSet 4 (wOp oAdd (wC (.int 30)) (wOp oMulA (wC (.int 30)) (wOp oMod (wVar 8) (wC (.int 4)))))) (wsSeq (wsSet 5 (wLst (waCons (wTup (waCons (wC (.str "letter")) (waCons (wOp oAdd (wC (.int 1)) (wVar 8)) waNil))) (waCons (wTup (waCons (wC (.str "paid")) (waCons (wVar 4) (waCons (wVar 1) waNil)))) (waCons (wTup (waCons (wC (.str "order")) (waCons (wOp oAdd (wC (.int 1)) (wVar 8)) (waCons (wOp oSub (wVar 4) (wOp oMod (wVar 9) (wC (.int 29)))) waNil)))) (waCons (wTup (waCons (wC (.str "repaid")) (waCons (wVar 4) (waCons (wOp oAdd (wC (.int 1)) (wVar 8)) waNil)))) waNil)))))) (wsSeq (wsSet 6 (wGet (wLst (waCons (wGet (wVar 5) (wC (.int 0))) (waCons (wGet (wVar 5) (wC (.int 0))) (waCons (wGet (wVar 5) (wC (.int 1))) (waCons (wGet (wVar 5) (wC (.int 2))) (waCons (wGet (wVar 5) (wC (.int 3))) waNil)))))) (wVar 7))) (wsSetT false (wGet (wLst (waCons (wVar 9) (waCons (wOp oSub (wC (.int 0)) (wVar 9)) (waCons (wVar 10) (waCons (wOp oSub (wC (.int 0)) (wVar 10)) waNil))))) (wCall M 2 0 [0, 1] 2 [true, false] [0] sp__law_draw (waCons (wVar 0) (waCons (wC (.int 4)) waNil)) waNil)) (wVar 2) (wVar 6))))))) (wsRet (wCa oTuple (waCons (wLc (wiSeq (wVar 2)) (wgName 6) wYes (wTup (waCons (wVar 6) (waCons (wGet (wVar 2) (wVar 6)) waNil))) [6]) waNil)))))
theorem sc__law_changed : FnScope ["_law_m", "_law_name", "_law_found", "_law_k", "_law_due", "_law_some", "_law_deed", "_law_way", "_law_at", "_law_near", "_law_far"] ["_law_m", "_law_name"] (defScope s__law_changed) := ⟨rfl, rfl, rfl, by decide +kernel, rfl, by decide +kernel, by decide +kernel⟩
theorem c__law_changed {P : Program} {w : World} {K : PySem.W.Frag} {mg : Str → Option Value} {base : Heap} (T : Tops K mg) (M : MC) {cd : Value} {A : Around} {outer : List Env} {s : Shared} {H : Hp} {E : XK} (hG : A.guards = some []) (hr : Room 1 (A.deeper (envOfC "_law_changed" (defScope s__law_changed) s.heap.objs.size T.d__law_changed.f cd))) :
    PSs (cxG P w K mg base ["_law_m", "_law_name", "_law_found", "_law_k", "_law_due", "_law_some", "_law_deed", "_law_way", "_law_at", "_law_near", "_law_far"] "_law_changed" (defScope s__law_changed) T.d__law_changed.f cd A outer s H E) (defBody s__law_changed) (tDS K M (fun cls dd _ H => E cls dd H) (w__law_changed M)) :=
  have nd := sc__law_changed.nd
  (pd_cons (pd_set 2 nd pd_dic0T) (pd_cons (pd_for (passes_of rfl) rfl (pd_r1 (by rfl) T.b_range (pd_acons (pd_call (lb := [true, false]) (ok__law_draw T) (by decide) hG (hr.mono (by decide)) tdX (kb__law_draw_2_ T) T.d__law_draw.F.kp T.d__law_draw.m (by rfl) (pd_acons (pd_var 0) (pd_acons pd_int pd_anil)) pd_knil) pd_anil)) (pd_gname 3 nd) (pd_cons (pd_unp rfl (pd_tupO (bs := [true, true, true, true]) (pd_acons (pd_call (lb := [true, false]) (ok__law_draw T) (by decide) hG (hr.mono (by decide)) tdX (kb__law_draw_2_ T) T.d__law_draw.F.kp T.d__law_draw.m (by rfl) (pd_acons (pd_var 0) (pd_acons pd_int pd_anil)) pd_knil) (pd_acons (pd_call (lb := [true, false]) (ok__law_draw T) (by decide) hG (hr.mono (by decide)) tdX (kb__law_draw_2_ T) T.d__law_draw.F.kp T.d__law_draw.m (by rfl) (pd_acons (pd_var 0) (pd_acons pd_int pd_anil)) pd_knil) (pd_acons (pd_add pd_int (pd_call (lb := [true, false]) (ok__law_draw T) (by decide) hG (hr.mono (by decide)) tdX (kb__law_draw_2_ T) T.d__law_draw.F.kp T.d__law_draw.m (by rfl) (pd_acons (pd_var 0) (pd_acons pd_int pd_anil)) pd_knil)) (pd_acons (pd_add pd_int (pd_call (lb := [true, false]) (ok__law_draw T) (by decide) hG (hr.mono (by decide)) tdX (kb__law_draw_2_ T) T.d__law_draw.F.kp T.d__law_draw.m (by rfl) (pd_acons (pd_var 0) (pd_acons (pd_pow pd_int pd_int) pd_anil)) pd_knil)) pd_anil))))) (pg_ncons 7 nd (pg_ncons 8 nd (pg_ncons 9 nd (pg_ncons 10 nd pg_nnil))))) (pd_cons (pd_set 4 nd (pd_add pd_int (pd_mulA pd_int (pd_mod (pd_var 8) pd_int)))) (pd_cons (pd_set 5 nd (pd_lst (pd_acons (pd_tup (pd_acons pd_str (pd_acons (pd_add pd_int (pd_var 8)) pd_anil))) (pd_acons (pd_tup (pd_acons pd_str (pd_acons (pd_var 4) (pd_acons (pd_var 1) pd_anil)))) (pd_acons (pd_tup (pd_acons pd_str (pd_acons (pd_add pd_int (pd_var 8)) (pd_acons (pd_sub (pd_var 4) (pd_mod (pd_var 9) pd_int)) pd_anil)))) (pd_acons (pd_tup (pd_acons pd_str (pd_acons (pd_var 4) (pd_acons (pd_add pd_int (pd_var 8)) pd_anil)))) pd_anil)))))) (pd_cons (pd_set 6 nd (pd_getP (hr1 hr) (pd_lst (pd_acons (pd_getP (hr1 hr) (pd_var 5) pd_int) (pd_acons (pd_getP (hr1 hr) (pd_var 5) pd_int) (pd_acons (pd_getP (hr1 hr) (pd_var 5) pd_int) (pd_acons (pd_getP (hr1 hr) (pd_var 5) pd_int) (pd_acons (pd_getP (hr1 hr) (pd_var 5) pd_int) pd_anil)))))) (pd_var 7))) (pd_last (pd_setT (keep := false) (hr1 hr) (pd_getP (hr1 hr) (pd_lst (pd_acons (pd_var 9) (pd_acons (pd_sub pd_int (pd_var 9)) (pd_acons (pd_var 10) (pd_acons (pd_sub pd_int (pd_var 10)) pd_anil))))) (pd_call (lb := [true, false]) (ok__law_draw T) (by decide) hG (hr.mono (by decide)) tdX (kb__law_draw_2_ T) T.d__law_draw.F.kp T.d__law_draw.m (by rfl) (pd_acons (pd_var 0) (pd_acons pd_int pd_anil)) pd_knil)) (pd_var 2) (pd_var 6)))))))) (pd_last (pd_ret (pd_callTy call_tuple_of cd_tuple (by rfl) T.b_tuple (by decide +kernel) (pd_acons (pd_lc rfl nd (own := [("_law_deed", 6)]) (blkOk_by (by rfl)) (pd_iseq (pd_var 2)) (fun _ _ _ _ _ => (pd_gname 6 nd)) (fun _ _ _ _ _ => pd_ynil) (fun _ _ _ _ _ => (pd_tup (pd_acons (pd_var 6) (pd_acons (pd_getP (hr1 hr) (pd_var 2) (pd_var 6)) pd_anil))))) pd_anil))))))
def sp__law_changed : DSp := fun M ts Q E => w__law_changed M (rho0 11 ts) (excD [0] ts E) (endD [0] ts Q)
theorem law__law_changed : ∀ M ts Qd Ed, ts.length = 2 → sp__law_changed M ts Qd Ed → w__law_changed M (rho0 11 ts) (excD [0] ts Ed) (endD [0] ts Qd) := fun _ _ _ _ _ h => h
theorem ok__law_changed {P : Program} {w : World} {K : PySem.W.Frag} {mg : Str → Option Value} {base : Heap} (T : Tops K mg) : FnG P w K mg base 2 T.d__law_changed.f T.d__law_changed.fd ["_law_m", "_law_name"] (spD K 2 [0] sp__law_changed) :=
  fnD T.d__law_changed.F sc__law_changed (by decide) (fun M cd A outer s H E hG hr => c__law_changed T M hG hr) law__law_changed
def v_law_11 (M : MC) : WS :=
  (wsAppT false (wVar 8) (wMt .str oJoin (wC (.str " ")) (wOp oAdd (wLc (wiSeq (wVar 13)) (wgName 16) wYes (wCa oStrA (waCons (wVar 16) waNil)) [16]) (wLst (waCons (wCa oStrA (waCons (wVar 14) waNil)) waNil)))))
def v_law_14 (M : MC) : WS :=
  (wsIf (wOr (wB (wOpF oNe (wCaF (oReprA 64) (waCons (wVar 9) waNil)) (wCaF (oReprA 64) (waCons (wOp oMulA (wLst (waCons (wMt .str oJoin (wC (.str "\n")) (wVar 8)) waNil)) (wC (.int 2))) waNil)))) (wB (wOpF oNe (wCaF (oReprA 64) (waCons (wVar 6) waNil)) (wVar 7)))) (wsRet (wC (.bl false))) wsNext)
def v_law_13 (M : MC) : WS :=
  (wsSeq (wsSet 9 (wLst (waCons (wCall M 1 0 [0] 1 [] [] sp_statement_text (waCons (wVar 6) waNil) waNil) (waCons (wCall M 0 1 [0] 1 [] [] sp_statement_text waNil (waCons (wVar 6) waNil)) waNil)))) (v_law_14 M))
def v_law_12 (M : MC) : WS :=
  (wsSeq (wsAppT false (wVar 8) (wOp oAdd (wC (.str "closing ")) (wCa oStrA (waCons (wGet (wVar 6) (wC (.int 4))) waNil)))) (v_law_13 M))
def v_law_10 (M : MC) : WS :=
  (wsSeq (wsFor (wiSeq (wVar 4)) (wgTup 2 (wgCons (wgName 13) (wgCons (wgName 14) wgNil))) (v_law_11 M)) (v_law_12 M))
def v_law_9 (M : MC) : WS :=
  (wsSeq (wsSet 8 (wLst (waCons (wOp oAdd (wOp oAdd (wOp oAdd (wC (.str "statement ")) (wVar 11)) (wC (.str " "))) (wCa oStrA (waCons (wVar 10) waNil))) (waCons (wOp oAdd (wC (.str "opening ")) (wCa oStrA (waCons (wGet (wVar 6) (wC (.int 2))) waNil))) waNil)))) (v_law_10 M))
def v_law_8 (M : MC) : WS :=
  (wsSeq (wsSet 7 (wCaF (oReprA 64) (waCons (wVar 6) waNil))) (v_law_9 M))
def v_law_7 (M : MC) : WS :=
  (wsSeq (wsSet 6 (wTup (waCons (wVar 11) (waCons (wVar 10) (waCons (wOp oAdd (wVar 12) (wCa oMax (waCons (wC (.int 0)) (waCons (wOp oSub (wC (.int 0)) (wVar 5)) waNil)))) (waCons (wVar 4) (waCons (wOp oAdd (wVar 12) (wCa oMax (waCons (wC (.int 0)) (waCons (wVar 5) waNil)))) waNil))))))) (v_law_8 M))
def v_law_6 (M : MC) : WS :=
  (wsSeq (wsSet 5 (wCa oSum (waCons (wLc (wiSeq (wVar 4)) (wgName 15) wYes (wGet (wVar 15) (wC (.int 1))) [15]) waNil))) (v_law_7 M))
def v_law_5 (M : MC) : WS :=
  (wsSeq (wsSet 4 (wCall M 2 0 [0, 1] 2 [true, false] [0] sp__law_changed (waCons (wVar 1) (waCons (wVar 11) waNil)) waNil)) (v_law_6 M))
def v_law_4 (M : MC) : WS :=
  (wsSeq (wsPar3 10 11 12 (waCons (wOp oAdd (wC (.int 1)) (wCall M 2 0 [0, 1] 2 [true, false] [0] sp__law_draw (waCons (wVar 1) (waCons (wC (.int 120)) waNil)) waNil)) (waCons (wGet (wVar 2) (wCall M 2 0 [0, 1] 2 [true, false] [0] sp__law_draw (waCons (wVar 1) (waCons (wC (.int 4)) waNil)) waNil)) (waCons (wGet (wLst (waCons (wC (.int 0)) (waCons (wC (.int 5)) (waCons (wOp oPow (wC (.int 10)) (wC (.int 12))) waNil)))) (wCall M 2 0 [0, 1] 2 [true, false] [0] sp__law_draw (waCons (wVar 1) (waCons (wC (.int 3)) waNil)) waNil)) waNil)))) (v_law_5 M))
def v_law_3 (M : MC) : WS :=
  (wsSeq (wsFor (wiR1 (waCons (wC (.int 5)) waNil)) (wgName 3) (v_law_4 M)) (wsRet (wC (.bl true))))
def v_law_2 (M : MC) : WS :=
  (wsSeq (wsSet 2 (wCall M 2 0 [0, 1] 2 [true, false] [0] sp__law_names (waCons (wVar 1) (waCons (wC (.int 4)) waNil)) waNil)) (v_law_3 M))
def v_law_1 (M : MC) : WS :=
  (wsSeq (wsSet 1 (wCall M 1 0 [0] 1 [] [] sp__law_begun (waCons (wVar 0) waNil) waNil)) (v_law_2 M))
def w_law (M : MC) : WS :=
  (wsSeq (wsSet 1 (wCall M 1 0 [0] 1 [] [] sp__law_begun (waCons (wVar 0) waNil) waNil)) (wsSeq (wsSet 2 (wCall M 2 0 [0, 1] 2 [true, false] [0] sp__law_names (waCons (wVar 1) (waCons (wC (.int 4)) waNil)) waNil)) (wsSeq (wsFor (wiR1 (waCons (wC (.int 5)) waNil)) (wgName 3) (wsSeq (wsPar3 10 11 12 (waCons (wOp oAdd (wC (.int 1)) (wCall M 2 0 [0, 1] 2 [true, false] [0] sp__law_draw (waCons (wVar 1) (waCons (wC (.int 120)) waNil)) waNil)) (waCons (wGet (wVar 2) (wCall M 2 0 [0, 1] 2 [true, false] [0] sp__law_draw (waCons (wVar 1) (waCons (wC (.int 4)) waNil)) waNil)) (waCons (wGet (wLst (waCons (wC (.int 0)) (waCons (wC (.int 5)) (waCons (wOp oPow (wC (.int 10)) (wC (.int 12))) waNil)))) (wCall M 2 0 [0, 1] 2 [true, false] [0] sp__law_draw (waCons (wVar 1) (waCons (wC (.int 3)) waNil)) waNil)) waNil)))) (wsSeq (wsSet 4 (wCall M 2 0 [0, 1] 2 [true, false] [0] sp__law_changed (waCons (wVar 1) (waCons (wVar 11) waNil)) waNil)) (wsSeq (wsSet 5 (wCa oSum (waCons (wLc (wiSeq (wVar 4)) (wgName 15) wYes (wGet (wVar 15) (wC (.int 1))) [15]) waNil))) (wsSeq (wsSet 6 (wTup (waCons (wVar 11) (waCons (wVar 10) (waCons (wOp oAdd (wVar 12) (wCa oMax (waCons (wC (.int 0)) (waCons (wOp oSub (wC (.int 0)) (wVar 5)) waNil)))) (waCons (wVar 4) (waCons (wOp oAdd (wVar 12) (wCa oMax (waCons (wC (.int 0)) (waCons (wVar 5) waNil)))) waNil))))))) (wsSeq (wsSet 7 (wCaF (oReprA 64) (waCons (wVar 6) waNil))) (wsSeq (wsSet 8 (wLst (waCons (wOp oAdd (wOp oAdd (wOp oAdd (wC (.str "statement ")) (wVar 11)) (wC (.str " "))) (wCa oStrA (waCons (wVar 10) waNil))) (waCons (wOp oAdd (wC (.str "opening ")) (wCa oStrA (waCons (wGet (wVar 6) (wC (.int 2))) waNil))) waNil)))) (wsSeq (wsFor (wiSeq (wVar 4)) (wgTup 2 (wgCons (wgName 13) (wgCons (wgName 14) wgNil))) (wsAppT false (wVar 8) (wMt .str oJoin (wC (.str " ")) (wOp oAdd (wLc (wiSeq (wVar 13)) (wgName 16) wYes (wCa oStrA (waCons (wVar 16) waNil)) [16]) (wLst (waCons (wCa oStrA (waCons (wVar 14) waNil)) waNil)))))) (wsSeq (wsAppT false (wVar 8) (wOp oAdd (wC (.str "closing ")) (wCa oStrA (waCons (wGet (wVar 6) (wC (.int 4))) waNil)))) (wsSeq (wsSet 9 (wLst (waCons (wCall M 1 0 [0] 1 [] [] sp_statement_text (waCons (wVar 6) waNil) waNil) (waCons (wCall M 0 1 [0] 1 [] [] sp_statement_text waNil (waCons (wVar 6) waNil)) waNil)))) (wsIf (wOr (wB (wOpF oNe (wCaF (oReprA 64) (waCons (wVar 9) waNil)) (wCaF (oReprA 64) (waCons (wOp oMulA (wLst (waCons (wMt .str oJoin (wC (.str "\n")) (wVar 8)) waNil)) (wC (.int 2))) waNil)))) (wB (wOpF oNe (wCaF (oReprA 64) (waCons (wVar 6) waNil)) (wVar 7)))) (wsRet (wC (.bl false))) wsNext))))))))))) (wsRet (wC (.bl true))))))
theorem sc_law : FnScope ["_law_script", "_law_m", "_law_pool", "_law_turn", "_law_some", "_law_all_changed", "_law_thing", "_law_kept", "_law_due", "_law_told", "_law_day", "_law_name", "_law_first", "_law_deed", "_law_size", "_law_pair", "_law_part"] ["_law_script"] (defScope s_law) := ⟨rfl, rfl, rfl, by decide +kernel, rfl, by decide +kernel, by decide +kernel⟩
theorem c_law {P : Program} {w : World} {K : PySem.W.Frag} {mg : Str → Option Value} {base : Heap} (T : Tops K mg) (M : MC) {cd : Value} {A : Around} {outer : List Env} {s : Shared} {H : Hp} {E : XK} (hG : A.guards = some []) (hr : Room 2 (A.deeper (envOfC "law" (defScope s_law) s.heap.objs.size T.d_law.f cd))) :
    PSs (cxG P w K mg base ["_law_script", "_law_m", "_law_pool", "_law_turn", "_law_some", "_law_all_changed", "_law_thing", "_law_kept", "_law_due", "_law_told", "_law_day", "_law_name", "_law_first", "_law_deed", "_law_size", "_law_pair", "_law_part"] "law" (defScope s_law) T.d_law.f cd A outer s H E) (defBody s_law) (tDS K M (fun cls dd _ H => E cls dd H) (w_law M)) :=
  have nd := sc_law.nd
  (pd_cons (pd_set 1 nd (pd_call (lb := []) (ok__law_begun T) (by decide) hG (hr.mono (by decide)) tdX (kb__law_begun_1_ T) T.d__law_begun.F.kp T.d__law_begun.m (by rfl) (pd_acons (pd_var 0) pd_anil) pd_knil)) (pd_cons (pd_set 2 nd (pd_call (lb := [true, false]) (ok__law_names T) (by decide) hG (hr.mono (by decide)) tdX (kb__law_names_2_ T) T.d__law_names.F.kp T.d__law_names.m (by rfl) (pd_acons (pd_var 1) (pd_acons pd_int pd_anil)) pd_knil)) (pd_cons (pd_for (passes_of rfl) rfl (pd_r1 (by rfl) T.b_range (pd_acons pd_int pd_anil)) (pd_gname 3 nd) (pd_cons (pd_par3 (i := 10) (j := 11) (l := 12) rfl nd (pd_acons (pd_add pd_int (pd_call (lb := [true, false]) (ok__law_draw T) (by decide) hG (hr.mono (by decide)) tdX (kb__law_draw_2_ T) T.d__law_draw.F.kp T.d__law_draw.m (by rfl) (pd_acons (pd_var 1) (pd_acons pd_int pd_anil)) pd_knil)) (pd_acons (pd_getP (hr1 hr) (pd_var 2) (pd_call (lb := [true, false]) (ok__law_draw T) (by decide) hG (hr.mono (by decide)) tdX (kb__law_draw_2_ T) T.d__law_draw.F.kp T.d__law_draw.m (by rfl) (pd_acons (pd_var 1) (pd_acons pd_int pd_anil)) pd_knil)) (pd_acons (pd_getP (hr1 hr) (pd_lst (pd_acons pd_int (pd_acons pd_int (pd_acons (pd_pow pd_int pd_int) pd_anil)))) (pd_call (lb := [true, false]) (ok__law_draw T) (by decide) hG (hr.mono (by decide)) tdX (kb__law_draw_2_ T) T.d__law_draw.F.kp T.d__law_draw.m (by rfl) (pd_acons (pd_var 1) (pd_acons pd_int pd_anil)) pd_knil)) pd_anil)))) (pd_cons (pd_set 4 nd (pd_call (lb := [true, false]) (ok__law_changed T) (by decide) hG (hr.mono (by decide)) tdX (kb__law_changed_2_ T) T.d__law_changed.F.kp T.d__law_changed.m (by rfl) (pd_acons (pd_var 1) (pd_acons (pd_var 11) pd_anil)) pd_knil)) (pd_cons (pd_set 5 nd (pd_callB (cr_sum rfl) cd_sum (by rfl) T.b_sum (by decide +kernel) (pd_acons (pd_lc rfl nd (own := [("_law_pair", 15)]) (blkOk_by (by rfl)) (pd_iseq (pd_var 4)) (fun _ _ _ _ _ => (pd_gname 15 nd)) (fun _ _ _ _ _ => pd_ynil) (fun _ _ _ _ _ => (pd_getP (hr1 hr) (pd_var 15) pd_int))) pd_anil))) (pd_cons (pd_set 6 nd (pd_tup (pd_acons (pd_var 11) (pd_acons (pd_var 10) (pd_acons (pd_add (pd_var 12) (pd_callB (call_max2 rfl) cd_max (by rfl) T.b_max (by decide +kernel) (pd_acons pd_int (pd_acons (pd_sub pd_int (pd_var 5)) pd_anil)))) (pd_acons (pd_var 4) (pd_acons (pd_add (pd_var 12) (pd_callB (call_max2 rfl) cd_max (by rfl) T.b_max (by decide +kernel) (pd_acons pd_int (pd_acons (pd_var 5) pd_anil)))) pd_anil))))))) (pd_cons (pd_set 7 nd (pd_callBF (call_reprB hG (hr100 hr)) cd_reprA (by rfl) T.b_repr (by decide +kernel) (pd_acons (pd_var 6) pd_anil))) (pd_cons (pd_set 8 nd (pd_lst (pd_acons (pd_add (pd_add (pd_add pd_str (pd_var 11)) pd_str) (pd_callTy call_strA cd_strA (by rfl) T.b_str (by decide +kernel) (pd_acons (pd_var 10) pd_anil))) (pd_acons (pd_add pd_str (pd_callTy call_strA cd_strA (by rfl) T.b_str (by decide +kernel) (pd_acons (pd_getP (hr1 hr) (pd_var 6) pd_int) pd_anil))) pd_anil)))) (pd_cons (pd_for (passes_of rfl) rfl (pd_iseq (pd_var 4)) (pd_gtup 2 rfl (pd_gcons (pd_gname 13 nd) (pd_gcons (pd_gname 14 nd) pd_gnil))) (pd_last (pd_appT (keep := false) (pd_var 8) (pd_join pd_str (pd_add (pd_lc rfl nd (own := [("_law_part", 16)]) (blkOk_by (by rfl)) (pd_iseq (pd_var 13)) (fun _ _ _ _ _ => (pd_gname 16 nd)) (fun _ _ _ _ _ => pd_ynil) (fun _ _ _ _ _ => (pd_callTy call_strA cd_strA (by rfl) T.b_str (by decide +kernel) (pd_acons (pd_var 16) pd_anil)))) (pd_lst (pd_acons (pd_callTy call_strA cd_strA (by rfl) T.b_str (by decide +kernel) (pd_acons (pd_var 14) pd_anil)) pd_anil))))))) (pd_cons (pd_appT (keep := false) (pd_var 8) (pd_add pd_str (pd_callTy call_strA cd_strA (by rfl) T.b_str (by decide +kernel) (pd_acons (pd_getP (hr1 hr) (pd_var 6) pd_int) pd_anil)))) (pd_cons (pd_set 9 nd (pd_lst (pd_acons (pd_call (lb := []) (ok_statement_text T) (by decide) hG (hr.mono (by decide)) tdX (kb_statement_text_1_ T) T.d_statement_text.F.kp T.d_statement_text.m (by rfl) (pd_acons (pd_var 6) pd_anil) pd_knil) (pd_acons (pd_call0 (lb := []) (ok_statement_text T) (by decide) hG (hr.mono (by decide)) tdX (kb_statement_text_0_statement T) T.d_statement_text.F.kp T.d_statement_text.m (by rfl) (pd_kcons (pd_var 6) pd_knil)) pd_anil)))) (pd_last (pd_ifS (pd_or (pt_neF (hr64 hr) (pd_callBF (call_reprB hG (hr100 hr)) cd_reprA (by rfl) T.b_repr (by decide +kernel) (pd_acons (pd_var 9) pd_anil)) (pd_callBF (call_reprB hG (hr100 hr)) cd_reprA (by rfl) T.b_repr (by decide +kernel) (pd_acons (pd_mulA (pd_lst (pd_acons (pd_join pd_str (pd_var 8)) pd_anil)) pd_int) pd_anil))) (pd_or1 (pt_neF (hr64 hr) (pd_callBF (call_reprB hG (hr100 hr)) cd_reprA (by rfl) T.b_repr (by decide +kernel) (pd_acons (pd_var 6) pd_anil)) (pd_var 7)))).pt (pd_last (pd_ret pd_bl)) pd_nil)))))))))))) (pd_last (pd_ret pd_bl)))))
def sp_law : DSp := fun M ts Q E => w_law M (rho0 17 ts) (excD [] ts E) (endD [] ts Q)
theorem law_law : ∀ M ts Qd Ed, ts.length = 1 → sp_law M ts Qd Ed → w_law M (rho0 17 ts) (excD [] ts Ed) (endD [] ts Qd) := fun _ _ _ _ _ h => h
theorem ok_law {P : Program} {w : World} {K : PySem.W.Frag} {mg : Str → Option Value} {base : Heap} (T : Tops K mg) : FnG P w K mg base 3 T.d_law.f T.d_law.fd ["_law_script"] (spD K 1 [] sp_law) :=
  fnD T.d_law.F sc_law (by decide) (fun M cd A outer s H E hG hr => c_law T M hG hr) law_law
end Cw

set_option Elab.async false
set_option linter.all false
set_option maxRecDepth 100000
set_option maxHeartbeats 4000000
namespace Cw
open PySem L2 El

abbrev kG : DK := .one (.inr "great")
abbrev kS : DK := .one (.inr "small")
abbrev kA : DK := .one (.inr "at")
/-- what is drawn from: the great cells, the small ones as one number, how often it was drawn -/
def dr (p g : Addr) (gs : List Int) (s k : Int) : T := .dic p false [kG, kS, kA] [.top g (.lst (gs.map .int)), .fz (.int s), .fz (.int k)]
@[simp] theorem dr_root {p g : Addr} {gs : List Int} {s k : Int} : (dr p g gs s k).root = some p := El.nre rfl
@[simp] theorem dr_rs {i : Nat} {π : List Stp} {p g : Addr} {gs : List Int} {s k : Int} : rsOf i π (dr p g gs s k) = .pth i π p := El.nre rfl
theorem rd_prime (k : Int) : ∃ r : Int, atI [D.int 2147483647, .int 2147483629, .int 2147483587, .int 2147483579, .int 2147483563, .int 2147483549, .int 2147483543, .int 2147483497] (k % 8) = some (.int r) ∧ 0 < r ∧ r < 4294967296 := by
  have : k % 8 = 0 ∨ k % 8 = 1 ∨ k % 8 = 2 ∨ k % 8 = 3 ∨ k % 8 = 4 ∨ k % 8 = 5 ∨ k % 8 = 6 ∨ k % 8 = 7 := by omega
  rcases this with e | e | e | e | e | e | e | e <;> rw [e] <;> exact ⟨_, rfl, by decide, by decide⟩
section
variable {M : MC} {p g : Addr} {gs gs0 : List Int} {s k n k0 : Int} {Q : Rs → List T → Prop} {E : Ex → List T → Prop} {x y : Option T}
theorem draw_tail (n0 : 0 < n) (h : ∀ r, 0 ≤ r → r < n → Q (.val (.int r)) [dr p g gs s (k + 1)]) :
    v__law_draw_9 M [some (dr p g gs s (k + 1)), some (.fz (.int n)), some (.fz (.int k)), none, none, x, y] (excD [0] [dr p g gs0 s k, .fz (.int n)] E) (endD [0] [dr p g gs0 s k, .fz (.int n)] Q) := by
  obtain ⟨r, hr, r0, r1⟩ := rd_prime k
  unfold v__law_draw_9 v__law_draw_10 v__law_draw_11 v__law_draw_12 dr
  simp [hr]
  refine putR_nw fun q => ?_
  simp [hr]
  have a0 := Int.emod_nonneg (s + 7919 * k + 17) (Int.ne_of_gt r0)
  have a1 := Int.emod_lt_of_pos (s + 7919 * k + 17) r0
  have b0 := Int.emod_nonneg ((s + 7919 * k + 17) % r * (48271 + 2 * k) + 104729 * k) (Int.ne_of_gt r0)
  have b1 := Int.emod_lt_of_pos ((s + 7919 * k + 17) % r * (48271 + 2 * k) + 104729 * k) r0
  refine ⟨cm_l (by decide) (by decide), r0, cm_l (by decide) (by decide), cm_l (by omega) (by omega), cm_l (by decide) (by decide), r0, cm_l (by omega) (by omega), cm_r (by omega) (by omega), r0, cd_of (by decide) (by decide), n0, ?_⟩
  exact h _ (Int.emod_nonneg _ (by omega)) (Int.emod_lt_of_pos _ n0)
theorem draw_hit (n0 : 0 < n) (n1 : n.natAbs.log2 < 9000) (hg : gs ≠ []) (hl : gs.length ≤ 1000) (h : ∀ r gs', gs'.length = gs.length → 0 ≤ r → r < n → Q (.val (.int r)) [dr p g gs' s (k + 1)]) :
    v__law_draw_4 M [some (dr p g gs s (k + 1)), some (.fz (.int n)), some (.fz (.int k)), none, none, none, none] (excD [0] [dr p g gs s k, .fz (.int n)] E) ⟨fun ρ1 => v__law_draw_9 M ρ1 (excD [0] [dr p g gs s k, .fz (.int n)] E) (endD [0] [dr p g gs s k, .fz (.int n)] Q), (endD [0] [dr p g gs s k, .fz (.int n)] Q).rt, (endD [0] [dr p g gs s k, .fz (.int n)] Q).bk, (endD [0] [dr p g gs s k, .fz (.int n)] Q).ct⟩ := by
  have hp : 0 < gs.length := List.length_pos_iff.mpr hg
  have hm0 := Int.emod_nonneg k (show (gs.length : Int) ≠ 0 by omega)
  have hm1 := Int.emod_lt_of_pos k (show 0 < (gs.length : Int) by omega)
  obtain ⟨j, hj⟩ : ∃ j : Nat, k % (gs.length : Int) = (j : Int) := ⟨(k % (gs.length : Int)).toNat, by omega⟩
  have hjl : j < gs.length := by omega
  have e1 : atI (gs.map D.int) ((j : Nat) : Int) = some (.int gs[j]) := atI_nat (by simp [hjl])
  have e2 : ixN gs.length ((j : Nat) : Int) = some j := ixN_of hjl
  unfold v__law_draw_4 v__law_draw_5 v__law_draw_6 v__law_draw_7 dr
  simp [hp, hj, e1, e2]
  refine iteP_of (fun hc => ?_) fun hc => ?_
  · simp [e1, e2, stD, n0]
    refine ⟨⟨n0, n1⟩, ?_⟩
    have := h (gs[j] % n) (gs.set j (gs[j] / n)) (by simp) (Int.emod_nonneg _ (by omega)) (Int.emod_lt_of_pos _ n0)
    unfold dr at this
    rwa [List.map_set] at this
  · have := draw_tail (M := M) (p := p) (g := g) (gs := gs) (gs0 := gs) (s := s) (k := k) (E := E) (x := some (T.fz (.int j))) (y := some (.fz (.int gs[j]))) n0 fun r h0 h1 => h r gs rfl h0 h1
    unfold dr at this
    simp
    exact this
theorem q_draw (n0 : 0 < n) (n1 : n.natAbs.log2 < 9000) (hl : gs.length ≤ 1000) (h : ∀ r gs', gs'.length = gs.length → 0 ≤ r → r < n → Q (.val (.int r)) [dr p g gs' s (k + 1)]) : sp__law_draw M [dr p g gs s k, .fz (.int n)] Q E := by
  unfold sp__law_draw
  show v__law_draw_1 M _ _ _
  unfold v__law_draw_1 v__law_draw_2 v__law_draw_3
  by_cases hg : gs = []
  · subst hg
    have := draw_tail (M := M) (p := p) (g := g) (gs := []) (gs0 := []) (s := s) (k := k) (E := E) (x := none) (y := none) n0 fun r h0 h1 => h r [] rfl h0 h1
    unfold dr at this ⊢
    simp
    exact this
  · have := draw_hit (M := M) (p := p) (g := g) (gs := gs) (s := s) (k := k) (E := E) n0 n1 hg hl h
    have hs : Sh 64 (.lst (gs.map .int)) := Sh.mono (Sh.lst (n := 0) fun d hd => by
      obtain ⟨i, _, rfl⟩ := List.mem_map.mp hd
      exact .int) (by decide)
    unfold dr at this ⊢
    simp [o_neL hs (by simpa using hg)]
    exact this
theorem cp18 : CPow 10 18 := ⟨by decide, by decide, by decide⟩
theorem q_begun {ns : List Int} (hn : ns.length ≤ 63) (h : ∀ p g gs s, gs.length ≤ 63 → Q (.new (dr p g gs s 0)) []) : sp__law_begun M [.fz (.fls (ns.map .int))] Q E := by
  unfold sp__law_begun w__law_begun
  simp
  refine lc_filter (toD := D.int) (fun i => decide (1000000000000000000 ≤ i)) D.int (by simp; omega) (fun x hx k e h1 h2 => ?_) ?_
  · simp
    refine ⟨cp18, iteP_of (fun hc => ?_) fun hc => ?_⟩
    · simp
      exact h1 hc
    · simp
      exact h2 hc
  · simp
    refine parP_tw fun g => ?_
    simp
    intro p
    refine for_inv (fun done ρ => ∃ s x, ρ = [some (.fz (.fls (ns.map .int))), some (dr p g (ns.filter fun i => decide (1000000000000000000 ≤ i)) s 0), x]) ⟨0, none, rfl⟩ ?_ ?_
    · rintro done x rest ρ k e ⟨s, y, rfl⟩ hk
      unfold dr
      simp
      refine ⟨cp18, iteP_of (fun hc => ?_) fun hc => ?_⟩
      · simp [cp18]
        refine ⟨cm_r (by decide) (by decide), hk _ ⟨_, _, rfl⟩⟩
      · simp
        exact hk _ ⟨_, _, rfl⟩
    · rintro ρ ⟨s, x, rfl⟩
      have := h p g (ns.filter fun i => decide (1000000000000000000 ≤ i)) s (Nat.le_trans (List.length_filter_le _ _) hn)
      unfold dr at this ⊢
      simp
      exact .inl this
end
end Cw

set_option Elab.async false
set_option linter.all false
set_option maxRecDepth 100000
set_option maxHeartbeats 4000000
namespace Cw
open PySem L2 El TL
def txD : D → Str
  | .int i => Str.ofString (toString i)
  | .str x => x
  | _ => Str.ofString ""
theorem lg60 {i : Int} (h : i.natAbs < 1152921504606846976) : i.natAbs.log2 < 60 := by
  have e : (2 : Nat) ^ 60 = 1152921504606846976 := by decide
  exact lgk (by rw [e]; exact h) (by decide)
/-- a part of a line -/
def Pt (d : D) : Prop := (∃ i : Int, d = .int i ∧ i.natAbs < 1152921504606846976) ∨ ∃ x, d = .str x ∧ Sm 16 x
theorem Pt.sm {d : D} (h : Pt d) : Sm 62 (txD d) := by
  rcases h with ⟨i, rfl, h⟩ | ⟨x, rfl, h⟩
  · exact (sm_int (i := i) (k := 60) (by decide) (lg60 h)).mono (by decide)
  · exact h.mono (by decide)
def ln (ds : List D) : Str := Txt.join (Str.ofString " ") (ds.map txD)
theorem sp_sm : Sm 1 (Str.ofString " ") := sm_of (by decide +kernel)
theorem nl_sm : Sm 1 (Str.ofString "\n") := sm_of (by decide +kernel)
theorem ln_sm {ds : List D} (h : ∀ d ∈ ds, Pt d) (hl : ds.length ≤ 6) : Sm 400 (ln ds) := by
  refine (sp_sm.join (b := 62) fun y hy => ?_).mono (by simp; omega)
  obtain ⟨d, hd, rfl⟩ := List.mem_map.mp hy
  exact (h d hd).sm
theorem lc_mapD {g : WG} {tt : WT} {te : WE} {vs : List Nat} {Q : Rs → Rho → Prop} {ds : List D} {ρ : Rho} {t} (f : D → D) (hz : ds.length ≤ 16777216)
    (step : ∀ x ∈ ds, ∀ (k : D → Rho → Prop) (e : Rho → Prop), k (f x) ρ → g x ρ fun ρ2 => tt ρ2 noX fun b ρ3 => iteP b (te ρ3 noX fun r ρ4 => bindP (r.out ρ4) fun p => k p.1 (wipeR p.2 vs)) (e (wipeR ρ3 vs)))
    (h : Q (.nw (.lst (ds.map f))) ρ) : lcP g tt te vs ds [] ρ Q t := by
  have := lc_map (toD := id) (xs := ds) (g := g) (tt := tt) (te := te) (vs := vs) (Q := Q) (ρ := ρ) (t := t) f hz step h
  rwa [List.map_id] at this
section
variable {M : MC} {Q : Rs → List T → Prop} {E : Ex → List T → Prop}
theorem q_line_of {ds : List D} (h : ∀ d ∈ ds, Pt d) (hl : ds.length ≤ 6) (hq : Q (.val (.str (ln ds))) []) : sp_line_of M [.fz (.tup ds)] Q E := by
  unfold sp_line_of w_line_of
  have e1 : ds.map (fun d => D.str (txD d)) = (ds.map txD).map D.str := by simp
  simp
  refine lc_mapD (fun d => .str (txD d)) (by omega) (fun d hd k e hk => ?_) ?_
  · rcases h d hd with ⟨i, rfl, hi⟩ | ⟨x, rfl, hx⟩
    · have hlg : i.natAbs.log2 < 1920 := Nat.lt_of_lt_of_le (lg60 hi) (by decide)
      simp [hlg]
      exact hk
    · simp
      exact hk
  · rw [e1]
    have hs := sum_le (b := 62) (ys := ds.map txD) fun y hy => by
      obtain ⟨d, hd, rfl⟩ := List.mem_map.mp hy
      exact (h d hd).sm.len
    have h1 := sp_sm.len
    have h2 : ds.length * (Str.ofString " ").length ≤ 6 * 1 := Nat.mul_le_mul hl h1
    rw [List.length_map] at hs
    have h3 : ds.length * 62 ≤ 6 * 62 := Nat.mul_le_mul_right _ hl
    have h4 : ((ds.map txD).map (·.length)).sum + (ds.map txD).length * (Str.ofString " ").length ≤ 16777216 := by
      rw [List.length_map]; omega
    simp [-List.map_map]
    rw [List.length_map] at h4
    exact ⟨h4, hq⟩
def lineD (l : List D × Int) : D := .tup [.tup l.1, .int l.2]
structure LineP (l : List D × Int) : Prop where
  pt : ∀ d ∈ l.1, Pt d
  len : l.1.length ≤ 4
  cnt : l.2.natAbs < 1152921504606846976
theorem LineP.all {l : List D × Int} (h : LineP l) : ∀ d ∈ l.1 ++ [.int l.2], Pt d := fun d hd => by
  rcases List.mem_append.mp hd with hd | hd
  · exact h.pt d hd
  · rw [List.mem_singleton.mp hd]; exact .inl ⟨_, rfl, h.cnt⟩
def rows (a : Str) (d o c : Int) (ls : List (List D × Int)) : List Str := [ln [.str "statement", .str a, .int d], ln [.str "opening", .int o]] ++ ls.map (fun l => ln (l.1 ++ [.int l.2])) ++ [ln [.str "closing", .int c]]
def stT (a : Str) (d o c : Int) (ls : List (List D × Int)) : Str := Txt.join (Str.ofString "\n") (rows a d o c ls)
structure StP (a : Str) (d o c : Int) (ls : List (List D × Int)) : Prop where
  ha : Sm 16 a
  hd : d.natAbs < 1152921504606846976
  ho : o.natAbs < 1152921504606846976
  hc : c.natAbs < 1152921504606846976
  hls : ∀ l ∈ ls, LineP l
  len : ls.length ≤ 10
theorem pt_s {s : Str} (h : s.length ≤ 16 ∧ ∀ c ∈ tl s, c < 128) : Pt (.str s) := .inr ⟨_, rfl, sm_of h⟩
theorem pt_i {i : Int} (h : i.natAbs < 1152921504606846976) : Pt (.int i) := .inl ⟨_, rfl, h⟩
theorem StP.all {a : Str} {d o c : Int} {ls : List (List D × Int)} (h : StP a d o c ls) : ∀ r ∈ rows a d o c ls, Sm 400 r := by
  intro r hr
  unfold Cw.rows at hr
  rcases List.mem_append.mp hr with hr | hr
  · rcases List.mem_append.mp hr with hr | hr
    · simp only [List.mem_cons, List.not_mem_nil, or_false] at hr
      rcases hr with rfl | rfl
      · refine ln_sm (fun d hd => ?_) (by simp)
        simp at hd
        rcases hd with rfl | rfl | rfl
        · exact pt_s (by decide +kernel)
        · exact .inr ⟨_, rfl, h.ha⟩
        · exact pt_i h.hd
      · refine ln_sm (fun d hd => ?_) (by simp)
        simp at hd
        rcases hd with rfl | rfl
        · exact pt_s (by decide +kernel)
        · exact pt_i h.ho
    · obtain ⟨l, hl, rfl⟩ := List.mem_map.mp hr
      exact ln_sm (h.hls l hl).all (by have := (h.hls l hl).len; simp; omega)
  · rw [List.mem_singleton.mp hr]
    refine ln_sm (fun d hd => ?_) (by simp)
    simp at hd
    rcases hd with rfl | rfl
    · exact pt_s (by decide +kernel)
    · exact pt_i h.hc
theorem StP.sum {a : Str} {d o c : Int} {ls : List (List D × Int)} (h : StP a d o c ls) : ((rows a d o c ls).map (·.length)).sum + (rows a d o c ls).length * (Str.ofString "\n").length ≤ 16777216 := by
  have h1 := sum_le (b := 400) fun y hy => (h.all y hy).len
  have h2 : (rows a d o c ls).length ≤ 13 := by have := h.len; unfold Cw.rows; simp; omega
  have h3 := nl_sm.len
  have h4 : (rows a d o c ls).length * 400 ≤ 13 * 400 := Nat.mul_le_mul_right _ h2
  have h5 : (rows a d o c ls).length * (Str.ofString "\n").length ≤ 13 * 1 := Nat.mul_le_mul h2 h3
  omega
theorem StP.sm {a : Str} {d o c : Int} {ls : List (List D × Int)} (h : StP a d o c ls) : Sm 6000 (stT a d o c ls) := by
  refine (nl_sm.join h.all).mono ?_
  have h2 : (Cw.rows a d o c ls).length ≤ 13 := by have := h.len; unfold Cw.rows; simp; omega
  have h4 : (Cw.rows a d o c ls).length * (1 + 400) ≤ 13 * 401 := Nat.mul_le_mul_right _ h2
  omega
theorem q_text {a : Str} {d o c : Int} {ls : List (List D × Int)} (h : StP a d o c ls) (hq : Q (.val (.str (stT a d o c ls))) []) : sp_statement_text M [.fz (.tup [.str a, .int d, .int o, .tup (ls.map lineD), .int c])] Q E := by
  have hl := h.len
  unfold sp_statement_text w_statement_text
  simp
  refine lc_map (toD := lineD) (fun l => .str (ln (l.1 ++ [.int l.2]))) (by omega) (fun l hm k e hk => ?_) ?_
  · have hp := h.hls l hm
    have h3 := hp.len
    rw [show lineD l = .tup [.tup l.1, .int l.2] from rfl]
    simp [show l.1.length + 1 ≤ 16777216 by omega]
    refine fun _ _ => q_line_of hp.all (by simp; omega) ?_
    simpa using hk
  · refine putR_nw fun p => ?_
    simp
    refine fun _ _ => q_line_of (fun d hd => ?_) (by simp) ?_
    · simp at hd
      rcases hd with rfl | rfl | rfl
      · exact pt_s (by decide +kernel)
      · exact .inr ⟨_, rfl, h.ha⟩
      · exact pt_i h.hd
    simp
    refine fun _ _ => q_line_of (fun d hd => ?_) (by simp) ?_
    · simp at hd
      rcases hd with rfl | rfl
      · exact pt_s (by decide +kernel)
      · exact pt_i h.ho
    simp
    refine putR_nw fun p2 => ?_
    simp
    refine ⟨by omega, ?_⟩
    refine fun _ _ => q_line_of (fun d hd => ?_) (by simp) ?_
    · simp at hd
      rcases hd with rfl | rfl
      · exact pt_s (by decide +kernel)
      · exact pt_i h.hc
    simp
    have e2 : D.str (ln [.str "statement", .str a, .int d]) :: D.str (ln [.str "opening", .int o]) :: (ls.map (fun l => D.str (ln (l.1 ++ [.int l.2]))) ++ [D.str (ln [.str "closing", .int c])]) = (rows a d o c ls).map D.str := by
      simp [rows]
    refine ⟨by omega, ?_⟩
    rw [e2, asStrs_m, bindP_some]
    refine ⟨h.sum, ?_⟩
    simp
    exact hq
end
end Cw

set_option Elab.async false
set_option linter.all false
set_option maxRecDepth 100000
set_option maxHeartbeats 4000000
namespace Cw
open PySem L2 El TL
abbrev abc : Str := Str.ofString "abcdefghijklmnopqrstuvwxyz"
theorem abc_ok : abc.length = 26 ∧ ∀ c ∈ tl abc, c < 128 := by decide +kernel
def own15 : List Str := ["money", "account", "letter", "step", "in", "out", "fund", "move", "change", "hold", "settle", "release", "refund", "dispute", "won"].map Str.ofString
theorem own_sp : Txt.split (Str.ofString "money account letter step in out fund move change hold settle release refund dispute won") (Str.ofString " ") = own15 := by decide +kernel
def own23 : List Str := own15 ++ ["lost", "rate", "interest", "fee", "keep", "strike", "free", "held"].map Str.ofString
theorem own23_ok : own23.length = 23 ∧ ∀ t ∈ own23, t.length ≤ 16 ∧ ∀ c ∈ tl t, c < 128 := by decide +kernel
theorem at_abc {r : Int} (h0 : 0 ≤ r) (h1 : r < 26) : ∃ c, atI abc.cps.toList r = some c ∧ c < 128 := by
  obtain ⟨n, rfl⟩ : ∃ n : Nat, r = (n : Int) := ⟨r.toNat, by omega⟩
  have hl : n < (tl abc).length := by rw [← len_tl, abc_ok.1]; omega
  exact ⟨(tl abc)[n], atI_nat (List.getElem?_eq_getElem hl), abc_ok.2 _ (List.getElem_mem hl)⟩
section
variable {M : MC} {Q : Rs → List T → Prop} {E : Ex → List T → Prop} {x y : Option T} {p g : Addr} {gs : List Int} {s k : Int}
theorem c_draw {n : Int} {kk : Rs → List T → Prop} {ee : Ex → List T → Prop} (n0 : 0 < n) (n1 : n.natAbs.log2 < 9000) (hl : gs.length ≤ 1000) (h : ∀ r gs', gs'.length = gs.length → 0 ≤ r → r < n → kk (.val (.int r)) [dr p g gs' s (k + 1)]) : callP M sp__law_draw [dr p g gs s k, .fz (.int n)] kk ee :=
  fun M' _ => q_draw n0 n1 hl h
theorem Sm.cut {b : Nat} {t : Str} (h : Sm b t) (lo hi : Option Int) : Sm b (cutS t lo hi) := by
  refine ⟨?_, fun c hc => h.asc c (List.mem_of_mem_drop (List.mem_of_mem_take hc))⟩
  have h1 := h.len
  rw [len_tl] at h1 ⊢
  show (((tl t).drop (HT.sIx t.length 0 lo)).take (HT.sIx t.length t.length hi - HT.sIx t.length 0 lo)).length ≤ b
  rw [List.length_take, List.length_drop]
  omega
def Pool (ys : List Str) : Prop := ys.length = 4 ∧ ∀ y ∈ ys, Sm 16 y
theorem Pool.perm {xs ys : List Str} (h : Pool xs) (hp : ys.Perm xs) : Pool ys := ⟨by rw [hp.length_eq, h.1], fun y hy => h.2 y (hp.mem_iff.mp hy)⟩
theorem ran4 : (List.range 4).length = 4 := rfl
theorem q_names (hl : gs.length ≤ 1000) (h : ∀ r gs' k' ys, gs'.length = gs.length → Pool ys → Q (.new (.top r (.lst (ys.map .str)))) [dr p g gs' s k']) : sp__law_names M [dr p g gs s k, .fz (.int 4)] Q E := by
  unfold sp__law_names
  show v__law_names_1 M _ _ _
  unfold v__law_names_1
  simp
  refine c_draw (by decide) (by decide) hl fun r1 gs1 e1 a1 b1 => ?_
  simp
  refine c_draw (by decide) (by decide) (by omega) fun r2 gs2 e2 a2 b2 => ?_
  simp
  unfold v__law_names_2
  simp
  refine ⟨by decide +kernel, by decide +kernel, ?_⟩
  rw [own_sp]
  refine putR_nw fun q => ?_
  unfold v__law_names_3
  simp
  refine ⟨by decide +kernel, ?_⟩
  rw [show own15.map D.str ++ [D.str (Str.ofString "lost"), D.str (Str.ofString "rate"), D.str (Str.ofString "interest"), D.str (Str.ofString "fee"), D.str (Str.ofString "keep"), D.str (Str.ofString "strike"), D.str (Str.ofString "free"), D.str (Str.ofString "held")] = own23.map D.str from rfl]
  refine putR_nw fun q2 => ?_
  unfold v__law_names_4
  simp
  refine ⟨⟨by decide, by decide⟩, ?_⟩
  unfold rangeD
  refine lc_inv (fun done2 acc ρ => ∃ gs' k', ∃ cs : List Nat, ρ = [some (dr p g gs' s k'), some (.fz (.int 4)), some (.top q2 (.lst (own23.map .str))), none, none, some (.fz (.int r1)), some (.fz (.int r2)), some (.fz (.str abc)), none, none] ∧ gs'.length = gs.length ∧ acc = cs.map (fun c => D.str ⟨#[c]⟩) ∧ cs.length = done2.length ∧ ∀ c ∈ cs, c < 128)
    (by simp) ⟨gs2, _, [], rfl, by omega, rfl, rfl, by simp⟩ ?_ ?_
  · rintro done2 j rest2 acc ρ kk2 ee2 e2 ⟨gs5, k5, cs, rfl, hg5, rfl, hl5, hc5⟩ hk2 _
    simp
    refine c_draw (by decide) (by decide) (by omega) fun r6 gs6 e6 a6 b6 => ?_
    obtain ⟨c, hc, hc1⟩ := at_abc a6 b6
    simp [hc]
    refine ⟨by rw [abc_ok.1]; decide, ?_⟩
    refine hk2 _ _ ⟨gs6, _, cs ++ [c], rfl, by omega, by simp, by simp [hl5], fun z hz => ?_⟩
    rcases List.mem_append.mp hz with hz | hz
    · exact hc5 z hz
    · cases List.mem_singleton.mp hz; exact hc1
  · rintro acc ρ ⟨gs5, k5, cs, rfl, hg5, rfl, hl5, hc5⟩
    have ecs : cs.map (fun c => D.str ⟨#[c]⟩) = (cs.map fun c => (⟨#[c]⟩ : Str)).map D.str := by rw [List.map_map]; rfl
    have hs5 : ∀ y ∈ cs.map fun c => (⟨#[c]⟩ : Str), Sm 1 y := fun y hy => by
      obtain ⟨c, hc, rfl⟩ := List.mem_map.mp hy
      exact ⟨Nat.le_refl 1, fun d hd => by cases List.mem_singleton.mp hd; exact hc5 c hc⟩
    have hs0 : Sm 0 (Str.ofString "") := ⟨Nat.le_refl 0, fun d hd => by cases hd⟩
    have hj := Sm.join hs0 hs5
    have h1 := sum_le fun y hy => (hs5 y hy).len
    have hl6 : (cs.map fun c => (⟨#[c]⟩ : Str)).length = cs.length := List.length_map ..
    rw [ecs]
    revert hj h1 hl6 hs5
    generalize (cs.map fun c => (⟨#[c]⟩ : Str)) = zs
    intro hs5 hj h1 hl6
    simp at hl5 h1
    have l0 : (Str.ofString "").length = 0 := rfl
    have hb : Sm 8 (Txt.join (Str.ofString "") zs) := hj.mono (by omega)
    simp [l0]
    refine ⟨by omega, ?_⟩
    clear hj
    revert hb
    generalize Txt.join (Str.ofString "") zs = base
    intro hb
    unfold v__law_names_5
    simp
    refine iteP_of (fun hc => ?_) fun hc => ?_
    · unfold v__law_names_6
      simp
      refine ⟨⟨by decide, by decide⟩, ?_⟩
      unfold rangeD
      refine lc_inv (fun done2 acc ρ => ∃ ys : List Str, ρ = [some (dr p g gs5 s k5), some (T.fz (D.int 4)), some (T.top q2 (D.lst (List.map D.str own23))), some (T.fz (D.str base)), none, some (T.fz (D.int r1)), some (T.fz (D.int r2)), some (T.fz (D.str abc)), none, none] ∧ acc = ys.map .str ∧ ys.length = done2.length ∧ ∀ y ∈ ys, Sm 16 y) (by simp) ⟨[], rfl, rfl, rfl, by simp⟩ ?_ ?_
      · rintro done2 j rest2 acc ρ kk2 ee2 e2 ⟨ys, rfl, rfl, hy, hs⟩ hk2 _
        have hj : j ∈ List.range 4 := by rw [e2]; simp
        have hj := List.mem_range.mp hj
        obtain ⟨t, mt, ft⟩ := at_strs own23 (r := (r2 + 5 * (j : Int)) % 23) (by omega) (by rw [own23_ok.1]; omega)
        simp [ft]
        refine ⟨cm_l (by decide) (by omega), hk2 _ _ ⟨ys ++ [t], rfl, by simp, by simp [hy], fun z hz => ?_⟩⟩
        rcases List.mem_append.mp hz with hz | hz
        · exact hs z hz
        · rw [List.mem_singleton.mp hz]; exact sm_of (own23_ok.2 t mt)
      · rintro acc ρ ⟨ys, rfl, rfl, hy, hs⟩
        simp at hy
        simp
        refine o_sortS (by omega) fun zs hp _ => ?_
        simp
        exact .inl fun r => h r gs5 k5 zs hg5 (Pool.perm ⟨hy, hs⟩ hp)
    · unfold v__law_names_7
      simp
      refine iteP_of (fun hc2 => ?_) fun hc2 => ?_
      · unfold v__law_names_8
        simp
        refine ⟨⟨by decide, by decide⟩, ?_⟩
        unfold rangeD
        refine lc_inv (fun done2 acc ρ => ∃ ys : List Str, ρ = [some (dr p g gs5 s k5), some (T.fz (D.int 4)), some (T.top q2 (D.lst (List.map D.str own23))), some (T.fz (D.str base)), none, some (T.fz (D.int r1)), some (T.fz (D.int r2)), some (T.fz (D.str abc)), none, none] ∧ acc = ys.map .str ∧ ys.length = done2.length ∧ ∀ y ∈ ys, Sm 16 y) (by simp) ⟨[], rfl, rfl, rfl, by simp⟩ ?_ ?_
        · rintro done2 j rest2 acc ρ kk2 ee2 e2 ⟨ys, rfl, rfl, hy, hs⟩ hk2 _
          have hj : j ∈ List.range 4 := by rw [e2]; simp
          have hj := List.mem_range.mp hj
          simp
          refine ⟨cm_l (by decide) (by omega), Nat.le_trans hb.len (by decide), hk2 _ _ ⟨ys ++ [cutS base none (some (1 + (r2 + 3 * (j : Int)) % 8))], rfl, by simp, by simp [hy], fun z hz => ?_⟩⟩
          rcases List.mem_append.mp hz with hz | hz
          · exact hs z hz
          · rw [List.mem_singleton.mp hz]; exact (hb.cut _ _).mono (by decide)
        · rintro acc ρ ⟨ys, rfl, rfl, hy, hs⟩
          simp at hy
          simp
          refine o_sortS (by omega) fun zs hp _ => ?_
          simp
          exact .inl fun r => h r gs5 k5 zs hg5 (Pool.perm ⟨hy, hs⟩ hp)
      · unfold v__law_names_9
        simp
        refine ⟨⟨by decide, by decide⟩, ?_⟩
        unfold rangeD
        refine lc_inv (fun done2 acc ρ => ∃ cs : List Nat, ρ = [some (dr p g gs5 s k5), some (T.fz (D.int 4)), some (T.top q2 (D.lst (List.map D.str own23))), some (T.fz (D.str base)), none, some (T.fz (D.int r1)), some (T.fz (D.int r2)), some (T.fz (D.str abc)), none, none] ∧ acc = cs.map (fun c => D.str ⟨#[c]⟩) ∧ cs.length = done2.length ∧ ∀ c ∈ cs, c < 128) (by simp) ⟨[], rfl, rfl, rfl, by simp⟩ ?_ ?_
        · rintro done2 j rest2 acc ρ kk2 ee2 e2 ⟨cs, rfl, rfl, hy, hs⟩ hk2 _
          have hj : j ∈ List.range 4 := by rw [e2]; simp
          have hj := List.mem_range.mp hj
          obtain ⟨c, hc, hc1⟩ := at_abc (r := (r2 + 5 * (j : Int)) % 26) (by omega) (by omega)
          simp [hc]
          refine ⟨cm_l (by decide) (by omega), by rw [abc_ok.1]; decide, hk2 _ _ ⟨cs ++ [c], rfl, by simp, by simp [hy], fun z hz => ?_⟩⟩
          rcases List.mem_append.mp hz with hz | hz
          · exact hs z hz
          · rw [List.mem_singleton.mp hz]; exact hc1
        · rintro acc ρ ⟨cs, rfl, rfl, hy, hs⟩
          refine putR_nw fun q3 => ?_
          unfold v__law_names_10
          simp at hy
          simp
          refine lc_inv (fun done2 acc ρ => ∃ gs' k', ∃ ys : List Str, ρ = [some (dr p g gs' s k'), some (T.fz (D.int 4)), some (T.top q2 (D.lst (List.map D.str own23))), some (T.fz (D.str base)), some (T.fz (D.lst (cs.map fun c => D.str ⟨#[c]⟩))), some (T.fz (D.int r1)), some (T.fz (D.int r2)), some (T.fz (D.str abc)), none, none] ∧ gs'.length = gs.length ∧ acc = ys.map .str ∧ ys.length = done2.length ∧ ∀ y ∈ ys, Sm 16 y) (by omega) ⟨gs5, _, [], rfl, hg5, rfl, rfl, by simp⟩ ?_ ?_
          · rintro done2 j rest2 acc ρ kk2 ee2 e2 ⟨gs6, k6, ys, rfl, hg6, rfl, hy2, hs2⟩ hk2 _
            simp
            refine c_draw (by decide) (by decide) (by omega) fun r7 gs7 e7 a7 b7 => ?_
            simp
            have hm : r7 * (r1 - 2) ≤ 7 * 1 := Int.mul_le_mul (by omega) (by omega) (by simp at hc hc2; omega) (by decide)
            have hc7 := hb.cut none (some (r7 * (r1 - 2)))
            have hj1 : Sm 1 (⟨#[j]⟩ : Str) := ⟨Nat.le_refl 1, fun d hd => by cases List.mem_singleton.mp hd; exact hs _ (by rw [e2]; simp)⟩
            have hz := hc7.app hj1
            refine ⟨cm_r (by omega) (by omega), Nat.le_trans hb.len (by decide), by have := hz.len; rw [Str.length_append] at this; omega, hk2 _ _ ⟨gs7, _, ys ++ [cutS base none (some (r7 * (r1 - 2))) ++ ⟨#[j]⟩], rfl, by omega, by simp, by simp [hy2], fun z hz2 => ?_⟩⟩
            rcases List.mem_append.mp hz2 with hz2 | hz2
            · exact hs2 z hz2
            · rw [List.mem_singleton.mp hz2]; exact hz.mono (by decide)
          · rintro acc ρ ⟨gs6, k6, ys, rfl, hg6, rfl, hy2, hs2⟩
            simp
            refine o_sortS (by omega) fun zs hp _ => ?_
            simp
            exact .inl fun r => h r gs6 k6 zs hg6 (Pool.perm ⟨by omega, hs2⟩ hp)
end
end Cw

set_option Elab.async false
set_option linter.all false
set_option maxRecDepth 100000
set_option maxHeartbeats 4000000
namespace Cw
open PySem L2 El TL
abbrev FL := List (List Key × Int)
def fks (ls : FL) : List DK := ls.map fun q => .many q.1
def fvs (ls : FL) : List D := ls.map fun q => .int q.2
def fput (ls : FL) (k : List Key) (i : Int) : FL := if (ls.any fun q => decide (q.1 = k)) = true then ls.map (fun q => if q.1 = k then (q.1, i) else q) else ls ++ [(k, i)]
theorem rep1_f (k : List Key) (i : Int) : ∀ ls : FL, rep1 (fks ls) (fvs ls) (.many k) (.int i) = fvs (ls.map (fun q => if q.1 = k then (q.1, i) else q))
  | [] => rfl
  | q :: ls => by
    have ih := rep1_f k i ls
    simp [fks, fvs] at ih
    by_cases e : q.1 = k
    · simp [fks, fvs, rep1, e, ih]
    · simp [fks, fvs, rep1, e, ih]
theorem dput_f (ls : FL) (k : List Key) (i : Int) : dput (fks ls) (fvs ls) (.many k) (.int i) = (fks (fput ls k i), fvs (fput ls k i)) := by
  have e : ((fks ls).any fun x => decide (x = DK.many k)) = ls.any fun q => decide (q.1 = k) := by
    unfold fks
    rw [List.any_map]
    congr 1
    funext q
    simp
  unfold dput fput
  rw [e]
  split
  · rw [rep1_f]
    congr 1
    unfold fks
    rw [List.map_map]
    refine List.map_congr_left fun q _ => ?_
    by_cases e : q.1 = k <;> simp [e]
  · simp [fks, fvs]
theorem fput_mem {k : List Key} {i : Int} {ls : FL} {q : List Key × Int} (h : q ∈ fput ls k i) : (∃ a ∈ ls, q.1 = a.1 ∧ (q.2 = a.2 ∨ q.2 = i)) ∨ (q.1 = k ∧ q.2 = i) := by
  unfold fput at h
  split at h
  · obtain ⟨a, ha, rfl⟩ := List.mem_map.mp h
    refine .inl ⟨a, ha, ?_⟩
    by_cases e : a.1 = k <;> simp [e]
  · rcases List.mem_append.mp h with h | h
    · exact .inl ⟨q, h, rfl, .inl rfl⟩
    · rw [List.mem_singleton.mp h]; exact .inr ⟨rfl, rfl⟩
theorem fput_len {k : List Key} {i : Int} {ls : FL} : (fput ls k i).length ≤ ls.length + 1 := by
  unfold fput
  split <;> simp
def lookI : FL → List Key → Int
  | [], _ => 0
  | q :: ls, k => if q.1 = k then q.2 else lookI ls k
theorem look_f (k : List Key) : ∀ ls : FL, (∃ q ∈ ls, q.1 = k) → lookD (fks ls) (fvs ls) (.many k) = some (.int (lookI ls k)) ∧ ∃ q ∈ ls, lookI ls k = q.2
  | [], h => by obtain ⟨_, h, _⟩ := h; cases h
  | a :: ls, h => by
    by_cases e : a.1 = k
    · exact ⟨by simp [fks, fvs, lookD, lookI, e], a, List.mem_cons_self, if_pos e⟩
    · obtain ⟨q, hq, hk⟩ := h
      rcases List.mem_cons.mp hq with rfl | hq
      · exact absurd hk e
      · obtain ⟨h1, q2, h2, h3⟩ := look_f k ls ⟨q, hq, hk⟩
        refine ⟨?_, q2, List.mem_cons_of_mem _ h2, by rw [← h3]; exact if_neg e⟩
        simp [fks, fvs, lookD, lookI, e] at h1 ⊢
        exact h1
/-- a deed's key -/
structure KeyP (k : List Key) : Prop where
  pt : ∀ x ∈ k, Pt (keyD1 x)
  len : k.length ≤ 4
theorem keysOf_k : ∀ k : List Key, keysOf (k.map keyD1) = some k
  | [] => rfl
  | .inl i :: k => by rw [List.map_cons, show keyD1 (.inl i) = .int i from rfl, keysOf_int, keysOf_k k]; rfl
  | .inr i :: k => by rw [List.map_cons, show keyD1 (.inr i) = .str i from rfl, keysOf_str, keysOf_k k]; rfl
end Cw

set_option Elab.async false
set_option linter.all false
set_option maxRecDepth 100000
set_option maxHeartbeats 4000000
namespace Cw
open PySem L2 El TL
section
variable {M : MC} {Q : Rs → List T → Prop} {E : Ex → List T → Prop} {x y : Option T} {p g : Addr} {gs : List Int} {s k : Int} {nm : Str}
structure FP (q : List Key × Int) : Prop where
  kp : KeyP q.1
  vb : q.2.natAbs ≤ 100000000000
theorem fput_ok {ls : FL} {k : List Key} {i : Int} (h : ∀ q ∈ ls, FP q) (hk : KeyP k) (hi : i.natAbs ≤ 100000000000) : ∀ q ∈ fput ls k i, FP q := fun q hq => by
  rcases fput_mem hq with ⟨a, ha, h1, h2⟩ | ⟨h1, h2⟩
  · refine ⟨by rw [h1]; exact (h a ha).kp, ?_⟩
    rcases h2 with h2 | h2
    · rw [h2]; exact (h a ha).vb
    · rw [h2]; exact hi
  · exact ⟨by rw [h1]; exact hk, by rw [h2]; exact hi⟩
def Ls (ls : List (List D × Int)) : Prop := ls.length ≤ 6 ∧ ∀ l ∈ ls, LineP l ∧ l.2.natAbs ≤ 100000000000
theorem cp11 : CPow 10 11 := ⟨by decide, by decide, by decide⟩
abbrev sg (x : String) : Str := Str.ofString x
theorem kp_of {k : List Key} (h : k.all (fun x => match x with | .inl i => decide (i.natAbs < 1152921504606846976) | .inr x => decide (x.length ≤ 16 ∧ ∀ c ∈ tl x, c < 128)) = true) (hl : k.length ≤ 4) : KeyP k := by
  refine ⟨fun x hx => ?_, hl⟩
  have := List.all_eq_true.mp h x hx
  cases x with
  | inl i => exact .inl ⟨i, rfl, by simpa using this⟩
  | inr x => exact .inr ⟨x, rfl, sm_of (by simpa using this)⟩
theorem deed_at {r a b c : Int} (h0 : 0 ≤ r) (h1 : r < 5) (ha : a.natAbs < 1152921504606846976) (hb : b.natAbs < 1152921504606846976) (hc : c.natAbs < 1152921504606846976) (hn : Sm 16 nm) :
    ∃ k : List Key, KeyP k ∧ atI [D.tup [D.str (sg "letter"), D.int a], D.tup [D.str (sg "letter"), D.int a], D.tup [D.str (sg "paid"), D.int b, D.str nm], D.tup [D.str (sg "order"), D.int a, D.int c], D.tup [D.str (sg "repaid"), D.int b, D.int a]] r = some (.tup (k.map keyD1)) := by
  have n1 := hn.len
  have n2 := hn.asc
  have d1 : (sg "letter").length ≤ 16 ∧ ∀ c ∈ tl (sg "letter"), c < 128 := by decide +kernel
  have d2 : (sg "paid").length ≤ 16 ∧ ∀ c ∈ tl (sg "paid"), c < 128 := by decide +kernel
  have d3 : (sg "order").length ≤ 16 ∧ ∀ c ∈ tl (sg "order"), c < 128 := by decide +kernel
  have d4 : (sg "repaid").length ≤ 16 ∧ ∀ c ∈ tl (sg "repaid"), c < 128 := by decide +kernel
  have : r = 0 ∨ r = 1 ∨ r = 2 ∨ r = 3 ∨ r = 4 := by omega
  rcases this with rfl | rfl | rfl | rfl | rfl
  · exact ⟨[.inr (sg "letter"), .inl a], kp_of (by simp only [List.all_cons, List.all_nil, decide_eq_true_eq, Bool.and_eq_true]; exact ⟨d1, ha , trivial⟩) (by simp), rfl⟩
  · exact ⟨[.inr (sg "letter"), .inl a], kp_of (by simp only [List.all_cons, List.all_nil, decide_eq_true_eq, Bool.and_eq_true]; exact ⟨d1, ha , trivial⟩) (by simp), rfl⟩
  · exact ⟨[.inr (sg "paid"), .inl b, .inr nm], kp_of (by simp only [List.all_cons, List.all_nil, decide_eq_true_eq, Bool.and_eq_true]; exact ⟨d2, hb, ⟨n1, n2⟩ , trivial⟩) (by simp), rfl⟩
  · exact ⟨[.inr (sg "order"), .inl a, .inl c], kp_of (by simp only [List.all_cons, List.all_nil, decide_eq_true_eq, Bool.and_eq_true]; exact ⟨d3, ha, hc , trivial⟩) (by simp), rfl⟩
  · exact ⟨[.inr (sg "repaid"), .inl b, .inl a], kp_of (by simp only [List.all_cons, List.all_nil, decide_eq_true_eq, Bool.and_eq_true]; exact ⟨d4, hb, ha , trivial⟩) (by simp), rfl⟩
theorem near_at {r a b : Int} (h0 : 0 ≤ r) (h1 : r < 4) (ha : a.natAbs ≤ 100000000000) (hb : b.natAbs ≤ 100000000000) : ∃ i : Int, i.natAbs ≤ 100000000000 ∧ atI [D.int a, D.int (-a), D.int b, D.int (-b)] r = some (.int i) := by
  have : r = 0 ∨ r = 1 ∨ r = 2 ∨ r = 3 := by omega
  rcases this with rfl | rfl | rfl | rfl
  · exact ⟨a, ha, rfl⟩
  · exact ⟨-a, by omega, rfl⟩
  · exact ⟨b, hb, rfl⟩
  · exact ⟨-b, by omega, rfl⟩
theorem st_f {ls : FL} {ky : List Key} {iv : Int} (hl : ls.length < 16777216) : stD (.dic true (fks ls) (fvs ls)) (.tup (ky.map keyD1)) (.int iv) = some (.dic true (fks (fput ls ky iv)) (fvs (fput ls ky iv))) := by
  unfold stD
  have e : dkOf (.tup (ky.map keyD1)) = some (.many ky) := by
    show (keysOf (ky.map keyD1)).map DK.many = _
    rw [keysOf_k]; rfl
  have hv : (fvs ls).length < 16777216 := by unfold fvs; rw [List.length_map]; exact hl
  simp only [e, hv, if_true, dput_f]
theorem it_f {ls : FL} : itemsD (.dic true (fks ls) (fvs ls)) = some (ls.map fun q => .tup (q.1.map keyD1)) := by
  show some ((fks ls).map keyD) = _
  unfold fks
  rw [List.map_map]
  rfl
theorem q_changed (hl : gs.length ≤ 1000) (hn : Sm 16 nm) (h : ∀ gs' k' ls, gs'.length = gs.length → Ls ls → Q (.val (.tup (ls.map lineD))) [dr p g gs' s k']) : sp__law_changed M [dr p g gs s k, .fz (.str nm)] Q E := by
  unfold sp__law_changed
  show v__law_changed_1 M _ _ _
  unfold v__law_changed_1
  simp
  intro q
  unfold v__law_changed_2
  simp
  refine c_draw (by decide) (by decide) hl fun r1 gs1 e1 a1 b1 => ?_
  simp
  refine ⟨⟨by omega, by omega⟩, ?_⟩
  unfold rangeD
  refine for_inv (fun done ρ => ∃ gs' k' x3 x4 x5 x6 x7 x8 x9 x10, ∃ ls : FL, ρ = [some (dr p g gs' s k'), some (.fz (.str nm)), some (.top q (.dic true (fks ls) (fvs ls))), x3, x4, x5, x6, x7, x8, x9, x10] ∧ gs'.length = gs.length ∧ ls.length ≤ done.length ∧ ∀ q ∈ ls, FP q)
    ⟨gs1, _, _, _, _, _, _, _, _, _, [], rfl, by omega, Nat.le_refl _, by simp⟩ ?_ ?_
  · rintro done j rest ρ kk e ⟨gs2, k2, x3, x4, x5, x6, x7, x8, x9, x10, ls, rfl, hg, hy, hs⟩ hk
    unfold v__law_changed_3
    simp
    refine c_draw (by decide) (by decide) (by omega) fun r2 gs3 e3 a2 b2 => ?_
    simp
    refine c_draw (by decide) (by decide) (by omega) fun r3 gs4 e4 a3 b3 => ?_
    simp
    refine c_draw (by decide) (by decide) (by omega) fun r4 gs5 e5 a4 b4 => ?_
    simp
    refine ⟨cp11, ?_⟩
    refine c_draw (by decide) (by decide) (by omega) fun r5 gs6 e6 a5 b5 => ?_
    simp
    unfold v__law_changed_4
    simp
    refine ⟨cm_l (by decide) (by decide), ?_⟩
    have d0 : 0 ≤ r3 % 4 ∧ r3 % 4 < 4 := by omega
    revert d0
    generalize r3 % 4 = d4
    intro d0
    unfold v__law_changed_5
    simp
    refine putR_nw fun q5 => ?_
    unfold v__law_changed_6
    simp
    obtain ⟨ky, kp, ek⟩ := deed_at (a := 1 + r3) (b := 30 + 30 * d4) (c := 30 + 30 * d4 - (1 + r4) % 29) a2 b2 (by omega) (by omega) (by omega) hn
    simp [ek]
    unfold v__law_changed_7
    simp
    refine c_draw (by decide) (by decide) (by omega) fun r6 gs7 e7 a6 b6 => ?_
    obtain ⟨iv, vb, ei⟩ := near_at (a := 1 + r4) (b := 1 + r5) a6 b6 (by omega) (by omega)
    simp [ei]
    rw [st_f (by have := congrArg List.length e; simp at this; omega)]
    simp
    refine hk _ ⟨gs7, _, _, _, _, _, _, _, _, _, _, rfl, by omega, ?_, fput_ok hs kp vb⟩
    have := fput_len (ls := ls) (k := ky) (i := iv)
    simp
    omega
  · rintro ρ ⟨gs2, k2, x3, x4, x5, x6, x7, x8, x9, x10, ls, rfl, hg, hy, hs⟩
    simp at hy
    unfold v__law_changed_8
    simp
    rw [it_f]
    simp
    refine lc_map (xs := ls) (toD := fun q => .tup (q.1.map keyD1)) (fun q => lineD (q.1.map keyD1, lookI ls q.1)) (by omega) (fun q hq k e hk => ?_) ?_
    · obtain ⟨e1, q2, h2, e2⟩ := look_f q.1 ls ⟨q, hq, rfl⟩
      simp [keysOf_k, e1]
      exact hk
    · simp
      have hr := h gs2 k2 (ls.map fun q => (q.1.map keyD1, lookI ls q.1)) hg ⟨by rw [List.length_map]; omega, fun l hl => by
        obtain ⟨q, hq, rfl⟩ := List.mem_map.mp hl
        obtain ⟨e1, q2, h2, e2⟩ := look_f q.1 ls ⟨q, hq, rfl⟩
        have v2 := (hs q2 h2).vb
        refine ⟨⟨fun d hd => ?_, ?_, ?_⟩, ?_⟩
        · obtain ⟨x, hx, rfl⟩ := List.mem_map.mp hd
          exact (hs q hq).kp.pt x hx
        · rw [List.length_map]; exact (hs q hq).kp.len
        · show (lookI ls q.1).natAbs < _
          rw [e2]; omega
        · show (lookI ls q.1).natAbs ≤ _
          rw [e2]; omega⟩
      rw [List.map_map] at hr
      exact hr
end
end Cw

set_option Elab.async false
set_option linter.all false
set_option maxRecDepth 100000
set_option maxHeartbeats 4000000
namespace Cw
open PySem L2 El TL
section
variable {M : MC} {Q : Rs → List T → Prop} {E : Ex → List T → Prop} {p g : Addr} {gs : List Int} {s k : Int} {nm : Str}
theorem cp12 : CPow 10 12 := ⟨by decide, by decide, by decide⟩
theorem c_changed {kk : Rs → List T → Prop} {ee : Ex → List T → Prop} (hl : gs.length ≤ 1000) (hn : Sm 16 nm) (h : ∀ gs' k' ls, gs'.length = gs.length → Ls ls → kk (.val (.tup (ls.map lineD))) [dr p g gs' s k']) : callP M sp__law_changed [dr p g gs s k, .fz (.str nm)] kk ee :=
  fun M' _ => q_changed hl hn h
theorem ln2 (a : Str) (i : Int) : ln [.str a, .int i] = a ++ Str.ofString " " ++ Str.ofString (toString i) := by
  unfold ln
  rw [join_eq]
  rfl
theorem ln3 (a b : Str) (i : Int) : ln [.str a, .str b, .int i] = a ++ Str.ofString " " ++ (b ++ Str.ofString " " ++ Str.ofString (toString i)) := by
  unfold ln
  rw [join_eq]
  rfl
theorem w1 : Str.ofString "statement " = Str.ofString "statement" ++ Str.ofString " " := by decide +kernel
theorem w2 : Str.ofString "opening " = Str.ofString "opening" ++ Str.ofString " " := by decide +kernel
theorem w3 : Str.ofString "closing " = Str.ofString "closing" ++ Str.ofString " " := by decide +kernel
theorem rows_eq {a : Str} {d o c : Int} {ls : List (List D × Int)} : rows a d o c ls = [Str.ofString "statement " ++ a ++ Str.ofString " " ++ Str.ofString (toString d), Str.ofString "opening " ++ Str.ofString (toString o)] ++ ls.map (fun l => ln (l.1 ++ [.int l.2])) ++ [Str.ofString "closing " ++ Str.ofString (toString c)] := by
  unfold rows
  rw [ln2, ln2, ln3, w1, w2, w3]
  simp only [Str.append_assoc]
theorem rp_pt {d : D} (h : Pt d) : Rp 100 0 64 d := by
  rcases h with ⟨i, rfl, h⟩ | ⟨x, rfl, h⟩
  · exact Rp.int (k := 60) (by decide) (lg60 h) (by decide) (by decide) (by decide)
  · exact h.rp (by decide)
theorem rp_line {l : List D × Int} (h : LineP l) : Rp 100 2 522 (lineD l) :=
  Rp.tup (m := 2) (W := 260) (fun d hd => by
    simp at hd
    rcases hd with rfl | rfl
    · exact Rp.tup (m := 4) (W := 64) (fun d hd => rp_pt (h.pt d hd)) h.len (by decide)
    · exact (rp_pt (pt_i h.cnt)).mono (by decide) (by decide)) (by simp) (by decide)
def thingD (a : Str) (d o c : Int) (ls : List (List D × Int)) : D := .tup [.str a, .int d, .int o, .tup (ls.map lineD), .int c]
theorem rp_thing {a : Str} {d o c : Int} {ls : List (List D × Int)} (h : StP a d o c ls) : Rp 100 64 26155 (thingD a d o c ls) :=
  (Rp.tup (n := 3) (m := 5) (W := 5230) (fun e he => by
    simp at he
    rcases he with rfl | rfl | rfl | rfl | rfl
    · exact (rp_pt (.inr ⟨_, rfl, h.ha⟩)).mono (by decide) (by decide)
    · exact (rp_pt (pt_i h.hd)).mono (by decide) (by decide)
    · exact (rp_pt (pt_i h.ho)).mono (by decide) (by decide)
    · refine Rp.tup (n := 2) (m := 10) (W := 522) (fun e he => ?_) (by rw [List.length_map]; exact h.len) (by decide)
      obtain ⟨l, hl, rfl⟩ := List.mem_map.mp he
      exact rp_line (h.hls l hl)
    · exact (rp_pt (pt_i h.hc)).mono (by decide) (by decide)) (by simp) (Nat.le_refl _)).mono (by decide) (by decide)
theorem at4 {a b c d e : D} {l : List D} : atI (a :: b :: c :: d :: e :: l) 4 = some e := atI_nat (j := 4) rfl
theorem line_sum {ds : List D} (h : ∀ d ∈ ds, Pt d) (hl : ds.length ≤ 6) : ((ds.map txD).map (·.length)).sum + (ds.map txD).length * (Str.ofString " ").length ≤ 16777216 := by
  have hs := sum_le (b := 62) (ys := ds.map txD) fun y hy => by
    obtain ⟨d, hd, rfl⟩ := List.mem_map.mp hy
    exact (h d hd).sm.len
  have h1 := sp_sm.len
  have h2 : ds.length * (Str.ofString " ").length ≤ 6 * 1 := Nat.mul_le_mul hl h1
  rw [List.length_map] at hs ⊢
  have h3 : ds.length * 62 ≤ 6 * 62 := Nat.mul_le_mul_right _ hl
  omega
theorem law_8 {a : Str} {d o c : Int} {ls : List (List D × Int)} (hp : StP a d o c ls) {ρ0 ρ1 ρ2 : Option T} {X : XD} {Z : ED} {x3 x5 x7 x8 x9 x12 x13 x14 x15 x16 : Option T}
    (h : ∀ x7 x8 x9 x13 x14 x16, Z.nx [ρ0, ρ1, ρ2, x3, some (.fz (.tup (ls.map lineD))), x5, some (.fz (thingD a d o c ls)), x7, x8, x9, some (.fz (.int d)), some (.fz (.str a)), x12, x13, x14, x15, x16]) :
    v_law_8 M [ρ0, ρ1, ρ2, x3, some (.fz (.tup (ls.map lineD))), x5, some (.fz (thingD a d o c ls)), x7, x8, x9, some (.fz (.int d)), some (.fz (.str a)), x12, x13, x14, x15, x16] X Z := by
  unfold v_law_8
  simp
  refine o_reprA rfl (rp_thing hp) (by decide) (by decide) ?_
  have ed : d.natAbs.log2 < 1920 := Nat.lt_of_lt_of_le (lg60 hp.hd) (by decide)
  have eo : o.natAbs.log2 < 1920 := Nat.lt_of_lt_of_le (lg60 hp.ho) (by decide)
  have ec : c.natAbs.log2 < 1920 := Nat.lt_of_lt_of_le (lg60 hp.hc) (by decide)
  simp [shw]
  unfold v_law_9 thingD
  simp [ed, eo, ec]
  have hall := hp.all
  rw [rows_eq] at hall
  have m1 := hall (Str.ofString "statement " ++ a ++ Str.ofString " " ++ Str.ofString d.repr) (by simp [show toString d = d.repr from rfl])
  have m2 := hall (Str.ofString "opening " ++ Str.ofString o.repr) (by simp [show toString o = o.repr from rfl])
  have m3 := hall (Str.ofString "closing " ++ Str.ofString c.repr) (by simp [show toString c = c.repr from rfl])
  have l1 := m1.len
  have l2 := m2.len
  have l3 := m3.len
  simp only [Str.length_append] at l1 l2 l3
  refine ⟨by omega, by rw [Str.length_append]; omega, by simp only [Str.length_append]; omega, by omega, ?_⟩
  refine putR_nw fun q8 => ?_
  have hlen := hp.len
  have hz0 : ∃ zs : List Str, zs = [Str.ofString "statement " ++ a ++ Str.ofString " " ++ Str.ofString d.repr, Str.ofString "opening " ++ Str.ofString o.repr] := ⟨_, rfl⟩
  obtain ⟨zs0, hz0⟩ := hz0
  have ez0 : [D.str (Str.ofString "statement " ++ a ++ Str.ofString " " ++ Str.ofString d.repr), D.str (Str.ofString "opening " ++ Str.ofString o.repr)] = zs0.map D.str := by rw [hz0]; rfl
  rw [ez0]
  unfold v_law_10
  simp
  refine for_inv (toD := lineD) (fun done ρ => ∃ x13 x14 x16, ∃ zs : List Str, ρ = [ρ0, ρ1, ρ2, x3, some (T.fz (D.tup (List.map lineD ls))), x5, some (T.fz (D.tup [D.str a, D.int d, D.int o, D.tup (List.map lineD ls), D.int c])), some (T.fz (D.str (D.tup [D.str a, D.int d, D.int o, D.tup (List.map lineD ls), D.int c]).py.shown)), some (.top q8 (.lst (zs.map D.str))), x9, some (T.fz (D.int d)), some (T.fz (D.str a)), x12, x13, x14, x15, x16] ∧ zs = zs0 ++ done.map fun l => ln (l.1 ++ [.int l.2])) ⟨_, _, _, _, rfl, by simp⟩ ?_ ?_
  · rintro done l rest ρ k e ⟨x13, x14, x16, zs, rfl, hz⟩ hk
    have hm : l ∈ ls := by rw [e]; simp
    have hL := hp.hls l hm
    have hL4 := hL.len
    have hLl : l.2.natAbs.log2 < 1920 := Nat.lt_of_lt_of_le (lg60 hL.cnt) (by decide)
    rw [show lineD l = .tup [.tup l.1, .int l.2] from rfl]
    simp
    unfold v_law_11
    simp
    refine lc_mapD (fun d => .str (txD d)) (by omega) (fun d hd k e hk => ?_) ?_
    · rcases hL.pt d hd with ⟨i, rfl, hi⟩ | ⟨x, rfl, hx⟩
      · have hlg : i.natAbs.log2 < 1920 := Nat.lt_of_lt_of_le (lg60 hi) (by decide)
        simp [hlg]
        exact hk
      · simp
        exact hk
    · simp [hLl]
      have e1 : l.1.map (fun d => D.str (txD d)) ++ [D.str (Str.ofString l.2.repr)] = ((l.1 ++ [D.int l.2]).map txD).map D.str := by
        rw [List.map_append, List.map_append, List.map_map]; rfl
      refine ⟨by omega, ?_⟩
      rw [e1, asStrs_m, bindP_some]
      refine ⟨line_sum hL.all (by simp; omega), ?_⟩
      rw [show Txt.join (Str.ofString " ") ((l.1 ++ [D.int l.2]).map txD) = ln (l.1 ++ [D.int l.2]) from rfl]
      have hdl := congrArg List.length e
      have hzl := congrArg List.length hz
      simp [hz0] at hdl hzl
      simp
      refine ⟨by omega, hk _ ⟨some (.fz (.tup l.1)), some (.fz (.int l.2)), none, zs ++ [ln (l.1 ++ [.int l.2])], by simp, by rw [hz]; simp⟩⟩
  · rintro ρ ⟨x13, x14, x16, zs, rfl, hz⟩
    unfold v_law_12
    simp [ec, at4]
    have hzl := congrArg List.length hz
    simp [hz0] at hzl
    refine ⟨by omega, by omega, ?_⟩
    have ez : zs.map D.str ++ [D.str (Str.ofString "closing " ++ Str.ofString c.repr)] = (rows a d o c ls).map D.str := by
      rw [rows_eq, hz, hz0]
      simp
    rw [ez]
    unfold v_law_13
    simp
    refine fun _ _ => q_text hp ?_
    simp
    refine fun _ _ => q_text hp ?_
    simp
    refine putR_nw fun q9 => ?_
    unfold v_law_14
    simp
    have rpT : Rp 100 64 13000 (D.lst [D.str (stT a d o c ls), D.str (stT a d o c ls)]) := by
      refine (Rp.lst (n := 0) (m := 2) (W := 6000) (fun e he => ?_) (by simp) (Nat.le_refl _)).mono (by decide) (by decide)
      simp at he
      rw [he]
      exact hp.sm.rp (Nat.le_refl _)
    refine o_reprA rfl rpT (by decide) (by decide) ?_
    simp [shw]
    refine ⟨hp.sum, ?_⟩
    rw [show Txt.join (Str.ofString "\n") (rows a d o c ls) = stT a d o c ls from rfl]
    refine o_reprA rfl rpT (by decide) (by decide) ?_
    simp [shw]
    have rpt := rp_thing hp
    unfold thingD at rpt
    refine o_reprA rfl rpt (by decide) (by decide) ?_
    simp [shw]
    have := h
    unfold thingD at this
    exact this _ _ _ _ _ _
theorem law_turn {fl : D} {ys : List Str} {q : Addr} {X : XD} {Z : ED} {x3 x4 x5 x6 x7 x8 x9 x10 x11 x12 x13 x14 x15 x16 : Option T} (hl : gs.length ≤ 1000) (hy : Pool ys)
    (h : ∀ gs' k' x4 x5 x6 x7 x8 x9 x10 x11 x12 x13 x14 x15 x16, gs'.length = gs.length → Z.nx [some (.fz fl), some (dr p g gs' s k'), some (.top q (.lst (ys.map .str))), x3, x4, x5, x6, x7, x8, x9, x10, x11, x12, x13, x14, x15, x16]) :
    v_law_4 M [some (.fz fl), some (dr p g gs s k), some (.top q (.lst (ys.map .str))), x3, x4, x5, x6, x7, x8, x9, x10, x11, x12, x13, x14, x15, x16] X Z := by
  unfold v_law_4
  simp
  refine c_draw (by decide) (by decide) hl fun r1 gs1 e1 a1 b1 => ?_
  simp
  refine c_draw (by decide) (by decide) (by omega) fun r2 gs2 e2 a2 b2 => ?_
  obtain ⟨nm, mn, en⟩ := at_strs ys (r := r2) a2 (by rw [hy.1]; exact b2)
  have hn := hy.2 nm mn
  simp [en]
  refine ⟨cp12, ?_⟩
  refine c_draw (by decide) (by decide) (by omega) fun r3 gs3 e3 a3 b3 => ?_
  obtain ⟨ff, mf, ef⟩ := at_mem [D.int 0, .int 5, .int 1000000000000] (r := r3) a3 b3
  simp [ef]
  obtain ⟨fi, rfl, f0, f1⟩ : ∃ fi : Int, ff = .int fi ∧ 0 ≤ fi ∧ fi ≤ 1000000000000 := by
    simp at mf
    rcases mf with rfl | rfl | rfl
    · exact ⟨_, rfl, by decide, by decide⟩
    · exact ⟨_, rfl, by decide, by decide⟩
    · exact ⟨_, rfl, by decide, by decide⟩
  unfold v_law_5
  simp
  refine c_changed (by omega) hn fun gs4 k4 ls e4 hls => ?_
  simp
  unfold v_law_6
  simp
  refine lc_map (toD := lineD) (fun l => .int l.2) (by have := hls.1; omega) (fun l hm k e hk => ?_) ?_
  · rw [show lineD l = .tup [.tup l.1, .int l.2] from rfl]
    simp
    exact hk
  simp
  rw [asInts_of, bindP_some]
  unfold v_law_7
  simp
  have hsum : ∀ ls : List (List D × Int), (∀ l ∈ ls, LineP l ∧ l.2.natAbs ≤ 100000000000) → (ls.map Prod.snd).sum.natAbs ≤ ls.length * 100000000000 := by
    intro ls
    induction ls with
    | nil => intro _; simp
    | cons l ls ih =>
      intro h
      have h1 := ih fun x hx => h x (List.mem_cons_of_mem _ hx)
      have h2 := (h l List.mem_cons_self).2
      simp only [List.map_cons, List.sum_cons, List.length_cons]
      omega
  have hs := hsum ls hls.2
  have hll := hls.1
  revert hs
  generalize (ls.map Prod.snd).sum = sm
  intro hs
  have hop : (fi + if sm < 0 then -sm else 0).natAbs < 1152921504606846976 := by split <;> omega
  have hcl : (fi + if 0 < sm then sm else 0).natAbs < 1152921504606846976 := by split <;> omega
  revert hop hcl
  generalize (fi + if sm < 0 then -sm else 0) = o
  generalize (fi + if 0 < sm then sm else 0) = c
  intro hop hcl
  exact law_8 (d := 1 + r1) (o := o) (c := c) ⟨hn, by omega, hop, hcl, fun l hl => (hls.2 l hl).1, by omega⟩ fun _ _ _ _ _ _ => h _ _ _ _ _ _ _ _ _ _ _ _ _ _ _ (by omega)
theorem q_law {ns : List Int} (hn : ns.length ≤ 63) (h : Q (.val (.bl true)) []) : sp_law M [.fz (.fls (ns.map .int))] Q E := by
  unfold sp_law
  show v_law_1 M _ _ _
  unfold v_law_1
  simp
  refine fun _ _ => q_begun hn fun p g gs s hg => ?_
  simp
  unfold v_law_2
  simp
  refine fun _ _ => q_names (by omega) fun q gs1 k1 ys e1 hy => ?_
  simp
  unfold v_law_3
  simp
  refine ⟨⟨by decide, by decide⟩, ?_⟩
  unfold rangeD
  refine for_inv (fun done ρ => ∃ gs' k' x3 x4 x5 x6 x7 x8 x9 x10 x11 x12 x13 x14 x15 x16, ρ = [some (.fz (.fls (ns.map .int))), some (dr p g gs' s k'), some (.top q (.lst (ys.map .str))), x3, x4, x5, x6, x7, x8, x9, x10, x11, x12, x13, x14, x15, x16] ∧ gs'.length = gs.length)
    ⟨gs1, _, _, _, _, _, _, _, _, _, _, _, _, _, _, _, rfl, e1⟩ ?_ ?_
  · rintro done i rest ρ kk e ⟨gs', k', x3, x4, x5, x6, x7, x8, x9, x10, x11, x12, x13, x14, x15, x16, rfl, hg'⟩ hk
    simp
    refine law_turn (by omega) hy fun gs2 k2 x4 x5 x6 x7 x8 x9 x10 x11 x12 x13 x14 x15 x16 e2 => ?_
    exact hk _ ⟨gs2, k2, _, _, _, _, _, _, _, _, _, _, _, _, _, _, rfl, by omega⟩
  · rintro ρ ⟨gs', k', x3, x4, x5, x6, x7, x8, x9, x10, x11, x12, x13, x14, x15, x16, rfl, hg'⟩
    simp
    exact h
end
end Cw

set_option Elab.async false
set_option linter.all false
set_option maxRecDepth 100000
set_option maxHeartbeats 4000000
namespace Cw
open PySem PySem.Spec L2 El
theorem all_mk' {K : PySem.W.Frag} {h : Heap} {mg : Str → Option Value} (X : K.In h) (G : h.Ns mainGlobals mg) {fa : Addr} (hfa : mg "law" = some (.ref fa)) {f0 f1 f2 f3 f4 f5 f6 : Addr}
    {od0 an0 od1 an1 od2 an2 od3 an3 od4 an4 od5 an5 od6 an6 : Option Addr} {sl0 sl1 sl2 sl3 sl4 sl5 sl6 : Array (Option Value)} {oc0 kV0 dc0 pm0 cd0 ct0 oc1 kV1 dc1 pm1 cd1 ct1 oc2 kV2 dc2 pm2 cd2 ct2 oc3 kV3 dc3 pm3 cd3 ct3 oc4 kV4 dc4 pm4 cd4 ct4 oc5 kV5 dc5 pm5 cd5 ct5 oc6 kV6 dc6 pm6 cd6 ct6 : Value}
    (a0 : PySem.W.nsIn K mainGlobals "line_of" = some (some (.ref f0))) (l0 : K.lookup f0 = some ⟨oc0, od0, .func (PySem.W.fnOf "line_of" "line_of" (defArgs s_line_of) (defBody s_line_of) (defScope s_line_of) .none kV0 dc0 pm0 an0 cd0 ct0), sl0⟩) (c0 : PySem.W.codeIn K cd0 "line_of" = true) (k0 : PySem.W.keepIn K (.ref f0) = true)
    (a1 : PySem.W.nsIn K mainGlobals "statement_text" = some (some (.ref f1))) (l1 : K.lookup f1 = some ⟨oc1, od1, .func (PySem.W.fnOf "statement_text" "statement_text" (defArgs s_statement_text) (defBody s_statement_text) (defScope s_statement_text) .none kV1 dc1 pm1 an1 cd1 ct1), sl1⟩) (c1 : PySem.W.codeIn K cd1 "statement_text" = true) (k1 : PySem.W.keepIn K (.ref f1) = true)
    (a2 : PySem.W.nsIn K mainGlobals "_law_begun" = some (some (.ref f2))) (l2 : K.lookup f2 = some ⟨oc2, od2, .func (PySem.W.fnOf "_law_begun" "_law_begun" (defArgs s__law_begun) (defBody s__law_begun) (defScope s__law_begun) .none kV2 dc2 pm2 an2 cd2 ct2), sl2⟩) (c2 : PySem.W.codeIn K cd2 "_law_begun" = true) (k2 : PySem.W.keepIn K (.ref f2) = true)
    (a3 : PySem.W.nsIn K mainGlobals "_law_draw" = some (some (.ref f3))) (l3 : K.lookup f3 = some ⟨oc3, od3, .func (PySem.W.fnOf "_law_draw" "_law_draw" (defArgs s__law_draw) (defBody s__law_draw) (defScope s__law_draw) .none kV3 dc3 pm3 an3 cd3 ct3), sl3⟩) (c3 : PySem.W.codeIn K cd3 "_law_draw" = true) (k3 : PySem.W.keepIn K (.ref f3) = true)
    (a4 : PySem.W.nsIn K mainGlobals "_law_names" = some (some (.ref f4))) (l4 : K.lookup f4 = some ⟨oc4, od4, .func (PySem.W.fnOf "_law_names" "_law_names" (defArgs s__law_names) (defBody s__law_names) (defScope s__law_names) .none kV4 dc4 pm4 an4 cd4 ct4), sl4⟩) (c4 : PySem.W.codeIn K cd4 "_law_names" = true) (k4 : PySem.W.keepIn K (.ref f4) = true)
    (a5 : PySem.W.nsIn K mainGlobals "_law_changed" = some (some (.ref f5))) (l5 : K.lookup f5 = some ⟨oc5, od5, .func (PySem.W.fnOf "_law_changed" "_law_changed" (defArgs s__law_changed) (defBody s__law_changed) (defScope s__law_changed) .none kV5 dc5 pm5 an5 cd5 ct5), sl5⟩) (c5 : PySem.W.codeIn K cd5 "_law_changed" = true) (k5 : PySem.W.keepIn K (.ref f5) = true)
    (a6 : PySem.W.nsIn K mainGlobals "law" = some (some (.ref f6))) (l6 : K.lookup f6 = some ⟨oc6, od6, .func (PySem.W.fnOf "law" "law" (defArgs s_law) (defBody s_law) (defScope s_law) .none kV6 dc6 pm6 an6 cd6 ct6), sl6⟩) (c6 : PySem.W.codeIn K cd6 "law" = true) (k6 : PySem.W.keepIn K (.ref f6) = true)
    (b_len : PySem.W.nsIn K mainGlobals "len" = some none)
    (b_max : PySem.W.nsIn K mainGlobals "max" = some none)
    (b_range : PySem.W.nsIn K mainGlobals "range" = some none)
    (b_repr : PySem.W.nsIn K mainGlobals "repr" = some none)
    (b_sorted : PySem.W.nsIn K mainGlobals "sorted" = some none)
    (b_str : PySem.W.nsIn K mainGlobals "str" = some none)
    (b_sum : PySem.W.nsIn K mainGlobals "sum" = some none)
    (b_tuple : PySem.W.nsIn K mainGlobals "tuple" = some none)
    : ∃ T : Tops K mg, T.d_law.f = fa := by
  have e := hfa.symm.trans (PySem.W.mg_of X G a6)
  cases e
  refine ⟨{
    d_line_of := ⟨_, _, fun_mk (st := s_line_of) l0 c0 k0, PySem.W.mg_of X G a0⟩
    d_statement_text := ⟨_, _, fun_mk (st := s_statement_text) l1 c1 k1, PySem.W.mg_of X G a1⟩
    d__law_begun := ⟨_, _, fun_mk (st := s__law_begun) l2 c2 k2, PySem.W.mg_of X G a2⟩
    d__law_draw := ⟨_, _, fun_mk (st := s__law_draw) l3 c3 k3, PySem.W.mg_of X G a3⟩
    d__law_names := ⟨_, _, fun_mk (st := s__law_names) l4 c4 k4, PySem.W.mg_of X G a4⟩
    d__law_changed := ⟨_, _, fun_mk (st := s__law_changed) l5 c5 k5, PySem.W.mg_of X G a5⟩
    d_law := ⟨_, _, fun_mk (st := s_law) l6 c6 k6, PySem.W.mg_of X G a6⟩
    b_len := PySem.W.mg_none_of X G b_len
    b_max := PySem.W.mg_none_of X G b_max
    b_range := PySem.W.mg_none_of X G b_range
    b_repr := PySem.W.mg_none_of X G b_repr
    b_sorted := PySem.W.mg_none_of X G b_sorted
    b_str := PySem.W.mg_none_of X G b_str
    b_sum := PySem.W.mg_none_of X G b_sum
    b_tuple := PySem.W.mg_none_of X G b_tuple
  }, rfl⟩
theorem bind_law {K : PySem.W.Frag} {mg : Str → Option Value} (T : Tops K mg) (s : Shared) (u : Value) : BindsTo s T.d_law.fd ⟨[u], []⟩ [("_law_script", u)] := by
  obtain ⟨oc, od, kV, doc, pm, an, cdv, ct, osl, e, lk, hcd⟩ := T.d_law.F.ex
  rw [e]
  exact .of_eq rfl
theorem fin_mk {P : Program} {w : World} {K : PySem.W.Frag} {mg : Str → Option Value} {fa : Addr} (hT : ∃ T : Tops K mg, T.d_law.f = fa) : ∃ fd : FuncData, (∀ (s : Shared) (u : Value), BindsTo s fd ⟨[u], []⟩ [("_law_script", u)]) ∧ ∀ base : Heap, K.In base → base.Ns mainGlobals mg → FnG P w K mg base 3 fa fd ["_law_script"] (spD K 1 [] sp_law) := by
  obtain ⟨T, e⟩ := hT
  exact ⟨T.d_law.fd, fun s u => bind_law T s u, fun _ _ _ => e ▸ ok_law T⟩
end Cw
open PySem PySem.W PyProof.Rows
set_option maxRecDepth 100000 in
set_option maxHeartbeats 0 in
theorem PySem.Challenge.cw_coinplace_k76_statements_as_texts_holds : PySem.Challenge.rw_coinplace_k76_statements_as_texts.Holds := by
  w_on; o_law; k_head; (case hw => w_witness2)
  k_fill
  refine El.walkG (l := PySem.Challenge.rw_coinplace_k76_statements_as_texts) (n := 63) (k := 3) (x := "_law_script") (sp := Cw.sp_law) rfl (by decide) rfl ⟨rfl, by decide, by decide⟩ (fun w h Y => PySem.W.kIn_of Y) ?F (fun ns hn => Cw.q_law hn rfl)
  case F =>
    intro w mg fa h KX G hmg
    refine' Cw.fin_mk (Cw.all_mk' KX G (show mg "law" = some (Value.ref fa) from hmg) ?a0 ?l0 ?c0 ?k0 ?a1 ?l1 ?c1 ?k1 ?a2 ?l2 ?c2 ?k2 ?a3 ?l3 ?c3 ?k3 ?a4 ?l4 ?c4 ?k4 ?a5 ?l5 ?c5 ?k5 ?a6 ?l6 ?c6 ?k6 ?b_len ?b_max ?b_range ?b_repr ?b_sorted ?b_str ?b_sum ?b_tuple)
    (case a0 => k_is)
    (case l0 => k_is)
    (case c0 => k_is)
    (case k0 => k_is)
    (case a1 => k_is)
    (case l1 => k_is)
    (case c1 => k_is)
    (case k1 => k_is)
    (case a2 => k_is)
    (case l2 => k_is)
    (case c2 => k_is)
    (case k2 => k_is)
    (case a3 => k_is)
    (case l3 => k_is)
    (case c3 => k_is)
    (case k3 => k_is)
    (case a4 => k_is)
    (case l4 => k_is)
    (case c4 => k_is)
    (case k4 => k_is)
    (case a5 => k_is)
    (case l5 => k_is)
    (case c5 => k_is)
    (case k5 => k_is)
    (case a6 => k_is)
    (case l6 => k_is)
    (case c6 => k_is)
    (case k6 => k_is)
    (case b_len => k_is)
    (case b_max => k_is)
    (case b_range => k_is)
    (case b_repr => k_is)
    (case b_sorted => k_is)
    (case b_str => k_is)
    (case b_sum => k_is)
    (case b_tuple => k_is)

