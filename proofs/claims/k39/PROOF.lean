import PyProof.Rows.All
import Wide.All
import OpenK.AllK
import Wide.FinOn
import KE.KIsAll
import KE.KTryMore
import HandS.Base
import HandS.Call
import HandS.Exc
import HandS.ExcIs
import HandS.ExcValue
import HandS.IsInst
import HandS.ForExc
import HandS.Comp
import HandS.Dict
import HandS.Iter
import HandS.Walk
import HandS.Text
import HandS.Wide
import HandS.TupAny
import HandS.Lambda
import HandS.EndOwn
import HandS.TupMul
import HandS.Conv
import KE.KDictZip
import HandS.TupLe
import HandS.Zip
import HandS.Rev
import HandS.ExcOwn
import HandS.EndBits
import HandS.EndTab
import PySem.Challenge.RW_nextbyrule_k39_rows_from_a_place_on
set_option Elab.async false
set_option linter.all false
set_option maxRecDepth 100000
set_option autoImplicit false
set_option maxHeartbeats 4000000
/-! PfV: a caught exception is tracked as a value; isinstance of it -/
namespace Pf
open PySem PySem.Spec PyProof.Rows L2

/-- a caught exception of the class C, at a -/
def ExQ (C a : Addr) : HO := .ext fun h => ∃ (o : Obj) (fs : Array Value), h.get? a = some o ∧ Zc (.ref C) none o ∧ o.data = .fields fs
theorem exq_ok {P : Program} {w : World} {H : Hp} {h : Heap} {a C : Addr} {o : Obj} {fs : Array Value} (e : h.get? a = some o) (z : Zc (.ref C) none o) (d : o.data = .fields fs) : ObjOk P w H h a (ExQ C a) :=
  ⟨⟨o, fs, e, z, d⟩, ⟨o, e⟩, fun _ _ ⟨o', v, q, r⟩ k => ⟨o', v, k o' q, r⟩⟩
section
variable {X : Cx}
theorem isx_kit {pins : List (Addr × Obj)} {σ : L2.St} {H : Hp} {s : Shared} {a C : Addr} (I : Inv X pins σ H s) (h : H a = some (ExQ C a)) (E : ExcC X.K C) : ∃ P : Heap → Prop, PySem.W.KitX X.K (.ref a) (.ref C) P ∧ P s.heap := by
  obtain ⟨⟨o, fs, e, z, d⟩, _⟩ := (show ObjOk X.prog X.w H s.heap a (ExQ C a) from I.hok a _ h)
  refine ⟨fun g => PySem.W.InstAt g a o C none, PySem.W.handS_kitx_exc E.hg E.hk E.hs E.hd E.ha E.hn E.ht E.hm, ?_⟩
  obtain ⟨oc, od, dt, sl⟩ := o
  obtain ⟨z1, z2⟩ := z
  dsimp only at z1 z2 d
  subst z1 z2 d
  exact ⟨e, rfl, rfl, trivial⟩
/-- isinstance(e, c) -/
theorem call_isX1 : CallR X (.builtin "isinstance") (fun xs H Q => ∃ (a C : Addr) (c : V) (cv : Value) (b : Bool), xs = [.ref a, c] ∧ H a = some (ExQ C a) ∧ ExcC X.K C ∧ ClsV c cv ∧ PySem.W.kitOne X.K (.ref C) cv = some b ∧ Q (.bl b) H) := by
  intro pins s σ H xs us Q I r h
  obtain ⟨a, C, c, cv, b, rfl, ha, E, hc, e, q⟩ := h
  obtain ⟨u1, u2, rfl, r1, r2⟩ := vals2 r
  have e2 := hc.eq r2
  subst e2
  cases (show u1 = Value.ref a from r1)
  obtain ⟨P, Z, p⟩ := isx_kit I ha E
  exact PySem.W.kia_one Z I.kIn p e (fun z => nomatch z) fun tk => ⟨.bl b, H, I.tok tk, rfl, q⟩
/-- isinstance(e, (c, d, ..)) -/
theorem call_isXT : CallR X (.builtin "isinstance") (fun xs H Q => ∃ (a C tp : Addr) (cs : List V) (cvs : List Value) (b : Bool), xs = [.ref a, .ref tp] ∧ H a = some (ExQ C a) ∧ ExcC X.K C ∧ H tp = some (.tup cs) ∧ Paired ClsV cs cvs ∧ PySem.W.kitAny X.K (.ref C) cvs = some b ∧ Q (.bl b) H) := by
  intro pins s σ H xs us Q I r h
  obtain ⟨a, C, tp, cs, cvs, b, rfl, ha, E, hT, hc, e, q⟩ := h
  obtain ⟨u1, u2, rfl, r1, r2⟩ := vals2 r
  cases (show u1 = Value.ref a from r1)
  cases (show u2 = Value.ref tp from r2)
  obtain ⟨P, Z, p⟩ := isx_kit I ha E
  obtain ⟨_, its, rv, o, h1, h2, n, h3⟩ := (show ObjOk X.prog X.w H s.heap tp (.tup cs) from I.hok tp _ hT)
  have e3 := ClsV.all hc rv
  subst e3
  obtain ⟨oc, od, dt, sl⟩ := o
  dsimp only at h2 h3
  subst h2 h3
  exact PySem.W.kia_tup Z I.kIn p h1 e (fun z => nomatch z) fun tk => ⟨.bl b, H, I.tok tk, rfl, q⟩
end

/-! ### try: what is caught is kept -/
/-- what the clause wishes: the exception is its own, and stands in the slot -/
def wKeep (K : PySem.W.Frag) (c : Value) (i : Nat) (ts : TS) (D : Ends) : WX := fun cls d σ H =>
  ∃ C : Addr, cls = .ref C ∧ d = none ∧ PySem.W.exmOne K cls c = some true ∧
    ∀ a, H a = none → ts { nx := fun τ G => D.nx (τ.set i none) G, rt := D.rt, bk := fun τ G => D.bk (τ.set i none) G, ct := fun τ G => D.ct (τ.set i none) G } (σ.set i (some (.ref a))) (upd H a (ExQ C a))
section
variable {X : Cx} {pins : List (Addr × Obj)} {σ : L2.St} {H : Hp} {s sI : Shared}
/-- what lies in the heap but isn't tracked, and is new to us, is tracked from here on -/
theorem keep_inv {B : Heap} {h : Heap} {a C : Addr} {o : Obj} {fs : Array Value} (J : Inv X pins σ H sI) (nb : ∀ b o, sI.heap.get? b = some o → b ∉ frs X.stack → B.get? b = some o) (st : B.StaysIn h) (na : B.get? a = none) (up : sI.heap.UpToSlots h) (os : s.os = sI.os) (ag : AllBare s.gens) (hn : H a = none)
    (e : h.get? a = some o) (z : Zc (.ref C) none o) (d : o.data = .fields fs) : Inv X pins σ (upd H a (ExQ C a)) { s with heap := h } := by
  obtain ⟨G, g1, g2⟩ := restrict h fun b => decide (b ≠ a)
  have ga : G.get? a = none := g2 a (decide_eq_false fun q => q rfl)
  have gk : ∀ b u, b ≠ a → h.get? b = some u → G.get? b = some u := fun b u hb q => by rw [g1 b (decide_eq_true hb), q]
  have gs : ∀ b u, G.get? b = some u → h.get? b = some u := fun b u q => by
    by_cases hb : b = a
    · subst hb
      rw [ga] at q
      cases q
    · rw [← g1 b (decide_eq_true hb), q]
  have JG : Inv X pins σ H { s with heap := G } := by
    refine J.landed nb (fun b u q => gk b u (fun hb => ?_) (st b u q)) (fun b u q nf => ?_) os ag
    · subst hb
      rw [na] at q
      cases q
    · obtain ⟨sl, q2⟩ := up b u q nf
      refine ⟨sl, gk b _ (fun hb => ?_) q2⟩
      subst hb
      rw [e] at q2
      cases q2
      exact nf fs d
  exact JG.laidN (t' := s.toks) gs ga hn (exq_ok e z d)
theorem suite_inv (I : Inv X pins σ H s) (a : Addr) : Inv (X.suite a (X.pn ++ pins)) [] σ H s :=
  ⟨I.ok.suite _ _, I.os, I.bare, I.base, I.loc, I.cell, I.free, I.freeC, fun p hp => I.pin p (by rwa [List.append_nil] at hp), I.hok, I.len⟩
theorem unsuite_inv {a : Addr} {pn' : List (Addr × Obj)} (I : Inv (X.suite a (X.pn ++ pins)) pn' σ H s) (ok : X.Ok) : Inv X pins σ H s :=
  ⟨ok, I.os, I.bare, I.base, I.loc, I.cell, I.free, I.freeC, fun p hp => I.pin p (List.mem_append_left _ hp), I.hok, I.len⟩
end
section
variable {X : Cx} {x n : Str} {c : Value} {i : Nat} {body suite : List Stmt} {b₀ : Stmt} {np pos pos' : Pos} {tb : WX → TS} {ts : TS}
theorem ps_try_keep (hstk : X.stack = X.env :: X.outer) (hfm : X.env.frame = some X.env.locals) (hN : X.N.Nodup) (hi : X.N[i]? = some n) (hln : X.env.kindOf n = some .local) (hc : Names X x c)
    (hb : ∀ (W : WX) (pn : List (Addr × Obj)) (xe : Value → Shared → Prop), Takes (X.tr pn xe) W → PassesOwn (model X.prog X.w) X.A X.env xe → PSs (X.tr pn xe) body (tb W))
    (hsu : ∀ (a : Addr) (pn : List (Addr × Obj)), PSs (X.suite a pn) (b₀ :: suite) ts) :
    L2.PS X (.Try body [.ExceptHandler (some (.Name x np)) (some n) (b₀ :: suite) pos'] [] [] pos) (fun D σ H => tb (wKeep X.K c i ts D) D σ H) := by
  refine ⟨fun pins s σ H D I h => ?_⟩
  have ok := I.ok
  have hfr : X.A.frames = some (X.env :: X.outer) := by
    rw [ok.frames, hstk]
  have hloc : Loc X.env.scope n := .inl hln
  have run := (hb (wKeep X.K c i ts D) (X.pn ++ pins) (fun e t1 => wpAny (model X.prog X.w) X.A (noteFrame e X.env) (fun _ t2 => wpAny (model X.prog X.w) X.A (setFlight e none)
    (fun _ t3 => wpAny (model X.prog X.w) X.A (handleBy e X.env [.ExceptHandler (some (.Name x np)) (some n) (b₀ :: suite) pos']) (SP X pins D) X.xe t3) X.xe t2) X.xe t1) ?_ PassesOwn.looking).run [] s σ H D (I.toTry _) h
  · refine wpAny_Try_except (wpAny_mono run (fun f t hsp => ?_) fun _ _ q => q)
    cases f with
    | next =>
      obtain ⟨τ, G, J, q⟩ := hsp
      exact wpAny_execs_nil ⟨τ, G, J.ofTry ok, q⟩
    | brk =>
      obtain ⟨τ, G, J, q⟩ := hsp
      exact ⟨τ, G, J.ofTry ok, q⟩
    | cont =>
      obtain ⟨τ, G, J, q⟩ := hsp
      exact ⟨τ, G, J.ofTry ok, q⟩
    | ret u =>
      obtain ⟨v, τ, G, J, r, q⟩ := hsp
      exact ⟨v, τ, G, J.ofTry ok, r, q⟩
  · rintro u t ⟨a, B, sI, qs, τ, G, cls, d, rfl, J0, nb, up, sky, na, os, ag, C, rfl, rfl, hex, hgo⟩
    have J : Inv X pins τ G sI := J0.ofTry ok
    have sky2 : Sky B (X.env :: X.outer) a (Zc (.ref C) none) X.env.locals t.heap := by
      rw [← hstk]
      exact sky
    show wpAny (model X.prog X.w) X.A (noteFrame (.ref a) X.env) _ _ _
    refine Sky.land Zc.steady hfr hfm sky2 fun g1 fl1 up1 => ?_
    obtain ⟨o1, f1, e1, z1, d1⟩ := fl1.there
    have K1 := keep_inv (s := t) J nb fl1.1 fl1.2.1 (up.trans up1) os ag na e1 z1 d1
    have S1 := suite_inv K1 a
    have LT : PySem.W.Looks (model X.prog X.w) g1 (typeOf (.ref a)) (.ref C) := fun A Q E s k q => wpAny_typeOf_ref (k _ _ e1) (by
      rw [z1.1]
      exact q)
    have LM := PySem.W.exm_one (M := model X.prog X.w) K1.kIn LT hex
    refine wpAny_handleBy_cons (codeAny_handlers_test ?_) (by intro q; cases q)
    have test : ∀ {Q : Value → Shared → Prop} {E : Value → Shared → Prop}, Q c { t with heap := g1 } → wpAny (model X.prog X.w) (X.A.mark (some (.ref a))) (eval (.Name x np) X.env) Q E { t with heap := g1 } := by
      intro Q E q
      obtain ⟨hg, hd, hm | ⟨hm, hv, hne⟩⟩ := hc
      · exact ld_glob (X := X.suite a (X.pn ++ pins)) S1 hg hm q hd
      · exact ld_blt (X := X.suite a (X.pn ++ pins)) S1 hg hm hv q hne hd
    refine test (LM.here (codeAny_handlers_suite_as ?_))
    refine HandSPX.lands_againZ fl1 fun g2 fl2 up2 => ?_
    obtain ⟨o2, f2, e2, z2, d2⟩ := fl2.there
    have K2 := keep_inv (s := t) J nb fl2.1 fl2.2.1 ((up.trans up1).trans up2) os ag na e2 z2 d2
    have S2 := suite_inv K2 a
    refine store_ok (X := X.suite a (X.pn ++ pins)) (v := .ref a) S2 hN hi hloc rfl (fun t5 S5 => ?_) (.inr hln)
    refine wpAny_mono ((hsu a (X.pn ++ pins)).run [] t5 _ _ _ S5 (hgo a na)) (fun f t6 hsp => ?_) fun _ _ q => False.elim q
    have fin : ∀ {τ6 : L2.St} {G6 : Hp} {Q : Shared → Prop}, Inv (X.suite a (X.pn ++ pins)) [] τ6 G6 t6 → (∀ t7, Inv X pins (τ6.set i none) G6 t7 → Q t7) →
        wpAny (model X.prog X.w) X.A (do bindName X.env n .none; unbindBehindTheSuite X.env n pos') (fun _ t7 => Q t7) X.xe t6 := fun {τ6 G6 Q} S6 hq => gone_ok (unsuite_inv S6 ok) hN hi hln hq
    cases f with
    | next =>
      obtain ⟨τ6, G6, S6, q6⟩ := hsp
      exact fin S6 fun t7 J7 => ⟨_, _, J7, q6⟩
    | brk =>
      obtain ⟨τ6, G6, S6, q6⟩ := hsp
      exact fin S6 fun t7 J7 => ⟨_, _, J7, q6⟩
    | cont =>
      obtain ⟨τ6, G6, S6, q6⟩ := hsp
      exact fin S6 fun t7 J7 => ⟨_, _, J7, q6⟩
    | ret u =>
      obtain ⟨v6, τ6, G6, S6, r6, q6⟩ := hsp
      exact fin S6 fun t7 J7 => ⟨_, _, _, J7, r6, q6⟩
end
end Pf

set_option Elab.async false
set_option linter.all false
set_option maxRecDepth 100000
set_option autoImplicit false
/-! Pf1: plain values, how the abstract heap holds them, what a def's frame owns -/
namespace Pf
open PySem PySem.Spec PyProof.Rows L2

/-- a plain value: lists are values -/
inductive PV where
  | non | bl (b : Bool) | int (i : Int) | str (s : Str)
  | lst (xs : List PV) | tup (xs : List PV)
  /-- a list that is only read -/
  | rl (xs : List PV)
  | dk (ks : List Key) (vs : List PV)
  | exc (c : Nat)

inductive R (α : Type) where
  | ok (a : α) | exn (c : Nat) | bad

def R.bind {α β : Type} : R α → (α → R β) → R β
  | .ok a, f => f a
  | .exn c, _ => .exn c
  | .bad, _ => .bad
@[simp] theorem R.bind_ok {α β : Type} (a : α) (f : α → R β) : (R.ok a).bind f = f a := rfl
@[simp] theorem R.bind_exn {α β : Type} (c : Nat) (f : α → R β) : (R.exn c : R α).bind f = .exn c := rfl
@[simp] theorem R.bind_bad {α β : Type} (f : α → R β) : (R.bad : R α).bind f = .bad := rfl

/-! ### held -/
/-- the program's own classes of errors -/
def exNm (c : Nat) : Str := (["RuleError", "NoNumber", "NoBy", "NoText", "TooFar", "TooLong", "TooBig", "NoRow", "NoName"] : List Str).getD c ""
def clsIs (K : PySem.W.Frag) (c : Nat) (C : Addr) : Prop := PySem.W.nsIn K mainGlobals (exNm c) = some (some (.ref C))
mutual
def Rep (K : PySem.W.Frag) (G : Hp) : PV → V → Prop
  | .non, v => v = .non
  | .bl b, v => v = .bl b
  | .int i, v => v = .int i
  | .str s, v => v = .str s
  | .lst xs, v => ∃ a vs, v = .ref a ∧ G a = some (.lst vs) ∧ Reps K G xs vs
  | .tup xs, v => ∃ a vs, v = .ref a ∧ SqT K G a vs ∧ Reps K G xs vs
  | .rl xs, v => ∃ a vs, v = .ref a ∧ SqL K G a vs ∧ Reps K G xs vs
  | .dk ks xs, v => ∃ a kvs, v = .ref a ∧ G a = some (.dK kvs) ∧ kvs.map (·.1) = ks ∧ Reps K G xs (kvs.map (·.2))
  | .exc c, v => ∃ a C, v = .ref a ∧ clsIs K c C ∧ G a = some (ExQ C a)
def Reps (K : PySem.W.Frag) (G : Hp) : List PV → List V → Prop
  | [], vs => vs = []
  | x :: xs, vs => ∃ v r, vs = v :: r ∧ Rep K G x v ∧ Reps K G xs r
end

theorem same_seqT {K : PySem.W.Frag} {H H' : Hp} {a : Addr} {xs : List V} (e : Same H H') (h : SqT K H a xs) : SqT K H' a xs := by
  rcases h with (h | ⟨o, h⟩) | h
  · exact .inl (.inl (e _ _ h))
  · exact .inl (.inr ⟨o, e _ _ h⟩)
  · exact .inr h

mutual
theorem Rep.mono {K : PySem.W.Frag} {G G' : Hp} (s : Same G G') : ∀ {x : PV} {v : V}, Rep K G x v → Rep K G' x v
  | .non, _, h => by simpa [Rep] using h
  | .bl _, _, h => by simpa [Rep] using h
  | .int _, _, h => by simpa [Rep] using h
  | .str _, _, h => by simpa [Rep] using h
  | .lst xs, v, h => by
    simp only [Rep] at h ⊢
    obtain ⟨a, vs, e, g, r⟩ := h
    exact ⟨a, vs, e, s _ _ g, Reps.mono s r⟩
  | .tup xs, v, h => by
    simp only [Rep] at h ⊢
    obtain ⟨a, vs, e, g, r⟩ := h
    exact ⟨a, vs, e, same_seqT s g, Reps.mono s r⟩
  | .rl xs, v, h => by
    simp only [Rep] at h ⊢
    obtain ⟨a, vs, e, g, r⟩ := h
    exact ⟨a, vs, e, s.seq g, Reps.mono s r⟩
  | .dk ks xs, v, h => by
    simp only [Rep] at h ⊢
    obtain ⟨a, kvs, e, g, k, r⟩ := h
    exact ⟨a, kvs, e, s _ _ g, k, Reps.mono s r⟩
  | .exc c, v, h => by
    simp only [Rep] at h ⊢
    obtain ⟨a, C, e, k, g⟩ := h
    exact ⟨a, C, e, k, s _ _ g⟩
theorem Reps.mono {K : PySem.W.Frag} {G G' : Hp} (s : Same G G') : ∀ {xs : List PV} {vs : List V}, Reps K G xs vs → Reps K G' xs vs
  | [], _, h => by simpa [Reps] using h
  | x :: xs, vs, h => by
    simp only [Reps] at h ⊢
    obtain ⟨v, r, e, h1, h2⟩ := h
    exact ⟨v, r, e, Rep.mono s h1, Reps.mono s h2⟩
end

section
variable {K : PySem.W.Frag} {G : Hp}
theorem rep_int {i : Int} {v : V} : Rep K G (.int i) v ↔ v = .int i := by simp [Rep]
theorem rep_bl {b : Bool} {v : V} : Rep K G (.bl b) v ↔ v = .bl b := by simp [Rep]
theorem rep_non {v : V} : Rep K G .non v ↔ v = .non := by simp [Rep]
theorem rep_str {s : Str} {v : V} : Rep K G (.str s) v ↔ v = .str s := by simp [Rep]
theorem rep_lst {xs : List PV} {v : V} : Rep K G (.lst xs) v ↔ ∃ a vs, v = .ref a ∧ G a = some (.lst vs) ∧ Reps K G xs vs := by simp only [Rep]
theorem rep_tup {xs : List PV} {v : V} : Rep K G (.tup xs) v ↔ ∃ a vs, v = .ref a ∧ SqT K G a vs ∧ Reps K G xs vs := by simp only [Rep]
theorem rep_rl {xs : List PV} {v : V} : Rep K G (.rl xs) v ↔ ∃ a vs, v = .ref a ∧ SqL K G a vs ∧ Reps K G xs vs := by simp only [Rep]
theorem rep_exc {c : Nat} {v : V} : Rep K G (.exc c) v ↔ ∃ a C, v = .ref a ∧ clsIs K c C ∧ G a = some (ExQ C a) := by simp only [Rep]
theorem reps_nil {vs : List V} : Reps K G [] vs ↔ vs = [] := by simp only [Reps]
theorem reps_cons {x : PV} {xs : List PV} {vs : List V} : Reps K G (x :: xs) vs ↔ ∃ v r, vs = v :: r ∧ Rep K G x v ∧ Reps K G xs r := by simp only [Reps]
theorem Reps.length : ∀ {xs : List PV} {vs : List V}, Reps K G xs vs → vs.length = xs.length
  | [], _, h => by rw [reps_nil.mp h]; rfl
  | x :: xs, vs, h => by
    obtain ⟨v, r, e, _, h2⟩ := reps_cons.mp h
    subst e
    simp [Reps.length h2]
theorem Reps.get : ∀ {xs : List PV} {vs : List V} {i : Nat} {x : PV}, Reps K G xs vs → xs[i]? = some x → ∃ v, vs[i]? = some v ∧ Rep K G x v
  | [], _, _, _, _, e => by simp at e
  | y :: xs, vs, 0, x, h, e => by
    obtain ⟨v, r, e', h1, _⟩ := reps_cons.mp h
    subst e'
    simp at e
    subst e
    exact ⟨v, rfl, h1⟩
  | y :: xs, vs, i + 1, x, h, e => by
    obtain ⟨v, r, e', _, h2⟩ := reps_cons.mp h
    subst e'
    obtain ⟨u, q, z⟩ := Reps.get (i := i) (x := x) h2 (by simpa using e)
    exact ⟨u, by simpa using q, z⟩
theorem Reps.get' {xs : List PV} {vs : List V} {i : Nat} {v : V} (h : Reps K G xs vs) (e : vs[i]? = some v) : ∃ x, xs[i]? = some x ∧ Rep K G x v := by
  have hl := h.length
  have hi : i < xs.length := by
    have := (List.getElem?_eq_some_iff.mp e).1
    omega
  obtain ⟨u, q, z⟩ := h.get (List.getElem?_eq_getElem hi)
  rw [e] at q
  cases q
  exact ⟨_, List.getElem?_eq_getElem hi, z⟩
theorem Reps.append : ∀ {xs ys : List PV} {vs us : List V}, Reps K G xs vs → Reps K G ys us → Reps K G (xs ++ ys) (vs ++ us)
  | [], _, _, _, h, h' => by rw [reps_nil.mp h]; exact h'
  | x :: xs, ys, vs, us, h, h' => by
    obtain ⟨v, r, e, h1, h2⟩ := reps_cons.mp h
    subst e
    exact reps_cons.mpr ⟨v, r ++ us, rfl, h1, h2.append h'⟩
theorem Reps.set : ∀ {xs : List PV} {vs : List V} {x : PV} {v : V} (i : Nat), Reps K G xs vs → Rep K G x v → Reps K G (xs.set i x) (vs.set i v)
  | [], _, _, _, _, h, _ => by rw [reps_nil.mp h]; exact reps_nil.mpr rfl
  | y :: xs, vs, x, v, 0, h, hx => by
    obtain ⟨u, r, e, _, h2⟩ := reps_cons.mp h
    subst e
    exact reps_cons.mpr ⟨v, r, rfl, hx, h2⟩
  | y :: xs, vs, x, v, i + 1, h, hx => by
    obtain ⟨u, r, e, h1, h2⟩ := reps_cons.mp h
    subst e
    exact reps_cons.mpr ⟨u, r.set i v, rfl, h1, Reps.set i h2 hx⟩
theorem Reps.take : ∀ {xs : List PV} {vs : List V} (n : Nat), Reps K G xs vs → Reps K G (xs.take n) (vs.take n)
  | _, _, 0, _ => by simp [reps_nil]
  | [], _, n + 1, h => by rw [reps_nil.mp h]; exact reps_nil.mpr rfl
  | x :: xs, vs, n + 1, h => by
    obtain ⟨v, r, e, h1, h2⟩ := reps_cons.mp h
    subst e
    exact reps_cons.mpr ⟨v, r.take n, rfl, h1, Reps.take n h2⟩
theorem Reps.drop : ∀ {xs : List PV} {vs : List V} (n : Nat), Reps K G xs vs → Reps K G (xs.drop n) (vs.drop n)
  | _, _, 0, h => by simpa using h
  | [], _, n + 1, h => by rw [reps_nil.mp h]; exact reps_nil.mpr rfl
  | x :: xs, vs, n + 1, h => by
    obtain ⟨v, r, e, h1, h2⟩ := reps_cons.mp h
    subst e
    simpa using Reps.drop n h2
theorem Reps.snoc {xs : List PV} {vs : List V} {x : PV} {v : V} (h : Reps K G xs vs) (hx : Rep K G x v) : Reps K G (xs ++ [x]) (vs ++ [v]) :=
  h.append (reps_cons.mpr ⟨v, [], rfl, hx, reps_nil.mpr rfl⟩)
theorem Reps.rep {xs : List PV} {vs : List V} (h : Reps K G xs vs) : ∀ n : Nat, Reps K G (List.replicate n xs).flatten (List.replicate n vs).flatten
  | 0 => by simp [reps_nil]
  | n + 1 => by
    rw [List.replicate_succ, List.replicate_succ, List.flatten_cons, List.flatten_cons]
    exact h.append (Reps.rep h n)
theorem Reps.reverse : ∀ {xs : List PV} {vs : List V}, Reps K G xs vs → Reps K G xs.reverse vs.reverse
  | [], _, h => by rw [reps_nil.mp h]; exact reps_nil.mpr rfl
  | x :: xs, vs, h => by
    obtain ⟨v, r, e, h1, h2⟩ := reps_cons.mp h
    subst e
    rw [List.reverse_cons, List.reverse_cons]
    exact (Reps.reverse h2).snoc h1
theorem reps_ints : ∀ {ns : List Int} {vs : List V}, Reps K G (ns.map PV.int) vs ↔ vs = ns.map V.int
  | [], vs => by simp [reps_nil]
  | n :: ns, vs => by
    rw [List.map_cons, reps_cons, List.map_cons]
    constructor
    · rintro ⟨v, r, e, h1, h2⟩
      rw [e, rep_int.mp h1, reps_ints.mp h2]
    · intro e
      exact ⟨_, _, e, rep_int.mpr rfl, reps_ints.mpr rfl⟩
theorem reps_bls : ∀ {ns : List Bool} {vs : List V}, Reps K G (ns.map PV.bl) vs ↔ vs = ns.map V.bl
  | [], vs => by simp [reps_nil]
  | n :: ns, vs => by
    rw [List.map_cons, reps_cons, List.map_cons]
    constructor
    · rintro ⟨v, r, e, h1, h2⟩
      rw [e, rep_bl.mp h1, reps_bls.mp h2]
    · intro e
      exact ⟨_, _, e, rep_bl.mpr rfl, reps_bls.mpr rfl⟩
theorem reps_strs : ∀ {ns : List Str} {vs : List V}, Reps K G (ns.map PV.str) vs ↔ vs = ns.map V.str
  | [], vs => by simp [reps_nil]
  | n :: ns, vs => by
    rw [List.map_cons, reps_cons, List.map_cons]
    constructor
    · rintro ⟨v, r, e, h1, h2⟩
      rw [e, rep_str.mp h1, reps_strs.mp h2]
    · intro e
      exact ⟨_, _, e, rep_str.mpr rfl, reps_strs.mpr rfl⟩
end

/-! ### heaps: G what is settled (never changed again), H all that is tracked -/
/-- the tables of code objects that may grow: where they stand, and the name of what they tell -/
class Tbc where
  T : List (Addr × Str)
variable [Tbc]
theorem Tabs.of {T : List (Addr × Str)} {H H' : Hp} (t : LamX.Tabs T H) (hk : ∀ b o, H b = some o → (∀ ps, o ≠ .tbl ps) → H' b = some o) (ht : ∀ p ∈ T, H' p.1 = H p.1) : LamX.Tabs T H' := fun p hp => by
  obtain ⟨ps, h1, h2, h3⟩ := t p hp
  refine ⟨ps, (ht p hp).trans h1, h2, fun pos cv hc => ?_⟩
  obtain ⟨c, e1, e2⟩ := h3 pos cv hc
  exact ⟨c, e1, hk _ _ e2 (LamX.codeO_ne)⟩
/-- what is tracked stays; tables grow -/
structure SameT (H H' : Hp) : Prop where
  k : ∀ b o, H b = some o → (∀ ps, o ≠ .tbl ps) → H' b = some o
  t : ∀ b ps, H b = some (.tbl ps) → ∃ more, H' b = some (.tbl (ps ++ more))
  tb : LamX.Tabs Tbc.T H → LamX.Tabs Tbc.T H'
theorem SameT.of {H H' : Hp} (s : Same H H') : SameT H H' := ⟨fun b o e _ => s b o e, fun b ps e => ⟨#[], by rw [s _ _ e]; simp⟩, fun t => LamX.Tabs.ext t s⟩
theorem SameT.refl (H : Hp) : SameT H H := .of (Same.refl H)
theorem SameT.trans {H H1 H2 : Hp} (a : SameT H H1) (b : SameT H1 H2) : SameT H H2 :=
  ⟨fun c o e n => b.k c o (a.k c o e n) n, fun c ps e => by
    obtain ⟨m1, e1⟩ := a.t c ps e
    obtain ⟨m2, e2⟩ := b.t c _ e1
    exact ⟨m1 ++ m2, by rw [e2, Array.append_assoc]⟩, fun t => b.tb (a.tb t)⟩
theorem SameT.there {H H' : Hp} (s : SameT H H') {b : Addr} {o : HO} (e : H b = some o) : ∃ o', H' b = some o' := by
  by_cases h : ∃ ps, o = .tbl ps
  · obtain ⟨ps, rfl⟩ := h
    obtain ⟨m, e1⟩ := s.t b ps e
    exact ⟨_, e1⟩
  · exact ⟨o, s.k b o e fun ps z => h ⟨ps, z⟩⟩
theorem SameT.free {H H' : Hp} (s : SameT H H') {b : Addr} (h : H' b = none) : H b = none := by
  cases e : H b with
  | none => rfl
  | some o =>
    obtain ⟨o', e'⟩ := s.there e
    rw [h] at e'
    cases e'
theorem SameT.lst {H H' : Hp} (s : SameT H H') {b : Addr} {vs : List V} (e : H b = some (.lst vs)) : H' b = some (.lst vs) := s.k b _ e fun _ z => by cases z
theorem Tabs.put {H : Hp} {D : Addr} {acc us : List V} (h : H D = some (.lst acc)) (t : LamX.Tabs Tbc.T H) : LamX.Tabs Tbc.T (upd H D (.lst us)) := fun p hp => by
  obtain ⟨ps, q1, q2, q3⟩ := t p hp
  have np : p.1 ≠ D := fun z => by
    rw [z, h] at q1
    cases q1
  refine ⟨ps, by rw [upd_ne np]; exact q1, q2, fun pos cv hc => ?_⟩
  obtain ⟨c, e1, e2⟩ := q3 pos cv hc
  refine ⟨c, e1, ?_⟩
  rw [upd_ne fun z => ?_]
  · exact e2
  · rw [z, h] at e2
    cases e2
/-- a list that is new since H is written -/
theorem SameT.put {H H' : Hp} {D : Addr} {acc us : List V} (s : SameT H H') (n : H D = none) (h : H' D = some (.lst acc)) : SameT H (upd H' D (.lst us)) := by
  refine ⟨fun b u q hn => ?_, fun b ps q => ?_, fun t => Tabs.put h (s.tb t)⟩
  · rw [upd_ne (ne_of_none q n)]
    exact s.k b u q hn
  · rw [upd_ne (ne_of_none q n)]
    exact s.t b ps q
theorem SameT.low {G H H' : Hp} (s : SameT H H') (g : Same G H) (n : ∀ b ps, G b ≠ some (.tbl ps)) : Same G H' := fun b o e => s.k b o (g b o e) fun ps z => n b ps (by rw [e, z])
/-- of what is settled none is a table -/
structure Clean (G H : Hp) : Prop where
  nt : ∀ b ps, G b ≠ some (.tbl ps)
  tb : LamX.Tabs Tbc.T H
structure Ext (G H G' H' : Hp) : Prop where
  hh : SameT H H'
  gh : Same G' H'
  old : ∀ b o, H b = some o → G' b = G b
  nt : ∀ b ps, G' b = some (.tbl ps) → G b = some (.tbl ps)
theorem Ext.gg {G H G' H' : Hp} (s : Same G H) (e : Ext G H G' H') : Same G G' := fun b o q => by rw [e.old b o (s b o q)]; exact q
theorem Ext.refl {G H : Hp} (s : Same G H) : Ext G H G H := ⟨SameT.refl _, s, fun _ _ _ => rfl, fun _ _ h => h⟩
theorem Ext.trans {G H G1 H1 G2 H2 : Hp} (a : Ext G H G1 H1) (b : Ext G1 H1 G2 H2) : Ext G H G2 H2 :=
  ⟨a.hh.trans b.hh, b.gh, fun c o q => (let ⟨o', q'⟩ := a.hh.there q; (b.old c o' q').trans (a.old c o q)), fun c ps h => a.nt c ps (b.nt c ps h)⟩
theorem Ext.clean {G H G' H' : Hp} (e : Ext G H G' H') (c : Clean G H) : Clean G' H' := ⟨fun b ps h => c.nt b ps (e.nt b ps h), e.hh.tb c.tb⟩
theorem same_upd {H : Hp} {p : Addr} {o : HO} (h : H p = none) : Same H (upd H p o) := fun b x e => by
  rw [upd_ne (ne_of_none e h)]
  exact e
theorem nt_upd {G : Hp} {p : Addr} {o : HO} (n : ∀ ps, o ≠ .tbl ps) (b : Addr) (ps : Array Value) (h : upd G p o b = some (.tbl ps)) : G b = some (.tbl ps) := by
  by_cases hb : b = p
  · subst hb
    rw [upd_same] at h
    exact absurd (Option.some.inj h) (n ps)
  · rw [upd_ne hb] at h
    exact h
/-- a new object, settled -/
theorem Ext.new {G H : Hp} {p : Addr} {o : HO} (s : Same G H) (h : H p = none) (n : ∀ ps, o ≠ .tbl ps := by intro _ z; cases z) : Ext G H (upd G p o) (upd H p o) := by
  refine ⟨.of (same_upd h), fun b x e => ?_, fun b x e => upd_ne (ne_of_none e h), nt_upd n⟩
  by_cases hb : b = p
  · subst hb
    rw [upd_same] at e ⊢
    exact e
  · rw [upd_ne hb] at e ⊢
    exact s b x e
/-- a new object, not settled -/
theorem Ext.fresh {G H : Hp} {p : Addr} {o : HO} (s : Same G H) (h : H p = none) : Ext G H G (upd H p o) :=
  ⟨.of (same_upd h), fun b x e => by rw [upd_ne (ne_of_none (s b x e) h)]; exact s b x e, fun _ _ _ => rfl, fun _ _ h => h⟩
/-- what stands there is settled -/
theorem Ext.settle {G H G1 H1 : Hp} {p : Addr} {o : HO} (e : Ext G H G1 H1) (h : H p = none) (h1 : H1 p = some o) (n : ∀ ps, o ≠ .tbl ps := by intro _ z; cases z) : Ext G H (upd G1 p o) H1 := by
  refine ⟨e.hh, fun b x q => ?_, fun b x q => ?_, fun b ps q => e.nt b ps (nt_upd n b ps q)⟩
  · by_cases hb : b = p
    · subst hb
      rw [upd_same] at q
      rw [h1]
      exact q
    · rw [upd_ne hb] at q
      exact e.gh b x q
  · rw [upd_ne (ne_of_none q h)]
    exact e.old b x q

/-! ### a frame's slots -/
inductive SV where
  | no | sh (v : PV) | ow (xs : List PV)
  /-- what is called, a lambda -/
  | fn
abbrev Env := List SV

structure Bd where
  G0 : Hp
  H0 : Hp
  L : Hp
/-- of a def that got a lambda: where it stands, and the heaps that it started from -/
class Tlc where
  fa : Addr
  G0 : Hp
  H0 : Hp
variable [Tlc]
def SlotOk (K : PySem.W.Frag) (B : Bd) (G H : Hp) : SV → Option V → Prop
  | .no, _ => True
  | .sh x, o => ∃ v, o = some v ∧ Rep K G x v
  | .ow xs, o => ∃ a vs, o = some (.ref a) ∧ H a = some (.lst vs) ∧ G a = none ∧ B.H0 a = none ∧ Reps K G xs vs
  | .fn, o => o = some (.ref Tlc.fa) ∧ B.G0 = Tlc.G0 ∧ B.H0 = Tlc.H0

structure Ow (K : PySem.W.Frag) (B : Bd) (ρ : Env) (σ : L2.St) (G H : Hp) : Prop where
  ext : Ext B.G0 B.H0 G H
  cl : Clean G H
  low : Same B.L G
  len : σ.length = ρ.length
  slot : ∀ (i : Nat) (s : SV), ρ[i]? = some s → SlotOk K B G H s (σ[i]?.getD none)
  apart : ∀ (i j : Nat) (xs ys : List PV) (a : Addr), ρ[i]? = some (.ow xs) → ρ[j]? = some (.ow ys) → σ[i]? = some (some (.ref a)) → σ[j]? = some (some (.ref a)) → i = j

section
variable {K : PySem.W.Frag} {B : Bd} {ρ : Env} {σ : L2.St} {G H G' H' : Hp}
theorem Ow.gh (o : Ow K B ρ σ G H) : Same G H := o.ext.gh
theorem SlotOk.mono {s : SV} {o : Option V} (sg : Same G G') (hh : ∀ a vs, H a = some (.lst vs) → G a = none → B.H0 a = none → H' a = some (.lst vs) ∧ G' a = none) (h : SlotOk K B G H s o) : SlotOk K B G' H' s o := by
  cases s with
  | no => exact h
  | sh x =>
    obtain ⟨v, e, r⟩ := h
    exact ⟨v, e, r.mono sg⟩
  | ow xs =>
    obtain ⟨a, vs, e, h1, h2, h3, r⟩ := h
    exact ⟨a, vs, e, (hh a vs h1 h2 h3).1, (hh a vs h1 h2 h3).2, h3, r.mono sg⟩
  | fn => exact h
theorem Ow.step (o : Ow K B ρ σ G H) (e : Ext G H G' H') : Ow K B ρ σ G' H' :=
  ⟨o.ext.trans e, e.clean o.cl, o.low.trans (e.gg o.gh), o.len, fun i s h => (o.slot i s h).mono (e.gg o.gh) fun a vs h1 h2 _ => ⟨e.hh.lst h1, by rw [e.old _ _ h1]; exact h2⟩, o.apart⟩
theorem Ow.relow (o : Ow K B ρ σ G H) {L : Hp} (s : Same L G) : Ow K ⟨B.G0, B.H0, L⟩ ρ σ G H := ⟨o.ext, o.cl, s, o.len, fun i s h => by
  have q := o.slot i s h
  cases s <;> exact q, o.apart⟩
/-- a settled value at a slot -/
theorem Ow.sh (o : Ow K B ρ σ G H) {i : Nat} {x : PV} (h : ρ[i]? = some (.sh x)) : ∃ v, σ[i]? = some (some v) ∧ Rep K G x v := by
  obtain ⟨v, e, r⟩ := o.slot i _ h
  refine ⟨v, ?_, r⟩
  cases q : σ[i]? with
  | none => rw [q] at e; cases e
  | some z => rw [q] at e; exact congrArg some e
theorem Ow.ow (o : Ow K B ρ σ G H) {i : Nat} {xs : List PV} (h : ρ[i]? = some (.ow xs)) : ∃ a vs, σ[i]? = some (some (.ref a)) ∧ H a = some (.lst vs) ∧ G a = none ∧ B.H0 a = none ∧ Reps K G xs vs := by
  obtain ⟨a, vs, e, r⟩ := o.slot i _ h
  refine ⟨a, vs, ?_, r⟩
  cases q : σ[i]? with
  | none => rw [q] at e; cases e
  | some z => rw [q] at e; exact congrArg some e

theorem getD_set {i j : Nat} {x : Option V} (h : i < σ.length) : (σ.set i x)[j]?.getD none = if j = i then x else σ[j]?.getD none := by
  by_cases hj : j = i
  · subst hj
    rw [if_pos rfl, List.getElem?_set_self h]
    rfl
  · rw [if_neg hj, List.getElem?_set_ne (Ne.symm hj)]
/-- a slot stored with a settled value -/
theorem Ow.setSh (o : Ow K B ρ σ G H) {i : Nat} {x : PV} {v : V} (hi : i < ρ.length) (r : Rep K G x v) : Ow K B (ρ.set i (.sh x)) (σ.set i (some v)) G H := by
  have hi' : i < σ.length := by rw [o.len]; exact hi
  refine ⟨o.ext, o.cl, o.low, by simp [o.len], fun j s h => ?_, fun j k xs ys a h1 h2 h3 h4 => ?_⟩
  · rw [getD_set hi']
    by_cases hj : j = i
    · subst hj
      rw [List.getElem?_set_self hi] at h
      cases h
      rw [if_pos rfl]
      exact ⟨v, rfl, r⟩
    · rw [List.getElem?_set_ne (Ne.symm hj)] at h
      rw [if_neg hj]
      exact o.slot j s h
  · have n1 : j ≠ i := fun e => by
      subst e
      rw [List.getElem?_set_self hi] at h1
      cases h1
    have n2 : k ≠ i := fun e => by
      subst e
      rw [List.getElem?_set_self hi] at h2
      cases h2
    rw [List.getElem?_set_ne (Ne.symm n1)] at h1 h3
    rw [List.getElem?_set_ne (Ne.symm n2)] at h2 h4
    exact o.apart j k xs ys a h1 h2 h3 h4
/-- a slot stored with a new list of its own -/
theorem Ow.setOw (o : Ow K B ρ σ G H) {i : Nat} {xs : List PV} {a : Addr} {vs : List V} (hi : i < ρ.length) (h1 : H a = some (.lst vs)) (h2 : G a = none) (h3 : B.H0 a = none) (r : Reps K G xs vs)
    (new : ∀ (j : Nat) (ys : List PV), ρ[j]? = some (.ow ys) → j ≠ i → σ[j]? ≠ some (some (.ref a))) : Ow K B (ρ.set i (.ow xs)) (σ.set i (some (.ref a))) G H := by
  have hi' : i < σ.length := by rw [o.len]; exact hi
  refine ⟨o.ext, o.cl, o.low, by simp [o.len], fun j s h => ?_, fun j k xs' ys a' g1 g2 g3 g4 => ?_⟩
  · rw [getD_set hi']
    by_cases hj : j = i
    · subst hj
      rw [List.getElem?_set_self hi] at h
      cases h
      rw [if_pos rfl]
      exact ⟨a, vs, rfl, h1, h2, h3, r⟩
    · rw [List.getElem?_set_ne (Ne.symm hj)] at h
      rw [if_neg hj]
      exact o.slot j s h
  · by_cases hj : j = i
    · by_cases hk : k = i
      · rw [hj, hk]
      · subst hj
        rw [List.getElem?_set_self hi'] at g3
        cases g3
        rw [List.getElem?_set_ne (Ne.symm hk)] at g2 g4
        exact absurd g4 (new k ys g2 hk)
    · by_cases hk : k = i
      · subst hk
        rw [List.getElem?_set_self hi'] at g4
        cases g4
        rw [List.getElem?_set_ne (Ne.symm hj)] at g1 g3
        exact absurd g3 (new j xs' g1 hj)
      · rw [List.getElem?_set_ne (Ne.symm hj)] at g1 g3
        rw [List.getElem?_set_ne (Ne.symm hk)] at g2 g4
        exact o.apart j k xs' ys a' g1 g2 g3 g4
/-- a slot forgotten -/
theorem Ow.kill (o : Ow K B ρ σ G H) (i : Nat) : Ow K B (ρ.set i .no) σ G H := by
  refine ⟨o.ext, o.cl, o.low, by simp [o.len], fun j s h => ?_, fun j k xs ys a h1 h2 h3 h4 => ?_⟩
  · by_cases hj : i = j
    · subst hj
      by_cases hi : i < ρ.length
      · rw [List.getElem?_set_self hi] at h
        cases h
        trivial
      · rw [List.getElem?_eq_none (by simp; omega)] at h
        cases h
    · rw [List.getElem?_set_ne hj] at h
      exact o.slot j s h
  · have n : ∀ (j : Nat) (zs : List PV), (ρ.set i SV.no)[j]? = some (SV.ow zs) → ρ[j]? = some (SV.ow zs) := fun j zs h => by
      by_cases hj : i = j
      · subst hj
        by_cases hi : i < ρ.length
        · rw [List.getElem?_set_self hi] at h
          cases h
        · rw [List.getElem?_eq_none (by simp; omega)] at h
          cases h
      · rw [List.getElem?_set_ne hj] at h
        exact h
    exact o.apart j k xs ys a (n j xs h1) (n k ys h2) h3 h4
/-- a slot is left: its name goes -/
theorem Ow.drop (o : Ow K B ρ σ G H) (i : Nat) : Ow K B (ρ.set i .no) (σ.set i none) G H := by
  have k := o.kill i
  have other : ∀ (j : Nat), j ≠ i → (σ.set i none)[j]? = σ[j]? := fun j hj => List.getElem?_set_ne (Ne.symm hj)
  have nz : ∀ (j : Nat) (zs : List PV), (ρ.set i SV.no)[j]? = some (SV.ow zs) → j ≠ i := fun j zs h e => by
    subst e
    by_cases hi : j < ρ.length
    · rw [List.getElem?_set_self hi] at h
      cases h
    · rw [List.getElem?_eq_none (by simp; omega)] at h
      cases h
  refine ⟨k.ext, k.cl, k.low, by simp [o.len], fun j s h => ?_, fun j l xs ys a h1 h2 h3 h4 => ?_⟩
  · by_cases hj : j = i
    · subst hj
      by_cases hi : j < ρ.length
      · rw [List.getElem?_set_self hi] at h
        cases h
        trivial
      · rw [List.getElem?_eq_none (by simp; omega)] at h
        cases h
    · rw [other j hj]
      exact k.slot j s h
  · rw [other j (nz j xs h1)] at h3
    rw [other l (nz l ys h2)] at h4
    exact k.apart j l xs ys a h1 h2 h3 h4
/-- the list of an owned slot changes -/
theorem Ow.write (o : Ow K B ρ σ G H) {i : Nat} {xs ys : List PV} {a : Addr} {us : List V} (h : ρ[i]? = some (.ow xs)) (ha : σ[i]? = some (some (.ref a))) (r : Reps K G ys us) :
    Ow K B (ρ.set i (.ow ys)) σ G (upd H a (.lst us)) := by
  obtain ⟨a', vs, e, h1, h2, h3, _⟩ := o.ow h
  rw [ha] at e
  cases e
  have hi : i < ρ.length := (List.getElem?_eq_some_iff.mp h).1
  have na : ∀ b u, B.H0 b = some u → b ≠ a := fun b u q => ne_of_none q h3
  have ng : ∀ b u, G b = some u → b ≠ a := fun b u q => ne_of_none q h2
  refine ⟨⟨o.ext.hh.put h3 h1, fun b u q => ?_, o.ext.old, o.ext.nt⟩, ⟨o.cl.nt, Tabs.put h1 o.cl.tb⟩, o.low, by simp [o.len], fun j s hs => ?_, fun j k xs' ys' a' g1 g2 g3 g4 => ?_⟩
  · rw [upd_ne (ng b u q)]
    exact o.gh b u q
  · by_cases hj : j = i
    · subst hj
      rw [List.getElem?_set_self hi] at hs
      cases hs
      exact ⟨a, us, by rw [ha]; rfl, upd_same, h2, h3, r⟩
    · rw [List.getElem?_set_ne (Ne.symm hj)] at hs
      have q := o.slot j s hs
      cases s with
      | no => exact q
      | fn => exact q
      | sh x => exact q
      | ow zs =>
        obtain ⟨b, ws, e1, e2, e3, e4, e5⟩ := q
        have hb : b ≠ a := fun z => by
          subst z
          obtain ⟨b', _, e', _⟩ := o.ow hs
          refine hj (o.apart j i zs xs b hs h ?_ ha)
          rw [e'] at e1 ⊢
          exact congrArg some e1
        exact ⟨b, ws, e1, by rw [upd_ne hb]; exact e2, e3, e4, e5⟩
  · have n : ∀ (j : Nat) (zs : List PV), (ρ.set i (SV.ow ys))[j]? = some (SV.ow zs) → ∃ z', ρ[j]? = some (SV.ow z') := fun j zs q => by
      by_cases hj : j = i
      · subst hj
        exact ⟨xs, h⟩
      · rw [List.getElem?_set_ne (Ne.symm hj)] at q
        exact ⟨zs, q⟩
    obtain ⟨z1, q1⟩ := n j xs' g1
    obtain ⟨z2, q2⟩ := n k ys' g2
    exact o.apart j k z1 z2 a' q1 q2 g3 g4
/-- an owned list is settled -/
theorem Ow.freezeE (o : Ow K B ρ σ G H) {i : Nat} {xs : List PV} (h : ρ[i]? = some (.ow xs)) : ∃ (a : Addr) (vs : List V), H a = some (.lst vs) ∧ G a = none ∧ Ow K B (ρ.set i (.sh (.lst xs))) σ (upd G a (.lst vs)) H := by
  obtain ⟨a, vs, ha, h1, h2, h3, r⟩ := o.ow h
  have hi : i < ρ.length := (List.getElem?_eq_some_iff.mp h).1
  have sg : Same G (upd G a (.lst vs)) := same_upd h2
  refine ⟨a, vs, h1, h2, ⟨o.ext.settle h3 h1, ⟨fun b ps q => o.cl.nt b ps (nt_upd (fun _ z => by cases z) b ps q), o.cl.tb⟩, o.low.trans sg, by simp [o.len], fun j s hs => ?_, fun j k xs' ys' a' g1 g2 g3 g4 => ?_⟩⟩
  · by_cases hj : j = i
    · subst hj
      rw [List.getElem?_set_self hi] at hs
      cases hs
      exact ⟨.ref a, by rw [ha]; rfl, rep_lst.mpr ⟨a, vs, rfl, upd_same, r.mono sg⟩⟩
    · rw [List.getElem?_set_ne (Ne.symm hj)] at hs
      have q := o.slot j s hs
      cases s with
      | no => exact q
      | fn => exact q
      | sh x =>
        obtain ⟨v, e, z⟩ := q
        exact ⟨v, e, z.mono sg⟩
      | ow zs =>
        obtain ⟨b, ws, e1, e2, e3, e4, e5⟩ := q
        have hb : b ≠ a := fun z => by
          subst z
          obtain ⟨b', _, e', _⟩ := o.ow hs
          refine hj (o.apart j i zs xs b hs h ?_ ha)
          rw [e'] at e1 ⊢
          exact congrArg some e1
        exact ⟨b, ws, e1, e2, by rw [upd_ne hb]; exact e3, e4, e5.mono sg⟩
  · have n : ∀ (j : Nat) (zs : List PV), (ρ.set i (SV.sh (.lst xs)))[j]? = some (SV.ow zs) → ρ[j]? = some (SV.ow zs) := fun j zs q => by
      by_cases hj : j = i
      · subst hj
        rw [List.getElem?_set_self hi] at q
        cases q
      · rw [List.getElem?_set_ne (Ne.symm hj)] at q
        exact q
    exact o.apart j k xs' ys' a' (n j xs' g1) (n k ys' g2) g3 g4
theorem Ow.freeze (o : Ow K B ρ σ G H) {i : Nat} {xs : List PV} (h : ρ[i]? = some (.ow xs)) : ∃ G', Ow K B (ρ.set i (.sh (.lst xs))) σ G' H :=
  let ⟨_, _, _, _, k⟩ := o.freezeE h
  ⟨_, k⟩
end
end Pf

set_option Elab.async false
set_option linter.all false
set_option maxRecDepth 100000
set_option autoImplicit false
/-! Pf2: the core language and what it computes -/
namespace Pf
open PySem L2

inductive BOp where | add | sub | mul | fdiv | mod | pow
  deriving DecidableEq
inductive COp where | eq | ne | lt | le | gt | ge | isIn | notIn | isN | notN
  deriving DecidableEq
inductive BI where | len | abs | max | min | sum | all | any | list | tuple | int | str | range1 | range2
  deriving DecidableEq
inductive Ty where | int | bool | str | list | tuple | dict
  deriving DecidableEq

mutual
inductive PX where
  | var (i : Nat) | bvar (i : Nat) | non | bl (b : Bool) | int (i : Int) | str (s : Str) | con (k : Nat)
  | bin (o : BOp) (a b : PX) | neg (a : PX) | cmp (o : COp) (a b : PX) | chain (o1 o2 : COp) (a b c : PX)
  | and (a b : PX) | or (a b : PX) | not (a : PX) | ife (c a b : PX)
  | tup (es : PXs) | lst (es : PXs) | ix (a i : PX) | sl (a lo hi : PX)
  | call (k : Nat) (es : PXs) | bi (f : BI) (es : PXs) | isa (a : PX) (t : Ty)
  | comp (el : PX) (tg : List Nat) (tp : Bool) (it : PIt) (c : PX)
  | isx (a : PX) (cs : List (Option Nat)) (rs : List Nat)
  | dic (kvs : List (Int × Int)) | call0 (k : Nat) | lrg (a : PX) | lzip (a b : PX)
  | isas (a : PX) (ts : List Ty) | loc (i : Nat) (a : PX)
  | lam (k : Nat) (a : PX)
inductive PXs where
  | nil | cons (e : PX) (es : PXs)
inductive PIt where
  | seq (e : PX) | rng1 (a : PX) | rng2 (a b : PX) | rng3 (a b c : PX) | enum (e : PX) | zip (a b : PX) | rev (e : PX)
end

/-- an int that may be multiplied -/
def BIG : Nat := 2 ^ 3000000
def small (i : Int) : Prop := i.natAbs < BIG
instance (i : Int) : Decidable (small i) := inferInstanceAs (Decidable (_ < _))
/-- a length that may be made -/
def LIM : Nat := 1000000

/-! ### operators -/
def pAdd : PV → PV → R PV
  | .int a, .int b => .ok (.int (a + b))
  | .lst a, .lst b => if a.length + b.length ≤ LIM then .ok (.lst (a ++ b)) else .bad
  | .tup a, .tup b => if a.length + b.length ≤ LIM then .ok (.tup (a ++ b)) else .bad
  | .str a, .str b => if a.length + b.length ≤ LIM then .ok (.str (a ++ b)) else .bad
  | _, _ => .bad
def pSub : PV → PV → R PV
  | .int a, .int b => .ok (.int (a - b))
  | _, _ => .bad
def pMul : PV → PV → R PV
  | .int a, .int b => if small a ∧ small b then .ok (.int (a * b)) else .bad
  | .lst a, .int k => if k < 2 ^ 62 ∧ -(2 ^ 62) ≤ k ∧ a.length * k.toNat ≤ LIM then .ok (.lst (List.replicate k.toNat a).flatten) else .bad
  | .tup a, .int k => if a.length ≤ 1000 ∧ k ≤ 1000 ∧ -1000 ≤ k then .ok (.tup (List.replicate k.toNat a).flatten) else .bad
  | _, _ => .bad
def pFdiv : PV → PV → R PV
  | .int a, .int b => if b ≠ 0 ∧ b.natAbs < 2 ^ 9000 then .ok (.int (if 0 < b then a / b else a.fdiv b)) else .bad
  | _, _ => .bad
def pMod : PV → PV → R PV
  | .int a, .int b => if b ≠ 0 then .ok (.int (if 0 < b then a % b else a.fmod b)) else .bad
  | _, _ => .bad
def pPow : PV → PV → R PV
  | .int a, .int b => if 0 ≤ b ∧ b ≤ 1000000 ∧ a.natAbs < 2 ^ 64 then .ok (.int (a ^ b.toNat)) else .bad
  | _, _ => .bad
def pBin (o : BOp) (a b : PV) : R PV := match o with
  | .add => pAdd a b
  | .sub => pSub a b
  | .mul => pMul a b
  | .fdiv => pFdiv a b
  | .mod => pMod a b
  | .pow => pPow a b
def pNeg : PV → R PV
  | .int a => .ok (.int (-a))
  | _ => .bad

/-! ### comparisons -/
mutual
def pyEq : PV → PV → Bool
  | .non, .non => true
  | .bl a, .bl b => a == b
  | .bl a, .int j => (if a then 1 else 0) == j
  | .int i, .bl b => i == (if b then 1 else 0)
  | .int i, .int j => i == j
  | .str x, .str y => x == y
  | .lst xs, .lst ys => pyEqs xs ys
  | .tup xs, .tup ys => pyEqs xs ys
  | _, _ => false
def pyEqs : List PV → List PV → Bool
  | [], [] => true
  | x :: xs, y :: ys => pyEq x y && pyEqs xs ys
  | _, _ => false
end
/-- data of no great depth -/
def dat : Nat → PV → Bool
  | _, .non => true
  | _, .bl _ => true
  | _, .int _ => true
  | _, .str s => PyData.strOk s
  | n + 1, .lst xs => xs.all (dat n)
  | n + 1, .tup xs => xs.all (dat n)
  | _, _ => false
def flat : PV → Bool
  | .non => true
  | .bl _ => true
  | .int _ => true
  | .str _ => true
  | _ => false
def pEq (a b : PV) : R PV := if dat 8 a && dat 8 b then .ok (.bl (pyEq a b)) else .bad
def pNe (a b : PV) : R PV := if dat 8 a && dat 8 b then .ok (.bl (!pyEq a b)) else .bad
def pLt : PV → PV → R PV
  | .int a, .int b => .ok (.bl (decide (a < b)))
  | _, _ => .bad
def pLe : PV → PV → R PV
  | .int a, .int b => .ok (.bl (decide (a ≤ b)))
  | _, _ => .bad
def isSign (s : Str) : Option Nat := match s.cps.toList with
  | [c] => some c
  | _ => none
def pIn : PV → PV → R PV
  | x, .lst ys => if flat x && ys.all flat then .ok (.bl (ys.any fun y => pyEq y x)) else .bad
  | x, .tup ys => if flat x && ys.all flat then .ok (.bl (ys.any fun y => pyEq y x)) else .bad
  | .str c, .str z => match isSign c with
    | some n => .ok (.bl (decide (n ∈ z.cps.toList)))
    | none => .bad
  | _, _ => .bad
def pNot : PV → R PV
  | .bl b => .ok (.bl (!b))
  | _ => .bad
def pIsN : PV → R PV
  | .non => .ok (.bl true)
  | _ => .ok (.bl false)
def pIs : PV → PV → R PV
  | x, .non => pIsN x
  | .bl a, .bl b => .ok (.bl (decide (a = b)))
  | _, _ => .bad
def pCmp (o : COp) (a b : PV) : R PV := match o with
  | .eq => pEq a b
  | .ne => pNe a b
  | .lt => pLt a b
  | .le => pLe a b
  | .gt => pLt b a
  | .ge => pLe b a
  | .isIn => pIn a b
  | .notIn => (pIn a b).bind pNot
  | .isN => pIs a b
  | .notN => (pIs a b).bind pNot

/-! ### items, slices -/
def pAt (xs : List PV) (i : Int) : R PV := match atI xs i with
  | some v => .ok v
  | none => .bad
def pIx : PV → PV → R PV
  | .lst xs, .int i => pAt xs i
  | .tup xs, .int i => pAt xs i
  | .rl xs, .int i => pAt xs i
  | .str z, .int i => if z.length ≤ LIM then (match atI z.cps.toList i with
    | some c => .ok (.str ⟨#[c]⟩)
    | none => .bad) else .bad
  | _, _ => .bad
def pCut (xs : List PV) (lo hi : Option Int) : List PV := (xs.drop (HT.sIx xs.length 0 lo)).take (HT.sIx xs.length xs.length hi - HT.sIx xs.length 0 lo)
def pPart (left : Bool) (v : PV) : R (Option Int) := if left then .ok none else match v with
  | .int i => .ok (some i)
  | _ => .bad
def pSl (x : PV) (lo hi : Option Int) : R PV := match x with
  | .lst xs => .ok (.lst (pCut xs lo hi))
  | .rl xs => .ok (.lst (pCut xs lo hi))
  | .tup xs => .ok (.tup (pCut xs lo hi))
  | .str z => if z.length ≤ LIM then .ok (.str (cutS z lo hi)) else .bad
  | _ => .bad

/-! ### built-ins -/
def intsOf : List PV → Option (List Int)
  | [] => some []
  | .int i :: r => (intsOf r).map (i :: ·)
  | _ :: _ => none
def blsOf : List PV → Option (List Bool)
  | [] => some []
  | .bl i :: r => (blsOf r).map (i :: ·)
  | _ :: _ => none
def maxOf : List Int → Int
  | [] => 0
  | [a] => a
  | a :: r => max a (maxOf r)
def minOf : List Int → Int
  | [] => 0
  | [a] => a
  | a :: r => min a (minOf r)
def inSpan (i : Int) : Bool := decide (-(2 ^ 62) ≤ i) && decide (i < 2 ^ 62)
def rngL (lo : Int) (n : Nat) : List PV := (List.range n).map fun k => .int (lo + (k : Nat))
def pBi : BI → List PV → R PV
  | .len, [.lst xs] => .ok (.int xs.length)
  | .len, [.tup xs] => .ok (.int xs.length)
  | .len, [.rl xs] => .ok (.int xs.length)
  | .len, [.str s] => if s.length ≤ LIM then .ok (.int s.length) else .bad
  | .abs, [.int i] => .ok (.int (if i < 0 then -i else i))
  | .max, [.int i, .int j] => .ok (.int (if j > i then j else i))
  | .min, [.int i, .int j] => .ok (.int (if j < i then j else i))
  | .max, [.lst xs] => (match intsOf xs with
    | some (a :: r) => .ok (.int (maxOf (a :: r)))
    | _ => .bad)
  | .min, [.lst xs] => (match intsOf xs with
    | some (a :: r) => .ok (.int (minOf (a :: r)))
    | _ => .bad)
  | .sum, [.lst xs] => (match intsOf xs with
    | some ns => .ok (.int ns.sum)
    | none => .bad)
  | .all, [.lst xs] => (match blsOf xs with
    | some bs => .ok (.bl (bs.all id))
    | none => .bad)
  | .any, [.lst xs] => (match blsOf xs with
    | some bs => .ok (.bl (bs.any id))
    | none => .bad)
  | .list, [.lst xs] => .ok (.lst xs)
  | .list, [.tup xs] => .ok (.lst xs)
  | .list, [.rl xs] => .ok (.lst xs)
  | .tuple, [.lst xs] => .ok (.tup xs)
  | .tuple, [.tup xs] => .ok (.tup xs)
  | .tuple, [.rl xs] => .ok (.tup xs)
  | .int, [.int i] => .ok (.int i)
  | .int, [.bl b] => .ok (.int (if b then 1 else 0))
  | .str, [.int i] => if i.natAbs.log2 < 1920 then .ok (.str (toString i)) else .bad
  | _, _ => .bad
def pIsa : Ty → PV → R PV
  | .int, .int _ => .ok (.bl true)
  | .int, .bl _ => .ok (.bl true)
  | .bool, .bl _ => .ok (.bl true)
  | .str, .str _ => .ok (.bl true)
  | .list, .lst _ => .ok (.bl true)
  | .tuple, .tup _ => .ok (.bl true)
  | .dict, .dk _ _ => .ok (.bl true)
  | _, .rl _ => .bad
  | _, .exc _ => .bad
  | _, _ => .ok (.bl false)

/-- an error's class under another one: none is ValueError, 0 the program's root class -/
def subX (c : Nat) : Option Nat → Bool
  | none => true
  | some d => d == 0 || d == c
def pIsx (cs : List (Option Nat)) (rs : List Nat) : PV → R PV
  | .exc c => if rs.contains c then .ok (.bl (cs.any (subX c))) else .bad
  | .non => .ok (.bl false)
  | _ => .bad
/-! ### slots -/
def getE (ρ : Env) (i : Nat) : R PV := match ρ[i]? with
  | some (.sh v) => .ok v
  | _ => .bad
def getB (ρ : Env) (i : Nat) : R PV := match ρ[i]? with
  | some (.sh v) => .ok v
  | some (.ow xs) => .ok (.lst xs)
  | _ => .bad
/-- values to slots -/
def setAll (ρ : Env) : List Nat → List PV → Option Env
  | [], [] => some ρ
  | i :: is, v :: vs => if i < ρ.length then setAll (ρ.set i (.sh v)) is vs else none
  | _, _ => none
/-- a target of names: one, or a tuple of them -/
def asgT (tg : List Nat) (tp : Bool) (v : PV) (ρ : Env) : Option Env :=
  if tp then (match v with
    | .tup vs => setAll ρ tg vs
    | .lst vs => setAll ρ tg vs
    | _ => none) else setAll ρ tg [v]
def killAll (ρ : Env) : List Nat → Env
  | [] => ρ
  | i :: is => (killAll ρ is).set i .no

def compL (el co : Env → R PV) (asg : PV → Option Env) : List PV → R (List PV)
  | [] => .ok []
  | x :: xs => match asg x with
    | none => .bad
    | some ρ => match co ρ with
      | .ok (.bl true) => (match el ρ with
        | .ok y => (compL el co asg xs).bind fun ys => .ok (y :: ys)
        | _ => .bad)
      | .ok (.bl false) => compL el co asg xs
      | _ => .bad

def PX.isN : PX → Bool
  | .non => true
  | _ => false
def PX.isB : PX → Bool
  | .bvar _ => true
  | _ => false
def PXs.hasB : PXs → Bool
  | .nil => false
  | .cons e es => e.isB || es.hasB
def pIsas : List Ty → PV → R PV
  | [], _ => .ok (.bl false)
  | t :: ts, x => (pIsa t x).bind fun a => (pIsas ts x).bind fun b => match a, b with
    | .bl a, .bl b => .ok (.bl (a || b))
    | _, _ => .bad
def pSeq : PV → R (List PV)
  | .lst xs => .ok xs
  | .tup xs => .ok xs
  | .rl xs => .ok xs
  | .str z => .ok (z.cps.toList.map fun c => .str ⟨#[c]⟩)
  | _ => .bad
def pEnum (xs : List PV) : List PV := xs.mapIdx fun i x => .tup [.int (i : Nat), x]
def pZip (xs ys : List PV) : List PV := List.zipWith (fun x y => .tup [x, y]) xs ys
def pLZ (x y : PV) : R PV := match x, y with
  | .lst xs, .lst ys => if min xs.length ys.length ≤ LIM then .ok (.lst (pZip xs ys)) else .bad
  | _, _ => .bad
def pInt : PV → R Int
  | .int i => .ok i
  | _ => .bad
def flatR : R PV → R PV
  | .ok v => if flat v then .ok v else .bad
  | r => r
abbrev Sem1 := List PV → R PV
/-- a def that gets a lambda: what the lambda gives, as an argument -/
def lamR (h : Sem1) : R PV → R PV
  | .ok v => h [.tup [v]]
  | .exn c => h [.exc c]
  | .bad => .bad
def encL (h : R PV → R PV) : Sem1
  | [.tup [v]] => h (.ok v)
  | [.exc c] => h (.exn c)
  | _ => .bad
@[simp] theorem lamR_enc_ok (h : R PV → R PV) (v : PV) : lamR (encL h) (.ok v) = h (.ok v) := rfl
@[simp] theorem lamR_enc_exn (h : R PV → R PV) (c : Nat) : lamR (encL h) (.exn c) = h (.exn c) := rfl

section
variable (fs : List Sem1) (cs : List PV)
mutual
def evE : PX → Env → R PV
  | .var i, ρ => getE ρ i
  | .bvar i, ρ => getB ρ i
  | .non, _ => .ok .non
  | .bl b, _ => .ok (.bl b)
  | .int i, _ => .ok (.int i)
  | .str s, _ => .ok (.str s)
  | .con k, _ => (match cs[k]? with
    | some v => .ok v
    | none => .bad)
  | .bin o a b, ρ => (evE a ρ).bind fun x => (evE b ρ).bind fun y => pBin o x y
  | .neg a, ρ => (evE a ρ).bind pNeg
  | .cmp o a b, ρ => (evE a ρ).bind fun x => (evE b ρ).bind fun y => pCmp o x y
  | .chain o1 o2 a b c, ρ => (evE a ρ).bind fun x => (evE b ρ).bind fun y => (pCmp o1 x y).bind fun r => match r with
    | .bl true => (evE c ρ).bind fun z => pCmp o2 y z
    | .bl false => .ok (.bl false)
    | _ => .bad
  | .and a b, ρ => (evE a ρ).bind fun x => match x with
    | .bl true => evE b ρ
    | .bl false => .ok (.bl false)
    | _ => .bad
  | .or a b, ρ => (evE a ρ).bind fun x => match x with
    | .bl true => .ok (.bl true)
    | .bl false => evE b ρ
    | _ => .bad
  | .not a, ρ => (evE a ρ).bind pNot
  | .ife c a b, ρ => (evE c ρ).bind fun x => match x with
    | .bl true => evE a ρ
    | .bl false => evE b ρ
    | _ => .bad
  | .tup es, ρ => (evEs es ρ).bind fun xs => .ok (.tup xs)
  | .lst es, ρ => (evEs es ρ).bind fun xs => .ok (.lst xs)
  | .ix a i, ρ => (evE a ρ).bind fun x => (evE i ρ).bind fun y => pIx x y
  | .sl a lo hi, ρ => (evE a ρ).bind fun x => (evE lo ρ).bind fun l => (pPart lo.isN l).bind fun l' => (evE hi ρ).bind fun h => (pPart hi.isN h).bind fun h' => pSl x l' h'
  | .call k es, ρ => (evEs es ρ).bind fun xs => if es.hasB then flatR ((fs.getD k fun _ => .bad) xs) else (fs.getD k fun _ => .bad) xs
  | .bi f es, ρ => (evEs es ρ).bind fun xs => pBi f xs
  | .isa a t, ρ => (evE a ρ).bind fun x => pIsa t x
  | .isx a cs rs, ρ => (evE a ρ).bind fun x => pIsx cs rs x
  | .isas a ts, ρ => (evE a ρ).bind fun x => pIsas ts x
  | .loc i a, ρ => (match ρ[i]? with
    | some (.ow xs) => (evE a (ρ.set i (.sh (.lst xs)))).bind fun x => if flat x then .ok x else .bad
    | _ => .bad)
  | .lam k a, ρ => lamR (fs.getD k fun _ => .bad) (evE a ρ)
  | .dic kvs, _ => if kvs.length ≤ 1 then .ok (.dk (kvs.map fun p => Sum.inl p.1) (kvs.map fun p => .int p.2)) else .bad
  | .call0 k, _ => (fs.getD k fun _ => .bad) []
  | .lzip a b, ρ => (evE a ρ).bind fun x => (evE b ρ).bind fun y => pLZ x y
  | .lrg a, ρ => (evE a ρ).bind fun x => (pInt x).bind fun n => if n ≤ 1000000 ∧ -1000000 ≤ n then .ok (.lst (rngL 0 n.toNat)) else .bad
  | .comp el tg tp it c, ρ => (evI it ρ).bind fun xs => (compL (evE el) (evE c) (fun x => asgT tg tp x (killAll ρ tg)) xs).bind fun ys => if xs.length ≤ LIM then .ok (.lst ys) else .bad
def evEs : PXs → Env → R (List PV)
  | .nil, _ => .ok []
  | .cons e es, ρ => (evE e ρ).bind fun x => (evEs es ρ).bind fun xs => .ok (x :: xs)
def evI : PIt → Env → R (List PV)
  | .seq e, ρ => (evE e ρ).bind pSeq
  | .rng1 a, ρ => (evE a ρ).bind fun x => (pInt x).bind fun n => if inSpan n then .ok (rngL 0 n.toNat) else .bad
  | .rng2 a b, ρ => (evE a ρ).bind fun x => (evE b ρ).bind fun y => (pInt x).bind fun i => (pInt y).bind fun j => if inSpan i && inSpan j then .ok (rngL i (j - i).toNat) else .bad
  | .rng3 a b c, ρ => (evE a ρ).bind fun x => (evE b ρ).bind fun y => (evE c ρ).bind fun z => (pInt x).bind fun i => (pInt y).bind fun j => match z with
    | .int (-1) => if inSpan i && inSpan j then .ok ((List.range (i - j).toNat).map fun k => .int (i - (k : Nat))) else .bad
    | _ => .bad
  | .enum e, ρ => (evE e ρ).bind fun x => (match x with
    | .str _ => .bad
    | _ => (pSeq x).bind fun xs => .ok (pEnum xs))
  | .zip a b, ρ => (evE a ρ).bind fun x => (evE b ρ).bind fun y => (match x, y with
    | .lst xs, .lst ys => .ok (pZip xs ys)
    | .tup xs, .tup ys => .ok (pZip xs ys)
    | _, _ => .bad)
  | .rev e, ρ => (evE e ρ).bind fun x => (match x with
    | .lst xs => .ok xs.reverse
    | .tup xs => .ok xs.reverse
    | _ => .bad)
end
end

/-! ### statements -/
inductive PSt where
  | set (i : Nat) (e : PX) | seto (i : Nat) (e : PX) | unp (tg : List Nat) (e : PX)
  | setix (i : Nat) (ix e : PX) | app (i : Nat) (e : PX) | pop (i : Nat)
  | ite (c : PX) (a b : List PSt) | ret (e : PX) | reto (i : Nat) | pass
  | forS (tg : List Nat) (tp : Bool) (it : PIt) (body : List PSt) | whl (n : Nat) (c : PX) (body : List PSt)
  | brk | cnt | frz (i : Nat) | kil (i : Nat) | exp (e : PX)
  | par (i j : Nat) (a b : PX) | swp (i : Nat) (k l a b : PX)
  | raise (c : Nat) | tryS (body : List PSt) (rs : List Nat) (i : Nat) (h : List PSt)
  | unpM (tg : List Nat) (k : Nat) (es : PXs) (j : Nat)
  | appP (i j : Nat) (ix : PX)
  | unpF (i j : Nat) (k : Nat) (es : PXs)
  | scr (i : Nat) (k : Nat) (es : PXs)
  | told (i : Option Nat) (k : Nat)

inductive RS where
  | next (ρ : Env) | brk (ρ : Env) | cnt (ρ : Env) | ret (v : PV) | exn (c : Nat) (ρ : Env) | bad

def RS.of (r : R PV) (ρ : Env) (f : PV → RS) : RS := match r with
  | .ok v => f v
  | .exn c => .exn c ρ
  | .bad => .bad
def RS.ofL (r : R (List PV)) (ρ : Env) (f : List PV → RS) : RS := match r with
  | .ok v => f v
  | .exn c => .exn c ρ
  | .bad => .bad
@[simp] theorem RS.of_ok (v : PV) (ρ : Env) (f : PV → RS) : RS.of (.ok v) ρ f = f v := rfl
@[simp] theorem RS.of_exn (c : Nat) (ρ : Env) (f : PV → RS) : RS.of (.exn c) ρ f = .exn c ρ := rfl
@[simp] theorem RS.of_bad (ρ : Env) (f : PV → RS) : RS.of .bad ρ f = .bad := rfl
@[simp] theorem RS.ofL_ok (v : List PV) (ρ : Env) (f : List PV → RS) : RS.ofL (.ok v) ρ f = f v := rfl
@[simp] theorem RS.ofL_exn (c : Nat) (ρ : Env) (f : List PV → RS) : RS.ofL (.exn c) ρ f = .exn c ρ := rfl
@[simp] theorem RS.ofL_bad (ρ : Env) (f : List PV → RS) : RS.ofL .bad ρ f = .bad := rfl
def RS.then (r : RS) (f : Env → RS) : RS := match r with
  | .next ρ => f ρ
  | r => r
@[simp] theorem RS.then_next (ρ : Env) (f : Env → RS) : (RS.next ρ).then f = f ρ := rfl
@[simp] theorem RS.then_brk (ρ : Env) (f : Env → RS) : (RS.brk ρ).then f = .brk ρ := rfl
@[simp] theorem RS.then_cnt (ρ : Env) (f : Env → RS) : (RS.cnt ρ).then f = .cnt ρ := rfl
@[simp] theorem RS.then_ret (v : PV) (f : Env → RS) : (RS.ret v).then f = .ret v := rfl
@[simp] theorem RS.then_exn (c : Nat) (ρ : Env) (f : Env → RS) : (RS.exn c ρ).then f = .exn c ρ := rfl
@[simp] theorem RS.then_bad (f : Env → RS) : RS.bad.then f = .bad := rfl
/-- a loop goes on, or ends -/
def RS.turn (r : RS) (again : Env → RS) : RS := match r with
  | .next ρ => again ρ
  | .cnt ρ => again ρ
  | .brk ρ => .next ρ
  | r => r
@[simp] theorem RS.turn_next (ρ : Env) (f : Env → RS) : (RS.next ρ).turn f = f ρ := rfl
@[simp] theorem RS.turn_cnt (ρ : Env) (f : Env → RS) : (RS.cnt ρ).turn f = f ρ := rfl
@[simp] theorem RS.turn_brk (ρ : Env) (f : Env → RS) : (RS.brk ρ).turn f = .next ρ := rfl
@[simp] theorem RS.turn_ret (v : PV) (f : Env → RS) : (RS.ret v).turn f = .ret v := rfl
@[simp] theorem RS.turn_exn (c : Nat) (ρ : Env) (f : Env → RS) : (RS.exn c ρ).turn f = .exn c ρ := rfl
@[simp] theorem RS.turn_bad (f : Env → RS) : RS.bad.turn f = .bad := rfl
/-- by a truth -/
def RS.ifB (v : PV) (a b : RS) : RS := match v with
  | .bl true => a
  | .bl false => b
  | _ => .bad
@[simp] theorem RS.ifB_t (a b : RS) : RS.ifB (.bl true) a b = a := rfl
@[simp] theorem RS.ifB_f (a b : RS) : RS.ifB (.bl false) a b = b := rfl
/-- a new list is a slot's own -/
def setOwR (ρ : Env) (i : Nat) (v : PV) : RS := match v with
  | .lst xs => if i < ρ.length then .next (ρ.set i (.ow xs)) else .bad
  | _ => .bad
def forL (asg : PV → Env → Option Env) (body : Env → RS) : List PV → Env → RS
  | [], ρ => .next ρ
  | x :: xs, ρ => match asg x ρ with
    | none => .bad
    | some ρ1 => (body ρ1).turn (forL asg body xs)
def whlL (c : Env → R PV) (body : Env → RS) : Nat → Env → RS
  | 0, _ => .bad
  | n + 1, ρ => RS.of (c ρ) ρ fun v => RS.ifB v ((body ρ).turn (whlL c body n)) (.next ρ)

/-- an except suite ends: its name goes -/
def RS.suite (i : Nat) : RS → RS
  | .next ρ => .next (ρ.set i .no)
  | .brk ρ => .brk (ρ.set i .no)
  | .cnt ρ => .cnt (ρ.set i .no)
  | .ret v => .ret v
  | _ => .bad
/-- what a try's body leaves -/
def RS.caught (rs : List Nat) (i : Nat) (h : Env → RS) : RS → RS
  | .exn c ρ => if rs.contains c && decide (i < ρ.length) then (h (ρ.set i (.sh (.exc c)))).suite i else .bad
  | r => r
@[simp] theorem RS.suite_next (i : Nat) (ρ : Env) : (RS.next ρ).suite i = .next (ρ.set i .no) := rfl
@[simp] theorem RS.suite_ret (i : Nat) (v : PV) : (RS.ret v).suite i = .ret v := rfl
@[simp] theorem RS.caught_next (rs : List Nat) (i : Nat) (h : Env → RS) (ρ : Env) : (RS.next ρ).caught rs i h = .next ρ := rfl
@[simp] theorem RS.caught_ret (rs : List Nat) (i : Nat) (h : Env → RS) (v : PV) : (RS.ret v).caught rs i h = .ret v := rfl
@[simp] theorem RS.caught_exn (rs : List Nat) (i : Nat) (h : Env → RS) (c : Nat) (ρ : Env) : (RS.exn c ρ).caught rs i h = if rs.contains c && decide (i < ρ.length) then (h (ρ.set i (.sh (.exc c)))).suite i else .bad := rfl
/-- an item of an owned list is stored -/
def putAt (ρ : Env) (i : Nat) (r : R PV) (v : PV) (f : Env → RS) : RS := match ρ[i]? with
  | some (.ow xs) => RS.of r ρ fun k => match k with
    | .int z => (match ixN xs.length z with
      | some j => f (ρ.set i (.ow (xs.set j v)))
      | none => .bad)
    | _ => .bad
  | _ => .bad
mutual
/-- no list in it -/
def nol : PV → Bool
  | .non => true
  | .bl _ => true
  | .int _ => true
  | .str _ => true
  | .tup xs => nols xs
  | _ => false
def nols : List PV → Bool
  | [] => true
  | x :: xs => nol x && nols xs
end
/-- a pair that is told, its list a new one -/
def unpTo (ρ : Env) (i j : Nat) : PV → RS
  | .tup [x, y] => if decide (i < ρ.length) && decide (j < ρ.length) && flat y then (match x with
    | .lst zs => if nols zs then .next ((ρ.set i (.ow zs)).set j (.sh y)) else .bad
    | x => if flat x then .next ((ρ.set i (.sh x)).set j (.sh y)) else .bad) else .bad
  | _ => .bad
def isL : PV → Bool
  | .lst ys => decide (ys.length ≤ LIM)
  | _ => false
/-- lists are told, a first one of them is changed, and all is forgotten -/
def scrTo (ρ : Env) (i : Nat) (v : PV) : RS := match v with
  | .lst zs => if decide (i < ρ.length) && zs.all isL then .next (ρ.set i .no) else .bad
  | _ => .bad
/-- what a lambda told is kept, or left -/
def toldTo (ρ : Env) : Option Nat → PV → RS
  | none, _ => .next ρ
  | some i, v => if i < ρ.length then .next (ρ.set i (.sh v)) else .bad
/-- an item of one owned list goes to the end of another -/
def popTo (ρ : Env) (i j : Nat) (xs ys : List PV) (k : PV) : RS := match k with
  | .int z => if 0 ≤ z ∧ z < 1000000 ∧ xs.length ≤ LIM then (match ys[z.toNat]? with
    | some v => .next ((ρ.set j (.ow (ys.eraseIdx z.toNat))).set i (.ow (xs ++ [v])))
    | none => .bad) else .bad
  | _ => .bad
section
variable (fs : List Sem1) (cs : List PV) (fr : Bool)
mutual
def evS : PSt → Env → RS
  | .set i e, ρ => RS.of (evE fs cs e ρ) ρ fun v => if i < ρ.length then .next (ρ.set i (.sh v)) else .bad
  | .seto i e, ρ => RS.of (evE fs cs e ρ) ρ fun v => setOwR ρ i v
  | .unp tg e, ρ => RS.of (evE fs cs e ρ) ρ fun v => match asgT tg true v ρ with
    | some ρ' => .next ρ'
    | none => .bad
  | .unpM tg k es j, ρ => RS.ofL (evEs fs cs es ρ) ρ fun xs => (match ρ[j]? with
    | some (.ow zs) => RS.of ((fs.getD k fun _ => .bad) (xs ++ [.lst zs])) (ρ.set j .no) fun v => (match asgT tg true v (ρ.set j .no) with
      | some ρ' => .next ρ'
      | none => .bad)
    | _ => .bad)
  | .setix i ix e, ρ => RS.of (evE fs cs e ρ) ρ fun v => putAt ρ i (evE fs cs ix ρ) v fun ρ' => .next ρ'
  | .app i e, ρ => (match ρ[i]? with
    | some (.ow xs) => RS.of (evE fs cs e ρ) ρ fun v => if xs.length ≤ LIM then .next (ρ.set i (.ow (xs ++ [v]))) else .bad
    | _ => .bad)
  | .pop i, ρ => (match ρ[i]? with
    | some (.ow xs) => if xs = [] then .bad else .next (ρ.set i (.ow xs.dropLast))
    | _ => .bad)
  | .unpF i j k es, ρ => RS.ofL (evEs fs cs es ρ) ρ fun xs => if nols xs then RS.of ((fs.getD k fun _ => .bad) xs) ρ fun v => unpTo ρ i j v else .bad
  | .scr i k es, ρ => RS.ofL (evEs fs cs es ρ) ρ fun xs => if nols xs then RS.of ((fs.getD k fun _ => .bad) xs) ρ fun v => scrTo ρ i v else .bad
  | .told i k, ρ => (match ρ[(0 : Nat)]? with
    | some .fn => RS.of ((fs.getD k fun _ => .bad) []) ρ fun v => toldTo ρ i v
    | _ => .bad)
  | .appP i j ix, ρ => (match ρ[i]?, ρ[j]? with
    | some (.ow xs), some (.ow ys) => RS.of (evE fs cs ix ρ) ρ fun k => popTo ρ i j xs ys k
    | _, _ => .bad)
  | .ite c a b, ρ => RS.of (evE fs cs c ρ) ρ fun v => RS.ifB v (evSs a ρ) (evSs b ρ)
  | .ret e, ρ => RS.of (evE fs cs e ρ) ρ fun v => .ret v
  | .reto i, ρ => (match ρ[i]? with
    | some (.ow xs) => .ret (.lst xs)
    | some (.sh v) => if fr then .bad else .ret v
    | _ => .bad)
  | .pass, ρ => .next ρ
  | .forS tg tp it body, ρ => RS.ofL (evI fs cs it ρ) ρ fun xs => forL (asgT tg tp) (evSs body) xs ρ
  | .whl n c body, ρ => whlL (evE fs cs c) (evSs body) n ρ
  | .brk, ρ => .brk ρ
  | .cnt, ρ => .cnt ρ
  | .frz i, ρ => (match ρ[i]? with
    | some (.ow xs) => .next (ρ.set i (.sh (.lst xs)))
    | _ => .next ρ)
  | .kil i, ρ => .next (ρ.set i .no)
  | .exp e, ρ => RS.of (evE fs cs e ρ) ρ fun _ => .next ρ
  | .raise c, ρ => .exn c ρ
  | .tryS body rs i h, ρ => (evSs body ρ).caught rs i (evSs h)
  | .par i j a b, ρ => RS.of (evE fs cs a ρ) ρ fun v => RS.of (evE fs cs b ρ) ρ fun w => if i < ρ.length ∧ j < ρ.length then .next ((ρ.set i (.sh v)).set j (.sh w)) else .bad
  | .swp i k l a b, ρ => RS.of (evE fs cs a ρ) ρ fun v => RS.of (evE fs cs b ρ) ρ fun w => putAt ρ i (evE fs cs k ρ) v fun ρ1 => putAt ρ1 i (evE fs cs l ρ1) w fun ρ2 => .next ρ2
def evSs : List PSt → Env → RS
  | [], ρ => .next ρ
  | s :: ss, ρ => (evS s ρ).then (evSs ss)
end
end
/-- a def: its slots, its arguments -/
def startE (n : Nat) (vs : List PV) : Env := vs.map .sh ++ List.replicate (n - vs.length) .no
def run (fs : List Sem1) (cs : List PV) (fr : Bool) (n m : Nat) (body : List PSt) : Sem1 := fun vs =>
  if vs.length = m then (match evSs fs cs fr body (startE n vs) with
    | .ret v => .ok v
    | .next _ => .ok .non
    | .exn c _ => .exn c
    | _ => .bad) else .bad
/-- a def that gets a lambda -/
def runL (fs : List Sem1) (cs : List PV) (n : Nat) (body : List PSt) : R PV → R PV := fun r =>
  match evSs (fs ++ [(fun _ => r : Sem1)]) cs false body (SV.fn :: List.replicate (n - 1) SV.no) with
    | .ret v => .ok v
    | .next _ => .ok .non
    | _ => .bad
/-- a def that owns its last argument, a list -/
def runO (fs : List Sem1) (cs : List PV) (n m : Nat) (body : List PSt) : Sem1 := fun vs =>
  if vs.length = m then (match vs.getLast? with
    | some (.lst zs) => (match evSs fs cs false body ((startE n vs).set (m - 1) (.ow zs)) with
      | .ret v => .ok v
      | .next _ => .ok .non
      | .exn c _ => .exn c
      | _ => .bad)
    | _ => .bad) else .bad
end Pf

set_option Elab.async false
set_option linter.all false
set_option maxRecDepth 100000
set_option maxHeartbeats 4000000
/-! PfT: a tuple taken so often, not at all or once -/
namespace Pf
open PySem PySem.Spec PyProof.Rows L2
theorem tuple_mulS (l : Addr) (items : Array Value) (n : Nat) (dd : Option Addr) (sl : Array (Option Value)) (x : Int) (u : Tok) (c0 : (decide (x < -(2 ^ 63)) || decide (x ≥ 2 ^ 63)) = false) (c1 : (items.isEmpty || x == 1) = true) :
    Meets (Builtin.«tuple.__mul__» ⟨[.ref l, .int x u], []⟩) (fun _ R s => s.heap.get? l = some { cls := .type "tuple", dict := dd, data := .seq items n, slots := sl } ∧ R (.ok (.ret (Value.ref l))) s) :=
  .of_wp fun prog w A R s h => by
    obtain ⟨hp, g, d, tk, os⟩ := s
    obtain ⟨hl, h⟩ := h
    have f1 := AutoSeq1.idx_int
    wp_walk using wpAny_loadPart' hl
    refine wpAny_ite_false (decide_eq_false (by rw [c0]; exact Bool.false_ne_true)) ?_
    wp_walk using wpAny_loadPart' hl
    exact ⟨_, rfl, h⟩
theorem tuple_mulZ (l : Addr) (items : Array Value) (n : Nat) (dd : Option Addr) (sl : Array (Option Value)) (x : Int) (u : Tok) (c0 : (decide (x < -(2 ^ 63)) || decide (x ≥ 2 ^ 63)) = false) (c1 : (items.isEmpty || x == 1) = false) (c2 : (decide (x ≤ 0) || items.isEmpty) = true) :
    Meets (Builtin.«tuple.__mul__» ⟨[.ref l, .int x u], []⟩) (fun _ R s => s.heap.get? l = some { cls := .type "tuple", dict := dd, data := .seq items n, slots := sl } ∧
      R (.ok (.ret (Value.ref s.heap.objs.size))) { s with heap := s.heap.push { cls := Value.type "tuple", data := Data.seq #[] }, toks := s.toks }) :=
  .of_wp fun prog w A R s h => by
    obtain ⟨hp, g, d, tk, os⟩ := s
    obtain ⟨hl, h⟩ := h
    have f1 := AutoSeq1.idx_int
    wp_walk using wpAny_loadPart' hl
    repeat (first
      | (refine wpAny_ite_false (decide_eq_false (by rw [c0]; exact Bool.false_ne_true)) ?_; wp_walk using wpAny_loadPart' hl)
      | (refine wpAny_ite_false (decide_eq_false (by rw [c1]; exact Bool.false_ne_true)) ?_; wp_walk using wpAny_loadPart' hl)
      | (refine wpAny_ite_true (decide_eq_true c2) ?_; wp_walk using wpAny_loadPart' hl))
    exact ⟨_, rfl, h⟩
section
variable {X : Cx}
def rRepU (K : PySem.W.Frag) : R2 := fun x y H Q => ∃ l k xs, x = .ref l ∧ y = .int k ∧ SqT K H l xs ∧ (k ≤ 1 ∨ xs = []) ∧ -1000 ≤ k ∧ k ≤ 1000 ∧ (k = 1 ∨ xs = [] → Q (.ref l) H) ∧ (k ≤ 0 → ∀ p, H p = none → Q (.ref p) (upd H p (.tup [])))
theorem op_repU : OpR X (binaryOp .Mult) (rRepU X.K) := by
  intro pins s σ H x y v u Q I rx ry h
  obtain ⟨l, k, xs, rfl, rfl, hT, hne, h1, h2, q1, q2⟩ := h
  cases rx
  obtain ⟨t, rfl⟩ := ry
  obtain ⟨its, r, ⟨⟨cls, dd, data, sl⟩, ho, hc, n, hd⟩, hs⟩ := I.tuple hT
  simp only at hc hd
  subst hc hd
  have hle : its.length = xs.length := r.length.symm
  have c0 : (decide (k < -(2 ^ 63)) || decide (k ≥ 2 ^ 63)) = false := by
    rw [decide_eq_false (by omega), decide_eq_false (by omega)] <;> rfl
  by_cases hk : k = 1 ∨ xs = []
  · have c1 : (its.toArray.isEmpty || k == 1) = true := by
      rcases hk with hk | hk
      · rw [Bool.or_eq_true]
        exact .inr (beq_iff_eq.mpr hk)
      · have e : its = [] := by
          subst hk
          exact List.eq_nil_of_length_eq_zero hle
        subst e
        rfl
    refine wpAny_binaryOp_repeat_ref (T := "tuple") (U := "int") (by decide) ⟨_, ho, rfl⟩ (fun s' => typeIs_int s' k t) noFill_tuple_mul F.fills_int_mul F.slot_int_rmul repeat_tuple F.slot_int_index.lookup
      (call_meets F.slot_int_rmul (typeIs_int s k t) F.entry_int_rmul (F.args_int_rmul_2 _ _) (int_rmul_tuple k t l its.toArray n dd sl)
        ⟨ho, rfl, ⟨_, ho, rfl⟩, call_meets F.slot_tuple_mul ⟨_, ho, rfl⟩ F.entry_tuple_mul (F.args_tuple_mul_2 _ _) (tuple_mulS l its.toArray n dd sl k t c0 c1) ⟨ho, ?_⟩⟩)
    exact ⟨.ref l, H, I, rfl, q1 hk⟩
  · have hk1 : ¬ k = 1 := fun e => hk (.inl e)
    have hn : its ≠ [] := fun e => hk (.inr (by
      rw [e] at hle
      exact List.eq_nil_of_length_eq_zero hle.symm))
    have hi : its.toArray.isEmpty = false := by
      cases its with
      | nil => exact absurd rfl hn
      | cons a b => rfl
    have k0 : k ≤ 0 := by
      rcases hne with h | h
      · omega
      · exact absurd (.inr h) hk
    have c1 : (its.toArray.isEmpty || k == 1) = false := by
      rw [hi, Bool.false_or]
      exact beq_eq_false_iff_ne.mpr hk1
    have c2 : (decide (k ≤ 0) || its.toArray.isEmpty) = true := by
      rw [decide_eq_true k0, Bool.true_or]
    refine wpAny_binaryOp_repeat_ref (T := "tuple") (U := "int") (by decide) ⟨_, ho, rfl⟩ (fun s' => typeIs_int s' k t) noFill_tuple_mul F.fills_int_mul F.slot_int_rmul repeat_tuple F.slot_int_index.lookup
      (call_meets F.slot_int_rmul (typeIs_int s k t) F.entry_int_rmul (F.args_int_rmul_2 _ _) (int_rmul_tuple k t l its.toArray n dd sl)
        ⟨ho, rfl, ⟨_, ho, rfl⟩, call_meets F.slot_tuple_mul ⟨_, ho, rfl⟩ F.entry_tuple_mul (F.args_tuple_mul_2 _ _) (tuple_mulZ l its.toArray n dd sl k t c0 c1 c2) ⟨ho, ?_⟩⟩)
    refine ⟨.ref s.heap.objs.size, _, I.laid (t' := s.toks) (o := .tup []) (fun b ob q => Heap.get?_push_of_some _ q) (Nat.le_refl _) ?_, rfl, q2 k0 _ (I.hok.fresh (Nat.le_refl _))⟩
    exact ⟨by simp, _, .nil, IsTup.new _ _⟩
end
end Pf

set_option Elab.async false
set_option linter.all false
set_option maxRecDepth 100000
set_option autoImplicit false
set_option maxHeartbeats 4000000
/-! PfL: a lambda of no parameters, handed to a def that calls it -/
namespace Pf
open PySem PySem.Spec PyProof.Rows L2 LamX
variable [Tbc]

abbrev lamN (X : Cx) : Str := X.env.qual ++ "<lambda>"
section
variable {X : Cx} {pins : List (Addr × Obj)} {σ : L2.St} {H : Hp} {s : Shared}
/-- a table has grown by one, which is new -/
theorem grown {P c : Addr} {ps more : Array Value} {q : Str} (hP : H P = some (.tbl ps)) (nC : H c = none) (htr : TriplesOk ps.toList) (pos : Pos) (em : more = #[rawInt pos.line, rawInt pos.col, .ref c])
    (old : ∀ (p' : Pos) (cv : Value), codeAmong p' ps.toList = some cv → ∃ c0, cv = .ref c0 ∧ H c0 = some (CodeO c0 q)) (uq : ∀ p ∈ Tbc.T, p.1 = P → p.2 = q) : SameT H (upd (upd H P (.tbl (ps ++ more))) c (CodeO c q)) := by
  have stay : ∀ b o, H b = some o → (∀ us, o ≠ .tbl us) → upd (upd H P (.tbl (ps ++ more))) c (CodeO c q) b = some o := fun b o hb hn => by
    rw [upd_ne (ne_of_none hb nC)]
    by_cases hbP : b = P
    · subst hbP
      rw [hP] at hb
      exact absurd (Option.some.inj hb).symm (hn ps)
    · rw [upd_ne hbP]
      exact hb
  have atP : upd (upd H P (.tbl (ps ++ more))) c (CodeO c q) P = some (.tbl (ps ++ more)) := by
    rw [upd_ne (ne_of_none hP nC), upd_same]
  refine ⟨stay, fun b us hb => ?_, fun T0 p hp => ?_⟩
  · by_cases hbP : b = P
    · subst hbP
      rw [hP] at hb
      cases hb
      exact ⟨more, atP⟩
    · refine ⟨#[], ?_⟩
      rw [upd_ne (ne_of_none hb nC), upd_ne hbP, hb]
      simp
  · obtain ⟨us, t1, t2, t3⟩ := T0 p hp
    by_cases hbP : p.1 = P
    · have e2 := uq p hp hbP
      rw [e2, hbP]
      have el : (ps ++ more).toList = ps.toList ++ [rawInt pos.line, rawInt pos.col, .ref c] := by
        rw [em]
        simp
      refine ⟨ps ++ more, atP, ?_, fun p' cv hcv => ?_⟩
      · rw [el]
        exact PySem.TriplesOk_snoc _ _ _ _ htr
      · rw [el] at hcv
        rcases among_app _ htr hcv with w | w
        · obtain ⟨d, w1, w2⟩ := old p' cv w
          exact ⟨d, w1, stay _ _ w2 codeO_ne⟩
        · exact ⟨c, w, upd_same⟩
    · refine ⟨us, ?_, t2, fun p' cv hcv => ?_⟩
      · rw [upd_ne (ne_of_none t1 nC), upd_ne hbP, t1]
      · obtain ⟨d, w1, w2⟩ := t3 p' cv hcv
        exact ⟨d, w1, stay _ _ w2 codeO_ne⟩
theorem not_fr (I : Inv X pins σ H s) {f : Addr} (hf : s.heap.objs.size ≤ f) : f ∉ frs X.stack := fun hm => by
  cases List.mem_cons.mp (I.stkSub _ hm) with
  | inr e => exact I.nofs hf e
  | inl e =>
    have lt := I.lt
    rw [← e] at lt
    exact absurd (Nat.lt_of_lt_of_le lt hf) (Nat.lt_irrefl _)
/-- what a lambda's object is -/
abbrev lamO (X : Cx) (params : Arguments) (body : Expr) (scope : Scope) (pm : Value) (c : Addr) (ctv : Value) : Obj :=
  PySem.W.kla_obj "<lambda>" (lamN X) params body scope (cloFrom X.env.cells scope.names []) pm c ctv
/-- a lambda is made -/
theorem lam_new {c P : Addr} {params : Arguments} {body : Expr} {scope : Scope} {pos : Pos} {E Q : Value → Shared → Prop} (I : Inv X pins σ H s) (TB : TabB X.base X.mg c P) (ec : X.env.code = .ref c) (T0 : Tabs Tbc.T H)
    (mT : (P, lamN X) ∈ Tbc.T) (uq : ∀ p ∈ Tbc.T, p.1 = P → p.2 = lamN X) (df : defaultsOf params X.env = ([], [])) (fr : ∀ y ∈ scope.names, y.2 = .free → ∃ d, X.env.cells.lookup y.1 = some d)
    (go : ∀ (f c1 : Addr) (pm ctv : Value) (H1 : Hp) (s1 : Shared), Inv X pins σ H1 s1 → SameT H H1 → s1.heap.get? f = some (lamO X params body scope pm c1 ctv) → H1 f = none → f ∉ frs X.stack → H1 c1 = some (CodeO c1 (lamN X)) → Q (.ref f) s1) :
    wpAny (model X.prog X.w) X.A (eval (.Lambda params body scope pos) X.env) Q E s := by
  obtain ⟨ps, hP, htr, old⟩ := T0 _ mT
  have atP : s.heap.get? P = some { cls := .none, data := .fields ps } := I.hok P _ hP
  have bP := TB.bm.keeps I.bk
  have gl := I.mod.glob.keeps I.bk
  have cd := TB.code.keeps I.bk
  refine PySem.W.kla_eval df ?_
  cases hit : codeAmong pos ps.toList with
  | some cv =>
    obtain ⟨c1, rfl, hc1⟩ := old pos cv hit
    refine PySem.W.kla_makeFunctionHit (mg := X.mg) (closure_ok fr) I.ok.glob gl ec cd atP htr hit bP fun ctv h1 tk keep big => ?_
    exact go _ c1 ((X.mg "__name__").getD .none) ctv H _ (I.kept fun b o e => Heap.get?_push_of_some _ (keep b o e)) (SameT.refl H) (Heap.get?_push_size _ rfl) (I.hok.fresh big) (not_fr I big) hc1
  | none =>
    refine PySem.W.kla_makeFunction (mg := X.mg) (closure_ok fr) I.ok.glob gl ec cd atP htr hit TB.gP bP fun c1 ctv h1 tk keep lo hi rec_ tb => ?_
    obtain ⟨c2, oc, vs, t, e2, o1, o2, o3⟩ := rec_
    cases e2
    have big : s.heap.objs.size ≤ h1.objs.size := Nat.le_trans lo (Nat.le_of_lt hi)
    have nC : H c1 = none := I.hok.fresh lo
    have J := inv_table (t' := tk) (more := #[rawInt pos.line, rawInt pos.col, .ref c1]) (h' := h1.push (lamO X params body scope ((X.mg "__name__").getD .none) c1 ctv)) I hP (fun b o n e => Heap.get?_push_of_some _ (keep b o n e))
      (Heap.get?_push_of_some _ tb) lo ⟨oc, vs, t, Heap.get?_push_of_some _ o1, o2, o3⟩ (q := lamN X)
    refine go _ c1 ((X.mg "__name__").getD .none) ctv _ _ J (grown hP nC htr pos rfl old uq) (Heap.get?_push_size _ rfl) ?_ (not_fr I big) upd_same
    rw [upd_ne (Nat.ne_of_gt hi), upd_ne (Nat.ne_of_gt (Nat.lt_of_lt_of_le (Heap.lt_size atP) big))]
    exact I.hok.fresh big
end
/-- what the lambda at f gives, called where it was handed to: tl of the exceptions that are taken there -/
def Acts (P : Program) (w : World) (K : PySem.W.Frag) (mg : Str → Option Value) (base : Heap) (A : Around) (stack : List PySem.Env) (s : Shared) (H : Hp) (N : List Str) (x : Str) (sg : Scope) (g : Addr) (cdg : Value) (a : Str) (f c1 : Addr) (q : Str) (tl : XK → Hp → VK → Prop) : Prop :=
  ∀ (W : WX) (pn : List (Addr × Obj)) (xe : Value → Shared → Prop) (p1 p2 : Pos), Takes ((cxOf C8.CX0 P w K mg base N x sg g cdg A stack s H C8.E0).tr pn xe) W →
    PE ((cxOf C8.CX0 P w K mg base N x sg g cdg A stack s H C8.E0).tr pn xe) (.Call (.Name a p1) [] [] p2) (fun σ H' Q => σ[0]? = some (some (.ref f)) ∧ H' c1 = some (CodeO c1 q) ∧ tl (fun cls d H2 => W cls d σ H2) H' Q)
section
variable {X : Cx} {pins : List (Addr × Obj)} {σ : L2.St} {H : Hp} {s : Shared}
theorem acts_of {N : List Str} {qg : Str} {sg : Scope} {g f c1 : Addr} {cdg pm ctv : Value} {params : Arguments} {body : Expr} {scope : Scope} {k : Nat} {a : Str} {t : XK → TE}
    (I : Inv X pins σ H s) (L : LamS X.env.scope scope) (hf : s.heap.get? f = some (lamO X params body scope pm c1 ctv)) (nf : H f = none) (frf : f ∉ frs X.stack)
    (bd : bindArgs (PySem.W.kla_fn "<lambda>" (lamN X) params body scope (cloFrom X.env.cells scope.names []) pm (.ref c1) ctv) ⟨[], []⟩ = pure []) (hr : Room (k + 1) (X.A.deeper (PyProof.Rows.envOfC qg sg s.heap.objs.size g cdg)))
    (hb : ∀ (A : Around) (outer : List PySem.Env) (s : Shared) (H : Hp) (E : XK), Room k (A.deeper (lamEnv X scope s.heap.objs.size f c1)) → PE (lamCx X A outer s H E scope f c1) body (t E))
    (hN : N[0]? = some a) (hv : Vis sg a) (hd : (a == ("__debug__" : Str)) = false) (hcd : (a == ("__classdict__" : Str)) = false) :
    Acts X.prog X.w X.K X.mg X.base X.A X.stack s H N qg sg g cdg a f c1 (lamN X) (fun E H' Q => t E σ H' Q) := by
  intro W pn xe p1 p2 tk
  refine ⟨fun pz sz σz Hz Q Iz h0 => ?_⟩
  obtain ⟨h1, h2, h3⟩ := h0
  have hvar := (pe_var (pos := p1) (i := 0) hN hv hd hcd).run pz sz σz Hz (fun v H1 => v = .ref f ∧ H1 = Hz) Iz ⟨.ref f, h1, rfl, rfl⟩
  refine wpAny_Call_Name_kw (thn hvar fun u s1 hu => ?_)
  obtain ⟨v, H1, J, rv, rfl, rfl⟩ := hu
  cases (show u = Value.ref f from rv)
  have of1 := J.base.keep f _ hf nf frf fun z => (nomatch (show f ∈ ([] : List Addr) from z))
  refine PySem.W.callWith_F0 ⟨_, _, _, _, of1⟩ ?_
  obtain ⟨⟨oc, vs, tk1, c2, c3, c4⟩, _, _⟩ := J.hok c1 _ h2
  have un : Un (frs X.stack) [] H H1 s.heap s1.heap := J.base
  have run : codeAny (model X.prog X.w) (X.A.deeper (PyProof.Rows.envOfC qg sg s.heap.objs.size g cdg)) (.call (.ref f) ⟨[], []⟩) (CR (L2.CX X.prog X.w) (PyProof.Rows.envOfC qg sg s.heap.objs.size g cdg :: X.stack) X.prog X.w H1 s1 Q (WE W σz)) s1 := by
    refine PySem.W.kla_callFunE hr.depth of1 rfl L.co L.gen rfl ⟨c1, oc, vs, tk1, rfl, c2, c3, c4⟩ ?_
    rw [bd]
    refine wpAny_pure (wpAny_newFunctionEnv (fun y m => (L.own y m).2) (fun y m => absurd m (by simp)) (fun h2 n1 n2 => ⟨J.nolimit.fresh _ n2, ?_⟩) L.kind)
    have keep : ∀ b o, s1.heap.get? b = some o → h2.get? b = some o := fun b o e => n2.extBut b o (Nat.ne_of_lt (Heap.lt_size e)) (Heap.get?_push_of_some _ e)
    have J2 := lam_start2 (f := f) (c' := c1) (tk := s1.toks + ([] : List (Str × Value)).length) (E := WE W σz) I L J.env0 hr.hd un n1 keep
    refine PySem.W.kla_codeExpr (wpAny_mono ((hb _ _ s1 H1 (WE W σz) (hr.deeper _)).run [] _ _ H1 Q J2 h3) (fun v s2 hq => ?_) fun _ _ hq => hq)
    obtain ⟨w2, H2, J3, r2, q2⟩ := hq
    exact ⟨w2, H2, J3.os, J3.bare, J3.base, J3.hok, r2, q2⟩
  refine wpAny_call (codeAny_mono run fun r s2 hq => ?_)
  match r, hq with
  | .error e, hq => exact passAt tk σz pz H1 s1 e s2 J hq
  | .ok (.ret u), hq => exact J.after hq
  | .ok .next, hq => exact False.elim hq
  | .ok .brk, hq => exact False.elim hq
  | .ok .cont, hq => exact False.elim hq
/-- a def called with a lambda: what its body makes of what the lambda gives -/
theorem call_lam {N : List Str} {x a : Str} {g c P : Addr} {k : Nat} {st : Stmt} {fd : FuncData} {params : Arguments} {body : Expr} {scope : Scope} {t : XK → TE} {TT : (XK → Hp → VK → Prop) → Hp → VK → Prop} {p lpos pos : Pos} (hg : Gl X x) (hm : X.mg x = some (.ref g))
    (F : Fun X.K x x st g fd) (Sg : FnScope N [a] (defScope st)) (hbd : L2.Binds X.K fd [a] []) (hN : N[0]? = some a) (hv : Vis (defScope st) a)
    (body_ : ∀ (cdv : Value) (s : Shared) (H : Hp) (Q : VK) (f c1 : Addr) (tl : XK → Hp → VK → Prop), Room (k + 1) (X.A.deeper (PyProof.Rows.envOfC x (defScope st) s.heap.objs.size g cdv)) → H c1 = some (CodeO c1 (lamN X)) →
      Acts X.prog X.w X.K X.mg X.base X.A X.stack s H N x (defScope st) g cdv a f c1 (lamN X) tl → TT tl H Q →
      ∃ t, PSs (cxOf C8.CX0 X.prog X.w X.K X.mg X.base N x (defScope st) g cdv X.A X.stack s H C8.E0).nox (defBody st) t ∧ t { nx := fun _ H' => Q .non H', rt := Q } (L2.start N [.ref f]) H)
    (TB : TabB X.base X.mg c P) (ec : X.env.code = .ref c) (mT : (P, lamN X) ∈ Tbc.T) (uq : ∀ p ∈ Tbc.T, p.1 = P → p.2 = lamN X) (hr : Room (k + 2) X.A) (L : LamS X.env.scope scope) (df : defaultsOf params X.env = ([], []))
    (bl : ∀ (q : Str) (cl : List (Str × Addr)) (pm cv ctv : Value), bindArgs (PySem.W.kla_fn "<lambda>" q params body scope cl pm cv ctv) ⟨[], []⟩ = pure [])
    (hb : ∀ (A : Around) (outer : List PySem.Env) (s : Shared) (H : Hp) (E : XK) (f c1 : Addr), Room k (A.deeper (lamEnv X scope s.heap.objs.size f c1)) → PE (lamCx X A outer s H E scope f c1) body (t E))
    (hdb : (x == ("__debug__" : Str)) = false) (hd : (a == ("__debug__" : Str)) = false) (hcd : (a == ("__classdict__" : Str)) = false) :
    PE X (.Call (.Name x p) [.Lambda params body scope lpos] [] pos) (fun σ H Q => Tabs Tbc.T H ∧ ∀ H1, SameT H H1 → TT (fun E H' Q' => t E σ H' Q') H1 Q) := by
  refine ⟨fun pins s σ H Q I h => ?_⟩
  refine wpAny_Call_Name_kw (ld_glob I hg hm ?_ hdb)
  refine PySem.W.callWith_K (h₀ := X.base) I.ok.mod.kin F.kp ?_ (by rfl) (by rfl)
  obtain ⟨T0, h⟩ := h
  change wpAny _ _ (spliced ((false, eval (Expr.Lambda params body scope lpos) X.env) :: backTo pos [])) _ _ s
  refine Calls.spliced_cons (lam_new I TB ec T0 mT uq df (L.has I.ok) fun f c1 pm ctv H1 s1 J eT hf nf frf hc1 => Calls.spliced_nil ⟨J.kIn, ?_⟩)
  obtain ⟨oc, od, kV, doc, pm', an, cdv, ct, osl, rfl, lk, hcd2⟩ := F.ex
  have run : codeAny (model X.prog X.w) X.A (.call (.ref g) ⟨[.ref f], []⟩) (CR C8.CX0 X.stack X.prog X.w H1 s1 Q C8.E0) s1 := by
    refine run_ofS (N := N) (ps := [a]) (us := [.ref f]) (vs := [.ref f]) lk hcd2 Sg hr J.env0 (hbd s1 [.ref f] J.kIn rfl) (.cons rfl .nil) rfl fun hr2 => ?_
    have act := acts_of (t := t) J L hf nf frf (bl _ _ _ _ _) hr2 (fun A outer s H E hr3 => hb A outer s H E f c1 hr3) hN hv hd hcd
    obtain ⟨t2, q1, q2⟩ := body_ cdv s1 H1 Q f c1 _ hr2 hc1 act (h H1 eT)
    exact ⟨t2, q1.nox, q2⟩
  refine wpAny_call (codeAny_mono run fun r s2 hq => ?_)
  match r, hq with
  | .error e, hq => exact (show False from hq).elim
  | .ok (.ret u), hq => exact J.after hq
  | .ok .next, hq => exact False.elim hq
  | .ok .brk, hq => exact False.elim hq
  | .ok .cont, hq => exact False.elim hq
end
end Pf

set_option Elab.async false
set_option linter.all false
set_option maxRecDepth 100000
set_option autoImplicit false
set_option maxHeartbeats 4000000
/-! PfZ: list(zip(xs, ys)) of two lists -/
namespace Pf
open PySem PySem.Spec PyProof.Rows L2
open Sem (wp)
theorem zip_no_len : typeLookup (.type "zip") "__len__" = pure none := am_miss_of_fast (by decide +kernel)
theorem zip_no_hint : typeLookup (.type "zip") "__length_hint__" = pure none := am_miss_of_fast (by decide +kernel)
theorem ne_up {a b B : Addr} (h : a < B) (h' : B ≤ b) : b ≠ a := Nat.ne_of_gt (Nat.lt_of_lt_of_le h h')
/-- a zip on its way -/
def ZSt (z TI TO i1 i2 l1 l2 : Addr) (xs ys : Array Value) (S i : Nat) (h : Heap) : Prop :=
  IsPair h TI (.ref i1) (.ref i2) ∧ h.IsListIter i1 l1 i ∧ h.IsListIter i2 l2 i ∧ h.IsList l1 xs ∧ h.IsList l2 ys ∧
    ((IsZip h z TI TO .none ∧ ∃ a b, IsPair h TO a b) ∨ ∃ (T : Addr) (f : Bool) (oT : Obj), IsZipHeld h z TI TO T f ∧ h.get? T = some oT ∧ T ≠ z ∧ T ≠ i1 ∧ T ≠ i2 ∧ T ≠ S)
/-- what was made so far -/
def Prs (B : Nat) (xs ys : Array Value) (i : Nat) (acc : Array Value) (h : Heap) : Prop :=
  acc.size = i ∧ ∃ T : Nat → Addr, (∀ j, j < i → B ≤ T j ∧ acc[j]? = some (.ref (T j)) ∧ ∃ x y, xs[j]? = some x ∧ ys[j]? = some y ∧ IsPair h (T j) x y) ∧ ∀ j k, j < i → k < i → T j = T k → j = k
section
variable {prog : Program} {w : World} {A : Around} {R : Result → Shared → Prop}
theorem ZSt.frame {z TI TO i1 i2 l1 l2 : Addr} {xs ys : Array Value} {S i : Nat} {h h' : Heap} (st : ZSt z TI TO i1 i2 l1 l2 xs ys S i h) (d : S ≠ z ∧ S ≠ TI ∧ S ≠ TO ∧ S ≠ i1 ∧ S ≠ i2 ∧ S ≠ l1 ∧ S ≠ l2) (hk : ∀ b o, b ≠ S → h.get? b = some o → h'.get? b = some o) : ZSt z TI TO i1 i2 l1 l2 xs ys S i h' := by
  obtain ⟨hTI, h1, h2, hl1, hl2, hz⟩ := st
  obtain ⟨dz, dTI, dTO, di1, di2, dl1, dl2⟩ := d
  refine ⟨hk _ _ (Ne.symm dTI) hTI, h1.at fun o e => hk _ o (Ne.symm di1) e, h2.at fun o e => hk _ o (Ne.symm di2) e, hl1.at fun o e => hk _ o (Ne.symm dl1) e, hl2.at fun o e => hk _ o (Ne.symm dl2) e, ?_⟩
  rcases hz with ⟨hz, a, b, hTO⟩ | ⟨T, f, oT, hz, hT, r1, r2, r3, r4⟩
  · exact .inl ⟨hk _ _ (Ne.symm dz) hz, a, b, hk _ _ (Ne.symm dTO) hTO⟩
  · exact .inr ⟨T, f, oT, hk _ _ (Ne.symm dz) hz, hk _ _ r4 hT, r1, r2, r3, r4⟩
theorem extend_zip (hh : A.in1.handled = none) {z TI TO i1 i2 l1 l2 : Addr} (D : ZipApart z TI TO i1 i2 l1 l2) (xs ys : Array Value) (S : Addr) (dS : S ≠ z ∧ S ≠ TI ∧ S ≠ TO ∧ S ≠ i1 ∧ S ≠ i2 ∧ S ≠ l1 ∧ S ≠ l2) (res : Value) (B : Nat) (bB : z < B ∧ TO < B ∧ i1 < B ∧ i2 < B ∧ S < B) (hn : min xs.size ys.size ≤ sizeLine) :
    ∀ (k i : Nat) (s : Shared) (acc : Array Value) (c : Nat), min xs.size ys.size - i = k → i ≤ min xs.size ys.size → ZSt z TI TO i1 i2 l1 l2 xs ys S i s.heap → B ≤ s.heap.objs.size →
    s.heap.get? S = some { cls := .type "list", dict := none, data := .seq acc c, slots := #[] } → Prs B xs ys i acc s.heap →
    (∀ (h' : Heap) (acc' : Array Value) (c' : Nat), (∀ b o, b ≠ S → b ≠ z → b ≠ TO → b ≠ i1 → b ≠ i2 → s.heap.get? b = some o → h'.get? b = some o) → h'.get? S = some { cls := .type "list", dict := none, data := .seq acc' c', slots := #[] } → Prs B xs ys (min xs.size ys.size) acc' h' → R (.ok (.ret res)) { s with heap := h' }) →
    codeAny (model prog w) A (.builtin "list.extend.loop" ⟨[.ref S, .ref z, res], []⟩) R s := by
  intro k
  induction k with
  | zero =>
    intro i s acc c hk hi st hB hS hacc hR
    have hin : i = min xs.size ys.size := by omega
    subst hin
    refine codeAny_builtin F.entry_extend_loop ?_
    rw [Around.under_plainId F.plain_extend_loop _]
    show wpAny _ A.in1 (pyNext (.ref z) >>= _) _ _ s
    refine wpAny_bind ?_
    obtain ⟨hTI, h1, h2, hl1, hl2, hz⟩ := st
    have hend : xs[min xs.size ys.size]? = none ∨ ys[min xs.size ys.size]? = none := by
      rcases Nat.le_total xs.size ys.size with h | h
      · exact .inl (by rw [Nat.min_eq_left h]; simp)
      · exact .inr (by rw [Nat.min_eq_right h]; simp)
    have fin : ∀ h' : Heap, (∀ c o, c ≠ z → c ≠ TO → c ≠ i1 → c ≠ i2 → s.heap.get? c = some o → h'.get? c = some o) → R (.ok (.ret res)) { s with heap := h' } := fun h' hk => by
      refine hR h' acc c (fun b o _ b1 b2 b3 b4 e => hk b o b1 b2 b3 b4 e) (hk _ _ dS.1 dS.2.2.1 dS.2.2.2.1 dS.2.2.2.2.1 hS) ?_
      obtain ⟨q1, T, q2, q3⟩ := hacc
      refine ⟨q1, T, fun j hj => ?_, q3⟩
      obtain ⟨r1, r2, x, y, r3, r4, r5⟩ := q2 j hj
      exact ⟨r1, r2, x, y, r3, r4, hk _ _ (ne_up bB.1 r1) (ne_up bB.2.1 r1) (ne_up bB.2.2.1 r1) (ne_up bB.2.2.2.1 r1) r5⟩
    rcases hz with ⟨hz, a, b, hTO⟩ | ⟨T, f, oT, hz, hT, r1, r2, r3, r4⟩
    · exact wpAny_pyNext_zip_end hh D hz hTI hTO h1 h2 hl1 hl2 hend fun h' hk => wpAny_pure (fin h' hk)
    · exact wpAny_pyNext_zip_end_held hh D hz hT hTI h1 h2 hl1 hl2 hend fun h' hk => wpAny_pure (fin h' fun c o c1 _ c3 c4 e => hk c o c1 c3 c4 e)
  | succ k ih =>
    intro i s acc c hk hi st hB hS hacc hR
    have hlt : i < min xs.size ys.size := by omega
    refine codeAny_builtin F.entry_extend_loop ?_
    rw [Around.under_plainId F.plain_extend_loop _]
    show wpAny _ A.in1 (pyNext (.ref z) >>= _) _ _ s
    refine wpAny_bind ?_
    have step : ∀ (h' : Heap) (x y : Value), xs[i]? = some x → ys[i]? = some y → IsPair h' s.heap.objs.size x y → h'.objs.size = s.heap.objs.size + 1 → ZSt z TI TO i1 i2 l1 l2 xs ys S (i + 1) h' →
        (∀ c o, c ≠ z → c ≠ TO → c ≠ i1 → c ≠ i2 → s.heap.get? c = some o → h'.get? c = some o) →
        wpAny (model prog w) A.in1 (updateSeq S (·.push (.ref s.heap.objs.size)) >>= fun _ => again (.builtin "list.extend.loop" ⟨[.ref S, .ref z, res], []⟩)) (fun fin s' => match fin with | .done f => R (.ok f) s' | .again c' => c'.quiet = true ∧ codeAny (model prog w) A c' R s') (fun e s' => R (.error e) s') { s with heap := h' } := fun h' x y ex ey hp hsz st' hk => by
      have hS' := hk _ _ dS.1 dS.2.2.1 dS.2.2.2.1 dS.2.2.2.2.1 hS
      refine wpAny_bind ?_
      obtain ⟨q1, T, q2, q3⟩ := hacc
      refine wpAny_updateSeq (s := { s with heap := h' }) hS' rfl (wpAny_pure ⟨plainId_quiet F.plain_extend_loop _, ih (i + 1) _ (acc.push (.ref s.heap.objs.size)) _ (by omega) hlt (st'.frame dS fun b o hb e => (Heap.get?_update_other _ _ (Ne.symm hb)).trans e) (by rw [Heap.size_update]; show B ≤ h'.objs.size; omega) (Heap.get?_update_self _ hS' rfl) ?_ fun h'' acc' c' hm hS'' hacc' => ?_⟩) ?_
      · refine ⟨by rw [Array.size_push, q1], fun j => if j = i then s.heap.objs.size else T j, fun j hj => ?_, fun j k hj hk e => ?_⟩
        · dsimp only
          by_cases e : j = i
          · subst e
            rw [if_pos rfl]
            refine ⟨hB, ?_, x, y, ex, ey, ?_⟩
            · rw [← q1]
              simp
            · exact (Heap.get?_update_other _ _ (Ne.symm (ne_up bB.2.2.2.2 hB))).trans hp
          · rw [if_neg e]
            obtain ⟨r1, r2, x', y', r3, r4, r5⟩ := q2 j (by omega)
            refine ⟨r1, ?_, x', y', r3, r4, ?_⟩
            · rw [Array.getElem?_push, if_neg (by omega)]
              exact r2
            · exact (Heap.get?_update_other _ _ (Ne.symm (ne_up bB.2.2.2.2 r1))).trans (hk _ _ (ne_up bB.1 r1) (ne_up bB.2.1 r1) (ne_up bB.2.2.1 r1) (ne_up bB.2.2.2.1 r1) r5)
        · have lt : ∀ j, j < i → T j < s.heap.objs.size := fun j hj => by
            obtain ⟨_, _, _, _, _, _, r5⟩ := q2 j hj
            exact Heap.lt_size r5
          dsimp only at e
          by_cases e1 : j = i
          · by_cases e2 : k = i
            · omega
            · rw [if_pos e1, if_neg e2] at e
              exact absurd e.symm (Nat.ne_of_lt (lt k (by omega)))
          · by_cases e2 : k = i
            · rw [if_neg e1, if_pos e2] at e
              exact absurd e (Nat.ne_of_lt (lt j (by omega)))
            · rw [if_neg e1, if_neg e2] at e
              exact q3 j k (by omega) (by omega) e
      · refine hR h'' acc' c' (fun b o b0 b1 b2 b3 b4 e => hm b o b0 b1 b2 b3 b4 ?_) hS'' hacc'
        exact (Heap.get?_update_other _ _ (Ne.symm b0)).trans (hk b o b1 b2 b3 b4 e)
      · show acc.size ≤ sizeLine
        omega
    obtain ⟨hTI, h1, h2, hl1, hl2, hz⟩ := st
    have hix : i < xs.size := Nat.lt_of_lt_of_le hlt (Nat.min_le_left ..)
    have hiy : i < ys.size := Nat.lt_of_lt_of_le hlt (Nat.min_le_right ..)
    have ex := Array.getElem?_eq_getElem hix
    have ey := Array.getElem?_eq_getElem hiy
    rcases hz with ⟨hz, a, b, hTO⟩ | ⟨T, f, oT, hz, hT, r1, r2, r3, r4⟩
    · refine wpAny_pyNext_zip_item D hz hTI hTO h1 h2 hl1 hl2 ex ey fun h' a1 a2 a3 a4 a5 a6 hk => ?_
      exact step h' _ _ ex ey a5 a6 ⟨hk _ _ D.TIz D.TITO D.TIi1 D.TIi2 hTI, a3, a4, hl1.at fun o e => hk _ o D.l1z D.l1TO D.l1i1 D.l1i2 e, hl2.at fun o e => hk _ o D.l2z D.l2TO D.l2i1 D.l2i2 e,
        .inr ⟨s.heap.objs.size, false, _, a1, a5, ne_up bB.1 hB, ne_up bB.2.2.1 hB, ne_up bB.2.2.2.1 hB, ne_up bB.2.2.2.2 hB⟩⟩ hk
    · refine wpAny_pyNext_zip_item_held D hz hT hTI h1 h2 hl1 hl2 ex ey fun h' a1 a3 a4 a5 a6 hk => ?_
      exact step h' _ _ ex ey a5 a6 ⟨hk _ _ D.TIz D.TIi1 D.TIi2 hTI, a3, a4, hl1.at fun o e => hk _ o D.l1z D.l1i1 D.l1i2 e, hl2.at fun o e => hk _ o D.l2z D.l2i1 D.l2i2 e,
        .inr ⟨T, true, oT, a1, hk _ _ r1 r2 r3 hT, r1, r2, r3, r4⟩⟩ fun c o c1 _ c3 c4 e => hk c o c1 c3 c4 e
/-- the whole call: the two lists' places, and a new list of new pairs -/
theorem call_list_zip {E : Value → Shared → Prop} {s : Shared} {Q : Value → Shared → Prop} (hh : A.handled = none) {z TI TO i1 i2 l1 l2 : Addr} (D : ZipApart z TI TO i1 i2 l1 l2) (xs ys : Array Value)
    (hz : IsZip s.heap z TI TO .none) (hTI : IsPair s.heap TI (.ref i1) (.ref i2)) (hTO : ∃ a b, IsPair s.heap TO a b) (h1 : s.heap.IsListIter i1 l1 0) (h2 : s.heap.IsListIter i2 l2 0) (hl1 : s.heap.IsList l1 xs) (hl2 : s.heap.IsList l2 ys)
    (hn : min xs.size ys.size ≤ 1000000)
    (hQ : ∀ (h' : Heap) (acc' : Array Value) (c' : Nat), (∀ b o, b ≠ z → b ≠ TO → b ≠ i1 → b ≠ i2 → s.heap.get? b = some o → h'.get? b = some o) → h'.get? s.heap.objs.size = some { cls := .type "list", dict := none, data := .seq acc' c', slots := #[] } →
      Prs (s.heap.objs.size + 1) xs ys (min xs.size ys.size) acc' h' → Q (.ref s.heap.objs.size) { s with heap := h' }) :
    wpAny (model prog w) A (call (.type "list") [.ref z]) Q E s := by
  have ltz : z < s.heap.objs.size := Heap.lt_size hz
  have ltTI : TI < s.heap.objs.size := Heap.lt_size hTI
  have ltTO : TO < s.heap.objs.size := let ⟨_, _, e⟩ := hTO; Heap.lt_size e
  have lti1 : i1 < s.heap.objs.size := let ⟨_, e, _⟩ := h1; Heap.lt_size e
  have lti2 : i2 < s.heap.objs.size := let ⟨_, e, _⟩ := h2; Heap.lt_size e
  have ltl1 : l1 < s.heap.objs.size := let ⟨_, e, _⟩ := hl1; Heap.lt_size e
  have ltl2 : l2 < s.heap.objs.size := let ⟨_, e, _⟩ := hl2; Heap.lt_size e
  obtain ⟨S, hSe⟩ : ∃ S, S = s.heap.objs.size := ⟨_, rfl⟩
  have dS : S ≠ z ∧ S ≠ TI ∧ S ≠ TO ∧ S ≠ i1 ∧ S ≠ i2 ∧ S ≠ l1 ∧ S ≠ l2 := by
    rw [hSe]
    exact ⟨Nat.ne_of_gt ltz, Nat.ne_of_gt ltTI, Nat.ne_of_gt ltTO, Nat.ne_of_gt lti1, Nat.ne_of_gt lti2, Nat.ne_of_gt ltl1, Nat.ne_of_gt ltl2⟩
  refine callType_codes (Q₁ := fun obj s₁ => obj = .ref s.heap.objs.size ∧ s₁ = { s with heap := s.heap.push { cls := .type "list", data := .seq #[] } }) F.called_list (F.typeCall_list_1 _) F.entry_list_init
    (code_list_new _ ⟨rfl, rfl⟩) fun obj s₁ h₁ => ?_
  obtain ⟨rfl, rfl⟩ := h₁
  rw [← hSe] at hQ ⊢
  have hS : (s.heap.push { cls := .type "list", data := .seq #[] }).get? S = some { cls := .type "list", data := .seq #[] } := by
    rw [hSe]
    exact Heap.get?_push_size _ rfl
  refine ⟨⟨_, hS, rfl⟩, F.args_list_init_2 _ _, ?_⟩
  have st0 : ZSt z TI TO i1 i2 l1 l2 xs ys S 0 (s.heap.push { cls := .type "list", data := .seq #[] }) := by
    have up : ∀ c o, s.heap.get? c = some o → (s.heap.push { cls := .type "list", data := .seq #[] }).get? c = some o := fun c o e => Heap.get?_push_of_some _ e
    obtain ⟨a, b, hTO⟩ := hTO
    exact ⟨up _ _ hTI, h1.at fun o e => up _ o e, h2.at fun o e => up _ o e, hl1.at fun o e => up _ o e, hl2.at fun o e => up _ o e, .inl ⟨up _ _ hz, a, b, up _ _ hTO⟩⟩
  obtain ⟨H0, hH0⟩ : ∃ H0, H0 = s.heap.push { cls := .type "list", data := .seq #[] } := ⟨_, rfl⟩
  have sz0 : H0.objs.size = S + 1 := by rw [hH0, Heap.size_push, hSe]
  have up0 : ∀ c o, s.heap.get? c = some o → H0.get? c = some o := fun c o e => by rw [hH0]; exact Heap.get?_push_of_some _ e
  rw [← hH0] at hS st0 ⊢
  show wpAny _ A.in1.in1 (do let old ← Builtin.List.listItems (.ref S); Builtin.List.listUpdate (.ref S) (fun _ => #[]); letGo old.toList.reverse; Builtin.List.listExtendWith (.ref S) (.ref z) .none) _ _ { s with heap := H0 }
  refine wpAny_bind ?_
  unfold Builtin.List.listItems
  refine wpAny_bind (wpAny_seqItems hS rfl (wpAny_pure ?_))
  show wpAny _ A.in1.in1 (updateSeq S (fun _ => #[]) >>= fun _ => letGo (#[] : Array Value).toList.reverse >>= fun _ => Builtin.List.listExtendWith (.ref S) (.ref z) .none) _ _ { s with heap := H0 }
  refine wpAny_bind (wpAny_updateSeq hS rfl ?_)
  have hS₂ := Heap.get?_update_self (Obj.mapSeq (fun _ => (#[] : Array Value))) hS rfl
  have oth : ∀ b o, b ≠ S → H0.get? b = some o → (H0.update S (Obj.mapSeq (fun _ => (#[] : Array Value)))).get? b = some o := fun b o hb e => (Heap.get?_update_other _ _ (Ne.symm hb)).trans e
  have st1 := st0.frame dS oth
  refine wpAny_bind (wpAny_letGo ?_)
  obtain ⟨H1, hH1⟩ : ∃ H1, H1 = H0.update S (Obj.mapSeq (fun _ => (#[] : Array Value))) := ⟨_, rfl⟩
  have sz1 : H1.objs.size = S + 1 := by rw [hH1, Heap.size_update, sz0]
  rw [← hH1] at hS₂ oth st1
  show wpAny _ A.in1.in1 (Builtin.List.listExtendWith (.ref S) (.ref z) .none) _ _ { s with heap := H0.update S (Obj.mapSeq (fun _ => (#[] : Array Value))) }
  rw [← hH1]
  have hz1 : IsZip H1 z TI TO .none := oth _ _ (Ne.symm dS.1) (up0 _ _ hz)
  have hTz : ({ s with heap := H1 } : Shared).TypeIs (.ref z) "zip" := ⟨_, hz1, rfl⟩
  unfold Builtin.List.listExtendWith
  refine wpAny_bind (wpAny_typeOf hTz ?_)
  have q1 : Builtin.List.listSameRef (.ref S) (.ref z) = false := by simp [Builtin.List.listSameRef, dS.1]
  have q2 : (Value.type "zip" == Value.type "list") = false := by decide
  have q3 : (Value.type "zip" == Value.type "tuple") = false := by decide
  simp only [q1, q2, q3, Bool.or_false, Bool.false_eq_true, if_false]
  refine wpAny_bind (wpAny_pyIter_zip hz1 ?_)
  refine wpAny_bind (wpAny_holding ?_)
  unfold Builtin.List.listLengthHint
  refine wpAny_bind (wpAny_specialOf hTz zip_no_len ?_)
  show wpAny _ A.in1.in1 (specialOf (Value.ref z) (Str.ofString "__length_hint__") >>= _) _ _ _
  refine wpAny_bind (wpAny_specialOf hTz zip_no_hint ?_)
  refine wpAny_pure ?_
  show wpAny _ A.in1.in1 (rule "list.extend.makes-room" >>= fun _ => Builtin.List.listTouch (.ref S) >>= fun _ =>
    again (.builtin "list.extend.loop" ⟨[.ref S, .ref z, .none], []⟩)) _ _ _
  refine wpAny_bind (wpAny_rule ?_)
  refine wpAny_bind ?_
  show wpAny _ A.in1.in1 (updateSeq S (·.push .none) >>= fun _ => updateSeq S (·.pop)) _ _ _
  refine wpAny_bind (wpAny_updateSeq hS₂ rfl ?_)
  have hS₃ := Heap.get?_update_self (Obj.mapSeq (·.push Value.none)) hS₂ rfl
  refine wpAny_updateSeq (hz := by seq_fits) hS₃ rfl ?_
  have hS₄ := Heap.get?_update_self (Obj.mapSeq (·.pop)) hS₃ rfl
  have oth2 : ∀ b o, b ≠ S → H1.get? b = some o → ((H1.update S (Obj.mapSeq (·.push Value.none))).update S (Obj.mapSeq (·.pop))).get? b = some o :=
    fun b o hb e => (Heap.get?_update_other _ _ (Ne.symm hb)).trans ((Heap.get?_update_other _ _ (Ne.symm hb)).trans e)
  refine wpAny_pure ⟨plainId_quiet F.plain_extend_loop _, extend_zip (A := A.in1) hh D xs ys S dS .none (S + 1) ⟨Nat.lt_succ_of_lt (hSe ▸ ltz), Nat.lt_succ_of_lt (hSe ▸ ltTO), Nat.lt_succ_of_lt (hSe ▸ lti1), Nat.lt_succ_of_lt (hSe ▸ lti2), Nat.lt_succ_self S⟩ (by rw [sizeLine_eq]; omega) _ 0 _ _ _ rfl (Nat.zero_le _) (st1.frame dS oth2) ?_ hS₄ ⟨rfl, fun _ => 0, fun j hj => absurd hj (Nat.not_lt_zero j), fun j k hj => absurd hj (Nat.not_lt_zero j)⟩ fun h' acc' c' hk hS' hacc => ?_⟩
  · rw [Heap.size_update, Heap.size_update]
    exact Nat.le_of_eq sz1.symm
  · refine ⟨rfl, hQ h' acc' c' (fun b o b1 b2 b3 b4 e => ?_) hS' hacc⟩
    have hb : b ≠ S := by
      rw [hSe]
      exact Nat.ne_of_lt (Heap.lt_size e)
    exact hk b o hb b1 b2 b3 b4 (oth2 b o hb (oth b o hb (up0 b o e)))
end
/-- new pairs laid, one by one -/
def layP (H : Hp) (T : Nat → Addr) (f g : Nat → V) : Nat → Hp
  | 0 => H
  | k + 1 => upd (layP H T f g k) (T k) (.tup [f k, g k])
theorem layP_other {H : Hp} {T : Nat → Addr} {f g : Nat → V} {b : Addr} : ∀ {n : Nat}, (∀ i, i < n → T i ≠ b) → layP H T f g n b = H b
  | 0, _ => rfl
  | n + 1, h => by
    show upd (layP H T f g n) (T n) _ b = _
    rw [upd_ne (Ne.symm (h n (Nat.lt_succ_self n)))]
    exact layP_other fun i hi => h i (Nat.lt_succ_of_lt hi)
section
variable {X : Cx} {pins : List (Addr × Obj)} {σ : L2.St} {H : Hp} {s : Shared}
theorem lay_pairs {h' : Heap} (I : Inv X pins σ H s) (k : ∀ b u, s.heap.get? b = some u → h'.get? b = some u) {T : Nat → Addr} {f g : Nat → V} {n : Nat} (hT : ∀ j, j < n → s.heap.objs.size ≤ T j ∧ ∃ x y, RelV (f j) x ∧ RelV (g j) y ∧ IsPair h' (T j) x y) (inj : ∀ i j, i < n → j < n → T i = T j → i = j) :
    ∀ j, j ≤ n → ∃ G : Heap, (∀ b u, G.get? b = some u → h'.get? b = some u) ∧ (∀ b, s.heap.objs.size ≤ b → (∀ i, i < j → T i ≠ b) → G.get? b = none) ∧ Inv X pins σ (layP H T f g j) { s with heap := G } := by
  intro j
  induction j with
  | zero =>
    intro _
    refine ⟨s.heap, k, fun b hb _ => ?_, I⟩
    cases e : s.heap.get? b with
    | none => rfl
    | some o => exact absurd (Heap.lt_size e) (Nat.not_lt_of_le hb)
  | succ j ih =>
    intro hj
    obtain ⟨G, g1, g2, J⟩ := ih (by omega)
    obtain ⟨t1, x, y, rx, ry, hp⟩ := hT j (by omega)
    have ne : ∀ i, i < j → T i ≠ T j := fun i hi e => by
      have := inj i j (by omega) (by omega) e
      omega
    obtain ⟨G', r1, r2⟩ := restrict h' fun b => (G.get? b).isSome || decide (b = T j)
    have gu : ∀ b u, G.get? b = some u → G'.get? b = some u := fun b u e => by
      rw [r1 b (by rw [e]; rfl)]
      exact g1 b u e
    have gT : IsPair G' (T j) x y := by
      show G'.get? (T j) = _
      rw [r1 (T j) (by simp)]
      exact hp
    refine ⟨G', fun b u e => ?_, fun b hb nb => ?_, ?_⟩
    · cases q : ((G.get? b).isSome || decide (b = T j)) with
      | true => rwa [r1 b q] at e
      | false =>
        rw [r2 b q] at e
        cases e
    · refine r2 b ?_
      rw [g2 b hb fun i hi => nb i (by omega)]
      simp only [Option.isSome_none, Bool.false_or, decide_eq_false_iff_not]
      exact fun e => nb j (by omega) e.symm
    · have hn : layP H T f g j (T j) = none := by
        rw [layP_other ne]
        exact I.hok.fresh t1
      have := J.laidN (t' := s.toks) (o := .tup [f j, g j]) gu (g2 (T j) t1 ne) hn ⟨by rw [sizeLine_eq]; show 2 ≤ 16777216; decide, [x, y], .cons rx (.cons ry .nil), _, gT, rfl, _, rfl⟩
      exact this
end
/-- zip(a, b) of two lists -/
def PZp (X : Cx) (e : Expr) (t : L2.St → Hp → (Addr → Addr → List V → List V → Hp → Prop) → Prop) : Prop :=
  ∀ (pins : List (Addr × Obj)) (s : Shared) (σ : L2.St) (H : Hp) (Q : Addr → Addr → List V → List V → Hp → Prop), Inv X pins σ H s → t σ H Q →
    wpAny (model X.prog X.w) X.A (eval e X.env) (fun x s' => ∃ (h2 : Heap) (a b : Addr) (vs us : List V) (H' : Hp), x = .ref (h2.objs.size + 4) ∧
      IsZip s'.heap (h2.objs.size + 4) (h2.objs.size + 2) (h2.objs.size + 3) .none ∧ IsPair s'.heap (h2.objs.size + 2) (.ref h2.objs.size) (.ref (h2.objs.size + 1)) ∧ IsPair s'.heap (h2.objs.size + 3) .none .none ∧
      s'.heap.IsListIter h2.objs.size a 0 ∧ s'.heap.IsListIter (h2.objs.size + 1) b 0 ∧ s'.heap.objs.size = h2.objs.size + 5 ∧ (∀ c o, h2.get? c = some o → s'.heap.get? c = some o) ∧
      Inv X pins σ H' { s' with heap := h2 } ∧ SqL X.K H' a vs ∧ SqL X.K H' b us ∧ Q a b vs us H') X.xe s
def tZp (X : Cx) (ta tb : TE) : L2.St → Hp → (Addr → Addr → List V → List V → Hp → Prop) → Prop := fun σ H Q => ta σ H fun x H1 => tb σ H1 fun y H2 => ∃ a b vs us, x = .ref a ∧ y = .ref b ∧ SqL X.K H2 a vs ∧ SqL X.K H2 b us ∧ Q a b vs us H2
theorem pzp {X : Cx} {a b : Expr} {ta tb : TE} {p pos : Pos} (hg : Gl X "zip") (hm : X.mg "zip" = none) (ha : PE X a ta) (hb : PE X b tb) (na : starEach [a, b] X.env = (false, eval a X.env) :: starEach [b] X.env)
    (nb : starEach [b] X.env = (false, eval b X.env) :: starEach [] X.env) (hp : (backTo pos (starEach [b] X.env)).any (·.1) = false) : PZp X (.Call (.Name "zip" p) [a, b] [] pos) (tZp X ta tb) := by
  intro pins s σ H Q I h
  refine Call_ (ld_blt I hg hm PyProof.Rows.boot_zip (PyProof.Rows.callWith_type1 (args_cons (thn (ha.run pins s σ H _ I h) fun v s1 ⟨x, H1, I1, r1, q1⟩ => one_arg hb I1 q1 (fun u s2 y H2 I2 r2 q => ?_) nb) na) na hp))
  obtain ⟨a, b, vs, us, rfl, rfl, h1, h2, q⟩ := q
  obtain rfl : v = .ref a := r1
  obtain rfl : u = .ref b := r2
  obtain ⟨its1, v1, p1, z1⟩ := I2.list h1
  obtain ⟨its2, v2, p2, z2⟩ := I2.list h2
  exact call_zip_2 p1.isList p2.isList fun h' a1 a2 a3 a4 a5 a6 a7 => ⟨s2.heap, a, b, vs, us, H2, rfl, a1, a2, a3, a4, a5, a6, a7, I2, h1, h2, q⟩
def tLstZp (te : L2.St → Hp → (Addr → Addr → List V → List V → Hp → Prop) → Prop) : TE := fun σ H Q => te σ H fun _ _ vs us H1 => min vs.length us.length ≤ 1000000 ∧
  ∀ (T : Nat → Addr) (q : Addr), (∀ k, k < min vs.length us.length → H1 (T k) = none ∧ T k ≠ q) → (∀ i j, i < min vs.length us.length → j < min vs.length us.length → T i = T j → i = j) → H1 q = none →
    Q (.ref q) (upd (layP H1 T (fun k => vs.getD k (.ref 0)) (fun k => us.getD k (.ref 0)) (min vs.length us.length)) q (.lst ((List.range (min vs.length us.length)).map fun k => .ref (T k))))
theorem pe_listZip {X : Cx} {e : Expr} {te : L2.St → Hp → (Addr → Addr → List V → List V → Hp → Prop) → Prop} {p pos : Pos} (hc : X.calm = true) (hg : Gl X "list") (hm : X.mg "list" = none) (he : PZp X e te) (na : starEach [e] X.env = (false, eval e X.env) :: starEach [] X.env) : PE X (.Call (.Name "list" p) [e] [] pos) (tLstZp te) := by
  refine ⟨fun pins s σ H Q I h => ?_⟩
  refine Call_ (ld_blt I hg hm PyProof.Rows.boot_list (PyProof.Rows.callWith_type1 (args_cons (thn (he pins s σ H _ I h) fun x s1 ⟨h2, a, b, vs, us, H1, ex, a1, a2, a3, a4, a5, a6, a7, I2, l1, l2, q⟩ => args_nil ?_) na) na))
  subst ex
  obtain ⟨ok, q⟩ := q
  obtain ⟨its1, v1, p1, z1⟩ := I2.list l1
  obtain ⟨its2, v2, p2, z2⟩ := I2.list l2
  have la : a < h2.objs.size := let ⟨_, e, _⟩ := p1.isList; Heap.lt_size e
  have lb : b < h2.objs.size := let ⟨_, e, _⟩ := p2.isList; Heap.lt_size e
  have D : ZipApart (h2.objs.size + 4) (h2.objs.size + 2) (h2.objs.size + 3) h2.objs.size (h2.objs.size + 1) a b := by
    constructor <;> first | exact Nat.ne_of_gt (by omega) | exact Nat.ne_of_lt (by omega) | exact Nat.ne_of_lt la | exact Nat.ne_of_lt lb | exact Nat.ne_of_lt (Nat.lt_of_lt_of_le la (by omega)) | exact Nat.ne_of_lt (Nat.lt_of_lt_of_le lb (by omega))
  have e1 : its1.toArray.size = vs.length := by rw [List.size_toArray, ← v1.length]
  have e2 : its2.toArray.size = us.length := by rw [List.size_toArray, ← v2.length]
  refine call_list_zip (I2.ok.hd hc) D its1.toArray its2.toArray a1 a2 ⟨_, _, a3⟩ a4 a5 (p1.isList.at fun o e => a7 _ o e) (p2.isList.at fun o e => a7 _ o e) (by rw [e1, e2]; exact ok) fun h' acc c' hk hS hp => ?_
  rw [e1, e2] at hp
  obtain ⟨q1, T, q2, q3⟩ := hp
  have k : ∀ c o, h2.get? c = some o → h'.get? c = some o := fun c o e => by
    have := Heap.lt_size e
    exact hk c o (Nat.ne_of_lt (Nat.lt_of_lt_of_le this (by omega))) (Nat.ne_of_lt (Nat.lt_of_lt_of_le this (by omega))) (Nat.ne_of_lt this) (Nat.ne_of_lt (Nat.lt_of_lt_of_le this (by omega))) (a7 c o e)
  obtain ⟨n, hn⟩ : ∃ n, n = min vs.length us.length := ⟨_, rfl⟩
  rw [← hn] at q q1 q2 q3
  have gd : ∀ (vs : List V) (its : List Value) (j : Nat) (x : Value), Vals vs its → j < vs.length → its.toArray[j]? = some x → RelV (vs.getD j (.ref 0)) x := fun vs its j x v hj e => by
    obtain ⟨u, e2, r⟩ := v.get (List.getElem?_eq_getElem hj)
    rw [List.getElem?_toArray, e2] at e
    cases e
    rw [List.getD_eq_getElem?_getD, List.getElem?_eq_getElem hj]
    exact r
  have bT : ∀ j, j < n → h2.objs.size ≤ T j ∧ T j ≠ s1.heap.objs.size := fun j hj => by
    have := (q2 j hj).1
    exact ⟨by omega, Nat.ne_of_gt this⟩
  obtain ⟨G, g1, g2, J⟩ := lay_pairs I2 k (T := T) (f := fun k => vs.getD k (.ref 0)) (g := fun k => us.getD k (.ref 0)) (n := n) (fun j hj => by
    obtain ⟨_, _, x, y, e3, e4, e5⟩ := q2 j hj
    exact ⟨(bT j hj).1, x, y, gd vs its1 j x v1 (by omega) e3, gd us its2 j y v2 (by omega) e4, e5⟩) q3 n (Nat.le_refl n)
  have bS : h2.objs.size ≤ s1.heap.objs.size := by omega
  have lf : acc.toList.length = n := by rw [Array.length_toList, q1]
  have hv : Vals ((List.range n).map fun k => V.ref (T k)) acc.toList := by
    rw [← lf]
    refine vals_of_get acc.toList _ fun j u hj => ?_
    have hj2 : j < n := by
      have := (List.getElem?_eq_some_iff.mp hj).1
      omega
    have e3 := (q2 j hj2).2.1
    rw [← Array.getElem?_toList, hj] at e3
    cases e3
    exact rfl
  have hnS : layP H1 T (fun k => vs.getD k (.ref 0)) (fun k => us.getD k (.ref 0)) n s1.heap.objs.size = none := by
    rw [layP_other fun i hi => (bT i hi).2]
    exact I2.hok.fresh bS
  have JL := J.laidN (t' := s1.toks) (o := .lst ((List.range n).map fun k => V.ref (T k))) g1 (g2 _ bS fun i hi => (bT i hi).2) hnS ⟨by rw [List.length_map, List.length_range, sizeLine_eq]; omega, acc.toList, c', hv, by rw [Array.toArray_toList]; exact hS⟩
  exact ⟨.ref s1.heap.objs.size, _, JL, rfl, q T _ (fun k hk => ⟨I2.hok.fresh (bT k hk).1, (bT k hk).2⟩) q3 (I2.hok.fresh bS)⟩
end Pf

set_option Elab.async false
set_option linter.all false
set_option maxRecDepth 100000
set_option autoImplicit false
set_option exponentiation.threshold 4000000
set_option maxHeartbeats 1000000
/-! Pf3: the operators are sound -/
namespace Pf
open PySem PySem.Spec L2
variable [Tbc]

/-! ### what is wanted of an answer -/
def PK {α : Type} (r : R α) (k : α → Prop) (e : Nat → Prop) : Prop := match r with
  | .ok x => k x
  | .exn c => e c
  | .bad => False
theorem PK_bind {α β : Type} {r : R α} {f : α → R β} {k : β → Prop} {e : Nat → Prop} : PK (r.bind f) k e ↔ PK r (fun x => PK (f x) k e) e := by
  cases r <;> rfl
theorem PK.imp {α : Type} {r : R α} {k k' : α → Prop} {e e' : Nat → Prop} (h : PK r k e) (hk : ∀ x, k x → k' x) (he : ∀ c, e c → e' c) : PK r k' e' := by
  cases r with
  | ok x => exact hk x h
  | exn c => exact he c h
  | bad => exact h

/-- without the tables -/
def noT (H : Hp) : Hp := fun b => match H b with
  | some (.tbl _) => none
  | o => o
theorem noT_of {H : Hp} {b : Addr} {o : HO} (h : H b = some o) (n : ∀ ps, o ≠ .tbl ps) : noT H b = some o := by
  unfold noT
  rw [h]
  cases o <;> first | rfl | (exact absurd rfl (n _))
theorem noT_get {H : Hp} {b : Addr} {o : HO} (h : noT H b = some o) : H b = some o ∧ ∀ ps, o ≠ .tbl ps := by
  unfold noT at h
  split at h
  · cases h
  · rename_i hn
    exact ⟨h, fun ps z => hn ps (by rw [h, z])⟩
theorem noT_same (H : Hp) : Same (noT H) H := fun _ _ h => (noT_get h).1
theorem noT_in {G H : Hp} (s : Same G H) (n : ∀ b ps, G b ≠ some (.tbl ps)) : Same G (noT H) := fun b o h => noT_of (s b o h) fun ps z => n b ps (by rw [h, z])
theorem noT_clean {G H : Hp} (c : Clean G H) : Clean (noT H) H := ⟨fun _ _ h => (noT_get h).2 _ rfl, c.tb⟩
inductive Mode where | esc | bor | fre
/-- a value whose list may be owned -/
def RepT (K : PySem.W.Frag) (G H : Hp) : PV → V → Prop
  | .lst xs, v => ∃ a vs, v = .ref a ∧ H a = some (.lst vs) ∧ Reps K G xs vs
  | x, v => Rep K G x v
/-- a value whose list is new -/
def RepF (K : PySem.W.Frag) (H0 G H : Hp) : PV → V → Prop
  | .lst xs, v => ∃ a vs, v = .ref a ∧ H0 a = none ∧ G a = none ∧ H a = some (.lst vs) ∧ Reps K G xs vs
  | x, v => Rep K G x v
def RepM (m : Mode) (K : PySem.W.Frag) (H0 G H : Hp) (x : PV) (v : V) : Prop := match m with
  | .esc => Rep K G x v
  | .bor => RepT K G H x v
  | .fre => RepF K H0 G H x v
section
variable {K : PySem.W.Frag} {G H G' H' H0 : Hp} {x : PV} {v : V}
theorem Rep.toT (s : Same G H) (h : Rep K G x v) : RepT K G H x v := by
  cases x with
  | lst xs =>
    obtain ⟨a, vs, e, g, r⟩ := rep_lst.mp h
    exact ⟨a, vs, e, s _ _ g, r⟩
  | _ => exact h
theorem RepT.mono (sg : Same G G') (sh : SameT H H') (h : RepT K G H x v) : RepT K G' H' x v := by
  cases x with
  | lst xs =>
    obtain ⟨a, vs, e, g, r⟩ := h
    exact ⟨a, vs, e, sh.lst g, r.mono sg⟩
  | _ => exact Rep.mono sg h
theorem RepF.settle {G1 H1 : Hp} (e : Ext G H G1 H1) (h : RepF K H G1 H1 x v) : ∃ G2, Ext G H G2 H1 ∧ Rep K G2 x v := by
  cases x with
  | lst xs =>
    obtain ⟨a, vs, ev, h0, g, h1, r⟩ := h
    exact ⟨_, e.settle h0 h1, rep_lst.mpr ⟨a, vs, ev, upd_same, r.mono (same_upd g)⟩⟩
  | _ => exact ⟨G1, e, h⟩
theorem RepT.int {i : Int} (h : RepT K G H (.int i) v) : v = .int i := rep_int.mp (show Rep K G _ v from h)
theorem RepT.bl {i : Bool} (h : RepT K G H (.bl i) v) : v = .bl i := rep_bl.mp (show Rep K G _ v from h)
theorem RepT.str {i : Str} (h : RepT K G H (.str i) v) : v = .str i := rep_str.mp (show Rep K G _ v from h)
theorem RepT.non (h : RepT K G H .non v) : v = .non := rep_non.mp (show Rep K G _ v from h)
theorem RepT.tup {xs : List PV} (h : RepT K G H (.tup xs) v) : ∃ a vs, v = .ref a ∧ SqT K G a vs ∧ Reps K G xs vs := rep_tup.mp (show Rep K G _ v from h)
theorem RepT.lst {xs : List PV} (h : RepT K G H (.lst xs) v) : ∃ a vs, v = .ref a ∧ H a = some (.lst vs) ∧ Reps K G xs vs := h
theorem RepT.rl {xs : List PV} (h : RepT K G H (.rl xs) v) : ∃ a vs, v = .ref a ∧ SqL K G a vs ∧ Reps K G xs vs := rep_rl.mp (show Rep K G _ v from h)
theorem RepT.full (s : Same G H) (h : RepT K G H x v) : Rep K H x v := by
  cases x with
  | lst xs =>
    obtain ⟨a, vs, e, g, r⟩ := h
    exact rep_lst.mpr ⟨a, vs, e, g, r.mono s⟩
  | _ => exact Rep.mono s h
theorem Rep.flat_any (h : Rep K G x v) (f : flat x = true) : Rep K G' x v := by
  cases x <;> first | (simp only [flat, Bool.false_eq_true] at f; done) | (simpa only [Rep] using h)
theorem rep_int' {i : Int} : Rep K G (.int i) (.int i) := rep_int.mpr rfl
theorem rep_bl' {i : Bool} : Rep K G (.bl i) (.bl i) := rep_bl.mpr rfl
theorem rep_str' {i : Str} : Rep K G (.str i) (.str i) := rep_str.mpr rfl
end

/-! ### a module's facts -/
structure Fn where
  name : Str
  ps : List Str
  f : Addr
  fd : FuncData
  sem : Sem1
  fr : Bool
def spP (K : PySem.W.Frag) (cl : Nat → Addr) (n : Nat) (sem : Sem1) (fr : Bool) : Sp := fun vs H Q E => vs.length = n ∧ ∃ G xs, Same G H ∧ Clean G H ∧ Reps K G xs vs ∧
  PK (sem xs) (fun x => ∀ v G' H', Ext G H G' H' → RepM (if fr then .fre else .esc) K H G' H' x v → Q v H') (fun c => ∀ G' H', Ext G H G' H' → E (.ref (cl c)) none H')
/-- an own class of exceptions -/
structure ExG (K : PySem.W.Frag) (mg : Str → Option Value) (x : Str) (C : Addr) : Prop where
  db : (x == ("__debug__" : Str)) = false
  gm : mg x = some (.ref C)
  kp : PySem.W.keepIn K (.ref C) = true
  ex : PySem.W.excIn K C [.type "ValueError", .type "Exception", .type "BaseException", .type "object"] "ValueError.__new__" = true
  sb : PySem.W.subIn K (.ref C) (.type "BaseException") = some true
  ty : PySem.W.typeIn K (.ref C) = some (.type "type")
/-- what is asked of the classes of errors: their names; those that are raised; who is asked of whom; who is asked of None -/
structure Ec where
  ex : List (Str × Nat)
  rs : List Nat
  kp : List (Nat × Option Nat)
  kn : List (Option Nat)
def clV (cl : Nat → Addr) : Option Nat → Value
  | none => .type "ValueError"
  | some d => .ref (cl d)
structure EcOk (K : PySem.W.Frag) (mg : Str → Option Value) (cl : Nat → Addr) (ec : Ec) : Prop where
  ex : ∀ p ∈ ec.ex, ExG K mg p.1 (cl p.2)
  ns : ∀ c ∈ ec.rs, clsIs K c (cl c)
  xc : ∀ c ∈ ec.rs, ExcC K (cl c)
  kp : ∀ p ∈ ec.kp, PySem.W.kitOne K (.ref (cl p.1)) (clV cl p.2) = some (subX p.1 p.2)
  kn : ∀ d ∈ ec.kn, PySem.W.kitOne K (.type "NoneType") (clV cl d) = some false
  em : ∀ c ∈ ec.rs, PySem.W.exmOne K (.ref (cl c)) (.ref (cl 0)) = some true
/-- a def that gets a lambda -/
structure FnL where
  name : Str
  f : Addr
  sem : R PV → R PV
/-- what a lambda that gives r may be asked for, from (G, H) on -/
def tlR (K : PySem.W.Frag) (cl : Nat → Addr) (r : R PV) (G H : Hp) : XK → Hp → VK → Prop := fun E H1 Q => ∃ G1, Ext G H G1 H1 ∧
  PK r (fun x => ∀ v G' H', Ext G1 H1 G' H' → Rep K G' x v → Q v H') (fun c => ∀ G' H', Ext G1 H1 G' H' → E (.ref (cl c)) none H')
structure FnL.Ok (cl : Nat → Addr) (P : Program) (w : World) (K : PySem.W.Frag) (mg : Str → Option Value) (base : Heap) (k : Nat) (n : FnL) : Prop where
  gm : mg n.name = some (.ref n.f)
  db : (n.name == ("__debug__" : Str)) = false
  nx : ∀ r c, n.sem r ≠ .exn c
  ex : ∃ (st : Stmt) (fd : FuncData) (N : List Str) (a : Str), L2.Fun K n.name n.name st n.f fd ∧ FnScope N [a] (defScope st) ∧ L2.Binds K fd [a] [] ∧ N[0]? = some a ∧ Vis (defScope st) a ∧ (a == ("__debug__" : Str)) = false ∧ (a == ("__classdict__" : Str)) = false ∧
    ∀ (cdv : Value) (A : Around) (stack : List PySem.Env) (s : Shared) (G H : Hp) (Q : VK) (r : R PV) (f c1 : Addr) (q : Str), Room (k + 1) (A.deeper (PyProof.Rows.envOfC n.name (defScope st) s.heap.objs.size n.f cdv)) → Same G H → Clean G H → H c1 = some (LamX.CodeO c1 q) →
      Acts P w K mg base A stack s H N n.name (defScope st) n.f cdv a f c1 q (tlR K cl r G H) → PK (n.sem r) (fun x => ∀ v G' H', Ext G H G' H' → Rep K G' x v → Q v H') (fun _ => False) →
      ∃ t, PSs (cxOf C8.CX0 P w K mg base N n.name (defScope st) n.f cdv A stack s H C8.E0).nox (defBody st) t ∧ t { nx := fun _ H' => Q .non H', rt := Q } (L2.start N [.ref f]) H
/-- the module's facts for a def; fnl: defs that get a lambda; tl: the lambda that was got; lm: lambdas may be made -/
structure Gt where
  k : Nat
  cl : Nat → Addr
  fns : List Fn
  bl : List Str
  cn : List (Str × PV)
  ec : Ec
  hot : Bool
  fno : List Fn
  fnl : List FnL
  tl : Option (Str × R PV)
  lm : Bool
structure Fn.Ok (Γ : Gt) (P : Program) (w : World) (K : PySem.W.Frag) (mg : Str → Option Value) (base : Heap) (n : Fn) : Prop where
  ok : FnOk P w K mg base (L2.CX P w) Γ.k n.f n.fd n.ps (spP K Γ.cl n.ps.length n.sem n.fr)
  gm : mg n.name = some (.ref n.f)
  kp : PySem.W.keepIn K (.ref n.f) = true
  bd : Binds K n.fd n.ps []
  len : ∀ xs, n.sem xs ≠ .bad → xs.length = n.ps.length
  db : (n.name == ("__debug__" : Str)) = false
def del (H : Hp) (p : Addr) : Hp := fun b => if b = p then none else H b
/-- a def that owns its last argument, a list -/
def spO (K : PySem.W.Frag) (cl : Nat → Addr) (n : Nat) (sem : Sem1) : Sp := fun vs H Q E => vs.length = n ∧ ∃ (G : Hp) (xs : List PV) (us : List V) (p : Addr) (zs : List PV) (ws : List V), vs = us ++ [V.ref p] ∧ Same G H ∧ Clean G H ∧ Reps K G xs us ∧ H p = some (.lst ws) ∧ G p = none ∧ Reps K G zs ws ∧
  PK (sem (xs ++ [.lst zs])) (fun x => ∀ v G' H', Ext G (del H p) G' H' → Rep K G' x v → Q v H') (fun c => ∀ G' H', Ext G (del H p) G' H' → E (.ref (cl c)) none H')
structure Fn.OkO (Γ : Gt) (P : Program) (w : World) (K : PySem.W.Frag) (mg : Str → Option Value) (base : Heap) (n : Fn) : Prop where
  ok : FnOk P w K mg base (L2.CX P w) Γ.k n.f n.fd n.ps (spO K Γ.cl n.ps.length n.sem)
  gm : mg n.name = some (.ref n.f)
  kp : PySem.W.keepIn K (.ref n.f) = true
  bd : Binds K n.fd n.ps []
  len : ∀ xs, n.sem xs ≠ .bad → xs.length = n.ps.length
  db : (n.name == ("__debug__" : Str)) = false
structure Gt.Ok (Γ : Gt) (P : Program) (w : World) (K : PySem.W.Frag) (mg : Str → Option Value) (base : Heap) : Prop where
  fn : ∀ n ∈ Γ.fns, n.Ok Γ P w K mg base
  bl : ∀ x ∈ Γ.bl, mg x = none
  cn : ∀ p ∈ Γ.cn, (p.1 == ("__debug__" : Str)) = false ∧ ∃ v u, mg p.1 = some u ∧ RelV v u ∧ ∀ G, Rep K G p.2 v
  ec : EcOk K mg Γ.cl Γ.ec
  fno : ∀ n ∈ Γ.fno, n.OkO Γ P w K mg base
/-- lambdas may be made: the defs that get them; the def's own table -/
structure LamOk (Γ : Gt) (X : Cx) : Prop where
  two : 2 ≤ Γ.k
  fnl : ∀ n ∈ Γ.fnl, n.Ok Γ.cl X.prog X.w X.K X.mg X.base (Γ.k - 2)
  lo : Gt.Ok { Γ with k := Γ.k - 2, lm := false } X.prog X.w X.K X.mg X.base
  tab : ∃ c P, LamX.TabB X.base X.mg c P ∧ X.env.code = .ref c ∧ (P, lamN X) ∈ Tbc.T ∧ ∀ p ∈ Tbc.T, p.1 = P → p.2 = lamN X
def loc (sc : Scope) (x : Str) : Bool := match sc.names.lookup x with
  | some .local => true
  | some .cell => true
  | _ => false
/-- sc: the scope that runs; so: as it was written -/
structure XOk (Γ : Gt) (N : List Str) (sc so : Scope) (W : WX) (X : Cx) : Prop where
  g : Γ.Ok X.prog X.w X.K X.mg X.base
  hN : X.N = N
  nd : N.Nodup
  db : ∀ x ∈ N, (x == ("__debug__" : Str)) = false ∧ (x == ("__classdict__" : Str)) = false
  hsc : X.env.scope = sc
  kd : sc.kind = .function
  calm : Γ.hot = false → X.calm = true
  fn : ∀ x, loc so x = true → Loc X.env.scope x ∧ (X.fn x = true ∨ X.env.scope.names.lookup x = some .local)
  room : Γ.hot = false → Room Γ.k X.A
  un : X.A.units + 64 < cLine
  tk : Γ.hot = false → Takes X W
  la : Γ.lm = true → Γ.hot = false → LamOk Γ X

/-! ### judgements -/
variable [Tlc]
section
variable (Γ : Gt) (W : WX) (X : Cx)
def Ke (σ : L2.St) (G H : Hp) : Nat → Prop := fun c => ∀ G' H', Ext G H G' H' → W (.ref (Γ.cl c)) none σ H'
def rdE (K : PySem.W.Frag) (m : Mode) (f : Env → R PV) : TE := fun σ H Q => ∃ (B : Bd) (ρ : Env) (G : Hp), Ow K B ρ σ G H ∧
  PK (f ρ) (fun x => ∀ v G' H', Ext G H G' H' → RepM m K H G' H' x v → Q v H') (Ke Γ W σ G H)
def SE (m : Mode) (e : Expr) (f : Env → R PV) : Prop := PE X e (rdE Γ W X.K m f)
def rdT (K : PySem.W.Frag) (f : Env → R PV) : TT := fun σ H Q => ∃ (B : Bd) (ρ : Env) (G : Hp), Ow K B ρ σ G H ∧
  PK (f ρ) (fun x => ∃ b, x = .bl b ∧ ∀ G' H', Ext G H G' H' → Q b H') (Ke Γ W σ G H)
def ST (e : Expr) (f : Env → R PV) : Prop := PT X e (rdT Γ W X.K f)
/-- arguments: each as a value whose list may be owned -/
def RepsT (K : PySem.W.Frag) (G H : Hp) : List PV → List V → Prop
  | [], vs => vs = []
  | x :: xs, vs => ∃ v r, vs = v :: r ∧ RepT K G H x v ∧ RepsT K G H xs r
def rdA (K : PySem.W.Frag) (f : Env → R (List PV)) : TA := fun σ H Q => ∃ (B : Bd) (ρ : Env) (G : Hp), Ow K B ρ σ G H ∧
  PK (f ρ) (fun xs => ∀ vs G' H', Ext G H G' H' → RepsT K G' H' xs vs → Q vs H') (Ke Γ W σ G H)
def SA (es : List Expr) (f : Env → R (List PV)) : Prop := PA X es (rdA Γ W X.K f)
def rdAE (K : PySem.W.Frag) (f : Env → R (List PV)) : TA := fun σ H Q => ∃ (B : Bd) (ρ : Env) (G : Hp), Ow K B ρ σ G H ∧
  PK (f ρ) (fun xs => ∀ vs G' H', Ext G H G' H' → Reps K G' xs vs → Q vs H') (Ke Γ W σ G H)
def SAE (es : List Expr) (f : Env → R (List PV)) : Prop := PA X es (rdAE Γ W X.K f)
end
section
variable {Γ : Gt} {W : WX} {X : Cx} {e : Expr} {f : Env → R PV}
theorem Ke.step {σ : L2.St} {G H G1 H1 : Hp} (e1 : Ext G H G1 H1) {c : Nat} (h : Ke Γ W σ G H c) : Ke Γ W σ G1 H1 c := fun G' H' e' => h G' H' (e1.trans e')
theorem PE.weak {t t' : TE} (p : PE X e t) (w : ∀ σ H Q, t' σ H Q → t σ H Q) : PE X e t' := ⟨fun pins s σ H Q I h => p.run pins s σ H Q I (w σ H Q h)⟩
theorem PT.weak {t t' : TT} (p : PT X e t) (w : ∀ σ H Q, t' σ H Q → t σ H Q) : PT X e t' := ⟨fun pins s σ H Q I h => p.run pins s σ H Q I (w σ H Q h)⟩
theorem PA.weak {es : List Expr} {t t' : TA} (p : PA X es t) (w : ∀ σ H Q, t' σ H Q → t σ H Q) : PA X es t' := ⟨fun pos pins s σ H Q I h => p.run pos pins s σ H Q I (w σ H Q h)⟩
theorem SE.esc_of (h : SE Γ W X .fre e f) : SE Γ W X .esc e f := by
  refine PE.weak h fun σ H Q ⟨B, ρ, G, o, q⟩ => ⟨B, ρ, G, o, q.imp (fun x k v G' H' ex rf => ?_) fun _ z => z⟩
  obtain ⟨G2, e2, r2⟩ := RepF.settle ex rf
  exact k v G2 H' e2 r2
theorem SE.bor_of (h : SE Γ W X .esc e f) : SE Γ W X .bor e f :=
  PE.weak h fun σ H Q ⟨B, ρ, G, o, q⟩ => ⟨B, ρ, G, o, q.imp (fun x k v G' H' ex rf => k v G' H' ex (Rep.toT ex.gh rf)) fun _ z => z⟩
theorem RepsT.mono {K : PySem.W.Frag} {G H G' H' : Hp} (sg : Same G G') (sh : SameT H H') : ∀ {xs : List PV} {vs : List V}, RepsT K G H xs vs → RepsT K G' H' xs vs
  | [], _, h => h
  | x :: xs, _, ⟨v, r, e, h1, h2⟩ => ⟨v, r, e, h1.mono sg sh, RepsT.mono sg sh h2⟩
theorem RepT.fullT {K : PySem.W.Frag} {G H : Hp} {x : PV} {v : V} (s : Same G (noT H)) (h : RepT K G H x v) : Rep K (noT H) x v := by
  cases x with
  | lst xs =>
    obtain ⟨a, vs, e, g, r⟩ := h
    exact rep_lst.mpr ⟨a, vs, e, noT_of g (fun _ z => by cases z), r.mono s⟩
  | _ => exact Rep.mono s h
theorem RepsT.fullT {K : PySem.W.Frag} {G H : Hp} (s : Same G (noT H)) : ∀ {xs : List PV} {vs : List V}, RepsT K G H xs vs → Reps K (noT H) xs vs
  | [], _, h => reps_nil.mpr h
  | x :: xs, _, ⟨v, r, e, h1, h2⟩ => reps_cons.mpr ⟨v, r, e, h1.fullT s, RepsT.fullT s h2⟩
theorem RepsT.full {K : PySem.W.Frag} {G H : Hp} (s : Same G H) : ∀ {xs : List PV} {vs : List V}, RepsT K G H xs vs → Reps K H xs vs
  | [], _, h => reps_nil.mpr h
  | x :: xs, _, ⟨v, r, e, h1, h2⟩ => reps_cons.mpr ⟨v, r, e, h1.full s, RepsT.full s h2⟩
/-- two in a row, and a rule of two values -/
theorem two_rd {K : PySem.W.Frag} {m : Mode} {fa fb : Env → R PV} {op : PV → PV → R PV} {r : R2}
    (hop : ∀ (x y : PV) (v u : V) (G H : Hp) (Q : VK), Same G H → RepT K G H x v → RepT K G H y u → PK (op x y) (fun z => ∀ w G' H', Ext G H G' H' → RepM m K H G' H' z w → Q w H') (fun _ => False) → r v u H Q)
    (hm : ∀ (H0 H G' H' : Hp) (z : PV) (w : V), SameT H0 H → RepM m K H G' H' z w → RepM m K H0 G' H' z w) (nx : ∀ x y c, op x y ≠ .exn c) (σ : L2.St) (H : Hp) (Q : VK)
    (h : rdE Γ W K m (fun ρ => (fa ρ).bind fun x => (fb ρ).bind fun y => op x y) σ H Q) : tOp r (rdE Γ W K .bor fa) (rdE Γ W K .bor fb) σ H Q := by
  obtain ⟨B, ρ, G, o, q⟩ := h
  refine ⟨B, ρ, G, o, (PK_bind.mp q).imp (fun x k v G1 H1 e1 r1 => ?_) fun _ z => z⟩
  refine ⟨B, ρ, G1, o.step e1, (PK_bind.mp k).imp (fun y k2 u G2 H2 e2 r2 => ?_) fun _ z => Ke.step e1 z⟩
  refine hop x y v u G2 H2 Q e2.gh (RepT.mono (e2.gg e1.gh) e2.hh r1) r2 ?_
  cases e : op x y with
  | ok z =>
    rw [e] at k2
    exact fun w G' H' e3 rz => k2 w G' H' ((e1.trans e2).trans e3) (hm H H2 G' H' z w (e1.hh.trans e2.hh) rz)
  | exn c => exact absurd e (nx x y c)
  | bad => rw [e] at k2; exact k2
theorem repM_old {m : Mode} {K : PySem.W.Frag} {H0 H G' H' : Hp} {z : PV} {w : V} (s : SameT H0 H) (h : RepM m K H G' H' z w) : RepM m K H0 G' H' z w := by
  cases m with
  | esc => exact h
  | bor => exact h
  | fre =>
    cases z with
    | lst xs =>
      obtain ⟨a, vs, e, h0, r⟩ := h
      exact ⟨a, vs, e, s.free h0, r⟩
    | _ => exact h
end

/-! ### arithmetic -/
theorem lim_line : LIM ≤ sizeLine := by decide
theorem op_int2 {X : Cx} {f : Value → Value → Sem Value} {g : Int → Int → Int} (C : Int → Int → Prop)
    (rule : ∀ (i j : Int) (t u : Tok) (s : Shared) (Q : Value → Shared → Prop), C i j → Q (.int (g i j) s.toks) { s with toks := s.toks + 1 } → wpAny (model X.prog X.w) X.A (f (.int i t) (.int j u)) Q X.xe s) : OpR X f (rI C fun i j => .int (g i j)) :=
  fun pins s σ H x y v u Q I rx ry h => by
  obtain ⟨i, j, rfl, rfl, hc, q⟩ := h
  obtain ⟨t, rfl⟩ := rx
  obtain ⟨t', rfl⟩ := ry
  exact rule i j t t' s _ hc ⟨.int _, H, I.tok _, ⟨_, rfl⟩, q⟩
def CDivA (_ j : Int) : Prop := j ≠ 0 ∧ j.natAbs < 2 ^ 9000
def CMulA (i j : Int) : Prop := small i ∧ small j
def divP (i j : Int) : Int := if 0 < j then i / j else i.fdiv j
def modP (i j : Int) : Int := if 0 < j then i % j else i.fmod j
theorem divP_eq (i j : Int) (h : j ≠ 0) : divP i j = i.fdiv j := by
  unfold divP
  split
  · rw [Int.fdiv_eq_ediv_of_nonneg i (by omega)]
  · rfl
theorem modP_eq (i j : Int) (h : j ≠ 0) : modP i j = i.fmod j := by
  unfold modP
  split
  · rw [Int.fmod_eq_emod_of_nonneg i (by omega)]
  · rfl
section
variable {X : Cx}
theorem op_fdivA : OpR X (binaryOp .FloorDiv) (rI CDivA fun i j => .int (divP i j)) := op_int2 CDivA fun i j t u s Q hc q =>
  PyProof.Rows.floordiv_int hc.1 (by rw [← divP_eq i j hc.1]; exact q) (.inl (PyProof.noPylong_of_log2 (PySem.Flt.log2_lt_of (by decide) hc.2)))
theorem op_modA : OpR X (binaryOp .Mod) (rI (fun _ j => j ≠ 0) fun i j => .int (modP i j)) := op_int2 (fun _ j => j ≠ 0) fun i j t u s Q hc q =>
  PyProof.Rows.mod_int' hc (by rw [← modP_eq i j hc]; exact q)
theorem wide_mulA {i j : Int} (ha : small i) (hb : small j) : PySem.IntMulOk i j := by
  have x := PySem.Flt.log2_lt_of (k := 3000000) (by decide) ha
  have y := PySem.Flt.log2_lt_of (k := 3000000) (by decide) hb
  have b : ∀ x : Int, Builtin.Int.intBits x ≤ x.natAbs.log2 + 1 := fun x => by
    unfold Builtin.Int.intBits
    split <;> omega
  have h1 := b i
  have h2 := b j
  have e : bitsLine = 134217728 := by decide
  unfold PySem.IntMulOk
  intro z
  rw [Bool.and_eq_true] at z
  have z2 := z.2
  unfold Builtin.Int.intTooBig at z2
  have z3 := of_decide_eq_true z2
  rw [e] at z3
  omega
theorem op_mulA : OpR X (binaryOp .Mult) (rI CMulA fun i j => .int (i * j)) := op_int2 CMulA fun i j t u s Q hc q =>
  PyProof.Rows.mul_int q (wide_mulA hc.1 hc.2)
end
def rBin (K : PySem.W.Frag) : BOp → R2
  | .add => fun x y H Q => rI0 (fun i j => .int (i + j)) x y H Q ∨ rCat x y H Q ∨ rCatA K x y H Q ∨ ∃ i j, x = .str i ∧ y = .str j ∧ i.length + j.length ≤ sizeLine ∧ Q (.str (i ++ j)) H
  | .sub => rI0 fun i j => .int (i - j)
  | .mul => fun x y H Q => rI CMulA (fun i j => .int (i * j)) x y H Q ∨ rRep x y H Q ∨ rRepT K x y H Q ∨ rRepU K x y H Q
  | .fdiv => rI CDivA fun i j => .int (divP i j)
  | .mod => rI (fun _ j => j ≠ 0) fun i j => .int (modP i j)
  | .pow => rI CPow fun i j => .int (i ^ j.toNat)
def binOp : BOp → Operator
  | .add => .Add | .sub => .Sub | .mul => .Mult | .fdiv => .FloorDiv | .mod => .Mod | .pow => .Pow
theorem or3 {X : Cx} {f : Value → Value → Sem Value} {r1 r2 : R2} (h1 : OpR X f r1) (h2 : OpR X f r2) : OpR X f (fun x y H Q => r1 x y H Q ∨ r2 x y H Q) := h1.or h2
theorem bin_rule {X : Cx} : ∀ o : BOp, OpR X (binaryOp (binOp o)) (rBin X.K o)
  | .add => op_add.or (op_cat.or (op_catA.or op_add_str))
  | .sub => op_sub
  | .mul => op_mulA.or (op_rep.or (op_repT.or op_repU))
  | .fdiv => op_fdivA
  | .mod => op_modA
  | .pow => op_pow

theorem pBin_nx (o : BOp) (x y : PV) (c : Nat) : pBin o x y ≠ .exn c := by
  cases o <;> (simp only [pBin]; first
    | (unfold pAdd; split <;> (try split) <;> intro h <;> cases h)
    | (unfold pSub; split <;> (try split) <;> intro h <;> cases h)
    | (unfold pMul; split <;> (try split) <;> intro h <;> cases h)
    | (unfold pFdiv; split <;> (try split) <;> intro h <;> cases h)
    | (unfold pMod; split <;> (try split) <;> intro h <;> cases h)
    | (unfold pPow; split <;> (try split) <;> intro h <;> cases h))

section
variable {X : Cx}
theorem fin_int {G H : Hp} {i : Int} {Q : VK} (s : Same G H) (h : ∀ w G' H', Ext G H G' H' → RepM .fre X.K H G' H' (.int i) w → Q w H') : Q (.int i) H :=
  h _ G H (Ext.refl s) (show Rep X.K G _ _ from rep_int')
theorem fin_lst {G H : Hp} {xs : List PV} {vs : List V} {p : Addr} {Q : VK} (s : Same G H) (hp : H p = none) (r : Reps X.K G xs vs) (h : ∀ w G' H', Ext G H G' H' → RepM .fre X.K H G' H' (.lst xs) w → Q w H') : Q (.ref p) (upd H p (.lst vs)) :=
  h _ G _ (Ext.fresh s hp) ⟨p, vs, rfl, hp, s.free hp, upd_same, r⟩
theorem fin_tup {G H : Hp} {xs : List PV} {vs : List V} {p : Addr} {Q : VK} (s : Same G H) (hp : H p = none) (r : Reps X.K G xs vs) (h : ∀ w G' H', Ext G H G' H' → RepM .fre X.K H G' H' (.tup xs) w → Q w H') : Q (.ref p) (upd H p (.tup vs)) :=
  h _ _ _ (Ext.new s hp) (show Rep X.K _ _ _ from rep_tup.mpr ⟨p, vs, rfl, .inl (.inl upd_same), r.mono (same_upd (s.free hp))⟩)
theorem bin_sound (o : BOp) (x y : PV) (v u : V) (G H : Hp) (Q : VK) (s : Same G H) (rx : RepT X.K G H x v) (ry : RepT X.K G H y u)
    (h : PK (pBin o x y) (fun z => ∀ w G' H', Ext G H G' H' → RepM .fre X.K H G' H' z w → Q w H') (fun _ => False)) : rBin X.K o v u H Q := by
  cases o with
  | add =>
    have h : PK (pAdd x y) _ _ := h
    unfold pAdd at h
    split at h
    · exact .inl ⟨_, _, rx.int, ry.int, fin_int s h⟩
    · split at h
      · rename_i hl
        obtain ⟨a, vs, rfl, h1, r1⟩ := rx.lst
        obtain ⟨b, us, rfl, h2, r2⟩ := ry.lst
        refine .inr (.inl ⟨a, b, vs, us, rfl, rfl, h1, h2, ?_, fun p hp => fin_lst s hp (r1.append r2) h⟩)
        rw [r1.length, r2.length]
        exact Nat.le_trans hl lim_line
      · exact h.elim
    · split at h
      · rename_i hl
        obtain ⟨a, vs, rfl, h1, r1⟩ := rx.tup
        obtain ⟨b, us, rfl, h2, r2⟩ := ry.tup
        refine .inr (.inr (.inl ⟨a, b, vs, us, rfl, rfl, same_seqT s h1, same_seqT s h2, ?_, fun e => ?_, fun _ e => ?_, fun _ _ p hp => fin_tup s hp (r1.append r2) h⟩))
        · rw [r1.length, r2.length]
          exact Nat.le_trans hl lim_line
        · subst e
          have q := (r1.append r2)
          exact h _ G H (Ext.refl s) (show Rep X.K G _ _ from rep_tup.mpr ⟨b, us, rfl, h2, q⟩)
        · subst e
          have q := (r1.append r2)
          rw [List.append_nil] at q
          exact h _ G H (Ext.refl s) (show Rep X.K G _ _ from rep_tup.mpr ⟨a, vs, rfl, h1, q⟩)
      · exact h.elim
    · split at h
      · rename_i hl
        exact .inr (.inr (.inr ⟨_, _, rx.str, ry.str, Nat.le_trans hl lim_line, h _ G H (Ext.refl s) (show Rep X.K G _ _ from rep_str')⟩))
      · exact h.elim
    · exact h.elim
  | sub =>
    have h : PK (pSub x y) _ _ := h
    unfold pSub at h
    split at h
    · exact ⟨_, _, rx.int, ry.int, fin_int s h⟩
    · exact h.elim
  | mul =>
    have h : PK (pMul x y) _ _ := h
    unfold pMul at h
    split at h
    · split at h
      · rename_i hc
        exact .inl ⟨_, _, rx.int, ry.int, hc, fin_int s h⟩
      · exact h.elim
    · split at h
      · rename_i hc
        obtain ⟨a, vs, rfl, h1, r1⟩ := rx.lst
        refine .inr (.inl ⟨a, _, vs, rfl, ry.int, h1, by omega, by omega, ?_, fun p hp => fin_lst s hp (r1.rep _) h⟩)
        rw [r1.length]
        exact Nat.le_trans hc.2.2 lim_line
      · exact h.elim
    · rename_i xs k hh
      split at h
      · rename_i hc
        obtain ⟨a, vs, rfl, h1, r1⟩ := rx.tup
        have hl := r1.length
        by_cases hv : vs = []
        · have hx : xs = [] := by
            subst hv
            exact List.eq_nil_of_length_eq_zero hl.symm
          subst hx
          have e3 : ∀ n : Nat, (List.replicate n ([] : List PV)).flatten = [] := fun n => by simp
          rw [e3] at h
          refine .inr (.inr (.inr ⟨a, k, vs, rfl, ry.int, same_seqT s h1, .inr hv, hc.2.2, hc.2.1, fun _ => h _ G H (Ext.refl s) (show Rep X.K G _ _ from rep_tup.mpr ⟨a, vs, rfl, h1, r1⟩), fun _ p hp => fin_tup s hp (reps_nil.mpr rfl) h⟩))
        · by_cases h2 : 2 ≤ k
          · exact .inr (.inr (.inl ⟨a, k, vs, rfl, ry.int, same_seqT s h1, hv, h2, hc.2.1, by omega, fun p hp => fin_tup s hp (r1.rep _) h⟩))
          · refine .inr (.inr (.inr ⟨a, k, vs, rfl, ry.int, same_seqT s h1, .inl (by omega), hc.2.2, hc.2.1, fun e => ?_, fun e p hp => ?_⟩))
            · have e : k = 1 := e.resolve_right hv
              subst e
              refine h _ G H (Ext.refl s) (show Rep X.K G _ _ from rep_tup.mpr ⟨a, vs, rfl, h1, ?_⟩)
              rw [show (1 : Int).toNat = 1 from rfl, List.replicate_succ, List.replicate_zero, List.flatten_cons, List.flatten_nil, List.append_nil]
              exact r1
            · have e2 : k.toNat = 0 := by omega
              rw [e2] at h
              exact fin_tup s hp (reps_nil.mpr rfl) h
      · exact h.elim
    · exact h.elim
  | fdiv =>
    have h : PK (pFdiv x y) _ _ := h
    unfold pFdiv at h
    split at h
    · split at h
      · rename_i hc
        exact ⟨_, _, rx.int, ry.int, hc, fin_int s h⟩
      · exact h.elim
    · exact h.elim
  | mod =>
    have h : PK (pMod x y) _ _ := h
    unfold pMod at h
    split at h
    · split at h
      · rename_i hc
        exact ⟨_, _, rx.int, ry.int, hc, fin_int s h⟩
      · exact h.elim
    · exact h.elim
  | pow =>
    have h : PK (pPow x y) _ _ := h
    unfold pPow at h
    split at h
    · split at h
      · rename_i hc
        exact ⟨_, _, rx.int, ry.int, hc, fin_int s h⟩
      · exact h.elim
    · exact h.elim
end

/-! ### comparisons -/
mutual
def toD : PV → PyData
  | .non => .none
  | .bl b => .bool b
  | .int i => .int i
  | .str s => .str s
  | .lst xs => .list (toDs xs)
  | .tup xs => .tuple (toDs xs)
  | .rl _ => .none
  | .dk _ _ => .none
  | .exc _ => .none
def toDs : List PV → List PyData
  | [] => []
  | x :: xs => toD x :: toDs xs
end
mutual
theorem eqv_toD : ∀ {n m : Nat} {x y : PV}, dat n x = true → dat m y = true → PyData.eqv (toD x) (toD y) = pyEq x y
  | _, _, .non, y, _, hy => by cases y <;> simp_all [dat, toD, PyData.eqv, pyEq]
  | _, _, .bl b, y, _, hy => by cases y <;> simp_all [dat, toD, PyData.eqv, pyEq]
  | _, _, .int i, y, _, hy => by cases y <;> simp_all [dat, toD, PyData.eqv, pyEq]
  | _, _, .str s, y, _, hy => by cases y <;> simp_all [dat, toD, PyData.eqv, pyEq]
  | n, m, .lst xs, y, hx, hy => by
    cases n with
    | zero => simp [dat] at hx
    | succ n =>
      cases y with
      | lst ys =>
        cases m with
        | zero => simp [dat] at hy
        | succ m =>
          simp only [dat] at hx hy
          simp only [toD, PyData.eqv, pyEq]
          exact eqvs_toD hx hy
      | _ => simp_all [dat, toD, PyData.eqv, pyEq]
  | n, m, .tup xs, y, hx, hy => by
    cases n with
    | zero => simp [dat] at hx
    | succ n =>
      cases y with
      | tup ys =>
        cases m with
        | zero => simp [dat] at hy
        | succ m =>
          simp only [dat] at hx hy
          simp only [toD, PyData.eqv, pyEq]
          exact eqvs_toD hx hy
      | _ => simp_all [dat, toD, PyData.eqv, pyEq]
  | _, _, .rl _, _, hx, _ => by simp [dat] at hx
  | _, _, .dk _ _, _, hx, _ => by simp [dat] at hx
  | _, _, .exc _, _, hx, _ => by simp [dat] at hx
theorem eqvs_toD : ∀ {n m : Nat} {xs ys : List PV}, xs.all (dat n) = true → ys.all (dat m) = true → PyData.eqvAll (toDs xs) (toDs ys) = pyEqs xs ys
  | _, _, [], ys, _, _ => by cases ys <;> simp [toDs, PyData.eqvAll, pyEqs]
  | _, _, x :: xs, ys, hx, hy => by
    cases ys with
    | nil => simp [toDs, PyData.eqvAll, pyEqs]
    | cons y ys =>
      simp only [List.all_cons, Bool.and_eq_true] at hx hy
      simp only [toDs, PyData.eqvAll, pyEqs]
      rw [eqv_toD hx.1 hy.1, eqvs_toD hx.2 hy.2]
end
mutual
theorem lay_toD : ∀ {n : Nat} {x : PV}, dat n x = true → (toD x).canLay0 = true ∧ (toD x).depth ≤ n
  | _, .non, _ => by simp [toD, PyData.canLay0, PyData.depth]
  | _, .bl _, _ => by simp [toD, PyData.canLay0, PyData.depth]
  | _, .int _, _ => by simp [toD, PyData.canLay0, PyData.depth]
  | n, .str s, h => by
    have h' : PyData.strOk s = true := by
      cases n <;> simpa only [dat] using h
    simp only [toD, PyData.canLay0, PyData.depth]
    exact ⟨h', Nat.zero_le _⟩
  | n, .lst xs, h => by
    cases n with
    | zero => simp [dat] at h
    | succ n =>
      simp only [dat] at h
      obtain ⟨h1, h2⟩ := lays_toD h
      simp only [toD, PyData.canLay0, PyData.depth]
      exact ⟨h1, by omega⟩
  | n, .tup xs, h => by
    cases n with
    | zero => simp [dat] at h
    | succ n =>
      simp only [dat] at h
      obtain ⟨h1, h2⟩ := lays_toD h
      simp only [toD, PyData.canLay0, PyData.depth]
      exact ⟨h1, by omega⟩
  | _, .rl _, hx => by simp [dat] at hx
  | _, .dk _ _, hx => by simp [dat] at hx
  | _, .exc _, hx => by simp [dat] at hx
theorem lays_toD : ∀ {n : Nat} {xs : List PV}, xs.all (dat n) = true → PyData.canLayAll0 (toDs xs) = true ∧ PyData.depthAll (toDs xs) ≤ n
  | _, [], _ => by simp [toDs, PyData.canLayAll0, PyData.depthAll]
  | n, x :: xs, h => by
    simp only [List.all_cons, Bool.and_eq_true] at h
    obtain ⟨a1, a2⟩ := lay_toD h.1
    obtain ⟨b1, b2⟩ := lays_toD h.2
    simp only [toDs, PyData.canLayAll0, PyData.depthAll, Bool.and_eq_true]
    exact ⟨⟨a1, b1⟩, by omega⟩
end
theorem shaped_toD {x : PV} (h : dat 8 x = true) : SeqAt.shaped (toD x) = true := by
  obtain ⟨h1, h2⟩ := lay_toD h
  unfold SeqAt.shaped
  rw [h1, Bool.true_and]
  exact decide_eq_true (by omega)
mutual
theorem dp_toD {K : PySem.W.Frag} {H : Hp} : ∀ {n : Nat} {x : PV} {v : V}, dat n x = true → Rep K H x v → Dp K H v (toD x)
  | _, .non, _, _, h => by rw [rep_non.mp h]; exact .non
  | _, .bl b, _, _, h => by rw [rep_bl.mp h]; exact .bl b
  | _, .int i, _, _, h => by rw [rep_int.mp h]; exact .int i
  | _, .str s, _, _, h => by rw [rep_str.mp h]; exact .str s
  | n, .lst xs, _, d, h => by
    cases n with
    | zero => simp [dat] at d
    | succ n =>
      simp only [dat] at d
      obtain ⟨a, vs, rfl, g, r⟩ := rep_lst.mp h
      simp only [toD]
      exact .lst (SqL.of g) (dps_toD d r)
  | n, .tup xs, _, d, h => by
    cases n with
    | zero => simp [dat] at d
    | succ n =>
      simp only [dat] at d
      obtain ⟨a, vs, rfl, g, r⟩ := rep_tup.mp h
      simp only [toD]
      exact .tup g (dps_toD d r)
  | _, .rl _, _, hx, _ => by simp [dat] at hx
  | _, .dk _ _, _, hx, _ => by simp [dat] at hx
  | _, .exc _, _, hx, _ => by simp [dat] at hx
theorem dps_toD {K : PySem.W.Frag} {H : Hp} : ∀ {n : Nat} {xs : List PV} {vs : List V}, xs.all (dat n) = true → Reps K H xs vs → DpAll K H vs (toDs xs)
  | _, [], _, _, h => by rw [reps_nil.mp h]; exact .nil
  | n, x :: xs, _, d, h => by
    simp only [List.all_cons, Bool.and_eq_true] at d
    obtain ⟨v, r, rfl, h1, h2⟩ := reps_cons.mp h
    simp only [toDs]
    exact .cons (dp_toD d.1 h1) (dps_toD d.2 h2)
end
def cmpOp : COp → CmpOp
  | .eq => .Eq | .ne => .NotEq | .lt => .Lt | .le => .LtE | .gt => .Gt | .ge => .GtE | .isIn => .In | .notIn => .NotIn | .isN => .Is | .notN => .IsNot
def rCmp (K : PySem.W.Frag) : COp → R2
  | .eq => rEqD K
  | .ne => rNeD K
  | .lt => rI0 fun i j => .bl (decide (i < j))
  | .le => rI0 fun i j => .bl (decide (i ≤ j))
  | .gt => rI0 fun i j => .bl (decide (j < i))
  | .ge => rI0 fun i j => .bl (decide (j ≤ i))
  | .isIn => fun x y H Q => rIn K false x y H Q ∨ ∃ (c : Nat) (z : Str), x = .str ⟨#[c]⟩ ∧ y = .str z ∧ Q (.bl (decide (c ∈ z.cps.toList))) H
  | .notIn => fun x y H Q => rIn K true x y H Q ∨ ∃ (c : Nat) (z : Str), x = .str ⟨#[c]⟩ ∧ y = .str z ∧ Q (.bl (!decide (c ∈ z.cps.toList))) H
  | .isN => fun x y H Q => (y = .non ∧ Q (.bl (decide (x = .non))) H) ∨ ∃ a b, x = .bl a ∧ y = .bl b ∧ Q (.bl (decide (a = b))) H
  | .notN => fun x y H Q => (y = .non ∧ Q (.bl (!decide (x = .non))) H) ∨ ∃ a b, x = .bl a ∧ y = .bl b ∧ Q (.bl (!decide (a = b))) H
theorem cmp_rule {X : Cx} (hu : X.A.units + 64 < cLine) : ∀ o : COp, OpR X (compareOp (cmpOp o)) (rCmp X.K o)
  | .eq => op_eqD hu
  | .ne => op_neD hu
  | .lt => op_lt
  | .le => op_le
  | .gt => op_gt
  | .ge => op_ge
  | .isIn => op_in_seq.or op_in_sign
  | .notIn => op_notIn_seq.or op_notIn_sign
  | .isN => op_isN.or op_is_bl
  | .notN => op_notN.or op_isnot_bl
theorem flat_rep {K : PySem.W.Frag} {G : Hp} {x : PV} {v : V} (f : flat x = true) (h : Rep K G x v) : flatV v = true := by
  cases x <;> first | (simp only [flat, Bool.false_eq_true] at f; done) | (simp only [Rep] at h; subst h; rfl)
theorem eqV_rep {K : PySem.W.Frag} {G G' : Hp} {x y : PV} {v u : V} (fx : flat x = true) (fy : flat y = true) (h : Rep K G x v) (h' : Rep K G' y u) : eqV u v = pyEq y x := by
  cases x <;> first | (simp only [flat, Bool.false_eq_true] at fx; done) | skip
  all_goals
    simp only [Rep] at h
    subst h
    cases y <;> first | (simp only [flat, Bool.false_eq_true] at fy; done) | (simp only [Rep] at h'; subst h'; simp [eqV, pyEq])
theorem flats_rep {K : PySem.W.Frag} {G : Hp} : ∀ {ys : List PV} {us : List V}, ys.all flat = true → Reps K G ys us → us.all flatV = true
  | [], _, _, h => by rw [reps_nil.mp h]; rfl
  | y :: ys, _, f, h => by
    simp only [List.all_cons, Bool.and_eq_true] at f
    obtain ⟨u, r, rfl, h1, h2⟩ := reps_cons.mp h
    rw [List.all_cons, flat_rep f.1 h1, flats_rep f.2 h2]
    rfl
theorem inV_rep {K : PySem.W.Frag} {G G' : Hp} {x : PV} {v : V} (fx : flat x = true) (h : Rep K G x v) : ∀ {ys : List PV} {us : List V}, ys.all flat = true → Reps K G' ys us → inV v us = ys.any fun y => pyEq y x
  | [], _, _, h' => by rw [reps_nil.mp h']; rfl
  | y :: ys, _, f, h' => by
    simp only [List.all_cons, Bool.and_eq_true] at f
    obtain ⟨u, r, rfl, h1, h2⟩ := reps_cons.mp h'
    have ih := inV_rep fx h f.2 h2
    unfold inV at ih ⊢
    rw [List.any_cons, List.any_cons, eqV_rep fx f.1 h h1, ih]
theorem pIn_nx (x y : PV) (c : Nat) : pIn x y ≠ .exn c := by
  unfold pIn
  split <;> (try split) <;> intro h <;> cases h
theorem pIs_cases (x y : PV) : (y = .non ∧ ∃ b, pIs x y = .ok (.bl b)) ∨ (∃ a b, x = .bl a ∧ y = .bl b ∧ pIs x y = .ok (.bl (decide (a = b)))) ∨ pIs x y = .bad := by
  cases y with
  | non => cases x <;> exact .inl ⟨rfl, _, rfl⟩
  | bl b =>
    cases x with
    | bl a => exact .inr (.inl ⟨a, b, rfl, rfl, rfl⟩)
    | _ => exact .inr (.inr rfl)
  | _ => cases x <;> exact .inr (.inr rfl)
theorem pCmp_nx (o : COp) (x y : PV) (c : Nat) : pCmp o x y ≠ .exn c := by
  have n1 : ∀ z c, pNot z ≠ .exn c := fun z c => by
    unfold pNot
    split <;> intro h <;> cases h
  cases o with
  | eq =>
    show pEq x y ≠ _
    unfold pEq
    split <;> intro h <;> cases h
  | ne =>
    show pNe x y ≠ _
    unfold pNe
    split <;> intro h <;> cases h
  | lt =>
    show pLt x y ≠ _
    unfold pLt
    split <;> intro h <;> cases h
  | le =>
    show pLe x y ≠ _
    unfold pLe
    split <;> intro h <;> cases h
  | gt =>
    show pLt y x ≠ _
    unfold pLt
    split <;> intro h <;> cases h
  | ge =>
    show pLe y x ≠ _
    unfold pLe
    split <;> intro h <;> cases h
  | isIn => exact pIn_nx x y c
  | notIn =>
    intro h
    have h' : (pIn x y).bind pNot = .exn c := h
    cases e : pIn x y with
    | ok z => rw [e] at h'; exact n1 z c h'
    | exn d => exact pIn_nx x y d e
    | bad => rw [e] at h'; cases h'
  | isN =>
    show pIs x y ≠ _
    rcases pIs_cases x y with ⟨rfl, b, e⟩ | ⟨a, b, rfl, rfl, e⟩ | e <;> (rw [e]; intro h; cases h)
  | notN =>
    intro h
    have h' : (pIs x y).bind pNot = .exn c := h
    rcases pIs_cases x y with ⟨rfl, b, e⟩ | ⟨a, b, rfl, rfl, e⟩ | e
    · rw [e, R.bind_ok] at h'
      exact n1 _ _ h'
    · rw [e, R.bind_ok] at h'
      exact n1 _ _ h'
    · rw [e] at h'
      cases h'
section
variable {X : Cx}
theorem fin_bl' {G H : Hp} {i j : Bool} {Q : VK} (s : Same G H) (h : ∀ w G' H', Ext G H G' H' → RepM .fre X.K H G' H' (.bl i) w → Q w H') (e : j = i) : Q (.bl j) H := by
  rw [e]
  exact h _ G H (Ext.refl s) (show Rep X.K G _ _ from rep_bl')
theorem isSign_eq {z : Str} {n : Nat} (e : isSign z = some n) : z = ⟨#[n]⟩ := by
  obtain ⟨cp⟩ := z
  unfold isSign at e
  split at e
  · rename_i d hd
    cases e
    have : cp = #[n] := by
      rw [← Array.toList_inj]
      exact hd
    rw [this]
  · cases e
theorem in_sound {x y : PV} {v u : V} {G H : Hp} (neg : Bool) {Q : VK} (s : Same G H) (rx : RepT X.K G H x v) (ry : RepT X.K G H y u) {k : PV → Prop}
    (h : PK (pIn x y) (fun z => ∃ b, z = .bl b ∧ Q (.bl (if neg then !b else b)) H) (fun _ => False)) :
    rIn X.K neg v u H Q ∨ ∃ (c : Nat) (z : Str), v = .str ⟨#[c]⟩ ∧ u = .str z ∧ Q (.bl (if neg then !decide (c ∈ z.cps.toList) else decide (c ∈ z.cps.toList))) H := by
  have fx : flat x = true → Rep X.K G x v := fun f => by
    cases x <;> first | (simp only [flat, Bool.false_eq_true] at f; done) | exact rx
  unfold pIn at h
  split at h
  · split at h
    · rename_i hf
      rw [Bool.and_eq_true] at hf
      obtain ⟨a, us, rfl, h1, r1⟩ := ry.lst
      obtain ⟨b, hb, q⟩ := h
      cases hb
      refine .inl ⟨a, us, rfl, .inl (SqL.of h1), flat_rep hf.1 (fx hf.1), flats_rep hf.2 r1, ?_⟩
      rw [inV_rep hf.1 (fx hf.1) hf.2 r1]
      exact q
    · exact h.elim
  · split at h
    · rename_i hf
      rw [Bool.and_eq_true] at hf
      obtain ⟨a, us, rfl, h1, r1⟩ := ry.tup
      obtain ⟨b, hb, q⟩ := h
      cases hb
      refine .inl ⟨a, us, rfl, .inr (same_seqT s h1), flat_rep hf.1 (fx hf.1), flats_rep hf.2 r1, ?_⟩
      rw [inV_rep hf.1 (fx hf.1) hf.2 r1]
      exact q
    · exact h.elim
  · split at h
    · rename_i n e
      obtain ⟨b, hb, q⟩ := h
      cases hb
      refine .inr ⟨n, _, ?_, ry.str, q⟩
      rw [rx.str, isSign_eq e]
    · exact h.elim
  · exact h.elim
theorem isN_rep {x : PV} {v : V} {G H : Hp} (r : RepT X.K G H x v) : pIsN x = .ok (.bl (decide (v = .non))) := by
  cases x with
  | non => rw [r.non]; rfl
  | bl b => rw [r.bl]; rfl
  | int b => rw [r.int]; rfl
  | str b => rw [r.str]; rfl
  | lst xs => obtain ⟨a, vs, rfl, _⟩ := r.lst; rfl
  | tup xs => obtain ⟨a, vs, rfl, _⟩ := r.tup; rfl
  | rl xs => obtain ⟨a, vs, rfl, _⟩ := r.rl; rfl
  | dk ks xs =>
    have r' : Rep X.K G (.dk ks xs) v := r
    simp only [Rep] at r'
    obtain ⟨a, kvs, rfl, _⟩ := r'
    rfl
  | exc c =>
    obtain ⟨a, C, rfl, _⟩ := rep_exc.mp (show Rep X.K G (.exc c) v from r)
    rfl
theorem cmp_sound (o : COp) (x y : PV) (v u : V) (G H : Hp) (Q : VK) (s : Same G H) (rx : RepT X.K G H x v) (ry : RepT X.K G H y u)
    (h : PK (pCmp o x y) (fun z => ∀ w G' H', Ext G H G' H' → RepM .fre X.K H G' H' z w → Q w H') (fun _ => False)) : rCmp X.K o v u H Q := by
  cases o with
  | eq =>
    have h : PK (pEq x y) _ _ := h
    unfold pEq at h
    split at h
    · rename_i hd
      rw [Bool.and_eq_true] at hd
      exact ⟨_, _, dp_toD hd.1 (rx.full s), dp_toD hd.2 (ry.full s), shaped_toD hd.1, shaped_toD hd.2, fin_bl' s h (eqv_toD hd.1 hd.2)⟩
    · exact h.elim
  | ne =>
    have h : PK (pNe x y) _ _ := h
    unfold pNe at h
    split at h
    · rename_i hd
      rw [Bool.and_eq_true] at hd
      exact ⟨_, _, dp_toD hd.1 (rx.full s), dp_toD hd.2 (ry.full s), shaped_toD hd.1, shaped_toD hd.2, fin_bl' s h (by rw [eqv_toD hd.1 hd.2])⟩
    · exact h.elim
  | lt =>
    have h : PK (pLt x y) _ _ := h
    unfold pLt at h
    split at h
    · exact ⟨_, _, rx.int, ry.int, fin_bl' s h rfl⟩
    · exact h.elim
  | le =>
    have h : PK (pLe x y) _ _ := h
    unfold pLe at h
    split at h
    · exact ⟨_, _, rx.int, ry.int, fin_bl' s h rfl⟩
    · exact h.elim
  | gt =>
    have h : PK (pLt y x) _ _ := h
    unfold pLt at h
    split at h
    · exact ⟨_, _, rx.int, ry.int, fin_bl' s h rfl⟩
    · exact h.elim
  | ge =>
    have h : PK (pLe y x) _ _ := h
    unfold pLe at h
    split at h
    · exact ⟨_, _, rx.int, ry.int, fin_bl' s h rfl⟩
    · exact h.elim
  | isIn =>
    refine in_sound (k := fun _ => True) false s rx ry ?_
    have h' : PK (pIn x y) _ _ := h
    cases e : pIn x y with
    | ok z =>
      rw [e] at h'
      have hz : ∃ b, z = .bl b := by
        unfold pIn at e
        split at e <;> (try split at e) <;> first | (cases e; exact ⟨_, rfl⟩) | cases e
      obtain ⟨b, rfl⟩ := hz
      exact ⟨b, rfl, fin_bl' s h' rfl⟩
    | exn c => exact absurd e (pIn_nx x y c)
    | bad => rw [e] at h'; exact h'
  | notIn =>
    refine in_sound (k := fun _ => True) true s rx ry ?_
    have h' : PK ((pIn x y).bind pNot) _ _ := h
    cases e : pIn x y with
    | ok z =>
      rw [e] at h'
      have hz : ∃ b, z = .bl b := by
        unfold pIn at e
        split at e <;> (try split at e) <;> first | (cases e; exact ⟨_, rfl⟩) | cases e
      obtain ⟨b, rfl⟩ := hz
      exact ⟨b, rfl, fin_bl' s h' rfl⟩
    | exn c => exact absurd e (pIn_nx x y c)
    | bad => rw [e] at h'; exact h'
  | isN =>
    have h' : PK (pIs x y) _ _ := h
    rcases pIs_cases x y with ⟨rfl, _⟩ | ⟨a, b, rfl, rfl, e⟩ | e
    · have e : pIs x .non = pIsN x := by cases x <;> rfl
      rw [e, isN_rep rx] at h'
      exact .inl ⟨ry.non, fin_bl' s h' rfl⟩
    · rw [e] at h'
      exact .inr ⟨a, b, rx.bl, ry.bl, fin_bl' s h' rfl⟩
    · rw [e] at h'
      exact h'.elim
  | notN =>
    have h' : PK ((pIs x y).bind pNot) _ _ := h
    rcases pIs_cases x y with ⟨rfl, _⟩ | ⟨a, b, rfl, rfl, e⟩ | e
    · have e : pIs x .non = pIsN x := by cases x <;> rfl
      rw [e, isN_rep rx] at h'
      exact .inl ⟨ry.non, fin_bl' s h' rfl⟩
    · rw [e] at h'
      exact .inr ⟨a, b, rx.bl, ry.bl, fin_bl' s h' rfl⟩
    · rw [e] at h'
      exact h'.elim
end
end Pf

set_option Elab.async false
set_option linter.all false
set_option maxRecDepth 100000
set_option autoImplicit false
set_option maxHeartbeats 1000000
/-! Pf4: expressions, part one: names, operators, arguments, calls, targets, what is walked -/
namespace Pf
open PySem PySem.Spec L2
variable [Tbc] [Tlc]

theorem bl_of {m : Mode} {K : PySem.W.Frag} {H0 G H : Hp} {b : Bool} {v : V} (h : RepM m K H0 G H (.bl b) v) : v = .bl b := by
  cases m <;> exact rep_bl.mp (show Rep K G _ _ from h)
theorem int_of {m : Mode} {K : PySem.W.Frag} {H0 G H : Hp} {b : Int} {v : V} (h : RepM m K H0 G H (.int b) v) : v = .int b := by
  cases m <;> exact rep_int.mp (show Rep K G _ _ from h)
theorem non_of {m : Mode} {K : PySem.W.Frag} {H0 G H : Hp} {v : V} (h : RepM m K H0 G H .non v) : v = .non := by
  cases m <;> exact rep_non.mp (show Rep K G _ _ from h)
theorem str_of {m : Mode} {K : PySem.W.Frag} {H0 G H : Hp} {b : Str} {v : V} (h : RepM m K H0 G H (.str b) v) : v = .str b := by
  cases m <;> exact rep_str.mp (show Rep K G _ _ from h)
/-! ### heads of expressions -/
def good : Expr → Bool
  | .Name _ _ => true
  | .Constant _ _ _ => true
  | .BinOp _ _ _ _ => true
  | .UnaryOp _ _ _ => true
  | .Compare _ _ _ _ => true
  | .BoolOp _ _ _ => true
  | .IfExp _ _ _ _ => true
  | .Tuple _ _ _ => true
  | .List _ _ => true
  | .Subscript _ _ _ => true
  | .Call _ _ _ _ => true
  | .ListComp _ _ _ _ => true
  | .Attribute _ _ _ => true
  | .Dict _ _ _ => true
  | _ => false
theorem good_star {e : Expr} (h : good e = true) (es : List Expr) (env : PySem.Env) : starEach (e :: es) env = (false, eval e env) :: starEach es env := by
  cases e <;> first | rfl | (simp only [good, Bool.false_eq_true] at h; done)
theorem good_behind {e : Expr} (h : good e = true) (op : CmpOp) : behindInMarks op e = false := by
  cases e <;> first | rfl | (simp only [good, Bool.false_eq_true] at h; done)
theorem good_ix {e : Expr} (h : good e = true) : PlainIx e := by
  cases e <;> first | (exact fun _ _ => rfl) | (simp only [good, Bool.false_eq_true] at h; done)
theorem good_fold {e : Expr} (h : good e = true) (env : PySem.Env) (x : Value) : foldedSetIterable e env x = pure x := by
  cases e <;> first | rfl | (simp only [good, Bool.false_eq_true] at h; done)
theorem good_any {pos : Pos} {env : PySem.Env} : ∀ {es : List Expr}, es.all good = true → (backTo pos (starEach es env)).any (·.1) = false
  | [], _ => rfl
  | e :: es, h => by
    simp only [List.all_cons, Bool.and_eq_true] at h
    rw [good_star h.1]
    show (false || (backTo pos (starEach es env)).any (·.1)) = false
    rw [good_any h.2]
    rfl
def noComp : Expr → Bool
  | .ListComp _ _ _ _ => false
  | .SetComp _ _ _ _ => false
  | .DictComp _ _ _ _ _ => false
  | _ => true
theorem good_swap {e : Expr} (hn : noComp e = true) (t : Option Expr) (l : Nat) (env : PySem.Env) : swapsWith e t l env = pure false := by
  cases e <;> first | rfl | (simp only [noComp, Bool.false_eq_true] at hn; done)

/-! ### names -/
def vis (sc : Scope) (x : Str) : Bool := match sc.names.lookup x with
  | some .local => true
  | some .cell => true
  | some .free => true
  | _ => false
def glb (sc : Scope) (x : Str) : Bool := match sc.names.lookup x with
  | some .globalImplicit => true
  | _ => false
section
variable {Γ : Gt} {N : List Str} {sc so : Scope} {W : WX} {X : Cx}
theorem XOk.vis (o : XOk Γ N sc so W X) {x : Str} (h : vis sc x = true) : Vis X.env.scope x := by
  rw [o.hsc]
  unfold Pf.vis at h
  split at h
  · exact .inl (by assumption)
  · exact .inr (.inl (by assumption))
  · exact .inr (.inr (by assumption))
  · cases h
theorem XOk.loc (o : XOk Γ N sc so W X) {x : Str} (h : loc so x = true) : Loc X.env.scope x ∧ (X.fn x = true ∨ X.env.scope.names.lookup x = some .local) := o.fn x h
theorem XOk.gl (o : XOk Γ N sc so W X) {x : Str} (h : glb sc x = true) : Gl X x := by
  show X.env.scope.names.lookup x = some .globalImplicit
  rw [o.hsc]
  unfold glb at h
  split at h
  · assumption
  · cases h
theorem XOk.nodb (o : XOk Γ N sc so W X) {i : Nat} {x : Str} (h : N[i]? = some x) : (x == ("__debug__" : Str)) = false ∧ (x == ("__classdict__" : Str)) = false := o.db x (List.mem_of_getElem? h)
theorem XOk.Nx (o : XOk Γ N sc so W X) {i : Nat} {x : Str} (h : N[i]? = some x) : X.N[i]? = some x := by rw [o.hN]; exact h

/-! ### names and constants -/
theorem se_var (o : XOk Γ N sc so W X) {i : Nat} {x : Str} {pos : Pos} (hn : N[i]? = some x) (hv : vis sc x = true) : SE Γ W X .esc (.Name x pos) (fun ρ => getE ρ i) := by
  refine PE.weak (pe_var (o.Nx hn) (o.vis hv) (o.nodb hn).1 (o.nodb hn).2) fun σ H Q ⟨B, ρ, G, ow, q⟩ => ?_
  have q : PK (getE ρ i) _ _ := q
  unfold getE at q
  split at q
  · rename_i v hv'
    obtain ⟨w, e, r⟩ := ow.sh hv'
    exact ⟨w, e, q w G H (Ext.refl ow.gh) r⟩
  · exact q.elim
theorem se_bvar (o : XOk Γ N sc so W X) {i : Nat} {x : Str} {pos : Pos} (hn : N[i]? = some x) (hv : vis sc x = true) : SE Γ W X .bor (.Name x pos) (fun ρ => getB ρ i) := by
  refine PE.weak (pe_var (o.Nx hn) (o.vis hv) (o.nodb hn).1 (o.nodb hn).2) fun σ H Q ⟨B, ρ, G, ow, q⟩ => ?_
  have q : PK (getB ρ i) _ _ := q
  unfold getB at q
  split at q
  · rename_i v hv'
    obtain ⟨w, e, r⟩ := ow.sh hv'
    exact ⟨w, e, q w G H (Ext.refl ow.gh) (Rep.toT ow.gh r)⟩
  · rename_i xs hv'
    obtain ⟨a, vs, e, h1, h2, h3, r⟩ := ow.ow hv'
    exact ⟨.ref a, e, q _ G H (Ext.refl ow.gh) ⟨a, vs, rfl, h1, r⟩⟩
  · exact q.elim
theorem se_val {e : Expr} {v : V} {x : PV} (p : PE X e (tC v)) (r : ∀ G, Rep X.K G x v) : SE Γ W X .esc e (fun _ => .ok x) :=
  PE.weak p fun σ H Q ⟨B, ρ, G, ow, q⟩ => q v G H (Ext.refl ow.gh) (r G)
theorem se_int {i : Int} {j pos} : SE Γ W X .esc (.Constant (.int i) j pos) (fun _ => .ok (.int i)) := se_val pe_int fun _ => rep_int'
theorem se_bl {b : Bool} {j pos} : SE Γ W X .esc (.Constant (.bool b) j pos) (fun _ => .ok (.bl b)) := se_val pe_bl fun _ => rep_bl'
theorem se_str {s : Str} {j pos} : SE Γ W X .esc (.Constant (.str s) j pos) (fun _ => .ok (.str s)) := se_val pe_str fun _ => rep_str'
theorem se_non {j pos} : SE Γ W X .esc (.Constant .none j pos) (fun _ => .ok .non) := se_val pe_non fun _ => rep_non.mpr rfl
theorem se_con (o : XOk Γ N sc so W X) {k : Nat} {x : Str} {v : PV} {pos : Pos} (hk : Γ.cn[k]? = some (x, v)) (hg : glb sc x = true) : SE Γ W X .esc (.Name x pos) (fun _ => .ok v) := by
  obtain ⟨db, u, w, hm, r, rv⟩ := o.g.cn _ (List.mem_of_getElem? hk)
  exact se_val (pe_glob (o.gl hg) hm r db) rv

/-! ### operators -/
theorem se_bin {op : BOp} {a b : Expr} {pos : Pos} {fa fb : Env → R PV} (ha : SE Γ W X .bor a fa) (hb : SE Γ W X .bor b fb) :
    SE Γ W X .fre (.BinOp a (binOp op) b pos) (fun ρ => (fa ρ).bind fun x => (fb ρ).bind fun y => pBin op x y) :=
  PE.weak (pe_op (bin_rule op) ha hb) (two_rd (bin_sound (X := X) op) (fun _ _ _ _ _ _ s h => repM_old s h) (pBin_nx op))
theorem fin_v {G H G' H' : Hp} {m : Mode} {x : PV} {v : V} {Q : VK} (e : Ext G H G' H') (r : Rep X.K G' x v) (h : ∀ w G' H', Ext G H G' H' → RepM .esc X.K H G' H' x w → Q w H') : Q v H' := h v G' H' e r
theorem se_neg {a : Expr} {pos : Pos} {fa : Env → R PV} (ha : SE Γ W X .bor a fa) : SE Γ W X .esc (.UnaryOp .USub a pos) (fun ρ => (fa ρ).bind pNeg) := by
  refine PE.weak (pe_un un_neg ha) fun σ H Q ⟨B, ρ, G, ow, q⟩ => ⟨B, ρ, G, ow, (PK_bind.mp q).imp (fun x k v G1 H1 e1 r1 => ?_) fun _ z => z⟩
  unfold pNeg at k
  split at k
  · rename_i i
    exact ⟨i, int_of r1, k _ G1 H1 e1 (show Rep X.K G1 _ _ from rep_int')⟩
  · exact k.elim
theorem se_cmp (o : XOk Γ N sc so W X) {op : COp} {a b : Expr} {pos : Pos} {fa fb : Env → R PV} (gb : good b = true) (ha : SE Γ W X .bor a fa) (hb : SE Γ W X .bor b fb) :
    SE Γ W X .fre (.Compare a [cmpOp op] [b] pos) (fun ρ => (fa ρ).bind fun x => (fb ρ).bind fun y => pCmp op x y) ∧ ST Γ W X (.Compare a [cmpOp op] [b] pos) (fun ρ => (fa ρ).bind fun x => (fb ρ).bind fun y => pCmp op x y) := by
  have key : ∀ σ H Q, rdE Γ W X.K .fre (fun ρ => (fa ρ).bind fun x => (fb ρ).bind fun y => pCmp op x y) σ H Q → tOp (rCmp X.K op) (rdE Γ W X.K .bor fa) (rdE Γ W X.K .bor fb) σ H Q := fun σ H Q ⟨B, ρ, G, ow, q⟩ => by
    refine ⟨B, ρ, G, ow, (PK_bind.mp q).imp (fun x k v G1 H1 e1 r1 => ?_) fun _ z => z⟩
    refine ⟨B, ρ, G1, ow.step e1, ?_⟩
    have k' := PK_bind.mp k
    cases eb : fb ρ with
    | bad => rw [eb] at k'; exact k'
    | exn c => rw [eb] at k'; exact Ke.step e1 k'
    | ok y =>
      rw [eb] at k'
      intro u G2 H2 e2 r2
      refine cmp_sound op x y v u G2 H2 Q e2.gh (RepT.mono (e2.gg e1.gh) e2.hh r1) r2 ?_
      · have k2 : PK (pCmp op x y) _ _ := k'
        cases e : pCmp op x y with
        | ok z =>
          rw [e] at k2
          exact fun w G' H' e3 rz => k2 w G' H' ((e1.trans e2).trans e3) (repM_old (e1.hh.trans e2.hh) rz)
        | exn c => exact absurd e (pCmp_nx op x y c)
        | bad => rw [e] at k2; exact k2
  refine ⟨PE.weak (pe_cmpR (cmp_rule (by have := o.un; omega) op) ha hb (good_behind gb _)) key, PT.weak (pt_cmpR (cmp_rule (by have := o.un; omega) op) ha hb (good_behind gb _)) fun σ H Q ⟨B, ρ, G, ow, q⟩ => ?_⟩
  refine key σ H _ ⟨B, ρ, G, ow, q.imp (fun x k v G' H' e r => ?_) fun _ z => z⟩
  obtain ⟨b, rfl, k⟩ := k
  exact ⟨b, bl_of r, k G' H' e⟩
theorem lastM {e f : Expr} (hf : good f = true) (o1 o2 : CmpOp) : lastMarks [o1, o2] [e, f] = false := by
  show behindInMarks o2 f = false
  exact good_behind hf o2
theorem se_chain (o : XOk Γ N sc so W X) {o1 o2 : COp} {a b c : Expr} {pos : Pos} {fa fb fc : Env → R PV} (gc : good c = true) (ha : SE Γ W X .bor a fa) (hb : SE Γ W X .bor b fb) (hc : SE Γ W X .bor c fc)
    (n1 : o1 ≠ .isN ∧ o1 ≠ .notN) (n2 : o2 ≠ .isN ∧ o2 ≠ .notN) {f : Env → R PV} (hf : ∀ ρ, f ρ = ((fa ρ).bind fun x => (fb ρ).bind fun y => (pCmp o1 x y).bind fun r => match r with
      | .bl true => (fc ρ).bind fun z => pCmp o2 y z
      | .bl false => .ok (.bl false)
      | _ => .bad)) :
    SE Γ W X .fre (.Compare a [cmpOp o1, cmpOp o2] [b, c] pos) f ∧ ST Γ W X (.Compare a [cmpOp o1, cmpOp o2] [b, c] pos) f := by
  have key : ∀ σ H Q, rdE Γ W X.K .fre f σ H Q → tChain (rCmp X.K o1) (rCmp X.K o2) (rdE Γ W X.K .bor fa) (rdE Γ W X.K .bor fb) (rdE Γ W X.K .bor fc) σ H Q := fun σ H Q ⟨B, ρ, G, ow, q⟩ => by
    rw [hf] at q
    refine ⟨B, ρ, G, ow, (PK_bind.mp q).imp (fun x k v G1 H1 e1 r1 => ?_) fun _ z => z⟩
    refine ⟨B, ρ, G1, ow.step e1, (PK_bind.mp k).imp (fun y k u G2 H2 e2 r2 => ?_) fun _ z => Ke.step e1 z⟩
    refine cmp_sound o1 x y v u G2 H2 _ e2.gh (RepT.mono (e2.gg e1.gh) e2.hh r1) r2 ?_
    have k1 := PK_bind.mp k
    cases e : pCmp o1 x y with
    | exn d => exact absurd e (pCmp_nx o1 x y d)
    | bad => rw [e] at k1; exact k1
    | ok r =>
      rw [e] at k1
      have k1' : PK (match r with
        | .bl true => (fc ρ).bind fun z => pCmp o2 y z
        | .bl false => .ok (.bl false)
        | _ => .bad) _ _ := k1
      intro w G3 H3 e3 r3
      split at k1'
      · refine ⟨true, bl_of r3, ?_⟩
        refine iteT ?_
        refine ⟨B, ρ, G3, ((ow.step e1).step e2).step e3, (PK_bind.mp k1').imp (fun z k t G4 H4 e4 r4 => ?_) fun _ z => Ke.step ((e1.trans e2).trans e3) z⟩
        refine cmp_sound o2 y z u t G4 H4 _ e4.gh (RepT.mono (e4.gg e3.gh) e4.hh (RepT.mono (e3.gg e2.gh) e3.hh r2)) r4 ?_
        cases e' : pCmp o2 y z with
        | exn d => exact absurd e' (pCmp_nx o2 y z d)
        | bad => rw [e'] at k; exact k
        | ok r' =>
          rw [e'] at k
          exact fun w' G' H' e5 rz => k w' G' H' ((((e1.trans e2).trans e3).trans e4).trans e5) (repM_old (((e1.hh.trans e2.hh).trans e3.hh).trans e4.hh) rz)
      · refine ⟨false, bl_of r3, ?_⟩
        refine iteF ?_
        exact k1' _ G3 H3 ((e1.trans e2).trans e3) (show Rep X.K G3 _ _ from rep_bl')
      · exact k1'.elim
  refine ⟨PE.weak (pe_chain (cmp_rule (by have := o.un; omega) o1) (cmp_rule (by have := o.un; omega) o2) ha hb hc (lastM gc _ _)) key, PT.weak (pt_chain (cmp_rule (by have := o.un; omega) o1) (cmp_rule (by have := o.un; omega) o2) ha hb hc (lastM gc _ _)) fun σ H Q ⟨B, ρ, G, ow, q⟩ => ?_⟩
  refine key σ H _ ⟨B, ρ, G, ow, q.imp (fun x k v G' H' e r => ?_) fun _ z => z⟩
  obtain ⟨b, rfl, k⟩ := k
  exact ⟨b, bl_of r, k G' H' e⟩

/-! ### and, or, not, if -/
def pAnd (x : R PV) (y : Unit → R PV) : R PV := x.bind fun v => match v with
  | .bl true => y ()
  | .bl false => .ok (.bl false)
  | _ => .bad
theorem se_and {a : Expr} {b : Expr} {rest : List Expr} {pos : Pos} {fa fb f : Env → R PV} (hf : ∀ ρ, f ρ = (fa ρ).bind fun x => match x with
      | .bl true => fb ρ
      | .bl false => .ok (.bl false)
      | _ => .bad) (ha : SE Γ W X .esc a fa) (hb : SE Γ W X .esc (.BoolOp .And (b :: rest) pos) fb) : SE Γ W X .esc (.BoolOp .And (a :: b :: rest) pos) f := by
  refine PE.weak (pe_and ha hb) fun σ H Q ⟨B, ρ, G, ow, q⟩ => ?_
  rw [hf] at q
  refine ⟨B, ρ, G, ow, (PK_bind.mp q).imp (fun x k v G1 H1 e1 r1 => ?_) fun _ z => z⟩
  split at k
  · exact ⟨true, bl_of r1, iteT ⟨B, ρ, G1, ow.step e1, k.imp (fun x k v G' H' e r => k v G' H' (e1.trans e) r) fun _ z => Ke.step e1 z⟩⟩
  · exact ⟨false, bl_of r1, iteF (k _ G1 H1 e1 (show Rep X.K G1 _ _ from rep_bl'))⟩
  · exact k.elim
theorem se_or {a : Expr} {b : Expr} {rest : List Expr} {pos : Pos} {fa fb f : Env → R PV} (hf : ∀ ρ, f ρ = (fa ρ).bind fun x => match x with
      | .bl true => .ok (.bl true)
      | .bl false => fb ρ
      | _ => .bad) (ha : SE Γ W X .esc a fa) (hb : SE Γ W X .esc (.BoolOp .Or (b :: rest) pos) fb) : SE Γ W X .esc (.BoolOp .Or (a :: b :: rest) pos) f := by
  refine PE.weak (pe_or ha hb) fun σ H Q ⟨B, ρ, G, ow, q⟩ => ?_
  rw [hf] at q
  refine ⟨B, ρ, G, ow, (PK_bind.mp q).imp (fun x k v G1 H1 e1 r1 => ?_) fun _ z => z⟩
  split at k
  · exact ⟨true, bl_of r1, iteT (k _ G1 H1 e1 (show Rep X.K G1 _ _ from rep_bl'))⟩
  · exact ⟨false, bl_of r1, iteF ⟨B, ρ, G1, ow.step e1, k.imp (fun x k v G' H' e r => k v G' H' (e1.trans e) r) fun _ z => Ke.step e1 z⟩⟩
  · exact k.elim
theorem se_one {a : Expr} {op : BoolOp} {pos : Pos} {fa : Env → R PV} (ha : SE Γ W X .esc a fa) : SE Γ W X .esc (.BoolOp op [a] pos) fa := pe_one ha
/-- tests whatever their whole is -/
def SW (Γ : Gt) (W : WX) (X : Cx) (e : Expr) (f : Env → R PV) : Prop := PW X e (rdT Γ W X.K f)
theorem PW.weak {e : Expr} {t t' : TT} (p : PW X e t) (w : ∀ σ H Q, t' σ H Q → t σ H Q) : PW X e t' := ⟨fun wh pins s σ H Q I h => p.run wh pins s σ H Q I (w σ H Q h)⟩
theorem sw_and1 {a : Expr} {pos : Pos} {fa : Env → R PV} (ha : ST Γ W X a fa) : SW Γ W X (.BoolOp .And [a] pos) fa := pw_and1 ha
theorem sw_or1 {a : Expr} {pos : Pos} {fa : Env → R PV} (ha : ST Γ W X a fa) : SW Γ W X (.BoolOp .Or [a] pos) fa := pw_or1 ha
theorem sw_and {a : Expr} {b : Expr} {rest : List Expr} {pos : Pos} {fa fb f : Env → R PV} (hf : ∀ ρ, f ρ = (fa ρ).bind fun x => match x with
      | .bl true => fb ρ
      | .bl false => .ok (.bl false)
      | _ => .bad) (ha : ST Γ W X a fa) (hb : SW Γ W X (.BoolOp .And (b :: rest) pos) fb) : SW Γ W X (.BoolOp .And (a :: b :: rest) pos) f := by
  refine PW.weak (pw_and ha hb) fun σ H Q ⟨B, ρ, G, ow, q⟩ => ?_
  rw [hf] at q
  refine ⟨B, ρ, G, ow, (PK_bind.mp q).imp (fun x k => ?_) fun _ z => z⟩
  split at k
  · exact ⟨true, rfl, fun G1 H1 e1 => iteT ⟨B, ρ, G1, ow.step e1, k.imp (fun x ⟨b, eb, k⟩ => ⟨b, eb, fun G' H' e => k G' H' (e1.trans e)⟩) fun _ z => Ke.step e1 z⟩⟩
  · obtain ⟨b, eb, k⟩ := k
    cases eb
    exact ⟨false, rfl, fun G1 H1 e1 => iteF (k G1 H1 e1)⟩
  · exact k.elim
theorem sw_or {a : Expr} {b : Expr} {rest : List Expr} {pos : Pos} {fa fb f : Env → R PV} (hf : ∀ ρ, f ρ = (fa ρ).bind fun x => match x with
      | .bl true => .ok (.bl true)
      | .bl false => fb ρ
      | _ => .bad) (ha : ST Γ W X a fa) (hb : SW Γ W X (.BoolOp .Or (b :: rest) pos) fb) : SW Γ W X (.BoolOp .Or (a :: b :: rest) pos) f := by
  refine PW.weak (pw_or ha hb) fun σ H Q ⟨B, ρ, G, ow, q⟩ => ?_
  rw [hf] at q
  refine ⟨B, ρ, G, ow, (PK_bind.mp q).imp (fun x k => ?_) fun _ z => z⟩
  split at k
  · obtain ⟨b, eb, k⟩ := k
    cases eb
    exact ⟨true, rfl, fun G1 H1 e1 => iteT (k G1 H1 e1)⟩
  · exact ⟨false, rfl, fun G1 H1 e1 => iteF ⟨B, ρ, G1, ow.step e1, k.imp (fun x ⟨b, eb, k⟩ => ⟨b, eb, fun G' H' e => k G' H' (e1.trans e)⟩) fun _ z => Ke.step e1 z⟩⟩
  · exact k.elim
theorem st_not {a : Expr} {pos : Pos} {fa : Env → R PV} (ha : ST Γ W X a fa) : ST Γ W X (.UnaryOp .Not a pos) (fun ρ => (fa ρ).bind pNot) := by
  refine PT.weak (pt_not ha) fun σ H Q ⟨B, ρ, G, ow, q⟩ => ⟨B, ρ, G, ow, (PK_bind.mp q).imp (fun x k => ?_) fun _ z => z⟩
  unfold pNot at k
  split at k
  · obtain ⟨b, eb, k⟩ := k
    cases eb
    exact ⟨_, rfl, k⟩
  · exact k.elim
theorem se_not {a : Expr} {pos : Pos} {fa : Env → R PV} (ha : SE Γ W X .esc a fa) : SE Γ W X .esc (.UnaryOp .Not a pos) (fun ρ => (fa ρ).bind pNot) := by
  refine PE.weak (pe_not ha) fun σ H Q ⟨B, ρ, G, ow, q⟩ => ⟨B, ρ, G, ow, (PK_bind.mp q).imp (fun x k v G1 H1 e1 r1 => ?_) fun _ z => z⟩
  unfold pNot at k
  split at k
  · exact ⟨_, bl_of r1, k _ G1 H1 e1 (show Rep X.K G1 _ _ from rep_bl')⟩
  · exact k.elim
theorem st_val {e : Expr} {f : Env → R PV} (he : SE Γ W X .esc e f) (hw : ∀ whole, isTrue e X.env whole = (do let v ← whole; standAt e.pos; holding [v] (truthy v))) : ST Γ W X e f := by
  refine PT.weak (pt_val he hw) fun σ H Q ⟨B, ρ, G, ow, q⟩ => ⟨B, ρ, G, ow, q.imp (fun x ⟨b, eb, k⟩ v G1 H1 e1 r1 => ?_) fun _ z => z⟩
  subst eb
  exact ⟨b, bl_of r1, k G1 H1 e1⟩
theorem se_ife {c a b : Expr} {pos : Pos} {fc fa fb f : Env → R PV} (hf : ∀ ρ, f ρ = (fc ρ).bind fun x => match x with
      | .bl true => fa ρ
      | .bl false => fb ρ
      | _ => .bad) (hc : ST Γ W X c fc) (ha : SE Γ W X .esc a fa) (hb : SE Γ W X .esc b fb) : SE Γ W X .esc (.IfExp c a b pos) f := by
  refine PE.weak (pe_ifExp hc ha hb) fun σ H Q ⟨B, ρ, G, ow, q⟩ => ?_
  rw [hf] at q
  refine ⟨B, ρ, G, ow, (PK_bind.mp q).imp (fun x k => ?_) fun _ z => z⟩
  split at k
  · exact ⟨true, rfl, fun G1 H1 e1 => iteT ⟨B, ρ, G1, ow.step e1, k.imp (fun x k v G' H' e r => k v G' H' (e1.trans e) r) fun _ z => Ke.step e1 z⟩⟩
  · exact ⟨false, rfl, fun G1 H1 e1 => iteF ⟨B, ρ, G1, ow.step e1, k.imp (fun x k v G' H' e r => k v G' H' (e1.trans e) r) fun _ z => Ke.step e1 z⟩⟩
  · exact k.elim

/-! ### arguments -/
theorem sa_nil : SA Γ W X [] (fun _ => .ok []) := PA.weak pa_nil fun σ H Q ⟨B, ρ, G, ow, q⟩ => q [] G H (Ext.refl ow.gh) rfl
theorem sa_cons {e : Expr} {es : List Expr} {fa : Env → R PV} {fb : Env → R (List PV)} (ge : good e = true) (ha : SE Γ W X .bor e fa) (hb : SA Γ W X es fb) : SA Γ W X (e :: es) (fun ρ => (fa ρ).bind fun x => (fb ρ).bind fun xs => .ok (x :: xs)) := by
  refine PA.weak (pa_cons ha hb (good_star ge es _)) fun σ H Q ⟨B, ρ, G, ow, q⟩ => ⟨B, ρ, G, ow, (PK_bind.mp q).imp (fun x k v G1 H1 e1 r1 => ?_) fun _ z => z⟩
  refine ⟨B, ρ, G1, ow.step e1, (PK_bind.mp k).imp (fun xs k vs G2 H2 e2 r2 => ?_) fun _ z => Ke.step e1 z⟩
  exact k (v :: vs) G2 H2 (e1.trans e2) ⟨v, vs, rfl, RepT.mono (e2.gg e1.gh) e2.hh r1, r2⟩
theorem sae_nil : SAE Γ W X [] (fun _ => .ok []) := PA.weak pa_nil fun σ H Q ⟨B, ρ, G, ow, q⟩ => q [] G H (Ext.refl ow.gh) (reps_nil.mpr rfl)
theorem sae_cons {e : Expr} {es : List Expr} {fa : Env → R PV} {fb : Env → R (List PV)} (ge : good e = true) (ha : SE Γ W X .esc e fa) (hb : SAE Γ W X es fb) : SAE Γ W X (e :: es) (fun ρ => (fa ρ).bind fun x => (fb ρ).bind fun xs => .ok (x :: xs)) := by
  refine PA.weak (pa_cons ha hb (good_star ge es _)) fun σ H Q ⟨B, ρ, G, ow, q⟩ => ⟨B, ρ, G, ow, (PK_bind.mp q).imp (fun x k v G1 H1 e1 r1 => ?_) fun _ z => z⟩
  refine ⟨B, ρ, G1, ow.step e1, (PK_bind.mp k).imp (fun xs k vs G2 H2 e2 r2 => ?_) fun _ z => Ke.step e1 z⟩
  exact k (v :: vs) G2 H2 (e1.trans e2) (reps_cons.mpr ⟨v, vs, rfl, Rep.mono (e2.gg e1.gh) r1, r2⟩)
end
end Pf

set_option Elab.async false
set_option linter.all false
set_option maxRecDepth 100000
set_option autoImplicit false
set_option maxHeartbeats 1000000
/-! Pf5: expressions, part two: displays, items, slices, built-ins, calls -/
namespace Pf
open PySem PySem.Spec L2
variable [Tbc] [Tlc]

section
variable {Γ : Gt} {N : List Str} {sc so : Scope} {W : WX} {X : Cx}
/-! ### displays -/
theorem se_tup {es : List Expr} {k : Nat} {pos : Pos} {fa : Env → R (List PV)} (hl : es.length ≤ LIM) (hn : ∀ ρ xs, fa ρ = .ok xs → xs.length = es.length) (ha : SAE Γ W X es fa) : SE Γ W X .esc (.Tuple es k pos) (fun ρ => (fa ρ).bind fun xs => .ok (.tup xs)) := by
  refine PE.weak (pe_tup ha) fun σ H Q ⟨B, ρ, G, ow, q⟩ => ⟨B, ρ, G, ow, ?_⟩
  have q := PK_bind.mp q
  cases e : fa ρ with
  | bad => rw [e] at q; exact q
  | exn c => rw [e] at q; exact q
  | ok xs =>
    rw [e] at q
    intro vs G1 H1 e1 r1
    refine ⟨?_, fun p hp => q _ _ _ (e1.trans (Ext.new e1.gh hp)) (show Rep X.K _ _ _ from rep_tup.mpr ⟨p, vs, rfl, .inl (.inl upd_same), r1.mono (same_upd (e1.gh.free hp))⟩)⟩
    rw [r1.length, hn ρ xs e]
    exact Nat.le_trans hl lim_line
theorem se_lst {es : List Expr} {pos : Pos} {fa : Env → R (List PV)} (hl : es.length ≤ LIM) (hn : ∀ ρ xs, fa ρ = .ok xs → xs.length = es.length) (ha : SAE Γ W X es fa) : SE Γ W X .fre (.List es pos) (fun ρ => (fa ρ).bind fun xs => .ok (.lst xs)) := by
  refine PE.weak (pe_lst ha) fun σ H Q ⟨B, ρ, G, ow, q⟩ => ⟨B, ρ, G, ow, ?_⟩
  have q := PK_bind.mp q
  cases e : fa ρ with
  | bad => rw [e] at q; exact q
  | exn c => rw [e] at q; exact q
  | ok xs =>
    rw [e] at q
    intro vs G1 H1 e1 r1
    refine ⟨?_, fun p hp => q _ _ _ (e1.trans (Ext.fresh e1.gh hp)) ⟨p, vs, rfl, e1.hh.free hp, e1.gh.free hp, upd_same, r1⟩⟩
    rw [r1.length, hn ρ xs e]
    exact Nat.le_trans hl lim_line

/-! ### items -/
theorem atI_rep {G : Hp} {xs : List PV} {vs : List V} {i : Int} {x : PV} (r : Reps X.K G xs vs) (h : atI xs i = some x) : ∃ v, atI vs i = some v ∧ Rep X.K G x v := by
  unfold atI at h ⊢
  rw [r.length]
  cases e : ixN xs.length i with
  | none => rw [e] at h; cases h
  | some j =>
    rw [e] at h
    exact r.get h
theorem ix_sound (x y : PV) (v u : V) (G H : Hp) (Q : VK) (s : Same G H) (rx : RepT X.K G H x v) (ry : RepT X.K G H y u)
    (h : PK (pIx x y) (fun z => ∀ w G' H', Ext G H G' H' → RepM .esc X.K H G' H' z w → Q w H') (fun _ => False)) : rIx X.K v u H Q := by
  unfold pIx at h
  split at h
  · unfold pAt at h
    split at h
    · rename_i e
      obtain ⟨a, vs, rfl, h1, r1⟩ := rx.lst
      obtain ⟨w, ew, rw'⟩ := atI_rep (X := X) r1 e
      exact .inl ⟨a, vs, _, w, rfl, ry.int, SqL.of h1, ew, h w G H (Ext.refl s) rw'⟩
    · exact h.elim
  · unfold pAt at h
    split at h
    · rename_i e
      obtain ⟨a, vs, rfl, h1, r1⟩ := rx.tup
      obtain ⟨w, ew, rw'⟩ := atI_rep (X := X) r1 e
      exact .inr (.inl ⟨a, vs, _, w, rfl, ry.int, same_seqT s h1, ew, h w G H (Ext.refl s) rw'⟩)
    · exact h.elim
  · unfold pAt at h
    split at h
    · rename_i e
      obtain ⟨a, vs, rfl, h1, r1⟩ := rx.rl
      obtain ⟨w, ew, rw'⟩ := atI_rep (X := X) r1 e
      exact .inl ⟨a, vs, _, w, rfl, ry.int, s.seq h1, ew, h w G H (Ext.refl s) rw'⟩
    · exact h.elim
  · split at h
    · rename_i hl
      split at h
      · rename_i e
        exact .inr (.inr ⟨_, _, _, rx.str, ry.int, Nat.le_trans hl lim_line, e, h _ G H (Ext.refl s) (show Rep X.K G _ _ from rep_str')⟩)
      · exact h.elim
    · exact h.elim
  · exact h.elim
theorem pIx_nx (x y : PV) (c : Nat) : pIx x y ≠ .exn c := by
  unfold pIx pAt
  split <;> (try split) <;> (try split) <;> intro h <;> cases h
theorem se_ix {a b : Expr} {pos : Pos} {fa fb : Env → R PV} (gb : good b = true) (ha : SE Γ W X .bor a fa) (hb : SE Γ W X .bor b fb) :
    SE Γ W X .esc (.Subscript a b pos) (fun ρ => (fa ρ).bind fun x => (fb ρ).bind fun y => pIx x y) :=
  PE.weak (pe_ix ix_seq ha hb (good_ix gb)) (two_rd (ix_sound (X := X)) (fun _ _ _ _ _ _ s h => repM_old s h) pIx_nx)

/-! ### slices -/
def rdO (Γ : Gt) (W : WX) (K : PySem.W.Frag) (f : Env → R (Option Int)) : TO := fun σ H Q => ∃ (B : Bd) (ρ : Env) (G : Hp), Ow K B ρ σ G H ∧
  PK (f ρ) (fun o => ∀ G' H', Ext G H G' H' → Q o H') (Ke Γ W σ G H)
def SO (Γ : Gt) (W : WX) (X : Cx) (e : Option Expr) (f : Env → R (Option Int)) : Prop := PO X e (rdO Γ W X.K f)
theorem PO.weak {e : Option Expr} {t t' : TO} (p : PO X e t) (w : ∀ σ H Q, t' σ H Q → t σ H Q) : PO X e t' := ⟨fun pins s σ H Q I h => p.run pins s σ H Q I (w σ H Q h)⟩
theorem so_none : SO Γ W X none (fun _ => (R.ok PV.non).bind (pPart true)) := PO.weak po_none fun σ H Q ⟨B, ρ, G, ow, q⟩ => q G H (Ext.refl ow.gh)
theorem so_some {e : Expr} {f : Env → R PV} (h : SE Γ W X .bor e f) : SO Γ W X (some e) (fun ρ => (f ρ).bind (pPart false)) := by
  refine PO.weak (po_some h) fun σ H Q ⟨B, ρ, G, ow, q⟩ => ⟨B, ρ, G, ow, (PK_bind.mp q).imp (fun x k v G1 H1 e1 r1 => ?_) fun _ z => z⟩
  cases x with
  | int i => exact ⟨i, int_of r1, k G1 H1 e1⟩
  | _ => exact k.elim
theorem cut_rep {G : Hp} {xs : List PV} {vs : List V} (r : Reps X.K G xs vs) (lo hi : Option Int) : Reps X.K G (pCut xs lo hi) (cutV vs lo hi) := by
  unfold pCut cutV
  rw [r.length]
  exact (r.drop _).take _
def rSlP (K : PySem.W.Frag) : V → Option Int → Option Int → Hp → VK → Prop := fun x lo hi H Q => rSlL K x lo hi H Q ∨ (rSlA K x lo hi H Q ∨ rSlS x lo hi H Q)
theorem sl_rule : SlR X (rSlP X.K) := sl_list.or (sl_tupA.or sl_str)
theorem sl_sound (x : PV) (lo hi : Option Int) (v : V) (G H : Hp) (Q : VK) (s : Same G H) (rx : RepT X.K G H x v)
    (h : PK (pSl x lo hi) (fun z => ∀ w G' H', Ext G H G' H' → RepM .fre X.K H G' H' z w → Q w H') (fun _ => False)) : rSlP X.K v lo hi H Q := by
  unfold pSl at h
  split at h
  · obtain ⟨a, vs, rfl, h1, r1⟩ := rx.lst
    exact .inl ⟨a, vs, rfl, SqL.of h1, fun p hp => fin_lst s hp (cut_rep r1 lo hi) h⟩
  · obtain ⟨a, vs, rfl, h1, r1⟩ := rx.rl
    exact .inl ⟨a, vs, rfl, s.seq h1, fun p hp => fin_lst s hp (cut_rep r1 lo hi) h⟩
  · obtain ⟨a, vs, rfl, h1, r1⟩ := rx.tup
    refine .inr (.inl ⟨a, vs, rfl, same_seqT s h1, fun hw => ?_, fun _ p hp => fin_tup s hp (cut_rep r1 lo hi) h⟩)
    have r2 := cut_rep (X := X) r1 lo hi
    have e2 : cutV vs lo hi = vs := by
      unfold cutV
      rw [hw.1, hw.2, List.drop_zero, Nat.sub_zero, List.take_length]
    rw [e2] at r2
    exact h _ G H (Ext.refl s) (show Rep X.K G _ _ from rep_tup.mpr ⟨a, vs, rfl, h1, r2⟩)
  · split at h
    · rename_i hl
      exact .inr (.inr ⟨_, rx.str, Nat.le_trans hl lim_line, h _ G H (Ext.refl s) (show Rep X.K G _ _ from rep_str')⟩)
    · exact h.elim
  · exact h.elim
theorem pSl_nx (x : PV) (lo hi : Option Int) (c : Nat) : pSl x lo hi ≠ .exn c := by
  unfold pSl
  split <;> (try split) <;> intro h <;> cases h
theorem se_sl {a : Expr} {lo hi : Option Expr} {pos p2 : Pos} {fa : Env → R PV} {fl fh : Env → R (Option Int)} (ha : SE Γ W X .bor a fa) (hl : SO Γ W X lo fl) (hh : SO Γ W X hi fh) :
    SE Γ W X .fre (.Subscript a (.Slice lo hi none p2) pos) (fun ρ => (fa ρ).bind fun x => (fl ρ).bind fun l => (fh ρ).bind fun h => pSl x l h) := by
  refine PE.weak (pe_slice sl_rule ha hl hh) fun σ H Q ⟨B, ρ, G, ow, q⟩ => ⟨B, ρ, G, ow, (PK_bind.mp q).imp (fun x k v G1 H1 e1 r1 => ?_) fun _ z => z⟩
  refine ⟨B, ρ, G1, ow.step e1, (PK_bind.mp k).imp (fun l k G2 H2 e2 => ?_) fun _ z => Ke.step e1 z⟩
  refine ⟨B, ρ, G2, (ow.step e1).step e2, (PK_bind.mp k).imp (fun h k G3 H3 e3 => ?_) fun _ z => Ke.step (e1.trans e2) z⟩
  refine sl_sound x l h v G3 H3 Q e3.gh (RepT.mono ((e2.trans e3).gg e1.gh) (e2.trans e3).hh r1) ?_
  cases e : pSl x l h with
  | ok z =>
    rw [e] at k
    exact fun w G' H' e4 rz => k w G' H' (((e1.trans e2).trans e3).trans e4) (repM_old (((e1.hh.trans e2.hh).trans e3.hh)) rz)
  | exn c => exact absurd e (pSl_nx x l h c)
  | bad => rw [e] at k; exact k

/-! ### built-ins -/
theorem ints_rep {G : Hp} : ∀ {xs : List PV} {ns : List Int}, intsOf xs = some ns → xs = ns.map PV.int
  | [], ns, h => by cases h; rfl
  | x :: xs, ns, h => by
    cases x <;> first | (simp only [intsOf, reduceCtorEq] at h; done) | skip
    rename_i i
    simp only [intsOf] at h
    cases e : intsOf xs with
    | none => rw [e] at h; cases h
    | some ms =>
      rw [e] at h
      cases h
      rw [ints_rep (G := G) e]
      rfl
theorem bls_rep {G : Hp} : ∀ {xs : List PV} {ns : List Bool}, blsOf xs = some ns → xs = ns.map PV.bl
  | [], ns, h => by cases h; rfl
  | x :: xs, ns, h => by
    cases x <;> first | (simp only [blsOf, reduceCtorEq] at h; done) | skip
    rename_i i
    simp only [blsOf] at h
    cases e : blsOf xs with
    | none => rw [e] at h; cases h
    | some ms =>
      rw [e] at h
      cases h
      rw [bls_rep (G := G) e]
      rfl
theorem maxOf_is : ∀ {ns : List Int} {m : Int}, m ∈ ns → (∀ y, y ∈ ns → y ≤ m) → m = maxOf ns
  | [], m, h, _ => by cases h
  | [a], m, h, _ => by simpa [maxOf] using h
  | a :: b :: r, m, h, hm => by
    have ih : ∀ {k : Int}, k ∈ (b :: r) → (∀ y, y ∈ (b :: r) → y ≤ k) → k = maxOf (b :: r) := fun h1 h2 => maxOf_is h1 h2
    simp only [maxOf]
    have ha : a ≤ m := hm a List.mem_cons_self
    have mx : ∃ k, k ∈ (b :: r) ∧ ∀ y, y ∈ (b :: r) → y ≤ k := by
      clear ih hm h ha
      induction r generalizing b with
      | nil => exact ⟨b, by simp, by simp⟩
      | cons c r ih =>
        obtain ⟨k, hk, hk2⟩ := ih c
        by_cases hb : b ≤ k
        · refine ⟨k, List.mem_cons_of_mem _ hk, fun y hy => ?_⟩
          rcases List.mem_cons.mp hy with e | e
          · rw [e]; exact hb
          · exact hk2 y e
        · refine ⟨b, List.mem_cons_self, fun y hy => ?_⟩
          rcases List.mem_cons.mp hy with e | e
          · rw [e]; exact Int.le_refl _
          · have := hk2 y e
            omega
    obtain ⟨k, hk, hk2⟩ := mx
    rw [← ih hk hk2]
    rcases List.mem_cons.mp h with e | e
    · subst e
      have := hm k (List.mem_cons_of_mem _ hk)
      omega
    · have h1 := hk2 m e
      have h2 := hm k (List.mem_cons_of_mem _ hk)
      have : m = k := by omega
      subst this
      omega
theorem minOf_is : ∀ {ns : List Int} {m : Int}, m ∈ ns → (∀ y, y ∈ ns → m ≤ y) → m = minOf ns
  | [], m, h, _ => by cases h
  | [a], m, h, _ => by simpa [minOf] using h
  | a :: b :: r, m, h, hm => by
    have ih : ∀ {k : Int}, k ∈ (b :: r) → (∀ y, y ∈ (b :: r) → k ≤ y) → k = minOf (b :: r) := fun h1 h2 => minOf_is h1 h2
    simp only [minOf]
    have ha : m ≤ a := hm a List.mem_cons_self
    have mx : ∃ k, k ∈ (b :: r) ∧ ∀ y, y ∈ (b :: r) → k ≤ y := by
      clear ih hm h ha
      induction r generalizing b with
      | nil => exact ⟨b, by simp, by simp⟩
      | cons c r ih =>
        obtain ⟨k, hk, hk2⟩ := ih c
        by_cases hb : k ≤ b
        · refine ⟨k, List.mem_cons_of_mem _ hk, fun y hy => ?_⟩
          rcases List.mem_cons.mp hy with e | e
          · rw [e]; exact hb
          · exact hk2 y e
        · refine ⟨b, List.mem_cons_self, fun y hy => ?_⟩
          rcases List.mem_cons.mp hy with e | e
          · rw [e]; exact Int.le_refl _
          · have := hk2 y e
            omega
    obtain ⟨k, hk, hk2⟩ := mx
    rw [← ih hk hk2]
    rcases List.mem_cons.mp h with e | e
    · subst e
      have := hm k (List.mem_cons_of_mem _ hk)
      omega
    · have h1 := hk2 m e
      have h2 := hm k (List.mem_cons_of_mem _ hk)
      have : m = k := by omega
      subst this
      omega
def biName : BI → Str
  | .len => "len" | .abs => "abs" | .max => "max" | .min => "min" | .sum => "sum" | .all => "all" | .any => "any" | .list => "list" | .tuple => "tuple" | .int => "int" | .str => "str" | .range1 => "range" | .range2 => "range"
def biVal : BI → Value
  | .len => .builtin "len" | .abs => .builtin "abs" | .max => .builtin "max" | .min => .builtin "min" | .sum => .builtin "sum" | .all => .builtin "all" | .any => .builtin "any"
  | .list => .type "list" | .tuple => .type "tuple" | .int => .type "int" | .str => .type "str" | .range1 => .type "range" | .range2 => .type "range"
def rBi (K : PySem.W.Frag) : BI → List V → Hp → VK → Prop
  | .len => fun xs H Q => (∃ p ys, xs = [.ref p] ∧ (SqL K H p ys ∨ SqT K H p ys) ∧ Q (.int ys.length) H) ∨ ∃ z, xs = [.str z] ∧ z.length ≤ sizeLine ∧ Q (.int z.length) H
  | .abs => fun xs H Q => ∃ i, xs = [.int i] ∧ Q (.int (if i < 0 then -i else i)) H
  | .max => fun xs H Q => (∃ i j, xs = [.int i, .int j] ∧ Q (.int (if j > i then j else i)) H) ∨ rMax K xs H Q
  | .min => fun xs H Q => (∃ i j, xs = [.int i, .int j] ∧ Q (.int (if j < i then j else i)) H) ∨ rMin K xs H Q
  | .sum => rSum K
  | .all => rAll K
  | .any => rAny K
  | .list => fun xs H Q => ∃ p ys, xs = [.ref p] ∧ (SqL K H p ys ∨ SqT K H p ys) ∧ ∀ l, H l = none → Q (.ref l) (upd H l (.lst ys))
  | .tuple => fun xs H Q => ∃ p ys, xs = [.ref p] ∧ ((SqL K H p ys ∧ ∀ l, H l = none → Q (.ref l) (upd H l (.tup ys))) ∨ (SqT K H p ys ∧ Q (.ref p) H))
  | .int => fun xs H Q => (∃ i, xs = [.int i] ∧ Q (.int i) H) ∨ ∃ k, xs = [.bl k] ∧ Q (.int (if k then 1 else 0)) H
  | .str => fun xs H Q => ∃ i, xs = [.int i] ∧ i.natAbs.log2 < 1920 ∧ Q (.str (toString i)) H
  | .range1 => fun _ _ _ => False
  | .range2 => fun _ _ _ => False
theorem bi_rule (hc : X.calm = true) : ∀ f : BI, f ≠ .range1 → f ≠ .range2 → CallR X (biVal f) (rBi X.K f)
  | .len, _, _ => call_len_seq.or call_len_str
  | .abs, _, _ => call_abs
  | .max, _, _ => (call_max2 hc).or (cr_max hc)
  | .min, _, _ => (call_min2 hc).or (cr_min hc)
  | .sum, _, _ => cr_sum hc
  | .all, _, _ => cr_all hc
  | .any, _, _ => cr_any hc
  | .list, _, _ => call_list_of
  | .tuple, _, _ => call_tuple_of
  | .int, _, _ => call_int1
  | .str, _, _ => call_str_int
  | .range1, h, _ => absurd rfl h
  | .range2, _, h => absurd rfl h
theorem one_of {G H : Hp} {x : PV} {vs : List V} (r : RepsT X.K G H [x] vs) : ∃ v, vs = [v] ∧ RepT X.K G H x v := by
  obtain ⟨v, q, e, h1, h2⟩ := r
  have : q = [] := h2
  subst this
  exact ⟨v, e, h1⟩
theorem two_of {G H : Hp} {x y : PV} {vs : List V} (r : RepsT X.K G H [x, y] vs) : ∃ v u, vs = [v, u] ∧ RepT X.K G H x v ∧ RepT X.K G H y u := by
  obtain ⟨v, q, e, h1, u, q', e', h2, h3⟩ := r
  have : q' = [] := h3
  subst this
  subst e'
  exact ⟨v, u, e, h1, h2⟩
theorem bi_sound (f : BI) (xs : List PV) (vs : List V) (G H : Hp) (Q : VK) (s : Same G H) (r : RepsT X.K G H xs vs)
    (h : PK (pBi f xs) (fun z => ∀ w G' H', Ext G H G' H' → RepM .fre X.K H G' H' z w → Q w H') (fun _ => False)) : rBi X.K f vs H Q := by
  unfold pBi at h
  split at h
  · obtain ⟨v, rfl, rx⟩ := one_of r
    obtain ⟨a, us, rfl, h1, r1⟩ := rx.lst
    refine .inl ⟨a, us, rfl, .inl (SqL.of h1), ?_⟩
    rw [r1.length]
    exact fin_int s h
  · obtain ⟨v, rfl, rx⟩ := one_of r
    obtain ⟨a, us, rfl, h1, r1⟩ := rx.tup
    refine .inl ⟨a, us, rfl, .inr (same_seqT s h1), ?_⟩
    rw [r1.length]
    exact fin_int s h
  · obtain ⟨v, rfl, rx⟩ := one_of r
    obtain ⟨a, us, rfl, h1, r1⟩ := rx.rl
    refine .inl ⟨a, us, rfl, .inl (s.seq h1), ?_⟩
    rw [r1.length]
    exact fin_int s h
  · obtain ⟨v, rfl, rx⟩ := one_of r
    split at h
    · rename_i hl
      exact .inr ⟨_, by rw [rx.str], Nat.le_trans hl lim_line, fin_int s h⟩
    · exact h.elim
  · obtain ⟨v, rfl, rx⟩ := one_of r
    exact ⟨_, by rw [rx.int], fin_int s h⟩
  · obtain ⟨v, u, rfl, rx, ry⟩ := two_of r
    exact .inl ⟨_, _, by rw [rx.int, ry.int], fin_int s h⟩
  · obtain ⟨v, u, rfl, rx, ry⟩ := two_of r
    exact .inl ⟨_, _, by rw [rx.int, ry.int], fin_int s h⟩
  · obtain ⟨v, rfl, rx⟩ := one_of r
    obtain ⟨a, us, rfl, h1, r1⟩ := rx.lst
    split at h
    · rename_i e
      rw [ints_rep (G := G) e, reps_ints] at r1
      subst r1
      exact .inr ⟨a, _, rfl, SqL.of h1, by simp, fun m hm hle => by rw [maxOf_is hm hle]; exact fin_int s h⟩
    · exact h.elim
  · obtain ⟨v, rfl, rx⟩ := one_of r
    obtain ⟨a, us, rfl, h1, r1⟩ := rx.lst
    split at h
    · rename_i e
      rw [ints_rep (G := G) e, reps_ints] at r1
      subst r1
      exact .inr ⟨a, _, rfl, SqL.of h1, by simp, fun m hm hle => by rw [minOf_is hm hle]; exact fin_int s h⟩
    · exact h.elim
  · obtain ⟨v, rfl, rx⟩ := one_of r
    obtain ⟨a, us, rfl, h1, r1⟩ := rx.lst
    split at h
    · rename_i e
      rw [ints_rep (G := G) e, reps_ints] at r1
      subst r1
      exact ⟨a, _, rfl, SqL.of h1, fin_int s h⟩
    · exact h.elim
  · obtain ⟨v, rfl, rx⟩ := one_of r
    obtain ⟨a, us, rfl, h1, r1⟩ := rx.lst
    split at h
    · rename_i e
      rw [bls_rep (G := G) e, reps_bls] at r1
      subst r1
      exact ⟨a, _, rfl, SqL.of h1, fin_bl' s h rfl⟩
    · exact h.elim
  · obtain ⟨v, rfl, rx⟩ := one_of r
    obtain ⟨a, us, rfl, h1, r1⟩ := rx.lst
    split at h
    · rename_i e
      rw [bls_rep (G := G) e, reps_bls] at r1
      subst r1
      exact ⟨a, _, rfl, SqL.of h1, fin_bl' s h rfl⟩
    · exact h.elim
  · obtain ⟨v, rfl, rx⟩ := one_of r
    obtain ⟨a, us, rfl, h1, r1⟩ := rx.lst
    exact ⟨a, us, rfl, .inl (SqL.of h1), fun p hp => fin_lst s hp r1 h⟩
  · obtain ⟨v, rfl, rx⟩ := one_of r
    obtain ⟨a, us, rfl, h1, r1⟩ := rx.tup
    exact ⟨a, us, rfl, .inr (same_seqT s h1), fun p hp => fin_lst s hp r1 h⟩
  · obtain ⟨v, rfl, rx⟩ := one_of r
    obtain ⟨a, us, rfl, h1, r1⟩ := rx.rl
    exact ⟨a, us, rfl, .inl (s.seq h1), fun p hp => fin_lst s hp r1 h⟩
  · obtain ⟨v, rfl, rx⟩ := one_of r
    obtain ⟨a, us, rfl, h1, r1⟩ := rx.lst
    exact ⟨a, us, rfl, .inl ⟨SqL.of h1, fun p hp => fin_tup s hp r1 h⟩⟩
  · obtain ⟨v, rfl, rx⟩ := one_of r
    obtain ⟨a, us, rfl, h1, r1⟩ := rx.tup
    exact ⟨a, us, rfl, .inr ⟨same_seqT s h1, h _ G H (Ext.refl s) (show Rep X.K G _ _ from rep_tup.mpr ⟨a, us, rfl, h1, r1⟩)⟩⟩
  · obtain ⟨v, rfl, rx⟩ := one_of r
    obtain ⟨a, us, rfl, h1, r1⟩ := rx.rl
    exact ⟨a, us, rfl, .inl ⟨s.seq h1, fun p hp => fin_tup s hp r1 h⟩⟩
  · obtain ⟨v, rfl, rx⟩ := one_of r
    exact .inl ⟨_, by rw [rx.int], fin_int s h⟩
  · obtain ⟨v, rfl, rx⟩ := one_of r
    exact .inr ⟨_, by rw [rx.bl], fin_int s h⟩
  · obtain ⟨v, rfl, rx⟩ := one_of r
    split at h
    · rename_i hl
      exact ⟨_, by rw [rx.int], hl, h _ G H (Ext.refl s) (show Rep X.K G _ _ from rep_str')⟩
    · exact h.elim
  · exact h.elim
theorem pBi_nx (f : BI) (xs : List PV) (c : Nat) : pBi f xs ≠ .exn c := by
  unfold pBi
  split <;> (try split) <;> intro h <;> cases h
theorem bi_boot (f : BI) : bootBuiltins (biName f) = some (biVal f) := by cases f <;> decide +kernel
theorem bi_names (f : BI) : biName f ≠ "__name__" ∧ (biName f == ("__debug__" : Str)) = false := by cases f <;> decide +kernel
theorem se_bi (o : XOk Γ N sc so W X) (hh : Γ.hot = false) {f : BI} {e : Expr} {es : List Expr} {p pos : Pos} {fa : Env → R (List PV)} (h1 : f ≠ .range1) (h2 : f ≠ .range2) (hb : biName f ∈ Γ.bl) (hg : glb sc (biName f) = true) (ge : (e :: es).all good = true) (ha : SA Γ W X (e :: es) fa) :
    SE Γ W X .fre (.Call (.Name (biName f) p) (e :: es) [] pos) (fun ρ => (fa ρ).bind fun xs => pBi f xs) := by
  have ge' := ge
  simp only [List.all_cons, Bool.and_eq_true] at ge'
  have mid : ∀ t, PE X (.Call (.Name (biName f) p) (e :: es) [] pos) (tCB (rBi X.K f) t) → t = rdA Γ W X.K fa → SE Γ W X .fre (.Call (.Name (biName f) p) (e :: es) [] pos) (fun ρ => (fa ρ).bind fun xs => pBi f xs) := fun t pe et => by
    subst et
    refine PE.weak pe fun σ H Q ⟨B, ρ, G, ow, q⟩ => ⟨B, ρ, G, ow, (PK_bind.mp q).imp (fun xs k vs G1 H1 e1 r1 => ?_) fun _ z => z⟩
    refine bi_sound f xs vs G1 H1 Q e1.gh r1 ?_
    cases e : pBi f xs with
    | ok z =>
      rw [e] at k
      exact fun w G' H' e2 rz => k w G' H' (e1.trans e2) (repM_old e1.hh rz)
    | exn c => exact absurd e (pBi_nx f xs c)
    | bad => rw [e] at k; exact k
  have hm := o.g.bl _ hb
  have nm := bi_names f
  have bt := bi_boot f
  have rl := bi_rule (X := X) (o.calm hh) f h1 h2
  cases f with
  | range1 => exact absurd rfl h1
  | range2 => exact absurd rfl h2
  | len => exact mid _ (pe_callB rl (o.gl hg) hm bt ha nm.1 nm.2 (good_star ge'.1 es _) (good_any ge'.2)) rfl
  | abs => exact mid _ (pe_callB rl (o.gl hg) hm bt ha nm.1 nm.2 (good_star ge'.1 es _) (good_any ge'.2)) rfl
  | max => exact mid _ (pe_callB rl (o.gl hg) hm bt ha nm.1 nm.2 (good_star ge'.1 es _) (good_any ge'.2)) rfl
  | min => exact mid _ (pe_callB rl (o.gl hg) hm bt ha nm.1 nm.2 (good_star ge'.1 es _) (good_any ge'.2)) rfl
  | sum => exact mid _ (pe_callB rl (o.gl hg) hm bt ha nm.1 nm.2 (good_star ge'.1 es _) (good_any ge'.2)) rfl
  | all => exact mid _ (pe_callB rl (o.gl hg) hm bt ha nm.1 nm.2 (good_star ge'.1 es _) (good_any ge'.2)) rfl
  | any => exact mid _ (pe_callB rl (o.gl hg) hm bt ha nm.1 nm.2 (good_star ge'.1 es _) (good_any ge'.2)) rfl
  | list => exact mid _ (pe_callTy rl (o.gl hg) hm bt ha nm.1 nm.2 (good_star ge'.1 es _) (good_any ge'.2)) rfl
  | tuple => exact mid _ (pe_callTy rl (o.gl hg) hm bt ha nm.1 nm.2 (good_star ge'.1 es _) (good_any ge'.2)) rfl
  | int => exact mid _ (pe_callTy rl (o.gl hg) hm bt ha nm.1 nm.2 (good_star ge'.1 es _) (good_any ge'.2)) rfl
  | str => exact mid _ (pe_callTy rl (o.gl hg) hm bt ha nm.1 nm.2 (good_star ge'.1 es _) (good_any ge'.2)) rfl

/-! ### isinstance -/
def tyStr : Ty → String
  | .int => "int" | .bool => "bool" | .str => "str" | .list => "list" | .tuple => "tuple" | .dict => "dict"
def tyName : Ty → Str
  | .int => "int" | .bool => "bool" | .str => "str" | .list => "list" | .tuple => "tuple" | .dict => "dict"
def kindStr : PV → String
  | .non => "NoneType" | .bl _ => "bool" | .int _ => "int" | .str _ => "str" | .lst _ => "list" | .tup _ => "tuple" | .rl _ => "list" | .dk _ _ => "dict" | .exc _ => "object"
theorem tyX_of {G H : Hp} {x : PV} {v : V} (s : Same G H) (r : RepT X.K G H x v) (h1 : ∀ z, x ≠ .rl z) (h2 : ∀ z, x ≠ .exc z) : TyX X.K H v (.type (kindStr x)) := by
  cases x with
  | non => rw [r.non]; exact .base .non
  | bl b => rw [r.bl]; exact .base (.bl b)
  | int i => rw [r.int]; exact .base (.int i)
  | str i => rw [r.str]; exact .base (.str i)
  | lst xs => obtain ⟨a, vs, rfl, h, _⟩ := r.lst; exact .base (.lst h)
  | tup xs =>
    obtain ⟨a, vs, rfl, h, _⟩ := r.tup
    rcases same_seqT s h with (h | ⟨ob, h⟩) | ⟨ob, its, n, hk, hc, _⟩
    · exact .base (.tup h)
    · exact .fTuple h
    · exact .kTuple hk hc
  | rl xs => exact absurd rfl (h1 xs)
  | dk ks xs =>
    have r' : Rep X.K G (.dk ks xs) v := r
    simp only [Rep] at r'
    obtain ⟨a, kvs, rfl, h, _⟩ := r'
    exact .base (.dK (s _ _ h))
  | exc c => exact absurd rfl (h2 c)
theorem isa_kit {x : PV} {t : Ty} {b : Bool} (h : pIsa t x = .ok (.bl b)) : kitB (kindStr x) (tyStr t) = some b := by
  cases t <;> cases x <;> first
    | (simp only [pIsa, reduceCtorEq] at h; done)
    | (simp only [pIsa, R.ok.injEq, PV.bl.injEq] at h; subst h; simp only [kindStr, tyStr]; decide +kernel)
theorem ty_boot (t : Ty) : bootBuiltins (tyName t) = some (.type (tyStr t)) := by cases t <;> decide +kernel
theorem ty_names (t : Ty) : tyName t ≠ "__name__" ∧ (tyName t == ("__debug__" : Str)) = false := by cases t <;> decide +kernel
theorem pIsa_is (t : Ty) (x : PV) : pIsa t x = .bad ∨ ∃ b, pIsa t x = .ok (.bl b) := by
  unfold pIsa
  split <;> first | exact .inl rfl | exact .inr ⟨_, rfl⟩
theorem se_isa (o : XOk Γ N sc so W X) {t : Ty} {e : Expr} {p p2 pos : Pos} {fa : Env → R PV} (hb : ("isinstance" : Str) ∈ Γ.bl) (hg : glb sc "isinstance" = true) (hb2 : tyName t ∈ Γ.bl) (hg2 : glb sc (tyName t) = true) (ge : good e = true) (ha : SE Γ W X .bor e fa) :
    SE Γ W X .esc (.Call (.Name "isinstance" p) [e, .Name (tyName t) p2] [] pos) (fun ρ => (fa ρ).bind fun x => pIsa t x) := by
  have pt : PE X (.Name (tyName t) p2) (tC (.ty (tyStr t))) := pe_bltn (o.gl hg2) (o.g.bl _ hb2) (ty_boot t) rfl (ty_names t).1 (ty_names t).2
  refine PE.weak (pe_callB call_isi (o.gl hg) (o.g.bl _ hb) (by decide +kernel) (pa_cons ha (pa_cons pt pa_nil) (good_star ge _ _)) (by decide) (by decide) (good_star ge _ _)) fun σ H Q ⟨B, ρ, G, ow, q⟩ => ⟨B, ρ, G, ow, (PK_bind.mp q).imp (fun x k v G1 H1 e1 r1 => ?_) fun _ z => z⟩
  rcases pIsa_is t x with e | ⟨b, e⟩
  · rw [e] at k
    exact k.elim
  · rw [e] at k
    refine ⟨v, .ty (tyStr t), .type (kindStr x), .type (tyStr t), b, rfl, .ty _, tyX_of e1.gh r1 (fun z ez => ?_) (fun z ez => ?_), kit_ty (isa_kit e), k _ G1 H1 e1 (show Rep X.K G1 _ _ from rep_bl')⟩
    · subst ez
      cases t <;> cases e
    · subst ez
      cases t <;> cases e

/-! ### calls of the module's defs -/
theorem flat_repM {m : Mode} {H0 G H : Hp} {x : PV} {v : V} (r : RepM m X.K H0 G H x v) (hf : flat x = true) : Rep X.K G x v := by
  cases x <;> first
    | (simp only [flat, Bool.false_eq_true] at hf; done)
    | (cases m <;> exact r)
theorem reps_full {G H : Hp} (s : Same G H) {xs : List PV} {vs : List V} (h : Reps X.K G xs vs) : Reps X.K H xs vs := h.mono s
theorem callee (o : XOk Γ N sc so W X) (hh : Γ.hot = false) {n : Fn} (hn : n ∈ Γ.fns) {es : List Expr} {e : Expr} {p pos : Pos} {t : TA} (ge : (e :: es).all good = true) (hg : glb sc n.name = true) (ha : PA X (e :: es) t) :
    PE X (.Call (.Name n.name p) (e :: es) [] pos) (tCallS (spP X.K Γ.cl n.ps.length n.sem n.fr) (WE W) t) := by
  simp only [List.all_cons, Bool.and_eq_true] at ge
  have F := o.g.fn n hn
  exact pe_callS F.ok (o.room hh) (o.gl hg) F.gm F.kp F.bd (fun σ => passAt (o.tk hh) σ) ha F.db (good_star ge.1 es _) (good_any ge.2)
/-- settled arguments -/
theorem se_call (o : XOk Γ N sc so W X) (hh : Γ.hot = false) {n : Fn} (hn : n ∈ Γ.fns) {es : List Expr} {e : Expr} {p pos : Pos} {fa : Env → R (List PV)} (ge : (e :: es).all good = true) (hg : glb sc n.name = true) (ha : SAE Γ W X (e :: es) fa) :
    SE Γ W X (if n.fr then .fre else .esc) (.Call (.Name n.name p) (e :: es) [] pos) (fun ρ => (fa ρ).bind fun xs => n.sem xs) := by
  refine PE.weak (callee o hh hn ge hg ha) fun σ H Q ⟨B, ρ, G, ow, q⟩ => ⟨B, ρ, G, ow, (PK_bind.mp q).imp (fun xs k vs G1 H1 e1 r1 => ?_) fun _ z => z⟩
  refine ⟨?_, G1, xs, e1.gh, e1.clean ow.cl, r1, k.imp (fun x k v G' H' e2 r2 => k v G' H' (e1.trans e2) (repM_old e1.hh r2)) fun c z G' H' e2 => z G' H' (e1.trans e2)⟩
  rw [r1.length]
  refine (o.g.fn n hn).len xs fun eb => ?_
  rw [eb] at k
  exact k
/-- no arguments -/
theorem pe_callS0 {CX : CXT} {k : Nat} {f : Addr} {fd : FuncData} {ps : List Str} {sp : Sp} {E : L2.St → XK} {x : Str} {p pos : Pos} (F : FnOk X.prog X.w X.K X.mg X.base CX k f fd ps sp) (hr : Room k X.A) (hg : Gl X x) (hm : X.mg x = some (.ref f)) (hk : PySem.W.keepIn X.K (.ref f) = true) (hb : Binds X.K fd ps [])
    (hx : ∀ σ, PassesAt CX X σ (E σ)) (hdb : (x == ("__debug__" : Str)) = false) : PE X (.Call (.Name x p) [] [] pos) (fun σ H Q => sp [] H Q (E σ)) := by
  refine ⟨fun pins s σ H Q I h => ?_⟩
  refine wpAny_Call_Name_kw (ld_glob I hg hm (PySem.W.callWith_K0 I.kIn hk ?_) hdb)
  exact run_fnS F hr hb (hx σ) I .nil h
theorem se_call0 (o : XOk Γ N sc so W X) (hh : Γ.hot = false) {n : Fn} (hn : n ∈ Γ.fns) {p pos : Pos} (hf : n.fr = false) (hg : glb sc n.name = true) :
    SE Γ W X .esc (.Call (.Name n.name p) [] [] pos) (fun _ => n.sem []) := by
  have F := o.g.fn n hn
  refine PE.weak (pe_callS0 F.ok (o.room hh) (o.gl hg) F.gm F.kp F.bd (fun σ => passAt (o.tk hh) σ) F.db) fun σ H Q ⟨B, ρ, G, ow, k⟩ => ?_
  refine ⟨?_, G, [], ow.gh, ow.cl, reps_nil.mpr rfl, ?_⟩
  · refine F.len [] fun eb => ?_
    have k : PK (n.sem []) _ _ := k
    rw [eb] at k
    exact k
  · have k : PK (n.sem []) _ _ := k
    refine k.imp (fun x k v G' H' e2 r2 => k v G' H' e2 ?_) fun c z G' H' e2 => z G' H' e2
    rw [hf] at r2
    exact repM_old (SameT.refl _) r2
/-! ### small dicts -/
theorem upd_two {H : Hp} {p : Addr} {a b : HO} : upd (upd H p a) p b = upd H p b := by
  funext q
  by_cases e : q = p
  · rw [e, upd_same, upd_same]
  · rw [upd_ne e, upd_ne e, upd_ne e]
theorem se_dic0 {pos : Pos} : SE Γ W X .esc (.Dict [] [] pos) (fun _ => .ok (.dk [] [])) :=
  PE.weak pe_dnewK fun σ H Q ⟨B, ρ, G, ow, q⟩ => fun p hp => q _ _ _ (Ext.new ow.gh hp) (show Rep X.K _ _ _ from by
    simp only [Rep]
    exact ⟨p, [], rfl, upd_same, rfl, reps_nil.mpr rfl⟩)
theorem se_dic1 {k v : Int} {j1 j2 : Nat} {p1 p2 pos : Pos} : SE Γ W X .esc (.Dict [some (.Constant (.int k) j1 p1)] [.Constant (.int v) j2 p2] pos) (fun _ => .ok (.dk [Sum.inl k] [.int v])) :=
  PE.weak (pe_disp (pps_cons pe_int pe_int pps_nil) rfl rfl (by simp) (by simp)) fun σ H Q ⟨B, ρ, G, ow, q⟩ => fun p hp => ⟨upd_same, [(Sum.inl k, .int v)], rfl, by simp, by
    rw [upd_two]
    refine q _ _ _ (Ext.new ow.gh hp) (show Rep X.K _ _ _ from ?_)
    simp only [Rep]
    exact ⟨p, _, rfl, upd_same, rfl, reps_cons.mpr ⟨_, _, rfl, rep_int.mpr rfl, reps_nil.mpr rfl⟩⟩⟩
/-- owned arguments, a flat answer -/
theorem se_callB (o : XOk Γ N sc so W X) (hh : Γ.hot = false) {n : Fn} (hn : n ∈ Γ.fns) {es : List Expr} {e : Expr} {p pos : Pos} {fa : Env → R (List PV)} (ge : (e :: es).all good = true) (hg : glb sc n.name = true) (ha : SA Γ W X (e :: es) fa) :
    SE Γ W X .esc (.Call (.Name n.name p) (e :: es) [] pos) (fun ρ => (fa ρ).bind fun xs => flatR (n.sem xs)) := by
  refine PE.weak (callee o hh hn ge hg ha) fun σ H Q ⟨B, ρ, G, ow, q⟩ => ⟨B, ρ, G, ow, (PK_bind.mp q).imp (fun xs k vs G1 H1 e1 r1 => ?_) fun _ z => z⟩
  have c1 := e1.clean ow.cl
  have sT := noT_in e1.gh c1.nt
  have r2 := RepsT.fullT sT r1
  have nb : n.sem xs ≠ .bad := fun eb => by
    rw [eb] at k
    exact k
  refine ⟨by rw [r2.length]; exact (o.g.fn n hn).len xs nb, noT H1, xs, noT_same H1, noT_clean c1, r2, ?_⟩
  have k : PK (flatR (n.sem xs)) _ _ := k
  cases e : n.sem xs with
  | bad => exact absurd e nb
  | exn c =>
    rw [e] at k
    exact fun G' H' e2 => k G1 H' (e1.trans ⟨e2.hh, (sT.trans (e2.gg (noT_same H1))).trans e2.gh, fun _ _ _ => rfl, fun _ _ h => h⟩)
  | ok x =>
    rw [e] at k
    unfold flatR at k
    simp only at k
    split at k
    · rename_i hf
      intro v G' H' e2 rv
      have rv' : Rep X.K G' x v := flat_repM rv hf
      exact k v G1 H' (e1.trans ⟨e2.hh, (sT.trans (e2.gg (noT_same H1))).trans e2.gh, fun _ _ _ => rfl, fun _ _ h => h⟩) (Rep.flat_any rv' hf)
    · exact k.elim
end
end Pf

set_option Elab.async false
set_option linter.all false
set_option maxRecDepth 100000
set_option autoImplicit false
set_option maxHeartbeats 1000000
/-! Pf6: targets, what is walked, comprehensions -/
namespace Pf
open PySem PySem.Spec L2
variable [Tbc] [Tlc]

/-! ### targets -/
def setS (σ : L2.St) : List Nat → List V → L2.St
  | i :: is, v :: vs => setS (σ.set i (some v)) is vs
  | _, _ => σ
theorem setS_length : ∀ (is : List Nat) (σ : L2.St) (vs : List V), (setS σ is vs).length = σ.length
  | [], σ, _ => rfl
  | i :: is, σ, [] => rfl
  | i :: is, σ, v :: vs => by
    unfold setS
    rw [setS_length is, List.length_set]
def mNames (N : List Str) (sc : Scope) : List Nat → List Expr → Bool
  | [], [] => true
  | i :: is, .Name x _ :: es => decide (N[i]? = some x) && loc sc x && mNames N sc is es
  | _, _ => false
def rdGs (tg : List Nat) : TGs := fun vs σ H Q => vs.length = tg.length ∧ Q (setS σ tg vs) H
section
variable {Γ : Gt} {N : List Str} {sc so : Scope} {W : WX} {X : Cx}
theorem PGs.weak {es : List Expr} {t t' : TGs} (p : PGs X es t) (w : ∀ vs σ H Q, t' vs σ H Q → t vs σ H Q) : PGs X es t' := ⟨fun pins s σ H vs us Q I r h => p.run pins s σ H vs us Q I r (w vs σ H Q h)⟩
theorem PG.weak {e : Expr} {t t' : TG} (p : PG X e t) (w : ∀ v σ H Q, t' v σ H Q → t v σ H Q) : PG X e t' := ⟨fun pins s σ H v u Q I r h => p.run pins s σ H v u Q I r (w v σ H Q h)⟩
theorem pgs_names (o : XOk Γ N sc so W X) : ∀ {tg : List Nat} {es : List Expr}, mNames N so tg es = true → PGs X es (rdGs tg)
  | [], [], _ => PGs.weak pgs_nil fun vs σ H Q ⟨hl, q⟩ => by
    cases vs with
    | nil => exact ⟨rfl, q⟩
    | cons _ _ => cases hl
  | i :: is, .Name x p :: es, h => by
    simp only [mNames, Bool.and_eq_true, decide_eq_true_eq] at h
    obtain ⟨l1, l2⟩ := o.loc h.1.2
    refine PGs.weak (pgs_cons (pg_name (by rw [o.hN]; exact o.nd) (o.Nx h.1.1) l1 l2) (pgs_names o h.2) rfl) fun vs σ H Q ⟨hl, q⟩ => ?_
    cases vs with
    | nil => cases hl
    | cons v vs => exact ⟨v, vs, rfl, Nat.succ.inj hl, q⟩
  | [], _ :: _, h => by simp [mNames] at h
  | _ :: _, [], h => by simp [mNames] at h
  | i :: is, e :: es, h => by
    cases e with
    | Name x p =>
      simp only [mNames, Bool.and_eq_true, decide_eq_true_eq] at h
      obtain ⟨l1, l2⟩ := o.loc h.1.2
      refine PGs.weak (pgs_cons (pg_name (by rw [o.hN]; exact o.nd) (o.Nx h.1.1) l1 l2) (pgs_names o h.2) rfl) fun vs σ H Q ⟨hl, q⟩ => ?_
      cases vs with
      | nil => cases hl
      | cons v vs => exact ⟨v, vs, rfl, Nat.succ.inj hl, q⟩
    | _ => simp [mNames] at h
theorem names_each {env : PySem.Env} : ∀ {tg : List Nat} {es : List Expr}, mNames N so tg es = true → (assignEach es env).length = tg.length ∧ (assignEach es env).findIdx? (·.1) = none
  | [], [], _ => ⟨rfl, rfl⟩
  | [], _ :: _, h => by simp [mNames] at h
  | _ :: _, [], h => by simp [mNames] at h
  | i :: is, e :: es, h => by
    cases e with
    | Name x p =>
      simp only [mNames, Bool.and_eq_true] at h
      obtain ⟨h1, h2⟩ := names_each (env := env) h.2
      refine ⟨?_, ?_⟩
      · show (assignEach es env).length + 1 = is.length + 1
        rw [h1]
      · show ((false, assign (.Name x p) env) :: assignEach es env).findIdx? (·.1) = none
        rw [List.findIdx?_cons, h2]
        rfl
    | _ => simp [mNames] at h
/-- a target: a name, or a tuple of names -/
def mTgt (N : List Str) (so : Scope) (tg : List Nat) (tp : Bool) (e : Expr) : Bool :=
  if tp then (match e with
    | .Tuple es _ _ => mNames N so tg es
    | _ => false) else mNames N so tg [e]
def rdG (K : PySem.W.Frag) (tg : List Nat) (tp : Bool) : TG := fun v σ H Q =>
  if tp then ∃ a vs, v = .ref a ∧ (SqT K H a vs ∨ SqL K H a vs) ∧ vs.length = tg.length ∧ Q (setS σ tg vs) H else tg.length = 1 ∧ Q (setS σ tg [v]) H
theorem pg_tgt (o : XOk Γ N sc so W X) (hh : Γ.hot = false) {tg : List Nat} {tp : Bool} {e : Expr} (h : mTgt N so tg tp e = true) : PG X e (rdG X.K tg tp) := by
  unfold mTgt at h
  cases tp with
  | true =>
    rw [if_pos rfl] at h
    split at h
    · rename_i es k p
      obtain ⟨n1, n2⟩ := names_each (env := X.env) h
      refine ⟨fun pins s σ H v u Q I r q => ?_⟩
      have q : ∃ a vs, v = .ref a ∧ (SqT X.K H a vs ∨ SqL X.K H a vs) ∧ vs.length = tg.length ∧ Q (setS σ tg vs) H := q
      obtain ⟨a, vs, ev, hs, hl, q⟩ := q
      rcases hs with hs | hs
      · exact (pg_tup (n := tg.length) (o.calm hh) (pgs_names o h) n1 n2).run pins s σ H v u Q I r ⟨a, vs, ev, hs, hl, hl, q⟩
      · exact (pg_lst (n := tg.length) (o.calm hh) (pgs_names o h) n1 n2).run pins s σ H v u Q I r ⟨a, vs, ev, hs, hl, hl, q⟩
    · cases h
  | false =>
    rw [if_neg Bool.false_ne_true] at h
    match tg, e, h with
    | [i], .Name x p, h =>
      simp only [mNames, Bool.and_eq_true, decide_eq_true_eq] at h
      obtain ⟨l1, l2⟩ := o.loc h.1.2
      exact PG.weak (pg_name (by rw [o.hN]; exact o.nd) (o.Nx h.1.1) l1 l2) fun v σ H Q q => (show [i].length = 1 ∧ Q (setS σ [i] [v]) H from q).2
    | [], e, h => simp [mNames] at h
    | i :: j :: r, e, h => cases e <;> simp [mNames] at h
    | [i], .BoolOp _ _ _, h => simp [mNames] at h
    | [i], .NamedExpr _ _ _, h => simp [mNames] at h
    | [i], .BinOp _ _ _ _, h => simp [mNames] at h
    | [i], .UnaryOp _ _ _, h => simp [mNames] at h
    | [i], .Lambda _ _ _ _, h => simp [mNames] at h
    | [i], .IfExp _ _ _ _, h => simp [mNames] at h
    | [i], .Dict _ _ _, h => simp [mNames] at h
    | [i], .Set _ _ _, h => simp [mNames] at h
    | [i], .ListComp _ _ _ _, h => simp [mNames] at h
    | [i], .SetComp _ _ _ _, h => simp [mNames] at h
    | [i], .DictComp _ _ _ _ _, h => simp [mNames] at h
    | [i], .GeneratorExp _ _ _ _, h => simp [mNames] at h
    | [i], .Await _ _, h => simp [mNames] at h
    | [i], .Yield _ _, h => simp [mNames] at h
    | [i], .YieldFrom _ _, h => simp [mNames] at h
    | [i], .Compare _ _ _ _, h => simp [mNames] at h
    | [i], .Call _ _ _ _, h => simp [mNames] at h
    | [i], .FormattedValue _ _ _ _, h => simp [mNames] at h
    | [i], .JoinedStr _ _, h => simp [mNames] at h
    | [i], .Constant _ _ _, h => simp [mNames] at h
    | [i], .Attribute _ _ _, h => simp [mNames] at h
    | [i], .Subscript _ _ _, h => simp [mNames] at h
    | [i], .Starred _ _, h => simp [mNames] at h
    | [i], .List _ _, h => simp [mNames] at h
    | [i], .Tuple _ _ _, h => simp [mNames] at h
    | [i], .Slice _ _ _ _, h => simp [mNames] at h
theorem ow_setAll {K : PySem.W.Frag} {B : Bd} {G H : Hp} : ∀ {tg : List Nat} {xs : List PV} {vs : List V} {ρ ρ' : Env} {σ : L2.St}, Ow K B ρ σ G H → Reps K G xs vs → setAll ρ tg xs = some ρ' → vs.length = tg.length ∧ Ow K B ρ' (setS σ tg vs) G H
  | [], [], vs, ρ, ρ', σ, o, r, h => by
    cases h
    have e := reps_nil.mp r
    subst e
    exact ⟨rfl, o⟩
  | i :: is, x :: xs, vs, ρ, ρ', σ, o, r, h => by
    obtain ⟨v, us, rfl, h1, h2⟩ := reps_cons.mp r
    unfold setAll at h
    split at h
    · rename_i hi
      obtain ⟨l, o'⟩ := ow_setAll (o.setSh hi h1) h2 h
      exact ⟨by simp [l], o'⟩
    · cases h
  | [], _ :: _, _, _, _, _, _, _, h => by simp [setAll] at h
  | _ :: _, [], _, _, _, _, _, _, h => by simp [setAll] at h
theorem ow_asgT {K : PySem.W.Frag} {B : Bd} {G H : Hp} {tg : List Nat} {tp : Bool} {x : PV} {v : V} {ρ ρ' : Env} {σ : L2.St} {Q : L2.St → Hp → Prop} (o : Ow K B ρ σ G H) (r : Rep K G x v) (h : asgT tg tp x ρ = some ρ')
    (q : ∀ vs, Ow K B ρ' (setS σ tg vs) G H → Q (setS σ tg vs) H) : rdG K tg tp v σ H Q := by
  unfold asgT at h
  unfold rdG
  cases tp with
  | true =>
    rw [if_pos rfl] at h
    rw [if_pos rfl]
    split at h
    · obtain ⟨a, us, rfl, h1, r1⟩ := rep_tup.mp r
      obtain ⟨l, o'⟩ := ow_setAll o r1 h
      exact ⟨a, us, rfl, .inl (same_seqT o.gh h1), l, q us o'⟩
    · obtain ⟨a, us, rfl, h1, r1⟩ := rep_lst.mp r
      obtain ⟨l, o'⟩ := ow_setAll o r1 h
      exact ⟨a, us, rfl, .inr (SqL.of (o.gh _ _ h1)), l, q us o'⟩
    · cases h
  | false =>
    rw [if_neg Bool.false_ne_true] at h
    rw [if_neg Bool.false_ne_true]
    obtain ⟨l, o'⟩ := ow_setAll (vs := [v]) o (reps_cons.mpr ⟨v, [], rfl, r, reps_nil.mpr rfl⟩) h
    exact ⟨l.symm, q [v] o'⟩

/-! ### what is walked -/
structure Items (K : PySem.W.Frag) (J : It) (xs : List PV) (C : Hp → Hp → Prop) : Prop where
  goes : ∀ i G H, i < xs.length → C G H → J.go i H
  stops : ∀ G H, C G H → J.stop xs.length H
  yields : ∀ i G H v H', i < xs.length → Same G H → C G H → J.yld i H v H' → ∃ G' x, Ext G H G' H' ∧ xs[i]? = some x ∧ Rep K G' x v
/-- while what is settled stays; while all that is tracked stays -/
def CI (m : Mode) (G0 H0 : Hp) : Hp → Hp → Prop := fun G H => Same G0 G ∧ Same G H ∧ match m with
  | .bor => SameT H0 H
  | _ => True
def rdI (Γ : Gt) (W : WX) (K : PySem.W.Frag) (m : Mode) (f : Env → R (List PV)) : TI := fun σ H R' => ∃ (B : Bd) (ρ : Env) (G : Hp), Ow K B ρ σ G H ∧
  PK (f ρ) (fun xs => ∀ J G' H', Ext G H G' H' → Items K J xs (CI m G' H') → R' J H') (Ke Γ W σ G H)
def SI (Γ : Gt) (W : WX) (X : Cx) (m : Mode) (tg it : Expr) (f : Env → R (List PV)) : Prop := PI X tg it (rdI Γ W X.K m f)
theorem PI.weak {tg it : Expr} {t t' : TI} (p : PI X tg it t) (w : ∀ σ H R', t' σ H R' → t σ H R') : PI X tg it t' := ⟨fun pins s σ H R' I h => p.run pins s σ H R' I (w σ H R' h)⟩
theorem items_of {K : PySem.W.Frag} {J : It} {n : Nat} {Gc : Hp → Prop} {Y : Nat → Hp → V → Hp → Prop} {xs : List PV} {C : Hp → Hp → Prop} (w : Walk J n Gc Y) (hn : xs.length = n) (hc : ∀ G H, C G H → Gc H)
    (hy : ∀ i G H v H', i < n → Same G H → C G H → Y i H v H' → ∃ G' x, Ext G H G' H' ∧ xs[i]? = some x ∧ Rep K G' x v) : Items K J xs C := by
  subst hn
  exact ⟨fun i G H hi c => w.goes i H hi (hc G H c), fun G H c => w.stops H (hc G H c), fun i G H v H' hi s c y => hy i G H v H' hi s c (w.yields i H v H' hi (hc G H c) y)⟩
/-- a seq by its mode: the list or tuple stays readable -/
theorem seq_stay {m : Mode} {K : PySem.W.Frag} {H0 G H G1 H1 : Hp} {xs : List PV} {v : V} (hm : m = .esc ∨ m = .bor) (r : RepM m K H0 G H (.lst xs) v) (c : CI m G H G1 H1) : ∃ a vs, v = .ref a ∧ H1 a = some (.lst vs) ∧ Reps K G1 xs vs := by
  rcases hm with rfl | rfl
  · obtain ⟨a, vs, e, g, r⟩ := rep_lst.mp (show Rep K G _ _ from r)
    exact ⟨a, vs, e, c.2.1 _ _ (c.1 _ _ g), r.mono c.1⟩
  · obtain ⟨a, vs, e, g, r⟩ := r
    exact ⟨a, vs, e, SameT.lst c.2.2 g, r.mono c.1⟩
theorem tup_of {m : Mode} {K : PySem.W.Frag} {H0 G H : Hp} {xs : List PV} {v : V} (r : RepM m K H0 G H (.tup xs) v) : ∃ a vs, v = .ref a ∧ SqT K G a vs ∧ Reps K G xs vs := by
  cases m <;> exact rep_tup.mp (show Rep K G _ _ from r)
theorem rl_of {m : Mode} {K : PySem.W.Frag} {H0 G H : Hp} {xs : List PV} {v : V} (r : RepM m K H0 G H (.rl xs) v) : ∃ a vs, v = .ref a ∧ SqL K G a vs ∧ Reps K G xs vs := by
  cases m <;> exact rep_rl.mp (show Rep K G _ _ from r)
theorem lst_of {m : Mode} {K : PySem.W.Frag} {H0 G H : Hp} {xs : List PV} {v : V} (s : Same G H) (r : RepM m K H0 G H (.lst xs) v) : ∃ a vs, v = .ref a ∧ H a = some (.lst vs) ∧ Reps K G xs vs := by
  cases m with
  | esc =>
    obtain ⟨a, vs, e, g, r⟩ := rep_lst.mp (show Rep K G _ _ from r)
    exact ⟨a, vs, e, s _ _ g, r⟩
  | bor => exact r
  | fre =>
    obtain ⟨a, vs, e, _, _, g, r⟩ := r
    exact ⟨a, vs, e, g, r⟩
theorem CI.refl {m : Mode} {G H : Hp} (s : Same G H) : CI m G H G H := by
  refine ⟨Same.refl _, s, ?_⟩
  cases m <;> first | trivial | exact SameT.refl _
theorem items_list {m : Mode} {H0 G H : Hp} {xs : List PV} {v : V} (hm : m = .esc ∨ m = .bor) (s : Same G H) (r : RepM m X.K H0 G H (.lst xs) v) : ∃ a vs, v = .ref a ∧ SqL X.K H a vs ∧ Items X.K (Itl X.K a) xs (CI m G H) := by
  obtain ⟨a, vs, rfl, h, _⟩ := lst_of s r
  have hl : ∀ G1 H1, CI m G H G1 H1 → ∃ us, H1 a = some (.lst us) ∧ Reps X.K G1 xs us := fun G1 H1 c => by
    obtain ⟨b, us, e, h', r'⟩ := seq_stay hm r c
    cases e
    exact ⟨us, h', r'⟩
  refine ⟨a, vs, rfl, SqL.of h, ⟨fun i G1 H1 hi c => ?_, fun G1 H1 c => ?_, fun i G1 H1 w H2 hi sg c y => ?_⟩⟩
  · obtain ⟨us, h', r'⟩ := hl G1 H1 c
    obtain ⟨u, hu, _⟩ := r'.get (List.getElem?_eq_getElem hi)
    exact ⟨us, u, SqL.of h', hu⟩
  · obtain ⟨us, h', r'⟩ := hl G1 H1 c
    exact ⟨us, SqL.of h', by rw [r'.length]; exact Nat.le_refl _⟩
  · obtain ⟨us, h', r'⟩ := hl G1 H1 c
    obtain ⟨e, y⟩ := y
    subst e
    obtain ⟨x, hx, rx⟩ := r'.get' (y us (SqL.of h'))
    exact ⟨G1, x, Ext.refl sg, hx, rx⟩
theorem items_rl {m : Mode} {G H : Hp} {xs : List PV} {a : Addr} {vs : List V} (h : SqL X.K G a vs) (r : Reps X.K G xs vs) : Items X.K (Itl X.K a) xs (CI m G H) :=
  items_of walk_list r.length.symm (fun G1 H1 c => c.2.1.seq (c.1.seq h)) fun i G1 H1 w H2 hi sg c y => by
    obtain ⟨e, y⟩ := y
    subst e
    obtain ⟨x, hx, rx⟩ := r.get' y
    exact ⟨G1, x, Ext.refl sg, hx, rx.mono c.1⟩
theorem items_tup {m : Mode} {G H : Hp} {xs : List PV} {a : Addr} {vs : List V} (h : SqT X.K G a vs) (r : Reps X.K G xs vs) : Items X.K (Itt X.K a) xs (CI m G H) :=
  items_of walk_tup r.length.symm (fun G1 H1 c => same_seqT c.2.1 (same_seqT c.1 h)) fun i G1 H1 w H2 hi sg c y => by
    obtain ⟨e, y⟩ := y
    subst e
    obtain ⟨x, hx, rx⟩ := r.get' y
    exact ⟨G1, x, Ext.refl sg, hx, rx.mono c.1⟩
theorem items_str {m : Mode} {G H : Hp} {z : Str} : Items X.K (Its z) (z.cps.toList.map fun c => PV.str ⟨#[c]⟩) (CI m G H) :=
  items_of walk_str (by simp) (fun _ _ _ => trivial) fun i G1 H1 w H2 hi sg c y => by
    obtain ⟨e, n, hn, rfl⟩ := y
    subst e
    refine ⟨G1, .str ⟨#[n]⟩, Ext.refl sg, ?_, rep_str'⟩
    rw [List.getElem?_map, Array.getElem?_toList, hn]
    rfl
theorem rng_get {lo : Int} {n i : Nat} (h : i < n) : (rngL lo n)[i]? = some (.int (lo + (i : Nat))) := by
  unfold rngL
  rw [List.getElem?_map, List.getElem?_range h]
  rfl
theorem items_rng {m : Mode} {G H : Hp} {lo : Int} {n : Nat} : Items X.K (Itr lo n) (rngL lo n) (CI m G H) :=
  items_of walk_range (by simp [rngL]) (fun _ _ _ => trivial) fun i G1 H1 w H2 hi sg c y => by
    obtain ⟨e, e2⟩ := y
    subst e
    exact ⟨G1, _, Ext.refl sg, rng_get hi, by rw [e2]; exact rep_int'⟩
theorem items_down {m : Mode} {G H : Hp} {lo : Int} {n : Nat} : Items X.K (Itc lo (-1) n) ((List.range n).map fun k => PV.int (lo - (k : Nat))) (CI m G H) :=
  items_of walk_rangeC (by simp) (fun _ _ _ => trivial) fun i G1 H1 w H2 hi sg c y => by
    obtain ⟨e, e2⟩ := y
    subst e
    refine ⟨G1, .int (lo - (i : Nat)), Ext.refl sg, ?_, ?_⟩
    · rw [List.getElem?_map, List.getElem?_range hi]
      rfl
    · rw [e2]
      exact rep_int.mpr (congrArg V.int (show lo + (i : Nat) * (-1) = lo - (i : Nat) by omega))
theorem pair_new {G H : Hp} {T : Addr} {x y : PV} {u v : V} (s : Same G H) (hT : H T = none) (rx : Rep X.K G x u) (ry : Rep X.K G y v) :
    ∃ G', Ext G H G' (upd H T (.tup [u, v])) ∧ Rep X.K G' (.tup [x, y]) (.ref T) :=
  ⟨_, Ext.new s hT, rep_tup.mpr ⟨T, [u, v], rfl, .inl (.inl upd_same), (reps_cons.mpr ⟨u, [v], rfl, rx, reps_cons.mpr ⟨v, [], rfl, ry, reps_nil.mpr rfl⟩⟩).mono (same_upd (s.free hT))⟩⟩
theorem enum_get {xs : List PV} {i : Nat} {x : PV} (h : xs[i]? = some x) : (pEnum xs)[i]? = some (.tup [.int (i : Nat), x]) := by
  unfold pEnum
  rw [List.getElem?_mapIdx, h]
  rfl
theorem items_enumL {m : Mode} {H0 G H : Hp} {xs : List PV} {v : V} (hm : m = .esc ∨ m = .bor) (s : Same G H) (r : RepM m X.K H0 G H (.lst xs) v) : ∃ a vs, v = .ref a ∧ SqL X.K H a vs ∧ Items X.K (Ite X.K a) (pEnum xs) (CI m G H) := by
  obtain ⟨a, vs, rfl, h, _⟩ := lst_of s r
  have hl : ∀ G1 H1, CI m G H G1 H1 → ∃ us, H1 a = some (.lst us) ∧ Reps X.K G1 xs us := fun G1 H1 c => by
    obtain ⟨b, us, e, h', r'⟩ := seq_stay hm r c
    cases e
    exact ⟨us, h', r'⟩
  have le : (pEnum xs).length = xs.length := by simp [pEnum]
  refine ⟨a, vs, rfl, SqL.of h, ⟨fun i G1 H1 hi c => ?_, fun G1 H1 c => ?_, fun i G1 H1 w H2 hi sg c y => ?_⟩⟩
  · rw [le] at hi
    obtain ⟨us, h', r'⟩ := hl G1 H1 c
    obtain ⟨u, hu, _⟩ := r'.get (List.getElem?_eq_getElem hi)
    exact ⟨us, u, SqL.of h', hu⟩
  · obtain ⟨us, h', r'⟩ := hl G1 H1 c
    rw [le]
    exact ⟨us, SqL.of h', by rw [r'.length]; exact Nat.le_refl _⟩
  · obtain ⟨us, h', r'⟩ := hl G1 H1 c
    obtain ⟨T, u, rfl, hT, rfl, y⟩ := y
    obtain ⟨x, hx, rx⟩ := r'.get' (y us (SqL.of h'))
    obtain ⟨G2, e2, r2⟩ := pair_new (X := X) sg hT (rep_int' (i := (i : Nat))) rx
    exact ⟨G2, _, e2, enum_get hx, r2⟩
theorem zip_get {xs ys : List PV} {i : Nat} {x y : PV} (h : xs[i]? = some x) (h' : ys[i]? = some y) : (pZip xs ys)[i]? = some (.tup [x, y]) := by
  unfold pZip
  rw [List.getElem?_zipWith, h, h']
end
end Pf

set_option Elab.async false
set_option linter.all false
set_option maxRecDepth 100000
set_option autoImplicit false
set_option maxHeartbeats 2000000
/-! PfE: enumerate over a tuple -/
namespace PfE
open PySem
open PySem.Sem (wp)
theorem drawsT {prog : Program} {w : World} {A : Around} (hh : A.handled = none) (it l : Addr) (hne : l ≠ it) (items : Array Value) :
    Draws prog w A it [it, l] items.size (fun i v => items[i]? = some v) (fun i h => h.IsTupleIter it l i ∧ h.IsTuple l items) where
  live := fun _ _ st => let ⟨o, ho, _⟩ := st.1
    ⟨o, ho⟩
  frame := fun _ _ _ st hk => ⟨st.1.at fun o e => hk it (by simp) o e, let ⟨o, ho, r⟩ := st.2
    ⟨o, hk l (by simp) o ho, r⟩⟩
  item := fun i s Q E hi st hQ => RZ.nextOf_tuple_item st.1 st.2 (x := items[i]) (by simp [hi]) fun h' hit' hs' => hQ _ h' s.toks (by simp [hi]) ⟨hit', st.2.extBut hs'.extBut hne⟩ hs'
  done := fun s Q E st hE => RZ.nextOf_tuple_end hh st.1 st.2 (by simp) hE
abbrev tupIt (l : Addr) : Obj := { cls := .type "tuple_iterator", data := .fields #[.ref l, .int 0 0] }
abbrev enObj (it : Addr) : Obj := { cls := .type "enumerate", data := .fields #[.none, .bool false, .ref it, rawInt 0, .none, .none] }
theorem meets_newT (l : Addr) (items : Array Value) (n : Nat) (dct : Option Addr) (sl : Array (Option Value)) :
    Meets (Builtin.«enumerate.__new__» ⟨[.type "enumerate", .ref l], []⟩) (fun _ R s => s.heap.get? l = some { cls := .type "tuple", dict := dct, data := .seq items n, slots := sl } ∧
      R (.ok (.ret (.ref (s.heap.push (tupIt l)).objs.size))) { s with heap := (s.heap.push (tupIt l)).push (enObj s.heap.objs.size) }) :=
  .of_wp fun prog w A R s h => by
    obtain ⟨hp, g, d, tk, os⟩ := s
    obtain ⟨hl, h⟩ := h
    have hsub := sub_enumerate
    have hL : Heap.IsTuple (Shared.heap ⟨hp, g, d, tk, os⟩) l items := ⟨_, hl, rfl, n, rfl⟩
    wp_walk using AutoSeq1.wpAny_loadPart' hl
    refine wpAny_stack_any fun st => wpAny_pure ?_
    split
    · rename_i c _ _ _ _ _
      cases (c == Value.type "enumerate") <;>
        (wp_walk using AutoSeq1.wpAny_loadPart' hl, wpAny_pyIter_tuple hL
         exact ⟨_, rfl, h⟩)
    · wp_walk using AutoSeq1.wpAny_loadPart' hl, wpAny_pyIter_tuple hL
      exact ⟨_, rfl, h⟩
section
variable {prog : Program} {w : World} {A : Around} {E : Value → Shared → Prop} {s : Shared}
theorem call_enumT {l : Addr} {items : Array Value} {Q : Value → Shared → Prop} (hL : s.heap.IsTuple l items)
    (h : ∀ h', IsEnum h' (s.heap.objs.size + 1) s.heap.objs.size 0 .none → h'.IsTupleIter s.heap.objs.size l 0 → h'.objs.size = s.heap.objs.size + 2 →
      (∀ b o, s.heap.get? b = some o → h'.get? b = some o) → Q (.ref (s.heap.objs.size + 1)) { s with heap := h' }) : wpAny (model prog w) A (call (.type "enumerate") [.ref l]) Q E s := by
  obtain ⟨⟨c, dct, dt, sl⟩, hl, hc, n, hd⟩ := hL
  have hc' : c = .type "tuple" := hc
  have hd' : dt = .seq items n := hd
  subst hc' hd'
  refine callType_new F.called_enumerate (by decide) (F.typeCall_enumerate_1 _) (F.newCall_enumerate_1 _) (fun obj => F.args_object_init_2 obj _) F.entry_enumerate_new (meets_newT l items n dct sl) ⟨hl, ?_⟩
  have hz : (s.heap.push (tupIt l)).objs.size = s.heap.objs.size + 1 := Heap.size_push ..
  have he : IsEnum ((s.heap.push (tupIt l)).push (enObj s.heap.objs.size)) (s.heap.objs.size + 1) s.heap.objs.size 0 .none := by
    have q := Heap.get?_push_size (s.heap.push (tupIt l)) (o := enObj s.heap.objs.size) rfl
    rw [hz] at q
    exact q
  show _ ∧ _
  rw [hz]
  exact ⟨⟨_, he, rfl⟩, h _ he ⟨_, Heap.get?_push_of_some _ (Heap.get?_push_size _ rfl), rfl, rfl⟩ (by rw [Heap.size_push, hz]) fun b o x => Heap.get?_push_of_some _ (Heap.get?_push_of_some _ x)⟩
end
end PfE
namespace Pf
open PySem PySem.Spec L2
/-- a new pair of the place and the item of the tuple at a, at each turn -/
def IteT (K : PySem.W.Frag) (a : Addr) : It :=
  ⟨fun i H => ∃ (xs : List V) (x : V), SqT K H a xs ∧ xs[i]? = some x, fun i H v H' => ∃ T x, v = .ref T ∧ H T = none ∧ H' = upd H T (.tup [.int (i : Nat), x]) ∧ ∀ xs, SqT K H a xs → xs[i]? = some x,
    fun i H => ∃ xs : List V, SqT K H a xs ∧ xs.length = i⟩
theorem two_mem {b e it : Addr} (h : b ∈ [e, it]) : b = e ∨ b = it := by simpa using h
theorem turn_enumT {P : Program} {w : World} {K : PySem.W.Frag} {elts : List Expr} {kk : Nat} {tpos : Pos} (a e it : Addr) :
    Turn P w K (.Tuple elts kk tpos) (IteT K a) [e, it] e (fun i h => (∃ old, IsEnum h e it ((i : Nat) : Int) old) ∧ h.IsTupleIter it a i ∧ e ≠ it) where
  mem := List.mem_cons_self
  obj := fun i h st b hb => by
    obtain ⟨⟨old, he⟩, ⟨o, ho, hc, hd⟩, _⟩ := st
    rcases two_mem hb with rfl | rfl
    · exact ⟨_, he, fun v q => nomatch q⟩
    · exact ⟨o, ho, fun v q => by rw [hd] at q; cases q⟩
  keep := fun i h h' st k => by
    obtain ⟨⟨old, he⟩, hi, hne⟩ := st
    exact ⟨⟨old, k e List.mem_cons_self _ he⟩, hi.at fun o q => k it (by simp) o q, hne⟩
  item := by
    intro X hP hw hK hc i pins s σ H E I hf st hg
    subst hP hw hK
    obtain ⟨⟨old, he⟩, hit, hne⟩ := st
    obtain ⟨xs, x, hq, hx⟩ := hg
    obtain ⟨its, rv, p, hz⟩ := I.tuple hq
    obtain ⟨u, hu, ru⟩ := rv.get hx
    have hel : e < s.heap.objs.size := Heap.lt_size he
    have hil : it < s.heap.objs.size := by
      obtain ⟨_, q, _⟩ := hit
      exact Heap.lt_size q
    have pt : s.heap.IsTuple a its.toArray := p
    have nai : a ≠ it := fun z => by
      obtain ⟨o1, q1, c1, _⟩ := pt
      obtain ⟨o2, q2, c2, _⟩ := hit
      rw [z, q2] at q1
      cases q1
      rw [c1] at c2
      exact absurd c2 (by decide)
    have nae : e ≠ a := fun z => by
      obtain ⟨o1, q1, c1, _⟩ := pt
      have he' : s.heap.get? e = some _ := he
      rw [z, q1] at he'
      cases he'
      exact absurd (show Value.type "enumerate" = Value.type "tuple" from c1) (by decide)
    have hi : i < its.toArray.size := by
      have := (List.getElem?_eq_some_iff.mp hu).1
      simpa using this
    refine wpAny_pyNext_enum_itemD (PfE.drawsT (A := X.A.in1) (show X.A.in1.handled = none from I.ok.hd hc) it a nai its.toArray) he ⟨hit, pt⟩ hi hne (by simp [hne, nae]) fun y h' tk hy ho hst hT hsz hk => ?_
    have ey : y = u := by
      have q : its[i]? = some y := by simpa using hy
      rw [hu] at q
      exact (Option.some.inj q).symm
    subst ey
    refine ⟨_, rfl, wpAny_letOwnedTupleGo_enum (s := { s with heap := h', toks := tk + 1 }) ho fun h'' he' sb => ?_⟩
    have hT2 : h''.get? s.heap.objs.size = some { cls := .type "tuple", data := .seq #[.int i tk, y] } := (sb.2 _ (Nat.ne_of_gt hel)).trans hT
    have new : ObjOk X.prog X.w (upd H s.heap.objs.size (.tup [.int (i : Nat), x])) h'' s.heap.objs.size (.tup [.int (i : Nat), x]) :=
      ⟨(by decide : 2 ≤ sizeLine), [.int i tk, y], .cons ⟨_, rfl⟩ (.cons ru .nil), ⟨_, hT2, rfl, _, rfl⟩⟩
    have I1 : Inv X pins σ (upd H s.heap.objs.size (.tup [.int (i : Nat), x])) { s with heap := h'', toks := tk + 1 } :=
      I.turnedNew (t' := tk + 1) (ch := [e, it]) (fun b ob hb q => (sb.2 b (fun z => hb (by rw [z]; exact List.mem_cons_self))).trans (hk b ob (fun z => hb (by rw [z]; exact List.mem_cons_self)) (fun z => hb (by rw [z]; simp)) q)) hf (Nat.le_refl _) new
    refine ⟨.ref s.heap.objs.size, _, I1, rfl, ⟨_, x, rfl, I.hok.fresh (Nat.le_refl _), rfl, fun ys hy => by rw [I.tuple_inj hy hq]; exact hx⟩, ⟨⟨y, ?_⟩, hst.1.at fun o q => (sb.2 it (Ne.symm hne)).trans q, hne⟩, fun b hb => ?_⟩
    · have e1 : ((i + 1 : Nat) : Int) = (i : Int) + 1 := by omega
      rw [e1]
      exact he'
    · have hb' : b < s.heap.objs.size := by
        rcases two_mem hb with z | z
        · rw [z]; exact hel
        · rw [z]; exact hil
      rw [upd_ne (Nat.ne_of_lt hb')]
      exact (hf b hb).1
  done := by
    intro X hP hw hK hc i pins s σ H E I hf st hg
    subst hP hw hK
    obtain ⟨⟨old, he⟩, hit, hne⟩ := st
    obtain ⟨xs, hq, hx⟩ := hg
    obtain ⟨its, rv, p, hz⟩ := I.tuple hq
    obtain ⟨f0, f1, f2, f3, f4, f5⟩ := hf it (by simp)
    have hl := rv.length
    have pt : s.heap.IsTuple a its.toArray := p
    have nai : a ≠ it := fun z => by
      obtain ⟨o1, q1, c1, _⟩ := pt
      obtain ⟨o2, q2, c2, _⟩ := hit
      rw [z, q2] at q1
      cases q1
      rw [c1] at c2
      exact absurd c2 (by decide)
    have en : i = its.toArray.size := by
      rw [List.size_toArray]
      omega
    subst en
    exact wpAny_pyNext_enum_endD (PfE.drawsT (A := X.A.in1) (show X.A.in1.handled = none from I.ok.hd hc) it a nai its.toArray) he ⟨hit, pt⟩ fun h' eb => ⟨rfl, I.turned (t' := s.toks) (fun b o hb q => eb b o hb q) f0 f1 f3 f4 f5⟩
  self := fun A i s Q E st h => by
    obtain ⟨⟨_, he⟩, _⟩ := st
    exact wpAny_pyIter_enum he h
def iEnumA (K : PySem.W.Frag) (ta : TA) : TI := fun σ H R => ta σ H fun vs H1 => ∃ a xs, vs = [.ref a] ∧ ((SqL K H1 a xs ∧ R (Ite K a) H1) ∨ (SqT K H1 a xs ∧ R (IteT K a) H1))
theorem pi_enumA {X : Cx} {e : Expr} {ta : TA} {p pos tpos : Pos} {elts : List Expr} {kk : Nat} (hg : Gl X "enumerate") (hm : X.mg "enumerate" = none) (ha : PA X [e] ta) (hs : starEach [e] X.env = [(false, eval e X.env)]) :
    PI X (.Tuple elts kk tpos) (.Call (.Name "enumerate" p) [e] [] pos) (iEnumA X.K ta) := by
  refine ⟨fun pins s σ H R I h => ?_⟩
  refine PyProof.Rows.Call_ (ld_blt I hg hm PyProof.Rows.boot_enumerate (PyProof.Rows.callWith_type1 (thn (ha.run pos pins s σ H _ I h) fun us s1 ⟨vs, H1, I1, r1, q1⟩ => ?_) hs rfl))
  obtain ⟨a, xs, ex, q⟩ := q1
  subst ex
  have fr : ∀ b, b ∈ [s1.heap.objs.size + 1, s1.heap.objs.size] → FpOk X pins H1 b := fun b hb => by
    have hle : s1.heap.objs.size ≤ b := by
      rcases two_mem hb with z | z
      · rw [z]; exact Nat.le_add_right _ _
      · rw [z]; exact Nat.le_refl _
    exact I1.fpOk hle (I1.hok.fresh hle)
  cases r1 with
  | cons r rr =>
    cases rr
    cases r
    rcases q with ⟨hq, q⟩ | ⟨hq, q⟩
    · obtain ⟨its, rv, p', hz⟩ := I1.list hq
      refine call_enumerate_list p'.isList fun h' he hit hsz hk => wpAny_pyIter_enum he ?_
      exact ⟨s1.heap.objs.size + 1, [s1.heap.objs.size + 1, s1.heap.objs.size], _, _, H1, rfl, I1.kept (t' := s1.toks) hk, turn_enum a (s1.heap.objs.size + 1) s1.heap.objs.size, ⟨⟨.none, he⟩, hit, Nat.succ_ne_self _⟩, fr, q⟩
    · obtain ⟨its, rv, p', hz⟩ := I1.tuple hq
      refine PfE.call_enumT (show s1.heap.IsTuple a its.toArray from p') fun h' he hit hsz hk => wpAny_pyIter_enum he ?_
      exact ⟨s1.heap.objs.size + 1, [s1.heap.objs.size + 1, s1.heap.objs.size], _, _, H1, rfl, I1.kept (t' := s1.toks) hk, turn_enumT a (s1.heap.objs.size + 1) s1.heap.objs.size, ⟨⟨.none, he⟩, hit, Nat.succ_ne_self _⟩, fr, q⟩
end Pf

set_option Elab.async false
set_option linter.all false
set_option maxRecDepth 100000
set_option autoImplicit false
set_option maxHeartbeats 1000000
/-! Pf7: walks by their expressions; comprehensions -/
namespace Pf
open PySem PySem.Spec L2
variable [Tbc] [Tlc]
section
variable {Γ : Gt} {N : List Str} {sc so : Scope} {W : WX} {X : Cx}
theorem si_seq {m : Mode} {tg e : Expr} {f : Env → R PV} (hm : m = .esc ∨ m = .bor) (he : SE Γ W X m e f) : SI Γ W X m tg e (fun ρ => (f ρ).bind pSeq) := by
  refine ⟨fun pins s σ H R' I ⟨B, ρ, G, ow, q⟩ => ?_⟩
  have q := PK_bind.mp q
  have go : ∀ {wi : TE → TI}, PI X tg e (wi (rdE Γ W X.K m f)) → wi (rdE Γ W X.K m f) σ H R' → wpAny (model X.prog X.w) X.A (eval e X.env) (fun v s1 => wpAny (model X.prog X.w) X.A (pyIter v) (PIE X pins σ tg R') X.xe s1) X.xe s := fun p w => p.run pins s σ H R' I w
  cases ef : f ρ with
  | bad => rw [ef] at q; exact q.elim
  | exn c =>
    rw [ef] at q
    exact go (pi_list he) ⟨B, ρ, G, ow, by rw [ef]; exact q⟩
  | ok x =>
    rw [ef] at q
    have q : PK (pSeq x) _ _ := q
    cases x with
    | lst xs =>
      refine go (pi_list he) ⟨B, ρ, G, ow, ?_⟩
      rw [ef]
      intro v G1 H1 e1 r1
      obtain ⟨a, vs, ev, h, it⟩ := items_list hm e1.gh r1
      exact ⟨a, ev, ⟨vs, h⟩, q _ G1 H1 e1 it⟩
    | tup xs =>
      refine go (pi_tup he) ⟨B, ρ, G, ow, ?_⟩
      rw [ef]
      intro v G1 H1 e1 r1
      obtain ⟨a, vs, ev, h, r⟩ := tup_of r1
      exact ⟨a, ev, ⟨vs, same_seqT e1.gh h⟩, q _ G1 H1 e1 (items_tup h r)⟩
    | rl xs =>
      refine go (pi_list he) ⟨B, ρ, G, ow, ?_⟩
      rw [ef]
      intro v G1 H1 e1 r1
      obtain ⟨a, vs, ev, h, r⟩ := rl_of r1
      exact ⟨a, ev, ⟨vs, e1.gh.seq h⟩, q _ G1 H1 e1 (items_rl h r)⟩
    | str z =>
      refine go (pi_str he) ⟨B, ρ, G, ow, ?_⟩
      rw [ef]
      intro v G1 H1 e1 r1
      exact ⟨z, str_of r1, q _ G1 H1 e1 items_str⟩
    | _ => exact q.elim
theorem items_enumT {m : Mode} {G H : Hp} {xs : List PV} {a : Addr} {vs : List V} (h : SqT X.K G a vs) (r : Reps X.K G xs vs) : Items X.K (IteT X.K a) (pEnum xs) (CI m G H) := by
  have le : (pEnum xs).length = xs.length := by simp [pEnum]
  refine ⟨fun i G1 H1 hi c => ?_, fun G1 H1 c => ?_, fun i G1 H1 w H2 hi sg c y => ?_⟩
  · rw [le] at hi
    obtain ⟨u, hu, _⟩ := r.get (List.getElem?_eq_getElem hi)
    exact ⟨vs, u, same_seqT c.2.1 (same_seqT c.1 h), hu⟩
  · exact ⟨vs, same_seqT c.2.1 (same_seqT c.1 h), by rw [le]; exact r.length⟩
  · obtain ⟨T, u, rfl, hT, rfl, y⟩ := y
    obtain ⟨x, hx, rx⟩ := r.get' (y vs (same_seqT c.2.1 (same_seqT c.1 h)))
    obtain ⟨G2, e2, r2⟩ := pair_new (X := X) sg hT (rep_int' (i := (i : Nat))) (rx.mono c.1)
    exact ⟨G2, _, e2, enum_get hx, r2⟩
def pEnumR (x : PV) : R (List PV) := match x with
  | .str _ => .bad
  | _ => (pSeq x).bind fun xs => .ok (pEnum xs)
theorem si_enum (o : XOk Γ N sc so W X) {m : Mode} {e : Expr} {p pos tpos : Pos} {elts : List Expr} {kk : Nat} {f : Env → R PV} (hm : m = .esc ∨ m = .bor) (hb : ("enumerate" : Str) ∈ Γ.bl) (hg : glb sc "enumerate" = true) (ge : good e = true) (he : SE Γ W X m e f) :
    SI Γ W X m (.Tuple elts kk tpos) (.Call (.Name "enumerate" p) [e] [] pos) (fun ρ => (f ρ).bind pEnumR) := by
  refine PI.weak (pi_enumA (o.gl hg) (o.g.bl _ hb) (pa_cons he pa_nil (good_star ge _ _)) (good_star ge _ _)) fun σ H R' ⟨B, ρ, G, ow, q⟩ => ?_
  have q := PK_bind.mp q
  refine ⟨B, ρ, G, ow, q.imp (fun x k v G1 H1 e1 r1 => ?_) fun _ z => z⟩
  cases x with
  | lst xs =>
    obtain ⟨a, vs, rfl, h, it⟩ := items_enumL hm e1.gh r1
    exact ⟨a, vs, rfl, .inl ⟨h, k _ G1 H1 e1 it⟩⟩
  | tup xs =>
    obtain ⟨a, vs, rfl, h, r⟩ := tup_of r1
    exact ⟨a, vs, rfl, .inr ⟨same_seqT e1.gh h, k _ G1 H1 e1 (items_enumT h r)⟩⟩
  | rl xs =>
    obtain ⟨a, vs, rfl, h, r⟩ := rl_of r1
    refine ⟨a, vs, rfl, .inl ⟨e1.gh.seq h, k _ G1 H1 e1 ?_⟩⟩
    have le : (pEnum xs).length = xs.length := by simp [pEnum]
    refine ⟨fun i G2 H2 hi c => ?_, fun G2 H2 c => ?_, fun i G2 H2 w H3 hi sg c y => ?_⟩
    · rw [le] at hi
      obtain ⟨u, hu, _⟩ := r.get (List.getElem?_eq_getElem hi)
      exact ⟨vs, u, c.2.1.seq (c.1.seq h), hu⟩
    · exact ⟨vs, c.2.1.seq (c.1.seq h), by rw [le, r.length]; exact Nat.le_refl _⟩
    · obtain ⟨T, u, rfl, hT, rfl, y⟩ := y
      obtain ⟨x, hx, rx⟩ := r.get' (y vs (c.2.1.seq (c.1.seq h)))
      obtain ⟨G3, e2, r2⟩ := pair_new (X := X) sg hT (rep_int' (i := (i : Nat))) (rx.mono c.1)
      exact ⟨G3, _, e2, enum_get hx, r2⟩
  | str z => exact k.elim
  | _ => exact k.elim
def pZipR (x y : PV) : R (List PV) := match x, y with
  | .lst xs, .lst ys => .ok (pZip xs ys)
  | .tup xs, .tup ys => .ok (pZip xs ys)
  | _, _ => .bad
theorem zip_len {xs ys : List PV} : (pZip xs ys).length = min xs.length ys.length := by simp [pZip]
theorem si_zip (o : XOk Γ N sc so W X) {m : Mode} {e e2 : Expr} {p pos tpos : Pos} {elts : List Expr} {kk : Nat} {f f2 : Env → R PV} (hm : m = .esc ∨ m = .bor) (hb : ("zip" : Str) ∈ Γ.bl) (hg : glb sc "zip" = true) (ge : good e = true) (ge2 : good e2 = true) (he : SE Γ W X m e f) (he2 : SE Γ W X m e2 f2) :
    SI Γ W X m (.Tuple elts kk tpos) (.Call (.Name "zip" p) [e, e2] [] pos) (fun ρ => (f ρ).bind fun x => (f2 ρ).bind fun y => pZipR x y) := by
  refine PI.weak (RZ.pi_zipA (o.gl hg) (o.g.bl _ hb) (pa_cons he (pa_cons he2 pa_nil (good_star ge2 _ _)) (good_star ge _ _)) (good_star ge _ _) (good_any (by simp [ge2]))) fun σ H R' ⟨B, ρ, G, ow, q⟩ => ?_
  have q := PK_bind.mp q
  refine ⟨B, ρ, G, ow, q.imp (fun x k v G1 H1 e1 r1 => ?_) fun _ z => z⟩
  refine ⟨B, ρ, G1, ow.step e1, (PK_bind.mp k).imp (fun y k u G2 H2 e2 r2 => ?_) fun _ z => Ke.step e1 z⟩
  have rm : RepM m X.K H G2 H2 x v := by
    rcases hm with rfl | rfl
    · exact Rep.mono (e2.gg e1.gh) r1
    · exact RepT.mono (e2.gg e1.gh) e2.hh r1
  cases x with
  | lst xs =>
    cases y with
    | lst ys =>
      obtain ⟨a, vs, rfl, h1, _⟩ := lst_of e2.gh rm
      obtain ⟨b, us, rfl, h2, _⟩ := lst_of e2.gh r2
      refine ⟨a, b, vs, us, rfl, .inl ⟨SqL.of h1, SqL.of h2, k _ G2 H2 (e1.trans e2) ?_⟩⟩
      have st : ∀ G3 H3, CI m G2 H2 G3 H3 → ∃ vs us, H3 a = some (.lst vs) ∧ Reps X.K G3 xs vs ∧ H3 b = some (.lst us) ∧ Reps X.K G3 ys us := fun G3 H3 c => by
        obtain ⟨a', vs', ea, ha, ra⟩ := seq_stay hm rm c
        obtain ⟨b', us', eb, hb', rb⟩ := seq_stay hm r2 c
        cases ea
        cases eb
        exact ⟨vs', us', ha, ra, hb', rb⟩
      refine ⟨fun i G3 H3 hi c => ?_, fun G3 H3 c => ?_, fun i G3 H3 w H4 hi sg c y => ?_⟩
      · rw [zip_len] at hi
        obtain ⟨vs', us', ha, ra, hb', rb⟩ := st G3 H3 c
        obtain ⟨v1, q1, _⟩ := ra.get (List.getElem?_eq_getElem (show i < xs.length by omega))
        obtain ⟨v2, q2, _⟩ := rb.get (List.getElem?_eq_getElem (show i < ys.length by omega))
        exact ⟨vs', us', v1, v2, SqL.of ha, SqL.of hb', q1, q2⟩
      · obtain ⟨vs', us', ha, ra, hb', rb⟩ := st G3 H3 c
        rw [zip_len]
        refine ⟨vs', us', SqL.of ha, SqL.of hb', ?_⟩
        rw [ra.length, rb.length]
        omega
      · obtain ⟨vs', us', ha, ra, hb', rb⟩ := st G3 H3 c
        obtain ⟨T, x1, x2, rfl, hT, rfl, y1, y2⟩ := y
        obtain ⟨p1, hp1, rp1⟩ := ra.get' (y1 _ (SqL.of ha))
        obtain ⟨p2, hp2, rp2⟩ := rb.get' (y2 _ (SqL.of hb'))
        obtain ⟨G5, e5, r5⟩ := pair_new (X := X) sg hT rp1 rp2
        exact ⟨G5, _, e5, zip_get hp1 hp2, r5⟩
    | _ => exact k.elim
  | tup xs =>
    cases y with
    | tup ys =>
      obtain ⟨a, vs, rfl, h1, ra⟩ := tup_of rm
      obtain ⟨b, us, rfl, h2, rb⟩ := tup_of r2
      refine ⟨a, b, vs, us, rfl, .inr ⟨same_seqT e2.gh h1, same_seqT e2.gh h2, k _ G2 H2 (e1.trans e2) ?_⟩⟩
      have s1 : ∀ G3 H3, CI m G2 H2 G3 H3 → SqT X.K H3 a vs := fun G3 H3 c => same_seqT c.2.1 (same_seqT c.1 h1)
      have s2 : ∀ G3 H3, CI m G2 H2 G3 H3 → SqT X.K H3 b us := fun G3 H3 c => same_seqT c.2.1 (same_seqT c.1 h2)
      refine ⟨fun i G3 H3 hi c => ?_, fun G3 H3 c => ?_, fun i G3 H3 w H4 hi sg c y => ?_⟩
      · rw [zip_len] at hi
        obtain ⟨v1, q1, _⟩ := ra.get (List.getElem?_eq_getElem (show i < xs.length by omega))
        obtain ⟨v2, q2, _⟩ := rb.get (List.getElem?_eq_getElem (show i < ys.length by omega))
        exact ⟨vs, us, v1, v2, s1 G3 H3 c, s2 G3 H3 c, q1, q2⟩
      · rw [zip_len]
        refine ⟨vs, us, s1 G3 H3 c, s2 G3 H3 c, ?_⟩
        rw [ra.length, rb.length]
        omega
      · obtain ⟨T, x1, x2, rfl, hT, rfl, y1, y2⟩ := y
        obtain ⟨p1, hp1, rp1⟩ := ra.get' (y1 _ (s1 G3 H3 c))
        obtain ⟨p2, hp2, rp2⟩ := rb.get' (y2 _ (s2 G3 H3 c))
        obtain ⟨G5, e5, r5⟩ := pair_new (X := X) sg hT (rp1.mono c.1) (rp2.mono c.1)
        exact ⟨G5, _, e5, zip_get hp1 hp2, r5⟩
    | _ => exact k.elim
  | _ =>
    cases y <;> exact k.elim
def pRevR (x : PV) : R (List PV) := match x with
  | .lst xs => .ok xs.reverse
  | .tup xs => .ok xs.reverse
  | _ => .bad
theorem rev_at {α : Type} {l : List α} {i : Nat} (hi : i < l.length) : l.reverse[i]? = l[l.length - 1 - i]? := by
  rw [List.getElem?_reverse hi]
theorem si_rev (o : XOk Γ N sc so W X) {m : Mode} {tg e : Expr} {p pos : Pos} {f : Env → R PV} (hm : m = .esc ∨ m = .bor) (hb : ("reversed" : Str) ∈ Γ.bl) (hg : glb sc "reversed" = true) (ge : good e = true) (he : SE Γ W X m e f) :
    SI Γ W X m tg (.Call (.Name "reversed" p) [e] [] pos) (fun ρ => (f ρ).bind pRevR) := by
  refine PI.weak (RT.pi_revA (o.gl hg) (o.g.bl _ hb) he (good_star ge _ _)) fun σ H R' ⟨B, ρ, G, ow, q⟩ => ?_
  have q := PK_bind.mp q
  refine ⟨B, ρ, G, ow, q.imp (fun x k v G1 H1 e1 r1 => ?_) fun _ z => z⟩
  unfold pRevR at k
  split at k
  · rename_i xs
    obtain ⟨a, vs, rfl, h, rv⟩ := lst_of e1.gh r1
    have st : ∀ G3 H3, CI m G1 H1 G3 H3 → ∃ us, H3 a = some (.lst us) ∧ Reps X.K G3 xs us := fun G3 H3 c => by
      obtain ⟨a', vs', ea, ha, ra⟩ := seq_stay hm r1 c
      cases ea
      exact ⟨vs', ha, ra⟩
    refine ⟨a, vs, rfl, .inl ⟨SqL.of h, k _ G1 H1 e1 ?_⟩⟩
    rw [rv.length]
    refine ⟨fun i G3 H3 hi c => ?_, fun G3 H3 c => ?_, fun i G3 H3 w H4 hi sg c y => ?_⟩
    · rw [List.length_reverse] at hi
      obtain ⟨us, ha, ra⟩ := st G3 H3 c
      have hl := ra.length
      exact ⟨hi, us, us[us.length - 1 - i]'(by omega), SqL.of ha, by rw [← hl]; exact List.getElem?_eq_getElem _⟩
    · rw [List.length_reverse]
      exact Nat.le_refl _
    · rw [List.length_reverse] at hi
      obtain ⟨us, ha, ra⟩ := st G3 H3 c
      obtain ⟨e, y⟩ := y
      subst e
      obtain ⟨x, hx, rx⟩ := ra.get' (y us (SqL.of ha))
      exact ⟨G3, x, Ext.refl sg, by rw [rev_at hi]; exact hx, rx⟩
  · rename_i xs
    obtain ⟨a, vs, rfl, h, rv⟩ := tup_of r1
    have s1 : ∀ (G3 H3 : Hp), CI m G1 H1 G3 H3 → SqT X.K H3 a vs := fun G3 H3 c => same_seqT c.2.1 (same_seqT c.1 h)
    refine ⟨a, vs, rfl, .inr ⟨same_seqT e1.gh h, k _ G1 H1 e1 ?_⟩⟩
    have hl := rv.length
    rw [rv.length]
    refine ⟨fun i G3 H3 hi c => ?_, fun G3 H3 c => ?_, fun i G3 H3 w H4 hi sg c y => ?_⟩
    · rw [List.length_reverse] at hi
      exact ⟨hi, vs, vs[vs.length - 1 - i]'(by omega), s1 G3 H3 c, by rw [← hl]; exact List.getElem?_eq_getElem _⟩
    · rw [List.length_reverse]
      exact Nat.le_refl _
    · rw [List.length_reverse] at hi
      obtain ⟨e, y⟩ := y
      subst e
      obtain ⟨x, hx, rx⟩ := rv.get' (y vs (s1 G3 _ c))
      exact ⟨G3, x, Ext.refl sg, by rw [rev_at hi]; exact hx, rx.mono c.1⟩
  · exact k.elim
theorem span_of {i : Int} (h : inSpan i = true) : -(2 ^ 62) ≤ i ∧ i < 2 ^ 62 := by
  unfold inSpan at h
  rw [Bool.and_eq_true, decide_eq_true_eq, decide_eq_true_eq] at h
  exact h
theorem si_rng1 (o : XOk Γ N sc so W X) {m : Mode} {tg e : Expr} {p pos : Pos} {f : Env → R PV} (hb : ("range" : Str) ∈ Γ.bl) (hg : glb sc "range" = true) (ge : good e = true) (he : SE Γ W X .bor e f) :
    SI Γ W X m tg (.Call (.Name "range" p) [e] [] pos) (fun ρ => (f ρ).bind fun x => (pInt x).bind fun n => if inSpan n then .ok (rngL 0 n.toNat) else .bad) := by
  refine PI.weak (pi_range1 (o.gl hg) (o.g.bl _ hb) (pa_cons he pa_nil (good_star ge _ _)) (good_star ge _ _)) fun σ H R' ⟨B, ρ, G, ow, q⟩ => ?_
  have q := PK_bind.mp q
  refine ⟨B, ρ, G, ow, q.imp (fun x k v G1 H1 e1 r1 => ?_) fun _ z => z⟩
  cases x with
  | int i =>
    have k : PK (if inSpan i then R.ok (rngL 0 i.toNat) else .bad) _ _ := k
    split at k
    · rename_i hs
      obtain ⟨h1, h2⟩ := span_of hs
      exact ⟨i, by rw [int_of (m := .bor) r1], h1, h2, k _ G1 H1 e1 items_rng⟩
    · exact k.elim
  | _ => exact k.elim
theorem reps_rng {K : PySem.W.Frag} {G : Hp} : ∀ l : List Nat, Reps K G (l.map fun k => PV.int (0 + (k : Nat))) (l.map fun k => V.int (0 + (k : Nat)))
  | [] => reps_nil.mpr rfl
  | k :: l => reps_cons.mpr ⟨_, _, rfl, rep_int.mpr rfl, reps_rng l⟩
theorem se_lrg (o : XOk Γ N sc so W X) (hh : Γ.hot = false) {e : Expr} {p p2 pos pos2 : Pos} {f : Env → R PV} (hb : ("range" : Str) ∈ Γ.bl) (hg : glb sc "range" = true) (hb2 : ("list" : Str) ∈ Γ.bl) (hg2 : glb sc "list" = true) (ge : good e = true) (he : SE Γ W X .bor e f) :
    SE Γ W X .fre (.Call (.Name "list" p2) [.Call (.Name "range" p) [e] [] pos] [] pos2) (fun ρ => (f ρ).bind fun x => (pInt x).bind fun n => if n ≤ 1000000 ∧ -1000000 ≤ n then .ok (.lst (rngL 0 n.toNat)) else .bad) := by
  refine PE.weak (pe_listRg (o.calm hh) (o.gl hg2) (o.g.bl _ hb2) (prg_1 (o.gl hg) (o.g.bl _ hb) he (good_star ge _ _))) fun σ H Q ⟨B, ρ, G, ow, q⟩ => ?_
  have q := PK_bind.mp q
  refine ⟨B, ρ, G, ow, q.imp (fun x k v G1 H1 e1 r1 => ?_) fun _ z => z⟩
  cases x with
  | int i =>
    have k : PK (if i ≤ 1000000 ∧ -1000000 ≤ i then R.ok (PV.lst (rngL 0 i.toNat)) else .bad) _ _ := k
    split at k
    · rename_i hs
      refine ⟨i, by rw [int_of (m := .bor) r1], ⟨by omega, by omega, by omega, by omega, by omega⟩, fun q hq => ?_⟩
      have e2 : i - 0 = i := by omega
      refine k _ _ _ (e1.trans (Ext.fresh e1.gh hq)) ⟨q, rgV 0 i, rfl, e1.hh.free hq, e1.gh.free hq, upd_same, ?_⟩
      unfold rgV rngL
      rw [e2]
      exact reps_rng _
    · exact k.elim
  | _ => exact k.elim
theorem reps_snoc {K : PySem.W.Frag} {G : Hp} : ∀ {xs : List PV} {vs : List V} {x : PV} {v : V}, Reps K G xs vs → Rep K G x v → Reps K G (xs ++ [x]) (vs ++ [v])
  | [], vs, x, v, h, r => by
    rw [reps_nil.mp h]
    exact reps_cons.mpr ⟨v, [], rfl, r, reps_nil.mpr rfl⟩
  | y :: xs, vs, x, v, h, r => by
    obtain ⟨u, us, rfl, h1, h2⟩ := reps_cons.mp h
    exact reps_cons.mpr ⟨u, us ++ [v], rfl, h1, reps_snoc h2 r⟩
theorem lay_reps {G H : Hp} (s : Same G H) {xs ys : List PV} {vs us : List V} (rx : Reps X.K G xs vs) (ry : Reps X.K G ys us) {T : Nat → Addr} (hT : ∀ k, k < min xs.length ys.length → H (T k) = none) (inj : ∀ i j, i < min xs.length ys.length → j < min xs.length ys.length → T i = T j → i = j) :
    ∀ j, j ≤ min xs.length ys.length → ∃ G', Ext G H G' (layP H T (fun k => vs.getD k (.ref 0)) (fun k => us.getD k (.ref 0)) j) ∧ Reps X.K G' ((pZip xs ys).take j) ((List.range j).map fun k => .ref (T k)) := by
  intro j
  induction j with
  | zero => exact fun _ => ⟨G, Ext.refl s, reps_nil.mpr rfl⟩
  | succ j ih =>
    intro hj
    obtain ⟨G1, e1, r1⟩ := ih (by omega)
    have hx : xs[j]? = some xs[j] := List.getElem?_eq_getElem (show j < xs.length by omega)
    have hy : ys[j]? = some ys[j] := List.getElem?_eq_getElem (show j < ys.length by omega)
    obtain ⟨v, q1, p1⟩ := rx.get hx
    obtain ⟨u, q2, p2⟩ := ry.get hy
    have hn : layP H T (fun k => vs.getD k (.ref 0)) (fun k => us.getD k (.ref 0)) j (T j) = none := by
      rw [layP_other fun i hi e => by
        have := inj i j (by omega) (by omega) e
        omega]
      exact hT j (by omega)
    have ev : vs.getD j (.ref 0) = v := by rw [List.getD_eq_getElem?_getD, q1]; rfl
    have eu : us.getD j (.ref 0) = u := by rw [List.getD_eq_getElem?_getD, q2]; rfl
    obtain ⟨G2, e2, r2⟩ := pair_new (X := X) (H := layP H T (fun k => vs.getD k (.ref 0)) (fun k => us.getD k (.ref 0)) j) e1.gh hn (p1.mono (e1.gg s)) (p2.mono (e1.gg s))
    refine ⟨G2, e1.trans (by
      show Ext _ _ _ (upd _ (T j) (.tup [vs.getD j (.ref 0), us.getD j (.ref 0)]))
      rw [ev, eu]
      exact e2), ?_⟩
    have z := zip_get hx hy
    rw [List.take_add_one, z, List.range_succ, List.map_append]
    exact reps_snoc (r1.mono (e2.gg e1.gh)) r2
theorem se_lzip (o : XOk Γ N sc so W X) (hh : Γ.hot = false) {e e2 : Expr} {p p2 pos pos2 : Pos} {f f2 : Env → R PV} (hb : ("zip" : Str) ∈ Γ.bl) (hg : glb sc "zip" = true) (hb2 : ("list" : Str) ∈ Γ.bl) (hg2 : glb sc "list" = true) (ge : good e = true) (ge2 : good e2 = true) (he : SE Γ W X .bor e f) (he2 : SE Γ W X .bor e2 f2) :
    SE Γ W X .fre (.Call (.Name "list" p2) [.Call (.Name "zip" p) [e, e2] [] pos] [] pos2) (fun ρ => (f ρ).bind fun x => (f2 ρ).bind fun y => pLZ x y) := by
  refine PE.weak (pe_listZip (o.calm hh) (o.gl hg2) (o.g.bl _ hb2) (pzp (o.gl hg) (o.g.bl _ hb) he he2 (good_star ge _ _) (good_star ge2 _ _) (by rw [good_star ge2]; rfl)) rfl) fun σ H Q ⟨B, ρ, G, ow, q⟩ => ?_
  have q := PK_bind.mp q
  refine ⟨B, ρ, G, ow, q.imp (fun x k v G1 H1 e1 r1 => ?_) fun _ z => z⟩
  refine ⟨B, ρ, G1, ow.step e1, (PK_bind.mp k).imp (fun y k u G2 H2 e2 r2 => ?_) fun _ z => Ke.step e1 z⟩
  have rm : RepM .bor X.K H G2 H2 x v := RepT.mono (e2.gg e1.gh) e2.hh r1
  cases x with
  | lst xs =>
    cases y with
    | lst ys =>
      have k : PK (if min xs.length ys.length ≤ LIM then R.ok (PV.lst (pZip xs ys)) else .bad) _ _ := k
      split at k
      · rename_i hl
        obtain ⟨a, vs, rfl, h1, ra⟩ := lst_of e2.gh rm
        obtain ⟨b, us, rfl, h2, rb⟩ := lst_of e2.gh r2
        refine ⟨a, b, vs, us, rfl, rfl, SqL.of h1, SqL.of h2, by rw [ra.length, rb.length]; exact hl, fun T q hT inj hq => ?_⟩
        rw [ra.length, rb.length] at hT inj ⊢
        obtain ⟨G3, e3, r3⟩ := lay_reps e2.gh ra rb (fun k hk => (hT k hk).1) inj _ (Nat.le_refl _)
        have hq3 : layP H2 T (fun k => vs.getD k (.ref 0)) (fun k => us.getD k (.ref 0)) (min xs.length ys.length) q = none := by
          rw [layP_other fun i hi => (hT i hi).2]
          exact hq
        rw [List.take_of_length_le (by rw [zip_len]; exact Nat.le_refl _)] at r3
        refine k _ _ _ ((e1.trans e2).trans (e3.trans (Ext.fresh e3.gh hq3))) ⟨q, _, rfl, ((e1.trans e2).trans e3).hh.free hq3, e3.gh.free hq3, upd_same, r3⟩
      · exact k.elim
    | _ => exact k.elim
  | _ => cases y <;> exact k.elim
theorem si_rng2 (o : XOk Γ N sc so W X) {m : Mode} {tg e e2 : Expr} {p pos : Pos} {f f2 : Env → R PV} (hb : ("range" : Str) ∈ Γ.bl) (hg : glb sc "range" = true) (ge : good e = true) (ge2 : good e2 = true) (he : SE Γ W X .bor e f) (he2 : SE Γ W X .bor e2 f2) :
    SI Γ W X m tg (.Call (.Name "range" p) [e, e2] [] pos) (fun ρ => (f ρ).bind fun x => (f2 ρ).bind fun y => (pInt x).bind fun i => (pInt y).bind fun j => if inSpan i && inSpan j then .ok (rngL i (j - i).toNat) else .bad) := by
  refine PI.weak (pi_range2 (o.gl hg) (o.g.bl _ hb) (pa_cons he (pa_cons he2 pa_nil (good_star ge2 _ _)) (good_star ge _ _)) (by rw [good_star ge, good_star ge2]; rfl) (good_star ge2 _ _)) fun σ H R' ⟨B, ρ, G, ow, q⟩ => ?_
  have q := PK_bind.mp q
  refine ⟨B, ρ, G, ow, q.imp (fun x k v G1 H1 e1 r1 => ?_) fun _ z => z⟩
  refine ⟨B, ρ, G1, ow.step e1, (PK_bind.mp k).imp (fun y k u G2 H2 e2 r2 => ?_) fun _ z => Ke.step e1 z⟩
  cases x with
  | int i =>
    cases y with
    | int j =>
      have k : PK (if inSpan i && inSpan j then R.ok (rngL i (j - i).toNat) else .bad) _ _ := k
      split at k
      · rename_i hs
        rw [Bool.and_eq_true] at hs
        obtain ⟨h1, h2⟩ := span_of hs.1
        obtain ⟨h3, h4⟩ := span_of hs.2
        exact ⟨i, j, by rw [int_of (m := .bor) r1, int_of (m := .bor) r2], ⟨h1, h2, h3, h4⟩, k _ G2 H2 (e1.trans e2) items_rng⟩
      · exact k.elim
    | _ => exact k.elim
  | _ => exact k.elim
def pRng3 (x y z : PV) : R (List PV) := (pInt x).bind fun i => (pInt y).bind fun j => match z with
    | .int (-1) => if inSpan i && inSpan j then .ok ((List.range (i - j).toNat).map fun k => .int (i - (k : Nat))) else .bad
    | _ => .bad
theorem si_rng3 (o : XOk Γ N sc so W X) {m : Mode} {tg e e2 e3 : Expr} {p pos : Pos} {f f2 f3 : Env → R PV} (hb : ("range" : Str) ∈ Γ.bl) (hg : glb sc "range" = true) (ge : good e = true) (ge2 : good e2 = true) (ge3 : good e3 = true) (he : SE Γ W X .bor e f) (he2 : SE Γ W X .bor e2 f2) (he3 : SE Γ W X .bor e3 f3) :
    SI Γ W X m tg (.Call (.Name "range" p) [e, e2, e3] [] pos) (fun ρ => (f ρ).bind fun x => (f2 ρ).bind fun y => (f3 ρ).bind fun z => pRng3 x y z) := by
  refine PI.weak (pi_range3 (o.gl hg) (o.g.bl _ hb) (pa_cons he (pa_cons he2 (pa_cons he3 pa_nil (good_star ge3 _ _)) (good_star ge2 _ _)) (good_star ge _ _)) (good_star ge _ _) (good_any (by simp [ge2, ge3]))) fun σ H R' ⟨B, ρ, G, ow, q⟩ => ?_
  have q := PK_bind.mp q
  refine ⟨B, ρ, G, ow, q.imp (fun x k v G1 H1 e1 r1 => ?_) fun _ z => z⟩
  refine ⟨B, ρ, G1, ow.step e1, (PK_bind.mp k).imp (fun y k u G2 H2 e2 r2 => ?_) fun _ z => Ke.step e1 z⟩
  refine ⟨B, ρ, G2, (ow.step e1).step e2, (PK_bind.mp k).imp (fun z k w G3 H3 e3 r3 => ?_) fun _ z => Ke.step (e1.trans e2) z⟩
  cases x with
  | int i =>
    cases y with
    | int j =>
      have k : PK (match z with
        | .int (-1) => if inSpan i && inSpan j then R.ok ((List.range (i - j).toNat).map fun k => PV.int (i - (k : Nat))) else .bad
        | _ => .bad) _ _ := k
      split at k
      · split at k
        · rename_i hs
          rw [Bool.and_eq_true] at hs
          obtain ⟨h1, h2⟩ := span_of hs.1
          obtain ⟨h3, h4⟩ := span_of hs.2
          exact ⟨i, j, -1, (i - j).toNat, by rw [int_of (m := .bor) r1, int_of (m := .bor) r2, int_of (m := .bor) r3], RgC.neg h1 h2 h3 h4, k _ G3 H3 ((e1.trans e2).trans e3) items_down⟩
        · exact k.elim
      · exact k.elim
    | _ => exact k.elim
  | _ => exact k.elim

/-! ### comprehensions -/
theorem wipe_at {σ : L2.St} {j : Nat} : ∀ {vs : List Nat}, (wipe σ vs)[j]? = if j ∈ vs then (σ[j]?).map fun _ => none else σ[j]?
  | [] => by simp [wipe]
  | v :: vs => by
    unfold wipe
    by_cases hj : v = j
    · subst hj
      rw [if_pos List.mem_cons_self]
      by_cases hl : v < σ.length
      · rw [List.getElem?_set_self (by rw [wipe_length]; exact hl), List.getElem?_eq_getElem hl]
        rfl
      · rw [List.getElem?_eq_none (by rw [List.length_set, wipe_length]; omega), List.getElem?_eq_none (by omega)]
        rfl
    · rw [List.getElem?_set_ne hj, wipe_at]
      by_cases hm : j ∈ vs
      · rw [if_pos hm, if_pos (List.mem_cons_of_mem _ hm)]
      · rw [if_neg hm, if_neg (by simp only [List.mem_cons, not_or]; exact ⟨fun e => hj e.symm, hm⟩)]
theorem setS_at {j : Nat} : ∀ {is : List Nat} {σ : L2.St} {vs : List V}, j ∉ is → (setS σ is vs)[j]? = σ[j]?
  | [], _, _, _ => rfl
  | i :: is, σ, [], _ => rfl
  | i :: is, σ, v :: vs, h => by
    simp only [List.mem_cons, not_or] at h
    unfold setS
    rw [setS_at h.2, List.getElem?_set_ne (fun e => h.1 e.symm)]
theorem wipe_setS {σ : L2.St} {tg : List Nat} {vs : List V} : wipe (setS (wipe σ tg) tg vs) tg = wipe σ tg := by
  apply List.ext_getElem?
  intro j
  rw [wipe_at, wipe_at]
  by_cases hm : j ∈ tg
  · rw [if_pos hm, if_pos hm]
    by_cases hl : j < σ.length
    · rw [List.getElem?_eq_getElem (by rw [setS_length, wipe_length]; exact hl), List.getElem?_eq_getElem hl]
      rfl
    · rw [List.getElem?_eq_none (by rw [setS_length, wipe_length]; omega), List.getElem?_eq_none (by omega)]
  · rw [if_neg hm, if_neg hm, setS_at hm, wipe_at, if_neg hm]
theorem ow_wipe {K : PySem.W.Frag} {B : Bd} {ρ : Env} {σ : L2.St} {G H : Hp} (o : Ow K B ρ σ G H) (i : Nat) : Ow K B (ρ.set i .no) (σ.set i none) G H := by
  have sgt : ∀ (j : Nat) (s : SV), (ρ.set i SV.no)[j]? = some s → s ≠ .no → ρ[j]? = some s ∧ j ≠ i := fun j s h hn => by
    by_cases hj : i = j
    · subst hj
      by_cases hi : i < ρ.length
      · rw [List.getElem?_set_self hi] at h
        cases h
        exact absurd rfl hn
      · rw [List.getElem?_eq_none (by simp; omega)] at h
        cases h
    · rw [List.getElem?_set_ne hj] at h
      exact ⟨h, fun e => hj e.symm⟩
  refine ⟨o.ext, o.cl, o.low, by simp [o.len], fun j s h => ?_, fun j k xs ys a h1 h2 h3 h4 => ?_⟩
  · cases s with
    | no => trivial
    | sh x =>
      obtain ⟨h', n⟩ := sgt j _ h (fun z => nomatch z)
      have q := o.slot j _ h'
      rw [List.getElem?_set_ne (fun e => n e.symm)]
      exact q
    | ow x =>
      obtain ⟨h', n⟩ := sgt j _ h (fun z => nomatch z)
      have q := o.slot j _ h'
      rw [List.getElem?_set_ne (fun e => n e.symm)]
      exact q
    | fn =>
      obtain ⟨h', n⟩ := sgt j _ h (fun z => nomatch z)
      have q := o.slot j _ h'
      rw [List.getElem?_set_ne (fun e => n e.symm)]
      exact q
  · obtain ⟨q1, n1⟩ := sgt j _ h1 (fun z => nomatch z)
    obtain ⟨q2, n2⟩ := sgt k _ h2 (fun z => nomatch z)
    rw [List.getElem?_set_ne (fun e => n1 e.symm)] at h3
    rw [List.getElem?_set_ne (fun e => n2 e.symm)] at h4
    exact o.apart j k xs ys a q1 q2 h3 h4
theorem ow_wipes {K : PySem.W.Frag} {B : Bd} {ρ : Env} {σ : L2.St} {G H : Hp} (o : Ow K B ρ σ G H) : ∀ tg : List Nat, Ow K B (killAll ρ tg) (wipe σ tg) G H
  | [] => o
  | i :: is => ow_wipe (ow_wipes o is) i
abbrev W0 : WX := fun _ _ _ _ => False
theorem compL_nx {el co : Env → R PV} {asg : PV → Option Env} : ∀ {xs : List PV} {c : Nat}, compL el co asg xs ≠ .exn c
  | [], c, h => by cases h
  | x :: xs, c, h => by
    unfold compL at h
    split at h
    · cases h
    · split at h
      · split at h
        · cases e : compL el co asg xs with
          | ok z => rw [e] at h; cases h
          | exn d => exact compL_nx e
          | bad => rw [e] at h; cases h
        · cases h
      · exact compL_nx h
      · cases h
/-- the reading of a comprehension -/
theorem comp_rd {K : PySem.W.Frag} {fi : Env → R (List PV)} {fe fc : Env → R PV} {tg : List Nat} {tp : Bool} {own : List (Str × Nat)} (hown : own.map (·.2) = tg) (σ : L2.St) (H : Hp) (Q : VK)
    (h : rdE Γ W K .fre (fun ρ => (fi ρ).bind fun xs => (compL fe fc (fun x => asgT tg tp x (killAll ρ tg)) xs).bind fun ys => if xs.length ≤ LIM then R.ok (PV.lst ys) else .bad) σ H Q) :
    tLc (rdI Γ W K .bor fi) (rdG K tg tp) (rdT Γ W0 K fc) (rdE Γ W0 K .esc fe) (own.map (·.2)) σ H Q := by
  rw [hown]
  obtain ⟨B, ρ, G, ow, q⟩ := h
  refine ⟨B, ρ, G, ow, (PK_bind.mp q).imp (fun xs k J G1 H1 e1 it D hD => ?_) fun _ z => z⟩
  have k := PK_bind.mp k
  cases ec : compL fe fc (fun x => asgT tg tp x (killAll ρ tg)) xs with
  | bad => rw [ec] at k; exact k.elim
  | exn c => exact absurd ec compL_nx
  | ok ys =>
    rw [ec] at k
    have k : PK (if xs.length ≤ LIM then R.ok (PV.lst ys) else .bad) _ _ := k
    split at k
    · rename_i hlim
      refine ⟨fun i m H2 => i + m = xs.length ∧ ∃ G2 acc don rst, Ext G1 H1 G2 H2 ∧ H2 D = some (.lst acc) ∧ G2 D = none ∧ Reps K G2 don acc ∧ don.length ≤ i ∧ compL fe fc (fun x => asgT tg tp x (killAll ρ tg)) (xs.drop i) = .ok rst ∧ don ++ rst = ys, ⟨xs.length, by omega, G1, [], [], ys, Ext.fresh e1.gh hD, upd_same, e1.gh.free hD, reps_nil.mpr rfl, Nat.le_refl _, by simpa using ec, rfl⟩, ?_⟩
      rintro i m H2 ⟨him, G2, acc, don, rst, e2, h2, g2, r2, hl, hc, hd⟩
      have ci : CI .bor G1 H1 G2 H2 := ⟨e2.gg e1.gh, e2.gh, e2.hh⟩
      by_cases hi : i < xs.length
      · refine .inr ⟨it.goes i G2 H2 hi ci, fun H3 => (i + 1) + (m - 1) = xs.length ∧ ∃ G2 acc don rst, Ext G1 H1 G2 H3 ∧ H3 D = some (.lst acc) ∧ G2 D = none ∧ Reps K G2 don acc ∧ don.length ≤ i + 1 ∧ compL fe fc (fun x => asgT tg tp x (killAll ρ tg)) (xs.drop (i + 1)) = .ok rst ∧ don ++ rst = ys, fun H3 h3 => ⟨m - 1, by omega, h3⟩, fun v H3 y => ?_⟩
        obtain ⟨G3, x, e3, hx, rx⟩ := it.yields i G2 H2 v H3 hi e2.gh ci y
        have dr : xs.drop i = x :: xs.drop (i + 1) := by
          rw [List.drop_eq_getElem_cons hi]
          have := List.getElem?_eq_getElem hi
          rw [hx] at this
          rw [Option.some.inj this]
        rw [dr] at hc
        unfold compL at hc
        have ow3 := ow_wipes (((ow.step e1).step e2).step e3) tg
        have h3D : H3 D = some (.lst acc) := e3.hh.lst h2
        have g3D : G3 D = none := by rw [e3.old _ _ h2]; exact g2
        split at hc
        · cases hc
        · rename_i ρ1 ea
          refine ow_asgT ow3 rx ea fun vs ow4 => ⟨wipe_setS, ?_⟩
          split at hc
          · rename_i eco
            split at hc
            · rename_i y eel
              refine ⟨B, ρ1, G3, ow4, ?_⟩
              rw [eco]
              refine ⟨true, rfl, fun G5 H5 e5 => iteT ⟨B, ρ1, G5, ow4.step e5, ?_⟩⟩
              rw [eel]
              intro w G6 H6 e6 rw'
              cases ecl : compL fe fc (fun x => asgT tg tp x (killAll ρ tg)) (xs.drop (i + 1)) with
              | bad => rw [ecl] at hc; cases hc
              | exn c => exact absurd ecl compL_nx
              | ok rst' =>
                rw [ecl] at hc
                cases hc
                have e36 := (e3.trans e5).trans e6
                have h6D : H6 D = some (.lst acc) := e36.hh.lst h2
                have g6D : G6 D = none := by rw [e36.old _ _ h2]; exact g2
                have e16 := e2.trans e36
                refine ⟨acc, h6D, ?_, by omega, G6, acc ++ [w], don ++ [y], rst', ⟨e16.hh.put hD h6D, fun b u q => ?_, e16.old, e16.nt⟩, upd_same, g6D, (r2.mono (e36.gg e2.gh)).snoc rw', by simp; omega, rfl, by simpa using hd⟩
                · rw [r2.length]
                  have := lim_line
                  omega
                · rw [upd_ne (ne_of_none q g6D)]
                  exact e16.gh b u q
            · cases hc
          · rename_i eco
            refine ⟨B, ρ1, G3, ow4, ?_⟩
            rw [eco]
            refine ⟨false, rfl, fun G5 H5 e5 => iteF ?_⟩
            have e35 := e3.trans e5
            exact ⟨by omega, G5, acc, don, rst, e2.trans e35, e35.hh.lst h2, by rw [e35.old _ _ h2]; exact g2, r2.mono (e35.gg e2.gh), by omega, hc, hd⟩
          · cases hc
      · have ei : i = xs.length := by omega
        refine .inl ⟨by rw [ei]; exact it.stops G2 H2 ci, ?_⟩
        rw [ei, List.drop_length] at hc
        cases hc
        rw [List.append_nil] at hd
        subst hd
        exact k _ G2 H2 (e1.trans e2) ⟨D, acc, rfl, e1.hh.free hD, g2, h2, r2⟩
    · exact k.elim
theorem xok_blk (o : XOk Γ N sc so W X) {scope : Scope} (hk : scope.kind = .function) (s : Shared) (H : Hp) (C : Addr) (cl : List (Str × Addr)) (fp : List Addr) :
    XOk Γ N (relS scope sc) scope W0 (X.blk s H scope (compEnvC scope cl C X.env) fp) := by
  have e : (X.blk s H scope (compEnvC scope cl C X.env) fp).env.scope = relS scope sc := by
    rw [← o.hsc]
    rfl
  refine ⟨o.g, o.hN, o.nd, o.db, e, hk, fun h => o.calm h, fun x hx => ?_, fun h => o.room h, o.un, fun _ => takes0, fun h1 h2 => (let ⟨a, b, c, d⟩ := o.la h1 h2; ⟨a, b, c, d⟩)⟩
  have st : ∀ k, k ≠ .free → scope.names.lookup x = some k → (X.blk s H scope (compEnvC scope cl C X.env) fp).env.scope.names.lookup x = some k := fun k hk h => by
    rw [e]
    exact lookup_relS_keep hk h
  unfold loc at hx
  split at hx
  · rename_i hl
    exact ⟨.inl (st _ (by decide) hl), .inr (st _ (by decide) hl)⟩
  · rename_i hl
    refine ⟨.inr (st _ (by decide) hl), .inl ?_⟩
    show (scope.names.lookup x == some .cell) = true
    rw [hl]
    rfl
  · cases hx
end
end Pf

set_option Elab.async false
set_option linter.all false
set_option maxRecDepth 100000
set_option autoImplicit false
set_option maxHeartbeats 4000000
/-! Pf8: a core expression that matches a written one computes what that one does -/
namespace Pf
open PySem PySem.Spec L2
variable [Tbc] [Tlc]

/-- the names that a def may meet -/
structure Nm where
  N : List Str
  fn : List (Str × Bool)
  bl : List Str
  cn : List Str
  ec : Ec
  hot : Bool
  fno : List Str
  fnl : List Str
  tl : Option Str
  lm : Bool
def PXs.len : PXs → Nat
  | .nil => 0
  | .cons _ es => es.len + 1
def PX.isF (nm : Nm) : PX → Bool
  | .lst _ => true
  | .comp _ _ _ _ _ => true
  | .lrg _ => true
  | .lzip _ _ => true
  | .bin _ _ _ => true
  | .sl _ _ _ => true
  | .bi _ _ => true
  | .call k es => (match nm.fn[k]? with
    | some p => p.2
    | none => false) && !es.hasB
  | _ => false
def PX.isT : PX → Bool
  | .bvar _ => false
  | .ife _ _ _ => false
  | .comp _ _ _ _ _ => false
  | .lrg _ => false
  | .lzip _ _ => false
  | .lst _ => false
  | .tup _ => false
  | .bin _ _ _ => false
  | .neg _ => false
  | .sl _ _ _ => false
  | .and a b => a.isT && b.isT
  | .or a b => a.isT && b.isT
  | .loc _ a => a.isT
  | _ => true
def PX.isTrue : PX → Bool
  | .bl true => true
  | _ => false
def PIt.hasB : PIt → Bool
  | .seq e => e.isB
  | .enum e => e.isB
  | .zip a b => a.isB || b.isB
  | .rev e => e.isB
  | _ => false
def opB : Operator → Option BOp
  | .Add => some .add | .Sub => some .sub | .Mult => some .mul | .FloorDiv => some .fdiv | .Mod => some .mod | .Pow => some .pow
  | _ => none
def opC : CmpOp → Option COp
  | .Eq => some .eq | .NotEq => some .ne | .Lt => some .lt | .LtE => some .le | .Gt => some .gt | .GtE => some .ge | .In => some .isIn | .NotIn => some .notIn | .Is => some .isN | .IsNot => some .notN
def COp.isIs : COp → Bool
  | .isN => true
  | .notN => true
  | _ => false
theorem opB_eq {o : Operator} {b : BOp} (h : opB o = some b) : o = binOp b := by
  cases o <;> first | (simp only [opB, reduceCtorEq] at h; done) | (simp only [opB, Option.some.injEq] at h; subst h; rfl)
theorem opC_eq {o : CmpOp} {b : COp} (h : opC o = some b) : o = cmpOp b := by
  cases o <;> (simp only [opC, Option.some.injEq] at h; subst h; rfl)
def isTupE : Expr → Bool
  | .Tuple _ _ _ => true
  | _ => false
def mCl1 (nm : Nm) (sc : Scope) (d : Option Nat) (y : Str) : Bool := match d with
  | some k => nm.ec.ex.contains (y, k) && glb sc y
  | none => decide (y = "ValueError") && decide (y ∈ nm.bl) && glb sc y
def mClN (nm : Nm) (sc : Scope) : List (Option Nat) → List Expr → Bool
  | [], [] => true
  | d :: ds, .Name y _ :: es => mCl1 nm sc d y && mClN nm sc ds es
  | _, _ => false
def mCls (nm : Nm) (sc : Scope) (cs : List (Option Nat)) : Expr → Bool
  | .Name y _ => (match cs with
    | [d] => mCl1 nm sc d y
    | _ => false)
  | .Tuple es _ _ => mClN nm sc cs es && decide (cs.length ≤ LIM)
  | _ => false
def mTys (nm : Nm) (sc : Scope) : List Ty → List Expr → Bool
  | [], [] => true
  | t :: ts, .Name y _ :: es => decide (y = tyName t) && decide (y ∈ nm.bl) && glb sc y && mTys nm sc ts es
  | _, _ => false
def notBool : Expr → Bool
  | .BoolOp _ _ _ => false
  | _ => true
/-- no parameter at all -/
def noPar : Arguments → Bool
  | ⟨[], [], none, [], [], none, []⟩ => true
  | _ => false
mutual
/-- a lambda's body: calls of names, and of such calls -/
def mL (nm : Nm) (sc : Scope) : PX → Expr → Bool
  | .var i, .Name x _ => decide (nm.N[i]? = some x) && vis sc x
  | .call k es, .Call (.Name x _) (f :: fs) [] _ => (match nm.fn[k]? with
    | some p => decide (p.1 = x)
    | none => false) && glb sc x && mLs nm sc es (f :: fs) && !es.hasB
  | _, _ => false
def mLs (nm : Nm) (sc : Scope) : PXs → List Expr → Bool
  | .nil, [] => true
  | .cons x xs, e :: es => mL nm sc x e && mLs nm sc xs es
  | _, _ => false
end
section
variable (nm : Nm)
mutual
def mE (sc so : Scope) : PX → Expr → Bool
  | .var i, .Name x _ => decide (nm.N[i]? = some x) && vis sc x
  | .bvar i, .Name x _ => decide (nm.N[i]? = some x) && vis sc x
  | .non, .Constant .none _ _ => true
  | .bl b, .Constant (.bool c) _ _ => b == c
  | .int i, .Constant (.int j) _ _ => decide (i = j)
  | .str s, .Constant (.str t) _ _ => decide (s = t)
  | .con k, .Name x _ => decide (nm.cn[k]? = some x) && glb sc x
  | .bin o a b, .BinOp e op f _ => decide (opB op = some o) && mE sc so a e && mE sc so b f
  | .neg a, .UnaryOp .USub e _ => mE sc so a e
  | .not a, .UnaryOp .Not e _ => mE sc so a e && !a.isB && a.isT
  | .cmp o a b, .Compare e [op] [f] _ => decide (opC op = some o) && mE sc so a e && mE sc so b f && (!o.isIs || !b.isB)
  | .chain o1 o2 a b c, .Compare e [op1, op2] [f, g] _ => decide (opC op1 = some o1) && decide (opC op2 = some o2) && mE sc so a e && mE sc so b f && mE sc so c g && !o1.isIs && !o2.isIs
  | .and a b, .BoolOp .And (e :: f :: r) pos => mE sc so a e && !a.isB && (match r with
    | [] => mE sc so b f && !b.isB
    | g :: r' => mE sc so b (.BoolOp .And (f :: g :: r') pos) && !b.isB)
  | .or a b, .BoolOp .Or (e :: f :: r) pos => mE sc so a e && !a.isB && (match r with
    | [] => mE sc so b f && !b.isB
    | g :: r' => mE sc so b (.BoolOp .Or (f :: g :: r') pos) && !b.isB)
  | .ife c a b, .IfExp e f g _ => mE sc so c e && mE sc so a f && mE sc so b g && c.isT && !a.isB && !b.isB
  | .tup es, .Tuple fs _ _ => mEs sc so es fs && !es.hasB && decide (es.len ≤ LIM)
  | .lst es, .List fs _ => mEs sc so es fs && !es.hasB && decide (es.len ≤ LIM)
  | .sl a lo hi, .Subscript e (.Slice lo' hi' none _) _ => mE sc so a e && (match lo' with
    | none => lo.isN
    | some f => mE sc so lo f && !lo.isN) && (match hi' with
    | none => hi.isN
    | some f => mE sc so hi f && !hi.isN)
  | .ix a i, .Subscript e f _ => mE sc so a e && mE sc so i f
  | .call k es, .Call (.Name x _) (f :: fs) [] _ => (match nm.fn[k]? with
    | some p => decide (p.1 = x)
    | none => false) && glb sc x && mEs sc so es (f :: fs) && !nm.hot
  | .bi b es, .Call (.Name x _) (f :: fs) [] _ => decide (biName b = x) && decide (x ∈ nm.bl) && decide (b ≠ .range1) && decide (b ≠ .range2) && glb sc x && mEs sc so es (f :: fs) && !nm.hot
  | .isa a t, .Call (.Name x _) [e, .Name y _] [] _ => decide (x = "isinstance") && decide (y = tyName t) && decide (x ∈ nm.bl) && decide (y ∈ nm.bl) && glb sc x && glb sc y && mE sc so a e
  | .dic [], .Dict [] [] _ => true
  | .dic [(k, v)], .Dict [some (.Constant (.int k') _ _)] [.Constant (.int v') _ _] _ => decide (k = k') && decide (v = v')
  | .call0 k, .Call (.Name x _) [] [] _ => (match nm.fn[k]? with
    | some p => decide (p.1 = x) && !p.2
    | none => false) && glb sc x && !nm.hot
  | .lam k a, .Call (.Name x _) [.Lambda params body scope _] [] _ => decide (nm.fn.length + nm.fno.length ≤ k) && decide (nm.fnl[k - (nm.fn.length + nm.fno.length)]? = some x) && glb sc x && !nm.hot && nm.lm && LamX.lamSB sc scope && noPar params && mL nm scope a body
  | .isx a cs rs, .Call (.Name x _) [e, y] [] _ => decide (x = "isinstance") && decide (x ∈ nm.bl) && glb sc x && mE sc so a e && mCls nm sc cs y && decide (rs = nm.ec.rs) && cs.all (fun d => nm.ec.kn.contains d && nm.ec.rs.all fun c => nm.ec.kp.contains (c, d))
  | .isas a ts, .Call (.Name x _) [e, .Tuple fs _ _] [] _ => decide (x = "isinstance") && decide (x ∈ nm.bl) && glb sc x && mE sc so a e && mTys nm sc ts fs && decide (ts ≠ []) && decide (ts.length ≤ LIM)
  | .loc _ a, .Compare e ops es pos => !a.isB && mE sc so a (.Compare e ops es pos)
  | .lzip a b, .Call (.Name y _) [.Call (.Name x _) [e, f] [] _] [] _ => decide (x = "zip") && decide (x ∈ nm.bl) && glb sc x && decide (y = "list") && decide (y ∈ nm.bl) && glb sc y && mE sc so a e && mE sc so b f && !nm.hot
  | .lrg a, .Call (.Name y _) [.Call (.Name x _) [e] [] _] [] _ => decide (x = "range") && decide (x ∈ nm.bl) && glb sc x && decide (y = "list") && decide (y ∈ nm.bl) && glb sc y && mE sc so a e && !nm.hot
  | .comp el tg tp it c, .ListComp e [⟨t, i, ifs, a⟩] scope _ => !nm.hot && decide (a = 0) && mI sc so it t i && mTgt nm.N scope tg tp t && blkC nm.N sc scope (tg.map fun j => (nm.N.getD j "", j)) &&
      mE (relS scope sc) scope el e && !el.isB && (match ifs with
        | [] => c.isTrue
        | [g] => mE (relS scope sc) scope c g && c.isT
        | _ => false)
  | _, _ => false
def mEs (sc so : Scope) : PXs → List Expr → Bool
  | .nil, [] => true
  | .cons x xs, e :: es => mE sc so x e && mEs sc so xs es
  | _, _ => false
def mI (sc so : Scope) : PIt → Expr → Expr → Bool
  | .rng1 a, _, .Call (.Name x _) [e] [] _ => decide (x = "range") && decide (x ∈ nm.bl) && glb sc x && mE sc so a e
  | .rng2 a b, _, .Call (.Name x _) [e, f] [] _ => decide (x = "range") && decide (x ∈ nm.bl) && glb sc x && mE sc so a e && mE sc so b f
  | .rng3 a b c, _, .Call (.Name x _) [e, f, g] [] _ => decide (x = "range") && decide (x ∈ nm.bl) && glb sc x && mE sc so a e && mE sc so b f && mE sc so c g
  | .enum a, t, .Call (.Name x _) [e] [] _ => decide (x = "enumerate") && decide (x ∈ nm.bl) && glb sc x && mE sc so a e && isTupE t
  | .zip a b, t, .Call (.Name x _) [e, f] [] _ => decide (x = "zip") && decide (x ∈ nm.bl) && glb sc x && mE sc so a e && mE sc so b f && isTupE t
  | .rev a, _, .Call (.Name x _) [e] [] _ => decide (x = "reversed") && decide (x ∈ nm.bl) && glb sc x && mE sc so a e
  | .seq a, _, e => mE sc so a e
  | _, _, _ => false
end
end
theorem good_mE {nm : Nm} {sc so : Scope} {x : PX} {e : Expr} (h : mE nm sc so x e = true) : good e = true := by
  unfold mE at h
  split at h <;> first | rfl | (exact absurd h Bool.false_ne_true)
theorem good_mEs {nm : Nm} {sc so : Scope} : ∀ {xs : PXs} {es : List Expr}, mEs nm sc so xs es = true → es.all good = true ∧ es.length = xs.len
  | .nil, [], _ => ⟨rfl, rfl⟩
  | .nil, _ :: _, h => by simp [mEs] at h
  | .cons _ _, [], h => by simp [mEs] at h
  | .cons x xs, e :: es, h => by
    simp only [mEs, Bool.and_eq_true] at h
    obtain ⟨h1, h2⟩ := good_mEs h.2
    exact ⟨by rw [List.all_cons, good_mE h.1, h1]; rfl, by simp [h2, PXs.len]⟩
theorem len_evEs {fs : List Sem1} {cs : List PV} : ∀ {xs : PXs} {ρ : Env} {vs : List PV}, evEs fs cs xs ρ = .ok vs → vs.length = xs.len
  | .nil, ρ, vs, h => by
    simp only [evEs] at h
    cases h
    rfl
  | .cons x xs, ρ, vs, h => by
    simp only [evEs] at h
    cases e : evE fs cs x ρ with
    | bad => rw [e] at h; cases h
    | exn c => rw [e] at h; cases h
    | ok v =>
      rw [e] at h
      simp only [R.bind_ok] at h
      cases e2 : evEs fs cs xs ρ with
      | bad => rw [e2] at h; cases h
      | exn c => rw [e2] at h; cases h
      | ok us =>
        rw [e2] at h
        cases h
        simp [len_evEs e2, PXs.len]

section
variable (Γ : Gt) (nm : Nm) (W : WX) (X : Cx) (fs : List Sem1) (cs : List PV)
structure Snd (x : PX) (e : Expr) : Prop where
  esc : x.isB = false → SE Γ W X .esc e (evE fs cs x)
  bor : SE Γ W X .bor e (evE fs cs x)
  fre : x.isF nm = true → SE Γ W X .fre e (evE fs cs x)
  tst : x.isT = true → ST Γ W X e (evE fs cs x)
  tsw : x.isT = true → ∀ op vs pos, e = .BoolOp op vs pos → SW Γ W X e (evE fs cs x)
structure SndA (xs : PXs) (es : List Expr) : Prop where
  bor : SA Γ W X es (evEs fs cs xs)
  esc : xs.hasB = false → SAE Γ W X es (evEs fs cs xs)
structure SndI (it : PIt) (t e : Expr) : Prop where
  bor : SI Γ W X .bor t e (evI fs cs it)
  esc : it.hasB = false → SI Γ W X .esc t e (evI fs cs it)
end
theorem good_mI {nm : Nm} {sc so : Scope} {it : PIt} {t e : Expr} (h : mI nm sc so it t e = true) : good e = true := by
  unfold mI at h
  split at h <;> first | rfl | (exact good_mE h) | (exact absurd h Bool.false_ne_true)
theorem isTup_eq {t : Expr} (h : isTupE t = true) : ∃ es k p, t = .Tuple es k p := by
  cases t <;> first | exact ⟨_, _, _, rfl⟩ | (cases h; done)
section
variable {Γ : Gt} {nm : Nm} {W : WX} {X : Cx} {fs : List Sem1} {cs : List PV} {x : PX} {e : Expr}
theorem no_tsw (h : notBool e = true) {f : Env → R PV} : ∀ op vs pos, e = .BoolOp op vs pos → SW Γ W X e f := fun op vs pos q => by
  subst q
  cases h
theorem Snd.ofEsc (h : SE Γ W X .esc e (evE fs cs x)) (hf : x.isF nm = false) (hn : notBool e = true) (ht : ST Γ W X e (evE fs cs x)) : Snd Γ nm W X fs cs x e :=
  ⟨fun _ => h, h.bor_of, fun q => (by rw [hf] at q; cases q), fun _ => ht, fun _ => no_tsw hn⟩
theorem Snd.ofEsc' (h : SE Γ W X .esc e (evE fs cs x)) (hf : x.isF nm = false) (hn : notBool e = true) (ht : x.isT = false) : Snd Γ nm W X fs cs x e :=
  ⟨fun _ => h, h.bor_of, fun q => (by rw [hf] at q; cases q), fun q => (by rw [ht] at q; cases q), fun _ => no_tsw hn⟩
theorem Snd.ofSW (h : SE Γ W X .esc e (evE fs cs x)) (hf : x.isF nm = false) (hw : x.isT = true → SW Γ W X e (evE fs cs x)) : Snd Γ nm W X fs cs x e :=
  ⟨fun _ => h, h.bor_of, fun q => (by rw [hf] at q; cases q), fun q => (hw q).pt, fun q _ _ _ _ => hw q⟩
theorem Snd.ofEscV (h : SE Γ W X .esc e (evE fs cs x)) (hf : x.isF nm = false) (hn : notBool e = true) (hw : ∀ whole, isTrue e X.env whole = (do let v ← whole; standAt e.pos; holding [v] (truthy v))) : Snd Γ nm W X fs cs x e :=
  Snd.ofEsc h hf hn (st_val h hw)
theorem Snd.ofFre (h : SE Γ W X .fre e (evE fs cs x)) (hn : notBool e = true) (ht : x.isT = true → ST Γ W X e (evE fs cs x)) : Snd Γ nm W X fs cs x e :=
  ⟨fun _ => h.esc_of, h.esc_of.bor_of, fun _ => h, ht, fun _ => no_tsw hn⟩
end

section
variable {Γ : Gt} {nm : Nm}
structure Nm.Of (nm : Nm) (Γ : Gt) : Prop where
  fn : nm.fn = Γ.fns.map fun n => (n.name, n.fr)
  bl : nm.bl = Γ.bl
  cn : nm.cn = Γ.cn.map (·.1)
  ec : nm.ec = Γ.ec
  hot : nm.hot = Γ.hot
  fno : nm.fno = Γ.fno.map (·.name)
  fnl : nm.fnl = Γ.fnl.map (·.name)
  tl : nm.tl = Γ.tl.map (·.1)
  lm : nm.lm = Γ.lm
def tlS : Option (Str × R PV) → List Sem1
  | some p => [fun _ => p.2]
  | none => []
abbrev fsOf (Γ : Gt) : List Sem1 := Γ.fns.map (·.sem) ++ (Γ.fno.map (·.sem) ++ (Γ.fnl.map (fun n => encL n.sem) ++ tlS Γ.tl))
/-! ### classes of errors -/
def clVV (cl : Nat → Addr) : Option Nat → V
  | none => .ty "ValueError"
  | some d => .ref (cl d)
theorem cls_v (cl : Nat → Addr) : ∀ d, ClsV (clVV cl d) (clV cl d)
  | none => .ty _
  | some d => .own _
theorem cls_vs (cl : Nat → Addr) : ∀ cs : List (Option Nat), Paired ClsV (cs.map (clVV cl)) (cs.map (clV cl))
  | [] => .nil
  | d :: ds => .cons (cls_v cl d) (cls_vs cl ds)
theorem callOr {X : Cx} {f : Value} {r1 r2 : List V → Hp → VK → Prop} (h1 : CallR X f r1) (h2 : CallR X f r2) : CallR X f (fun xs H Q => r1 xs H Q ∨ r2 xs H Q) :=
  fun pins s σ H xs us Q I r h => h.elim (h1 pins s σ H xs us Q I r) (h2 pins s σ H xs us Q I r)
theorem kit_any {K : PySem.W.Frag} {t : Value} {cl : Nat → Addr} (f : Option Nat → Bool) : ∀ cs : List (Option Nat), (∀ d ∈ cs, PySem.W.kitOne K t (clV cl d) = some (f d)) → PySem.W.kitAny K t (cs.map (clV cl)) = some (cs.any f)
  | [], _ => rfl
  | d :: ds, h => by
    have h1 := h d (List.mem_cons_self ..)
    have ih := kit_any f ds fun e he => h e (List.mem_cons_of_mem _ he)
    show PySem.W.kitAny K t (clV cl d :: ds.map (clV cl)) = _
    unfold PySem.W.kitAny
    rw [h1]
    cases e : f d with
    | true => simp [e]
    | false => simp [e, ih]
section
variable {N : List Str} {sc so : Scope} {W : WX} {X : Cx}
theorem pe_cl1 (o : XOk Γ N sc so W X) (hnm : nm.Of Γ) {d : Option Nat} {y : Str} {p : Pos} (h : mCl1 nm sc d y = true) : PE X (.Name y p) (tC (clVV Γ.cl d)) := by
  cases d with
  | some k =>
    simp only [mCl1, Bool.and_eq_true] at h
    have E := o.g.ec.ex (y, k) (by rw [← hnm.ec]; exact List.contains_iff_mem.mp h.1)
    exact pe_glob (o.gl h.2) E.gm rfl E.db
  | none =>
    simp only [mCl1, Bool.and_eq_true, decide_eq_true_eq] at h
    obtain ⟨⟨h1, h2⟩, h3⟩ := h
    subst h1
    exact pe_bltn (o.gl h3) (o.g.bl _ (by rw [← hnm.bl]; exact h2)) (show bootBuiltins "ValueError" = some (.type "ValueError") by decide +kernel) rfl (by decide +kernel) (by decide +kernel)
theorem pa_clN (o : XOk Γ N sc so W X) (hnm : nm.Of Γ) : ∀ {cs : List (Option Nat)} {es : List Expr}, mClN nm sc cs es = true → PA X es (fun _ H Q => Q (cs.map (clVV Γ.cl)) H)
  | [], [], _ => PA.weak pa_nil fun _ _ _ h => h
  | [], _ :: _, h => by simp [mClN] at h
  | d :: ds, [], h => by simp [mClN] at h
  | d :: ds, e :: es, h => by
    cases e with
    | Name y p =>
      simp only [mClN, Bool.and_eq_true] at h
      exact PA.weak (pa_cons (pe_cl1 o hnm h.1) (pa_clN o hnm h.2) rfl) fun _ _ _ q => q
    | _ => simp [mClN] at h
theorem pIsx_nx (cs : List (Option Nat)) (rs : List Nat) (x : PV) : pIsx cs rs x = .bad ∨ (x = .non ∧ pIsx cs rs x = .ok (.bl false)) ∨ ∃ c, x = .exc c ∧ rs.contains c = true ∧ pIsx cs rs x = .ok (.bl (cs.any (subX c))) := by
  cases x with
  | non => exact .inr (.inl ⟨rfl, rfl⟩)
  | exc c =>
    cases e : rs.contains c with
    | true => exact .inr (.inr ⟨c, rfl, e, by simp [pIsx, List.contains_iff_mem.mp e]⟩)
    | false =>
      refine .inl ?_
      show (if rs.contains c = true then _ else _) = _
      rw [e]
      rfl
  | _ => exact .inl rfl
theorem se_isx (o : XOk Γ N sc so W X) (hnm : nm.Of Γ) {cs : List (Option Nat)} {rs : List Nat} {e y : Expr} {p pos : Pos} {fa : Env → R PV} (hb : ("isinstance" : Str) ∈ Γ.bl) (hg : glb sc "isinstance" = true) (hm : mCls nm sc cs y = true) (hrs : rs = Γ.ec.rs)
    (hk : ∀ d ∈ cs, d ∈ Γ.ec.kn ∧ ∀ c ∈ Γ.ec.rs, (c, d) ∈ Γ.ec.kp) (ge : good e = true) (gy : good y = true) (ha : SE Γ W X .bor e fa) :
    SE Γ W X .esc (.Call (.Name "isinstance" p) [e, y] [] pos) (fun ρ => (fa ρ).bind fun x => pIsx cs rs x) := by
  have at_ : ∀ c, c ∈ Γ.ec.rs → ∀ {G : Hp} {v : V}, Rep X.K G (.exc c) v → ∃ a, v = .ref a ∧ G a = some (ExQ (Γ.cl c) a) := fun c hc {G v} r => by
    obtain ⟨a, C, e1, e2, e3⟩ := rep_exc.mp r
    have e4 := o.g.ec.ns c hc
    unfold clsIs at e2 e4
    rw [e2] at e4
    cases e4
    exact ⟨a, e1, e3⟩
  have fin : ∀ {G1 H1 G2 H2 : Hp} {Q : VK} {b : Bool}, Ext G1 H1 G2 H2 → (∀ v G' H', Ext G1 H1 G' H' → RepM .esc X.K H1 G' H' (.bl b) v → Q v H') → Q (.bl b) H2 := fun {G1 H1 G2 H2 Q b} ex k => k _ G2 H2 ex (show Rep X.K G2 _ _ from rep_bl')
  unfold mCls at hm
  split at hm
  · rename_i yn yp
    split at hm
    · rename_i d
      refine PE.weak (pe_callB (callOr call_isX1 call_isi) (o.gl hg) (o.g.bl _ hb) (by decide +kernel) (pa_cons ha (pa_cons (pe_cl1 o hnm hm) pa_nil rfl) (good_star ge _ _)) (by decide) (by decide) (good_star ge _ _)) fun σ H Q ⟨B, ρ, G, ow, q⟩ => ⟨B, ρ, G, ow, (PK_bind.mp q).imp (fun x k v G1 H1 e1 r1 => ?_) fun _ z => z⟩
      have hd := hk d (List.mem_cons_self ..)
      rcases pIsx_nx [d] rs x with e | ⟨rfl, e⟩ | ⟨c, rfl, hc, e⟩
      · rw [e] at k
        exact k.elim
      · rw [e] at k
        refine .inr ⟨v, _, .type "NoneType", _, false, rfl, cls_v Γ.cl d, ?_, o.g.ec.kn d hd.1, k _ G1 H1 e1 (show Rep X.K G1 _ _ from rep_bl')⟩
        rw [(show RepT X.K G1 H1 .non v from r1).non]
        exact .base .non
      · rw [e] at k
        have hc' : c ∈ Γ.ec.rs := by
          rw [← hrs]
          exact List.contains_iff_mem.mp hc
        obtain ⟨a, rfl, ga⟩ := at_ c hc' (show Rep X.K G1 (.exc c) v from r1)
        refine .inl ⟨a, _, _, _, _, rfl, e1.gh _ _ ga, o.g.ec.xc c hc', cls_v Γ.cl d, o.g.ec.kp (c, d) (hd.2 c hc'), k _ G1 H1 e1 (show Rep X.K G1 _ _ from ?_)⟩
        show Rep X.K G1 (.bl ([d].any (subX c))) (.bl (subX c d))
        rw [List.any_cons, List.any_nil, Bool.or_false]
        exact rep_bl'
    · cases hm
  · rename_i es kk tpos
    rw [Bool.and_eq_true, decide_eq_true_eq] at hm
    refine PE.weak (pe_callB (callOr call_isXT call_isiT) (o.gl hg) (o.g.bl _ hb) (by decide +kernel) (pa_cons ha (pa_cons (pe_tup (pa_clN o hnm hm.1)) pa_nil rfl) (good_star ge _ _)) (by decide) (by decide) (good_star ge _ _)) fun σ H Q ⟨B, ρ, G, ow, q⟩ => ⟨B, ρ, G, ow, (PK_bind.mp q).imp (fun x k v G1 H1 e1 r1 => ?_) fun _ z => z⟩
    refine ⟨by rw [List.length_map]; exact Nat.le_trans hm.2 lim_line, fun tp hp => ?_⟩
    have ex : Ext G1 H1 G1 (upd H1 tp (.tup (cs.map (clVV Γ.cl)))) := Ext.fresh e1.gh hp
    rcases pIsx_nx cs rs x with e | ⟨rfl, e⟩ | ⟨c, rfl, hc, e⟩
    · rw [e] at k
      exact k.elim
    · rw [e] at k
      refine .inr ⟨v, tp, _, .type "NoneType", _, false, rfl, upd_same, cls_vs Γ.cl cs, ?_, ?_, k _ G1 _ (e1.trans ex) (show Rep X.K G1 _ _ from rep_bl')⟩
      · rw [(show RepT X.K G1 H1 .non v from r1).non]
        exact .base .non
      · rw [kit_any (fun _ => false) cs fun d hd => o.g.ec.kn d (hk d hd).1]
        simp
    · rw [e] at k
      have hc' : c ∈ Γ.ec.rs := by
        rw [← hrs]
        exact List.contains_iff_mem.mp hc
      obtain ⟨a, rfl, ga⟩ := at_ c hc' (show Rep X.K G1 (.exc c) v from r1)
      have ha1 := e1.gh _ _ ga
      exact .inl ⟨a, _, tp, _, _, _, rfl, ex.hh.k _ _ ha1 (fun _ z => nomatch (show HO.ext _ = HO.tbl _ from z)), o.g.ec.xc c hc', upd_same, cls_vs Γ.cl cs, kit_any (subX c) cs fun d hd => o.g.ec.kp (c, d) ((hk d hd).2 c hc'), k _ G1 _ (e1.trans ex) (show Rep X.K G1 _ _ from rep_bl')⟩
  · cases hm
end
/-! ### a value of one of some builtin types -/
def isaB (t : Ty) (x : PV) : Bool := match pIsa t x with
  | .ok (.bl b) => b
  | _ => false
theorem pIsas_is (x : PV) : ∀ ts : List Ty, pIsas ts x = .bad ∨ ((∀ t ∈ ts, pIsa t x = .ok (.bl (isaB t x))) ∧ pIsas ts x = .ok (.bl (ts.any fun t => isaB t x)))
  | [] => .inr ⟨fun _ h => (nomatch h), rfl⟩
  | t :: ts => by
    rcases pIsa_is t x with e | ⟨b, e⟩
    · refine .inl ?_
      show (pIsa t x).bind _ = _
      rw [e]
      rfl
    · have eb : isaB t x = b := by
        unfold isaB
        rw [e]
      rcases pIsas_is x ts with e2 | ⟨h, e2⟩
      · refine .inl ?_
        show (pIsa t x).bind _ = _
        rw [e, R.bind_ok, e2]
        rfl
      · refine .inr ⟨fun u hu => ?_, ?_⟩
        · rcases List.mem_cons.mp hu with rfl | z
          · rw [eb]
            exact e
          · exact h u z
        · show (pIsa t x).bind _ = _
          rw [e, R.bind_ok, e2, R.bind_ok, List.any_cons, eb]
theorem kit_anyT {K : PySem.W.Frag} {t : Value} (f : Ty → Bool) : ∀ ts : List Ty, (∀ d ∈ ts, PySem.W.kitOne K t (.type (tyStr d)) = some (f d)) → PySem.W.kitAny K t (ts.map fun d => .type (tyStr d)) = some (ts.any f)
  | [], _ => rfl
  | d :: ds, h => by
    have h1 := h d (List.mem_cons_self ..)
    have ih := kit_anyT f ds fun e he => h e (List.mem_cons_of_mem _ he)
    show PySem.W.kitAny K t (.type (tyStr d) :: ds.map fun d => .type (tyStr d)) = _
    unfold PySem.W.kitAny
    rw [h1]
    cases e : f d with
    | true => simp [e]
    | false => simp [e, ih]
theorem cls_tys : ∀ ts : List Ty, Paired ClsV (ts.map fun t => V.ty (tyStr t)) (ts.map fun t => Value.type (tyStr t))
  | [] => .nil
  | _ :: ts => .cons (.ty _) (cls_tys ts)
section
variable {Γ : Gt} {nm : Nm} {N : List Str} {sc so : Scope} {W : WX} {X : Cx}
theorem pa_tyN (o : XOk Γ N sc so W X) (hnm : nm.bl = Γ.bl) : ∀ {ts : List Ty} {es : List Expr}, mTys nm sc ts es = true → PA X es (fun _ H Q => Q (ts.map fun t => V.ty (tyStr t)) H)
  | [], [], _ => PA.weak pa_nil fun _ _ _ h => h
  | [], _ :: _, h => by simp [mTys] at h
  | d :: ds, [], h => by simp [mTys] at h
  | d :: ds, e :: es, h => by
    cases e with
    | Name y p =>
      simp only [mTys, Bool.and_eq_true, decide_eq_true_eq] at h
      obtain ⟨⟨⟨h1, h2⟩, h3⟩, h4⟩ := h
      subst h1
      have pt : PE X (.Name (tyName d) p) (tC (.ty (tyStr d))) := pe_bltn (o.gl h3) (o.g.bl _ (by rw [← hnm]; exact h2)) (ty_boot d) rfl (ty_names d).1 (ty_names d).2
      exact PA.weak (pa_cons pt (pa_tyN o hnm h4) rfl) fun _ _ _ q => q
    | _ => simp [mTys] at h
theorem se_isas (o : XOk Γ N sc so W X) (hnm : nm.bl = Γ.bl) {ts : List Ty} {e : Expr} {fs : List Expr} {p pos tpos : Pos} {kk : Nat} {fa : Env → R PV} (hb : ("isinstance" : Str) ∈ Γ.bl) (hg : glb sc "isinstance" = true) (hm : mTys nm sc ts fs = true) (h0 : ts ≠ []) (hl : ts.length ≤ LIM)
    (ge : good e = true) (ha : SE Γ W X .bor e fa) : SE Γ W X .esc (.Call (.Name "isinstance" p) [e, .Tuple fs kk tpos] [] pos) (fun ρ => (fa ρ).bind fun x => pIsas ts x) := by
  refine PE.weak (pe_callB call_isiT (o.gl hg) (o.g.bl _ hb) (by decide +kernel) (pa_cons ha (pa_cons (pe_tup (pa_tyN o hnm hm)) pa_nil rfl) (good_star ge _ _)) (by decide) (by decide) (good_star ge _ _)) fun σ H Q ⟨B, ρ, G, ow, q⟩ => ⟨B, ρ, G, ow, (PK_bind.mp q).imp (fun x k v G1 H1 e1 r1 => ?_) fun _ z => z⟩
  refine ⟨by rw [List.length_map]; exact Nat.le_trans hl lim_line, fun tp hp => ?_⟩
  have ex : Ext G1 H1 G1 (upd H1 tp (.tup (ts.map fun t => V.ty (tyStr t)))) := Ext.fresh e1.gh hp
  rcases pIsas_is x ts with e | ⟨h, e⟩
  · rw [e] at k
    exact k.elim
  · rw [e] at k
    obtain ⟨t0, ht0⟩ := List.exists_mem_of_ne_nil _ h0
    have q0 := h t0 ht0
    refine ⟨v, tp, _, .type (kindStr x), _, ts.any fun t => isaB t x, rfl, upd_same, cls_tys ts, tyX_of (e1.gh.trans (same_upd hp)) (RepT.mono (Same.refl _) ex.hh r1) (fun z ez => ?_) (fun z ez => ?_), kit_anyT (fun t => isaB t x) ts fun d hd => kit_ty (isa_kit (h d hd)), k _ G1 _ (e1.trans ex) (show Rep X.K G1 _ _ from rep_bl')⟩
    · subst ez
      cases t0 <;> cases q0
    · subst ez
      cases t0 <;> cases q0
/-! ### an owned list that stands still while a flat value is told -/
theorem Ext.unloc {G H G2 H2 : Hp} {a : Addr} {u : HO} (h1 : H a = some u) (h2 : G a = none) (e : Ext (upd G a u) H G2 H2) : Ext G H (del G2 a) H2 := by
  refine ⟨e.hh, fun b x q => ?_, fun b x q => ?_, fun b ps q => ?_⟩
  · unfold del at q
    split at q
    · cases q
    · exact e.gh b x q
  · unfold del
    split
    · rename_i hb
      rw [hb, h2]
    · rename_i hb
      rw [e.old b x q, upd_ne hb]
  · unfold del at q
    split at q
    · cases q
    · rename_i hb
      have := e.nt b ps q
      rwa [upd_ne hb] at this
theorem se_loc {i : Nat} {e : Expr} {f : Env → R PV} (h : SE Γ W X .esc e f) : SE Γ W X .esc e (fun ρ => match ρ[i]? with
    | some (.ow xs) => (f (ρ.set i (.sh (.lst xs)))).bind fun x => if flat x then .ok x else .bad
    | _ => .bad) := by
  refine PE.weak h fun σ H Q ⟨B, ρ, G, ow, q⟩ => ?_
  dsimp only at q
  split at q
  · rename_i xs hx
    obtain ⟨a, vs, h1, h2, o'⟩ := ow.freezeE hx
    refine ⟨B, _, _, o', (PK_bind.mp q).imp (fun x k v G1 H1 e1 r1 => ?_) fun c z G1 H1 e1 => z _ H1 (e1.unloc h1 h2)⟩
    by_cases hf : flat x = true
    · rw [if_pos hf] at k
      exact k v _ H1 (e1.unloc h1 h2) (show Rep X.K _ x v from Rep.flat_any (show Rep X.K G1 x v from r1) hf)
    · rw [if_neg hf] at k
      exact k.elim
  · exact q.elim
theorem st_loc {i : Nat} {e : Expr} {f : Env → R PV} (h : ST Γ W X e f) : ST Γ W X e (fun ρ => match ρ[i]? with
    | some (.ow xs) => (f (ρ.set i (.sh (.lst xs)))).bind fun x => if flat x then .ok x else .bad
    | _ => .bad) := by
  refine PT.weak h fun σ H Q ⟨B, ρ, G, ow, q⟩ => ?_
  dsimp only at q
  split at q
  · rename_i xs hx
    obtain ⟨a, vs, h1, h2, o'⟩ := ow.freezeE hx
    refine ⟨B, _, _, o', (PK_bind.mp q).imp (fun x k => ?_) fun c z G1 H1 e1 => z _ H1 (e1.unloc h1 h2)⟩
    by_cases hf : flat x = true
    · rw [if_pos hf] at k
      obtain ⟨b, eb, k⟩ := k
      exact ⟨b, eb, fun G1 H1 e1 => k _ H1 (e1.unloc h1 h2)⟩
    · rw [if_neg hf] at k
      exact k.elim
  · exact q.elim
end
theorem fn_at' (h : nm.fn = Γ.fns.map fun n => (n.name, n.fr)) {k : Nat} {p : Str × Bool} (e : nm.fn[k]? = some p) : ∃ n, n ∈ Γ.fns ∧ n.name = p.1 ∧ n.fr = p.2 ∧ (fsOf Γ).getD k (fun _ => .bad) = n.sem := by
  rw [h, List.getElem?_map] at e
  cases q : Γ.fns[k]? with
  | none => rw [q] at e; cases e
  | some n =>
    rw [q] at e
    cases e
    exact ⟨n, List.mem_of_getElem? q, rfl, rfl, by rw [List.getD_eq_getElem?_getD, List.getElem?_append_left (by rw [List.length_map]; exact (List.getElem?_eq_some_iff.mp q).1), List.getElem?_map, q]; rfl⟩
theorem fn_at (h : nm.Of Γ) {k : Nat} {p : Str × Bool} (e : nm.fn[k]? = some p) : ∃ n, n ∈ Γ.fns ∧ n.name = p.1 ∧ n.fr = p.2 ∧ (fsOf Γ).getD k (fun _ => .bad) = n.sem := fn_at' h.fn e
theorem fnl_at (h : nm.Of Γ) {k : Nat} {x : Str} (hk : nm.fn.length + nm.fno.length ≤ k) (e : nm.fnl[k - (nm.fn.length + nm.fno.length)]? = some x) : ∃ n, n ∈ Γ.fnl ∧ n.name = x ∧ (fsOf Γ).getD k (fun _ => .bad) = encL n.sem := by
  have l1 : nm.fn.length = Γ.fns.length := by rw [h.fn, List.length_map]
  have l2 : nm.fno.length = Γ.fno.length := by rw [h.fno, List.length_map]
  rw [h.fnl, List.getElem?_map] at e
  cases q : Γ.fnl[k - (nm.fn.length + nm.fno.length)]? with
  | none => rw [q] at e; cases e
  | some n =>
    rw [q] at e
    cases e
    refine ⟨n, List.mem_of_getElem? q, rfl, ?_⟩
    rw [l1, l2] at q hk
    have lt := (List.getElem?_eq_some_iff.mp q).1
    rw [List.getD_eq_getElem?_getD, List.getElem?_append_right (by rw [List.length_map]; omega), List.getElem?_append_right (by rw [List.length_map, List.length_map]; omega), List.length_map, List.length_map, show k - Γ.fns.length - Γ.fno.length = k - (Γ.fns.length + Γ.fno.length) by omega,
      List.getElem?_append_left (by rw [List.length_map]; exact lt), List.getElem?_map, q]
    rfl
theorem tl_at (h : nm.Of Γ) {k : Nat} {a : Str} (hk : k = nm.fn.length + nm.fno.length + nm.fnl.length) (e : nm.tl = some a) : ∃ r, Γ.tl = some (a, r) ∧ (fsOf Γ).getD k (fun _ => .bad) = fun _ => r := by
  have l1 : nm.fn.length = Γ.fns.length := by rw [h.fn, List.length_map]
  have l2 : nm.fno.length = Γ.fno.length := by rw [h.fno, List.length_map]
  have l3 : nm.fnl.length = Γ.fnl.length := by rw [h.fnl, List.length_map]
  rw [h.tl] at e
  cases q : Γ.tl with
  | none => rw [q] at e; cases e
  | some p =>
    rw [q] at e
    cases e
    refine ⟨p.2, rfl, ?_⟩
    rw [l1, l2, l3] at hk
    subst hk
    rw [List.getD_eq_getElem?_getD, List.getElem?_append_right (by rw [List.length_map]; omega), List.getElem?_append_right (by rw [List.length_map, List.length_map]; omega), List.getElem?_append_right (by rw [List.length_map, List.length_map, List.length_map]; omega), List.length_map, List.length_map, List.length_map,
      show Γ.fns.length + Γ.fno.length + Γ.fnl.length - Γ.fns.length - Γ.fno.length - Γ.fnl.length = 0 by omega, q]
    rfl
theorem fno_at (h : nm.Of Γ) {k : Nat} {x : Str} (hk : nm.fn.length ≤ k) (e : nm.fno[k - nm.fn.length]? = some x) : ∃ n, n ∈ Γ.fno ∧ n.name = x ∧ (fsOf Γ).getD k (fun _ => .bad) = n.sem := by
  have hl : nm.fn.length = Γ.fns.length := by rw [h.fn, List.length_map]
  rw [h.fno, List.getElem?_map] at e
  cases q : Γ.fno[k - nm.fn.length]? with
  | none => rw [q] at e; cases e
  | some n =>
    rw [q] at e
    cases e
    refine ⟨n, List.mem_of_getElem? q, rfl, ?_⟩
    rw [hl] at q hk
    rw [List.getD_eq_getElem?_getD, List.getElem?_append_right (by rw [List.length_map]; exact hk), List.length_map, List.getElem?_append_left (by rw [List.length_map]; exact (List.getElem?_eq_some_iff.mp q).1), List.getElem?_map, q]
    rfl
theorem cn_at (h : nm.Of Γ) {k : Nat} {x : Str} (e : nm.cn[k]? = some x) : ∃ v, Γ.cn[k]? = some (x, v) ∧ (Γ.cn.map (·.2))[k]? = some v := by
  rw [h.cn, List.getElem?_map] at e
  cases q : Γ.cn[k]? with
  | none => rw [q] at e; cases e
  | some p =>
    rw [q] at e
    cases e
    exact ⟨p.2, rfl, by rw [List.getElem?_map, q]; rfl⟩
theorem own_names {N : List Str} : ∀ tg : List Nat, (tg.map fun j => (N.getD j ("" : Str), j)).map (·.2) = tg
  | [] => rfl
  | i :: is => by
    rw [List.map_cons, List.map_cons, own_names is]
abbrev csOf (Γ : Gt) : List PV := Γ.cn.map (·.2)
/-! ### lambdas -/
section
variable {N : List Str} {sc so : Scope} {W : WX} {X : Cx}
mutual
theorem sL {nm : Nm} {Γ : Gt} (hf : nm.fn = Γ.fns.map fun n => (n.name, n.fr)) (hh : Γ.hot = false) {sc so : Scope} {W : WX} {X : Cx} (o : XOk Γ nm.N sc so W X) : ∀ (x : PX) (e : Expr), mL nm sc x e = true → SE Γ W X .esc e (evE (fsOf Γ) (csOf Γ) x) ∧ good e = true
  | .var i, e, h => by
    unfold mL at h
    split at h
    all_goals first
      | (exact absurd h Bool.false_ne_true)
      | (rename_i q; cases q; done)
      | (rename_i q; cases q)
    simp only [Bool.and_eq_true, decide_eq_true_eq] at h
    exact ⟨se_var o h.1 h.2, rfl⟩
  | .call k es, e, h => by
    unfold mL at h
    split at h
    all_goals first
      | (exact absurd h Bool.false_ne_true)
      | (rename_i q; cases q; done)
      | (rename_i q; cases q)
    simp only [Bool.and_eq_true, Bool.not_eq_true'] at h
    obtain ⟨⟨⟨h1, h2⟩, h3⟩, h4⟩ := h
    split at h1
    · rename_i p hp
      rw [decide_eq_true_eq] at h1
      obtain ⟨n, hn, nn, nf, ns⟩ := fn_at' hf hp
      have ex : n.name = _ := nn.trans h1
      subst ex
      have e1 : evE (fsOf Γ) (csOf Γ) (.call k es) = fun ρ => (evEs (fsOf Γ) (csOf Γ) es ρ).bind fun xs => n.sem xs := by
        funext ρ
        simp only [evE, h4, Bool.false_eq_true, if_false]
        rw [← ns]
      obtain ⟨s1, s2⟩ := sLs hf hh o es _ h3
      refine ⟨?_, rfl⟩
      rw [e1]
      cases hfr : n.fr
      · have := fun p pos => se_call (p := p) (pos := pos) o hh hn s2 h2 s1
        simp only [hfr] at this
        exact this _ _
      · have := fun p pos => se_call (p := p) (pos := pos) o hh hn s2 h2 s1
        simp only [hfr] at this
        exact (this _ _).esc_of
    · cases h1
  | .bvar _, e, h => by simp [mL] at h
  | .non, e, h => by simp [mL] at h
  | .bl _, e, h => by simp [mL] at h
  | .int _, e, h => by simp [mL] at h
  | .str _, e, h => by simp [mL] at h
  | .con _, e, h => by simp [mL] at h
  | .bin _ _ _, e, h => by simp [mL] at h
  | .neg _, e, h => by simp [mL] at h
  | .cmp _ _ _, e, h => by simp [mL] at h
  | .chain _ _ _ _ _, e, h => by simp [mL] at h
  | .and _ _, e, h => by simp [mL] at h
  | .or _ _, e, h => by simp [mL] at h
  | .not _, e, h => by simp [mL] at h
  | .ife _ _ _, e, h => by simp [mL] at h
  | .tup _, e, h => by simp [mL] at h
  | .lst _, e, h => by simp [mL] at h
  | .ix _ _, e, h => by simp [mL] at h
  | .sl _ _ _, e, h => by simp [mL] at h
  | .bi _ _, e, h => by simp [mL] at h
  | .isa _ _, e, h => by simp [mL] at h
  | .comp _ _ _ _ _, e, h => by simp [mL] at h
  | .isx _ _ _, e, h => by simp [mL] at h
  | .dic _, e, h => by simp [mL] at h
  | .call0 _, e, h => by simp [mL] at h
  | .lrg _, e, h => by simp [mL] at h
  | .lzip _ _, e, h => by simp [mL] at h
  | .isas _ _, e, h => by simp [mL] at h
  | .loc _ _, e, h => by simp [mL] at h
  | .lam _ _, e, h => by simp [mL] at h
theorem sLs {nm : Nm} {Γ : Gt} (hf : nm.fn = Γ.fns.map fun n => (n.name, n.fr)) (hh : Γ.hot = false) {sc so : Scope} {W : WX} {X : Cx} (o : XOk Γ nm.N sc so W X) : ∀ (xs : PXs) (es : List Expr), mLs nm sc xs es = true → SAE Γ W X es (evEs (fsOf Γ) (csOf Γ) xs) ∧ es.all good = true
  | .nil, [], _ => by
    have e1 : evEs (fsOf Γ) (csOf Γ) .nil = fun _ => .ok [] := by
      funext ρ
      simp only [evEs]
    rw [e1]
    exact ⟨sae_nil, rfl⟩
  | .nil, _ :: _, h => by simp [mLs] at h
  | .cons _ _, [], h => by simp [mLs] at h
  | .cons x xs, e :: es, h => by
    simp only [mLs, Bool.and_eq_true] at h
    obtain ⟨a1, a2⟩ := sL hf hh o x e h.1
    obtain ⟨b1, b2⟩ := sLs hf hh o xs es h.2
    have e1 : evEs (fsOf Γ) (csOf Γ) (.cons x xs) = fun ρ => (evE (fsOf Γ) (csOf Γ) x ρ).bind fun v => (evEs (fsOf Γ) (csOf Γ) xs ρ).bind fun vs => .ok (v :: vs) := by
      funext ρ
      simp only [evEs]
    rw [e1]
    exact ⟨sae_cons a2 a1 b1, by rw [List.all_cons, a2, b2]; rfl⟩
end
theorem acts_mono {P : Program} {w : World} {K : PySem.W.Frag} {mg : Str → Option Value} {base : Heap} {A : Around} {stack : List PySem.Env} {s : Shared} {H : Hp} {x : Str} {sg : Scope} {g : Addr} {cdg : Value} {a : Str} {f c1 : Addr} {q : Str} {tl tl' : XK → Hp → VK → Prop}
    (h : Acts P w K mg base A stack s H N x sg g cdg a f c1 q tl) (w' : ∀ E H Q, tl' E H Q → tl E H Q) : Acts P w K mg base A stack s H N x sg g cdg a f c1 q tl' := fun W pn xe p1 p2 tk => PE.weak (h W pn xe p1 p2 tk) fun σ H Q ⟨h1, h2, h3⟩ => ⟨h1, h2, w' _ _ _ h3⟩
theorem se_lam (o : XOk Γ N sc so W X) (hl : Γ.lm = true) (hh : Γ.hot = false) {n : FnL} (hn : n ∈ Γ.fnl) (hg : glb sc n.name = true) {params : Arguments} {body : Expr} {scope : Scope} (L : LamX.LamS sc scope) (np : noPar params = true) {f : Env → R PV} {p lpos pos : Pos}
    (hb : ∀ (W' : WX) (X' : Cx), X'.K = X.K → XOk { Γ with k := Γ.k - 2, lm := false } N scope scope W' X' → SE { Γ with k := Γ.k - 2, lm := false } W' X' .esc body f) :
    SE Γ W X .esc (.Call (.Name n.name p) [.Lambda params body scope lpos] [] pos) (fun ρ => lamR (encL n.sem) (f ρ)) := by
  obtain ⟨two, fl, lo, c, P, TB, ec, mT, uq⟩ := o.la hl hh
  have F := fl n hn
  obtain ⟨st, fd, Ng, a, F1, Sg, hbd, hN, hv, d1, d2, body_⟩ := F.ex
  have LX : LamX.LamS X.env.scope scope := by
    rw [o.hsc]
    exact L
  have np' : params = ⟨[], [], none, [], [], none, []⟩ := by
    unfold noPar at np
    split at np
    · rfl
    · cases np
  subst np'
  refine PE.weak (call_lam (k := Γ.k - 2) (t := fun E => rdE { Γ with k := Γ.k - 2, lm := false } (fun cls d _ H => E cls d H) X.K .esc f)
    (TT := fun tl H Q => ∃ (G : Hp) (r : R PV), Same G H ∧ Clean G H ∧ (∀ E H1 Q', tlR X.K Γ.cl r G H E H1 Q' → tl E H1 Q') ∧ PK (n.sem r) (fun x => ∀ v G' H', Ext G H G' H' → Rep X.K G' x v → Q v H') (fun _ => False))
    (o.gl hg) F.gm F1 Sg hbd hN hv (fun cdv s H Q f' c1 tl hr hc act ht => ?_) TB ec mT uq (by rw [show Γ.k - 2 + 2 = Γ.k by omega]; exact o.room hh) LX rfl (fun _ _ _ _ _ => rfl) (fun A outer s H E f' c1 hr => ?_) F.db d1 d2) fun σ H Q ⟨B, ρ, G, ow, q⟩ => ⟨ow.cl.tb, fun H1 sT => ?_⟩
  · obtain ⟨G, r, sG, cG, ht, hk⟩ := ht
    exact body_ cdv X.A X.stack s G H Q r f' c1 _ hr sG cG hc (acts_mono act ht) hk
  · refine hb _ _ rfl ?_
    refine ⟨lo, o.hN, o.nd, o.db, rfl, LX.kind, fun _ => rfl, fun x hx => ?_, fun _ => hr, hr.units, fun _ => takes_of rfl rfl rfl rfl, fun z => nomatch z⟩
    unfold loc at hx
    split at hx
    · rename_i q
      exact absurd rfl (LX.own _ (PySem.mem_of_lookup q)).1
    · rename_i q
      exact absurd rfl (LX.own _ (PySem.mem_of_lookup q)).2
    · cases hx
  · have sG : Same G H1 := fun b u hb' => sT.k _ _ (ow.gh _ _ hb') fun ps z => ow.cl.nt b ps (by rw [hb', z])
    have e0 : Ext G H G H1 := ⟨sT, sG, fun _ _ _ => rfl, fun _ _ h => h⟩
    have q : PK (lamR (encL n.sem) (f ρ)) _ _ := q
    have fin : ∀ r, r ≠ .bad → lamR (encL n.sem) r = n.sem r := fun r hr => by
      cases r <;> first | rfl | (exact absurd rfl hr)
    have nb : f ρ ≠ .bad := fun z => by
      rw [z] at q
      exact q
    rw [fin _ nb] at q
    refine ⟨G, f ρ, sG, e0.clean ow.cl, fun E H2 Q' ⟨G1, e1, h1⟩ => ⟨B, ρ, G1, ow.step (e0.trans e1), h1.imp (fun x k v G' H' e r => k v G' H' e r) fun c k G' H' e => k G' H' e⟩, ?_⟩
    cases e : n.sem (f ρ) with
    | bad => rw [e] at q; exact q
    | exn c => exact absurd e (F.nx _ _)
    | ok x =>
      rw [e] at q
      exact fun v G' H' e2 r => q v G' H' (e0.trans e2) r
end
mutual
theorem sE (hnm : nm.Of Γ) : ∀ (x : PX) (e : Expr) {sc so : Scope} {W : WX} {X : Cx}, XOk Γ nm.N sc so W X → mE nm sc so x e = true → Snd Γ nm W X (fsOf Γ) (csOf Γ) x e
  | .var i, e, sc, so, W, X, o, h => by
    unfold mE at h
    split at h
    all_goals first
      | (exact absurd h Bool.false_ne_true)
      | (rename_i q; cases q; done)
      | (rename_i q; cases q)
    simp only [Bool.and_eq_true, decide_eq_true_eq] at h
    exact Snd.ofEscV (se_var o h.1 h.2) rfl rfl (fun _ => rfl)
  | .bvar i, e, sc, so, W, X, o, h => by
    unfold mE at h
    split at h
    all_goals first
      | (exact absurd h Bool.false_ne_true)
      | (rename_i q; cases q; done)
      | (rename_i q; cases q)
    simp only [Bool.and_eq_true, decide_eq_true_eq] at h
    exact ⟨(fun q => nomatch q), se_bvar o h.1 h.2, (fun q => nomatch q), (fun q => nomatch q), (fun q => nomatch q)⟩
  | .non, e, sc, so, W, X, o, h => by
    unfold mE at h
    split at h
    all_goals first
      | (exact absurd h Bool.false_ne_true)
      | (rename_i q; cases q; done)
      | (rename_i q; cases q)
    exact Snd.ofEscV se_non rfl rfl (fun _ => rfl)
  | .bl b, e, sc, so, W, X, o, h => by
    unfold mE at h
    split at h
    all_goals first
      | (exact absurd h Bool.false_ne_true)
      | (rename_i q; cases q; done)
      | (rename_i q; cases q)
    simp only [beq_iff_eq] at h
    subst h
    exact Snd.ofEscV se_bl rfl rfl (fun _ => rfl)
  | .int i, e, sc, so, W, X, o, h => by
    unfold mE at h
    split at h
    all_goals first
      | (exact absurd h Bool.false_ne_true)
      | (rename_i q; cases q; done)
      | (rename_i q; cases q)
    simp only [decide_eq_true_eq] at h
    subst h
    exact Snd.ofEscV se_int rfl rfl (fun _ => rfl)
  | .str s, e, sc, so, W, X, o, h => by
    unfold mE at h
    split at h
    all_goals first
      | (exact absurd h Bool.false_ne_true)
      | (rename_i q; cases q; done)
      | (rename_i q; cases q)
    simp only [decide_eq_true_eq] at h
    subst h
    exact Snd.ofEscV se_str rfl rfl (fun _ => rfl)
  | .con k, e, sc, so, W, X, o, h => by
    unfold mE at h
    split at h
    all_goals first
      | (exact absurd h Bool.false_ne_true)
      | (rename_i q; cases q; done)
      | (rename_i q; cases q)
    simp only [Bool.and_eq_true, decide_eq_true_eq] at h
    obtain ⟨v, hv, hc⟩ := cn_at hnm h.1
    have e1 : evE (fsOf Γ) (csOf Γ) (.con k) = fun _ => .ok v := by
      funext ρ
      simp only [evE, hc]
    refine Snd.ofEscV ?_ rfl rfl (fun _ => rfl)
    rw [e1]
    exact se_con o hv h.2
  | .bin op a b, e, sc, so, W, X, o, h => by
    unfold mE at h
    split at h
    all_goals first
      | (exact absurd h Bool.false_ne_true)
      | (rename_i q; cases q; done)
      | (rename_i q; cases q)
    simp only [Bool.and_eq_true, decide_eq_true_eq] at h
    have eo := opB_eq h.1.1
    subst eo
    have ha := sE hnm a _ o h.1.2
    have hb := sE hnm b _ o h.2
    have e1 : evE (fsOf Γ) (csOf Γ) (.bin op a b) = fun ρ => (evE (fsOf Γ) (csOf Γ) a ρ).bind fun x => (evE (fsOf Γ) (csOf Γ) b ρ).bind fun y => pBin op x y := by
      funext ρ
      simp only [evE]
    refine Snd.ofFre ?_ rfl (fun q => nomatch q)
    rw [e1]
    exact se_bin ha.bor hb.bor
  | .neg a, e, sc, so, W, X, o, h => by
    unfold mE at h
    split at h
    all_goals first
      | (exact absurd h Bool.false_ne_true)
      | (rename_i q; cases q; done)
      | (rename_i q; cases q)
    have ha := sE hnm a _ o h
    have e1 : evE (fsOf Γ) (csOf Γ) (.neg a) = fun ρ => (evE (fsOf Γ) (csOf Γ) a ρ).bind pNeg := by
      funext ρ
      simp only [evE]
    refine Snd.ofEsc' ?_ rfl rfl rfl
    rw [e1]
    exact se_neg ha.bor
  | .not a, e, sc, so, W, X, o, h => by
    unfold mE at h
    split at h
    all_goals first
      | (exact absurd h Bool.false_ne_true)
      | (rename_i q; cases q; done)
      | (rename_i q; cases q)
    simp only [Bool.and_eq_true, Bool.not_eq_true'] at h
    have ha := sE hnm a _ o h.1.1
    have e1 : evE (fsOf Γ) (csOf Γ) (.not a) = fun ρ => (evE (fsOf Γ) (csOf Γ) a ρ).bind pNot := by
      funext ρ
      simp only [evE]
    refine Snd.ofEsc ?_ rfl rfl ?_
    · rw [e1]
      exact se_not (ha.esc h.1.2)
    · rw [e1]
      exact st_not (ha.tst h.2)
  | .cmp op a b, e, sc, so, W, X, o, h => by
    unfold mE at h
    split at h
    all_goals first
      | (exact absurd h Bool.false_ne_true)
      | (rename_i q; cases q; done)
      | (rename_i q; cases q)
    simp only [Bool.and_eq_true, decide_eq_true_eq, Bool.or_eq_true, Bool.not_eq_true'] at h
    have eo := opC_eq h.1.1.1
    subst eo
    have ha := sE hnm a _ o h.1.1.2
    have hb := sE hnm b _ o h.1.2
    have e1 : evE (fsOf Γ) (csOf Γ) (.cmp op a b) = fun ρ => (evE (fsOf Γ) (csOf Γ) a ρ).bind fun x => (evE (fsOf Γ) (csOf Γ) b ρ).bind fun y => pCmp op x y := by
      funext ρ
      simp only [evE]
    refine Snd.ofFre ?_ rfl fun _ => ?_
    · rw [e1]
      exact (se_cmp o (good_mE h.1.2) ha.bor hb.bor).1
    · rw [e1]
      exact (se_cmp o (good_mE h.1.2) ha.bor hb.bor).2
  | .chain p q' a b c, e, sc, so, W, X, o, h => by
    unfold mE at h
    split at h
    all_goals first
      | (exact absurd h Bool.false_ne_true)
      | (rename_i q; cases q; done)
      | (rename_i q; cases q)
    simp only [Bool.and_eq_true, decide_eq_true_eq, Bool.not_eq_true'] at h
    obtain ⟨⟨⟨⟨⟨⟨h1, h2⟩, h3⟩, h4⟩, h5⟩, h6⟩, h7⟩ := h
    have eo := opC_eq h1
    subst eo
    have eo := opC_eq h2
    subst eo
    have ha := sE hnm a _ o h3
    have hb := sE hnm b _ o h4
    have hc := sE hnm c _ o h5
    have ni : ∀ {z : COp}, z.isIs = false → z ≠ .isN ∧ z ≠ .notN := fun {z} hz => ⟨fun e => (by subst e; cases hz), fun e => (by subst e; cases hz)⟩
    have key : ∀ ρ, evE (fsOf Γ) (csOf Γ) (.chain p q' a b c) ρ = ((evE (fsOf Γ) (csOf Γ) a ρ).bind fun x => (evE (fsOf Γ) (csOf Γ) b ρ).bind fun y => (pCmp p x y).bind fun r => match r with
          | .bl true => (evE (fsOf Γ) (csOf Γ) c ρ).bind fun z => pCmp q' y z
          | .bl false => .ok (.bl false)
          | _ => .bad) := fun ρ => by
      simp only [evE]
      all_goals rfl
    exact Snd.ofFre (se_chain o (good_mE h5) ha.bor hb.bor hc.bor (ni h6) (ni h7) key).1 rfl fun _ => (se_chain o (good_mE h5) ha.bor hb.bor hc.bor (ni h6) (ni h7) key).2
  | .and a b, e, sc, so, W, X, o, h => by
    unfold mE at h
    split at h
    all_goals first
      | (exact absurd h Bool.false_ne_true)
      | (rename_i q; cases q; done)
      | (rename_i q; cases q)
    simp only [Bool.and_eq_true, Bool.not_eq_true'] at h
    obtain ⟨⟨h1, h2⟩, h3⟩ := h
    have ha := sE hnm a _ o h1
    have key : ∀ ρ, evE (fsOf Γ) (csOf Γ) (.and a b) ρ = (evE (fsOf Γ) (csOf Γ) a ρ).bind fun x => match x with
        | .bl true => evE (fsOf Γ) (csOf Γ) b ρ
        | .bl false => .ok (.bl false)
        | _ => .bad := fun ρ => by
      simp only [evE]
      all_goals rfl
    split at h3
    · simp only [Bool.and_eq_true, Bool.not_eq_true'] at h3
      have hb := sE hnm b _ o h3.1
      refine Snd.ofSW (se_and key (ha.esc h2) (se_one (hb.esc h3.2))) rfl fun q => ?_
      have q : (a.isT && b.isT) = true := q
      rw [Bool.and_eq_true] at q
      exact sw_and key (ha.tst q.1) (sw_and1 (hb.tst q.2))
    · simp only [Bool.and_eq_true, Bool.not_eq_true'] at h3
      have hb := sE hnm b _ o h3.1
      refine Snd.ofSW (se_and key (ha.esc h2) (hb.esc h3.2)) rfl fun q => ?_
      have q : (a.isT && b.isT) = true := q
      rw [Bool.and_eq_true] at q
      exact sw_and key (ha.tst q.1) (hb.tsw q.2 _ _ _ rfl)
  | .or a b, e, sc, so, W, X, o, h => by
    unfold mE at h
    split at h
    all_goals first
      | (exact absurd h Bool.false_ne_true)
      | (rename_i q; cases q; done)
      | (rename_i q; cases q)
    simp only [Bool.and_eq_true, Bool.not_eq_true'] at h
    obtain ⟨⟨h1, h2⟩, h3⟩ := h
    have ha := sE hnm a _ o h1
    have key : ∀ ρ, evE (fsOf Γ) (csOf Γ) (.or a b) ρ = (evE (fsOf Γ) (csOf Γ) a ρ).bind fun x => match x with
        | .bl true => .ok (.bl true)
        | .bl false => evE (fsOf Γ) (csOf Γ) b ρ
        | _ => .bad := fun ρ => by
      simp only [evE]
      all_goals rfl
    split at h3
    · simp only [Bool.and_eq_true, Bool.not_eq_true'] at h3
      have hb := sE hnm b _ o h3.1
      refine Snd.ofSW (se_or key (ha.esc h2) (se_one (hb.esc h3.2))) rfl fun q => ?_
      have q : (a.isT && b.isT) = true := q
      rw [Bool.and_eq_true] at q
      exact sw_or key (ha.tst q.1) (sw_or1 (hb.tst q.2))
    · simp only [Bool.and_eq_true, Bool.not_eq_true'] at h3
      have hb := sE hnm b _ o h3.1
      refine Snd.ofSW (se_or key (ha.esc h2) (hb.esc h3.2)) rfl fun q => ?_
      have q : (a.isT && b.isT) = true := q
      rw [Bool.and_eq_true] at q
      exact sw_or key (ha.tst q.1) (hb.tsw q.2 _ _ _ rfl)
  | .ife c a b, e, sc, so, W, X, o, h => by
    unfold mE at h
    split at h
    all_goals first
      | (exact absurd h Bool.false_ne_true)
      | (rename_i q; cases q; done)
      | (rename_i q; cases q)
    simp only [Bool.and_eq_true, Bool.not_eq_true'] at h
    obtain ⟨⟨⟨⟨⟨h1, h2⟩, h3⟩, h4⟩, h5⟩, h6⟩ := h
    have hc := sE hnm c _ o h1
    have ha := sE hnm a _ o h2
    have hb := sE hnm b _ o h3
    refine Snd.ofEsc' (se_ife (fun ρ => ?_) (hc.tst h4) (ha.esc h5) (hb.esc h6)) rfl rfl rfl
    simp only [evE]
    all_goals rfl
  | .tup es, e, sc, so, W, X, o, h => by
    unfold mE at h
    split at h
    all_goals first
      | (exact absurd h Bool.false_ne_true)
      | (rename_i q; cases q; done)
      | (rename_i q; cases q)
    simp only [Bool.and_eq_true, Bool.not_eq_true', decide_eq_true_eq] at h
    have ha := sA hnm es _ o h.1.1
    have gl := (good_mEs h.1.1).2
    have e1 : evE (fsOf Γ) (csOf Γ) (.tup es) = fun ρ => (evEs (fsOf Γ) (csOf Γ) es ρ).bind fun xs => .ok (.tup xs) := by
      funext ρ
      simp only [evE]
    refine Snd.ofEsc' ?_ rfl rfl rfl
    rw [e1]
    exact se_tup (by rw [gl]; exact h.2) (fun ρ xs q => by rw [gl]; exact len_evEs q) (ha.esc h.1.2)
  | .lst es, e, sc, so, W, X, o, h => by
    unfold mE at h
    split at h
    all_goals first
      | (exact absurd h Bool.false_ne_true)
      | (rename_i q; cases q; done)
      | (rename_i q; cases q)
    simp only [Bool.and_eq_true, Bool.not_eq_true', decide_eq_true_eq] at h
    have ha := sA hnm es _ o h.1.1
    have gl := (good_mEs h.1.1).2
    have e1 : evE (fsOf Γ) (csOf Γ) (.lst es) = fun ρ => (evEs (fsOf Γ) (csOf Γ) es ρ).bind fun xs => .ok (.lst xs) := by
      funext ρ
      simp only [evE]
    refine Snd.ofFre ?_ rfl (fun q => nomatch q)
    rw [e1]
    exact se_lst (by rw [gl]; exact h.2) (fun ρ xs q => by rw [gl]; exact len_evEs q) (ha.esc h.1.2)
  | .ix a i, e, sc, so, W, X, o, h => by
    unfold mE at h
    split at h
    all_goals first
      | (exact absurd h Bool.false_ne_true)
      | (rename_i q; cases q; done)
      | (rename_i q; cases q)
    simp only [Bool.and_eq_true] at h
    have ha := sE hnm a _ o h.1
    have hi := sE hnm i _ o h.2
    have e1 : evE (fsOf Γ) (csOf Γ) (.ix a i) = fun ρ => (evE (fsOf Γ) (csOf Γ) a ρ).bind fun x => (evE (fsOf Γ) (csOf Γ) i ρ).bind fun y => pIx x y := by
      funext ρ
      simp only [evE]
    refine Snd.ofEscV ?_ rfl rfl (fun _ => rfl)
    rw [e1]
    exact se_ix (good_mE h.2) ha.bor hi.bor
  | .sl a lo hi, e, sc, so, W, X, o, h => by
    unfold mE at h
    split at h
    all_goals first
      | (exact absurd h Bool.false_ne_true)
      | (rename_i q; cases q; done)
      | (rename_i q; cases q)
    rename_i lo1 hi1 _ _
    simp only [Bool.and_eq_true] at h
    obtain ⟨⟨h1, h2⟩, h3⟩ := h
    have ha := sE hnm a _ o h1
    have hl : SO Γ W X lo1 (fun ρ => (evE (fsOf Γ) (csOf Γ) lo ρ).bind (pPart lo.isN)) := by
      split at h2
      · have e2 : (fun ρ => (evE (fsOf Γ) (csOf Γ) lo ρ).bind (pPart lo.isN)) = fun _ => (R.ok PV.non).bind (pPart true) := by
          funext ρ
          rw [h2]
          cases lo <;> first | (cases h2; done) | simp only [evE]
        rw [e2]
        exact so_none
      · simp only [Bool.and_eq_true, Bool.not_eq_true'] at h2
        rw [h2.2]
        exact so_some (sE hnm lo _ o h2.1).bor
    have hh : SO Γ W X hi1 (fun ρ => (evE (fsOf Γ) (csOf Γ) hi ρ).bind (pPart hi.isN)) := by
      split at h3
      · have e2 : (fun ρ => (evE (fsOf Γ) (csOf Γ) hi ρ).bind (pPart hi.isN)) = fun _ => (R.ok PV.non).bind (pPart true) := by
          funext ρ
          rw [h3]
          cases hi <;> first | (cases h3; done) | simp only [evE]
        rw [e2]
        exact so_none
      · simp only [Bool.and_eq_true, Bool.not_eq_true'] at h3
        rw [h3.2]
        exact so_some (sE hnm hi _ o h3.1).bor
    have e1 : evE (fsOf Γ) (csOf Γ) (.sl a lo hi) = fun ρ => (evE (fsOf Γ) (csOf Γ) a ρ).bind fun x => ((evE (fsOf Γ) (csOf Γ) lo ρ).bind (pPart lo.isN)).bind fun l => ((evE (fsOf Γ) (csOf Γ) hi ρ).bind (pPart hi.isN)).bind fun h => pSl x l h := by
      funext ρ
      simp only [evE]
      cases evE (fsOf Γ) (csOf Γ) a ρ <;> simp only [R.bind_ok, R.bind_exn, R.bind_bad]
      cases evE (fsOf Γ) (csOf Γ) lo ρ <;> simp only [R.bind_ok, R.bind_exn, R.bind_bad]
      rename_i z
      cases pPart lo.isN z <;> simp only [R.bind_ok, R.bind_exn, R.bind_bad]
      cases evE (fsOf Γ) (csOf Γ) hi ρ <;> simp only [R.bind_ok, R.bind_exn, R.bind_bad]
    refine Snd.ofFre ?_ rfl (fun q => nomatch q)
    rw [e1]
    exact se_sl ha.bor hl hh
  | .call k es, e, sc, so, W, X, o, h => by
    unfold mE at h
    split at h
    all_goals first
      | (exact absurd h Bool.false_ne_true)
      | (rename_i q; cases q; done)
      | (rename_i q; cases q)
    rename_i p1 f1 fs1 p2
    simp only [Bool.and_eq_true, Bool.not_eq_true'] at h
    obtain ⟨⟨⟨h1, h2⟩, h3⟩, hh⟩ := h
    rw [hnm.hot] at hh
    split at h1
    · rename_i p hp
      simp only [decide_eq_true_eq] at h1
      obtain ⟨n, hn, nn, nf, ns⟩ := fn_at hnm hp
      have ha := sA hnm es _ o h3
      have gl := (good_mEs h3).1
      have ex : n.name = _ := nn.trans h1
      subst ex
      cases hB : es.hasB with
      | false =>
        have e1 : evE (fsOf Γ) (csOf Γ) (.call k es) = fun ρ => (evEs (fsOf Γ) (csOf Γ) es ρ).bind fun xs => n.sem xs := by
          funext ρ
          simp only [evE, hB, Bool.false_eq_true, if_false]
          rw [← ns]
        have k1 : SE Γ W X (if n.fr then .fre else .esc) (.Call (.Name n.name p1) (f1 :: fs1) [] p2) (evE (fsOf Γ) (csOf Γ) (.call k es)) := by
          rw [e1]
          exact se_call o hh hn gl h2 (ha.esc hB)
        have ff : (PX.call k es).isF nm = n.fr := by
          show ((match nm.fn[k]? with
            | some p => p.2
            | none => false) && !es.hasB) = n.fr
          rw [hp, hB, nf]
          exact Bool.and_true _
        cases hf : n.fr with
        | true =>
          rw [hf] at k1
          exact Snd.ofFre k1 rfl fun _ => st_val (SE.esc_of k1) fun _ => rfl
        | false =>
          rw [hf] at k1
          exact Snd.ofEscV k1 (by rw [ff, hf]) rfl (fun _ => rfl)
      | true =>
        have e1 : evE (fsOf Γ) (csOf Γ) (.call k es) = fun ρ => (evEs (fsOf Γ) (csOf Γ) es ρ).bind fun xs => flatR (n.sem xs) := by
          funext ρ
          simp only [evE, hB, if_true]
          rw [← ns]
        refine Snd.ofEscV ?_ ?_ rfl (fun _ => rfl)
        · rw [e1]
          exact se_callB o hh hn gl h2 ha.bor
        · show (_ && !es.hasB) = false
          rw [hB]
          exact Bool.and_false _
    · exact absurd h1 Bool.false_ne_true
  | .bi f es, e, sc, so, W, X, o, h => by
    unfold mE at h
    split at h
    all_goals first
      | (exact absurd h Bool.false_ne_true)
      | (rename_i q; cases q; done)
      | (rename_i q; cases q)
    rename_i p1 f1 fs1 p2
    simp only [Bool.and_eq_true, decide_eq_true_eq, Bool.not_eq_true'] at h
    obtain ⟨⟨⟨⟨⟨⟨h1, h2⟩, h3⟩, h4⟩, h5⟩, h6⟩, hh⟩ := h
    rw [hnm.hot] at hh
    subst h1
    have ha := sA hnm es _ o h6
    have gl := (good_mEs h6).1
    have e1 : evE (fsOf Γ) (csOf Γ) (.bi f es) = fun ρ => (evEs (fsOf Γ) (csOf Γ) es ρ).bind fun xs => pBi f xs := by
      funext ρ
      simp only [evE]
    have k1 : SE Γ W X .fre (.Call (.Name (biName f) p1) (f1 :: fs1) [] p2) (evE (fsOf Γ) (csOf Γ) (.bi f es)) := by
      rw [e1]
      exact se_bi o hh h3 h4 (by rw [← hnm.bl]; exact h2) h5 gl ha.bor
    exact Snd.ofFre k1 rfl fun _ => st_val (SE.esc_of k1) fun _ => rfl
  | .isa a t, e, sc, so, W, X, o, h => by
    unfold mE at h
    split at h
    all_goals first
      | (exact absurd h Bool.false_ne_true)
      | (rename_i q; cases q; done)
      | (rename_i q; cases q)
    simp only [Bool.and_eq_true, decide_eq_true_eq] at h
    obtain ⟨⟨⟨⟨⟨⟨h1, h2⟩, h3⟩, h4⟩, h5⟩, h6⟩, h7⟩ := h
    subst h1 h2
    have ha := sE hnm a _ o h7
    have e1 : evE (fsOf Γ) (csOf Γ) (.isa a t) = fun ρ => (evE (fsOf Γ) (csOf Γ) a ρ).bind fun x => pIsa t x := by
      funext ρ
      simp only [evE]
    refine Snd.ofEscV ?_ rfl rfl (fun _ => rfl)
    rw [e1]
    exact se_isa o (by rw [← hnm.bl]; exact h3) h5 (by rw [← hnm.bl]; exact h4) h6 (good_mE h7) ha.bor
  | .dic kvs, e, sc, so, W, X, o, h => by
    unfold mE at h
    split at h
    all_goals first
      | (exact absurd h Bool.false_ne_true)
      | (rename_i q; cases q; done)
      | (rename_i q; cases q)
    · have e1 : evE (fsOf Γ) (csOf Γ) (.dic []) = fun ρ => .ok (.dk [] []) := by
        funext ρ
        simp [evE]
      refine Snd.ofEscV ?_ rfl rfl (fun _ => rfl)
      rw [e1]
      exact se_dic0
    · simp only [Bool.and_eq_true, decide_eq_true_eq] at h
      obtain ⟨h1, h2⟩ := h
      subst h1 h2
      have e1 : ∀ k v, evE (fsOf Γ) (csOf Γ) (.dic [(k, v)]) = fun ρ => .ok (.dk [Sum.inl k] [.int v]) := fun k v => by
        funext ρ
        simp [evE]
      refine Snd.ofEscV ?_ rfl rfl (fun _ => rfl)
      rw [e1]
      exact se_dic1
  | .call0 k, e, sc, so, W, X, o, h => by
    unfold mE at h
    split at h
    all_goals first
      | (exact absurd h Bool.false_ne_true)
      | (rename_i q; cases q; done)
      | (rename_i q; cases q)
    simp only [Bool.and_eq_true, Bool.not_eq_true'] at h
    obtain ⟨⟨h1, h2⟩, hh⟩ := h
    rw [hnm.hot] at hh
    split at h1
    · rename_i p hp
      simp only [Bool.and_eq_true, decide_eq_true_eq, Bool.not_eq_true'] at h1
      obtain ⟨n, hn, nn, nf, ns⟩ := fn_at hnm hp
      have ex : n.name = _ := nn.trans h1.1
      subst ex
      have e1 : evE (fsOf Γ) (csOf Γ) (.call0 k) = fun ρ => n.sem [] := by
        funext ρ
        simp only [evE]
        rw [← ns]
      refine Snd.ofEscV ?_ rfl rfl (fun _ => rfl)
      rw [e1]
      exact se_call0 o hh hn (nf.trans h1.2) h2
    · exact absurd h1 Bool.false_ne_true
  | .lam k a, e, sc, so, W, X, o, h => by
    unfold mE at h
    split at h
    all_goals first
      | (exact absurd h Bool.false_ne_true)
      | (rename_i q; cases q; done)
      | (rename_i q; cases q)
    simp only [Bool.and_eq_true, Bool.not_eq_true', decide_eq_true_eq] at h
    obtain ⟨⟨⟨⟨⟨⟨⟨h1, h2⟩, h3⟩, h4⟩, h5⟩, h6⟩, h7⟩, h8⟩ := h
    rw [hnm.hot] at h4
    rw [hnm.lm] at h5
    obtain ⟨n, hn, nn, ns⟩ := fnl_at hnm h1 h2
    subst nn
    have e1 : evE (fsOf Γ) (csOf Γ) (.lam k a) = fun ρ => lamR (encL n.sem) (evE (fsOf Γ) (csOf Γ) a ρ) := by
      funext ρ
      simp only [evE]
      rw [← ns]
    refine Snd.ofEscV ?_ rfl rfl (fun _ => rfl)
    rw [e1]
    exact se_lam o h5 h4 hn h3 (LamX.lamS_by h6) h7 fun W' X' _ o' => (sL (Γ := { Γ with k := Γ.k - 2, lm := false }) hnm.fn h4 o' a _ h8).1
  | .isx a cs rs, e, sc, so, W, X, o, h => by
    unfold mE at h
    split at h
    all_goals first
      | (exact absurd h Bool.false_ne_true)
      | (rename_i q; cases q; done)
      | (rename_i q; cases q)
    simp only [Bool.and_eq_true, decide_eq_true_eq] at h
    obtain ⟨⟨⟨⟨⟨⟨h1, h2⟩, h3⟩, h4⟩, h5⟩, h6⟩, h7⟩ := h
    subst h1
    have ha := sE hnm a _ o h4
    have e1 : evE (fsOf Γ) (csOf Γ) (.isx a cs rs) = fun ρ => (evE (fsOf Γ) (csOf Γ) a ρ).bind fun x => pIsx cs rs x := by
      funext ρ
      simp only [evE]
    refine Snd.ofEscV ?_ rfl rfl (fun _ => rfl)
    rw [e1]
    have gy : ∀ {y : Expr}, mCls nm sc cs y = true → good y = true := fun {y} q => by
      cases y <;> first | rfl | (simp only [mCls, Bool.false_eq_true] at q; done)
    refine se_isx o hnm (by rw [← hnm.bl]; exact h2) h3 h5 (by rw [h6, hnm.ec]) (fun d hd => ?_) (good_mE h4) (gy h5) ha.bor
    have := List.all_eq_true.mp h7 d hd
    rw [Bool.and_eq_true] at this
    rw [← hnm.ec]
    exact ⟨List.contains_iff_mem.mp this.1, fun c hc => List.contains_iff_mem.mp (List.all_eq_true.mp this.2 c hc)⟩
  | .isas a ts, e, sc, so, W, X, o, h => by
    unfold mE at h
    split at h
    all_goals first
      | (exact absurd h Bool.false_ne_true)
      | (rename_i q; cases q; done)
      | (rename_i q; cases q)
    simp only [Bool.and_eq_true, decide_eq_true_eq] at h
    obtain ⟨⟨⟨⟨⟨⟨h1, h2⟩, h3⟩, h4⟩, h5⟩, h6⟩, h7⟩ := h
    subst h1
    have ha := sE hnm a _ o h4
    have e1 : evE (fsOf Γ) (csOf Γ) (.isas a ts) = fun ρ => (evE (fsOf Γ) (csOf Γ) a ρ).bind fun x => pIsas ts x := by
      funext ρ
      simp only [evE]
    refine Snd.ofEscV ?_ rfl rfl (fun _ => rfl)
    rw [e1]
    exact se_isas o hnm.bl (by rw [← hnm.bl]; exact h2) h3 h5 h6 h7 (good_mE h4) ha.bor
  | .loc i a, e, sc, so, W, X, o, h => by
    unfold mE at h
    split at h
    all_goals first
      | (exact absurd h Bool.false_ne_true)
      | (rename_i q; cases q; done)
      | (rename_i q; cases q)
    simp only [Bool.and_eq_true, Bool.not_eq_true'] at h
    have ha := sE hnm a _ o h.2
    have e1 : evE (fsOf Γ) (csOf Γ) (.loc i a) = fun ρ => match ρ[i]? with
        | some (.ow xs) => (evE (fsOf Γ) (csOf Γ) a (ρ.set i (.sh (.lst xs)))).bind fun x => if flat x then .ok x else .bad
        | _ => .bad := by
      funext ρ
      simp only [evE]
      all_goals rfl
    refine ⟨fun _ => ?_, SE.bor_of ?_, (fun q => nomatch q), fun q => ?_, fun _ => no_tsw rfl⟩
    · rw [e1]
      exact se_loc (ha.esc h.1)
    · rw [e1]
      exact se_loc (ha.esc h.1)
    · rw [e1]
      exact st_loc (ha.tst q)
  | .lzip a b, e, sc, so, W, X, o, h => by
    unfold mE at h
    split at h
    all_goals first
      | (exact absurd h Bool.false_ne_true)
      | (rename_i q; cases q; done)
      | (rename_i q; cases q)
    simp only [Bool.and_eq_true, decide_eq_true_eq, Bool.not_eq_true'] at h
    obtain ⟨⟨⟨⟨⟨⟨⟨⟨h1, h2⟩, h3⟩, h4⟩, h5⟩, h6⟩, h7⟩, h8⟩, hh⟩ := h
    rw [hnm.hot] at hh
    subst h1 h4
    have ha := sE hnm a _ o h7
    have hb := sE hnm b _ o h8
    have e1 : evE (fsOf Γ) (csOf Γ) (.lzip a b) = fun ρ => (evE (fsOf Γ) (csOf Γ) a ρ).bind fun x => (evE (fsOf Γ) (csOf Γ) b ρ).bind fun y => pLZ x y := by
      funext ρ
      simp only [evE]
    refine Snd.ofFre ?_ rfl (fun q => nomatch q)
    rw [e1]
    exact se_lzip o hh (by rw [← hnm.bl]; exact h2) h3 (by rw [← hnm.bl]; exact h5) h6 (good_mE h7) (good_mE h8) ha.bor hb.bor
  | .lrg a, e, sc, so, W, X, o, h => by
    unfold mE at h
    split at h
    all_goals first
      | (exact absurd h Bool.false_ne_true)
      | (rename_i q; cases q; done)
      | (rename_i q; cases q)
    simp only [Bool.and_eq_true, decide_eq_true_eq, Bool.not_eq_true'] at h
    obtain ⟨⟨⟨⟨⟨⟨⟨h1, h2⟩, h3⟩, h4⟩, h5⟩, h6⟩, h7⟩, hh⟩ := h
    rw [hnm.hot] at hh
    subst h1 h4
    have ha := sE hnm a _ o h7
    have e1 : evE (fsOf Γ) (csOf Γ) (.lrg a) = fun ρ => (evE (fsOf Γ) (csOf Γ) a ρ).bind fun x => (pInt x).bind fun n => if n ≤ 1000000 ∧ -1000000 ≤ n then .ok (.lst (rngL 0 n.toNat)) else .bad := by
      funext ρ
      simp only [evE]
    refine Snd.ofFre ?_ rfl (fun q => nomatch q)
    rw [e1]
    exact se_lrg o hh (by rw [← hnm.bl]; exact h2) h3 (by rw [← hnm.bl]; exact h5) h6 (good_mE h7) ha.bor
  | .comp el tg tp it c, e, sc, so, W, X, o, h => by
    unfold mE at h
    split at h
    all_goals first
      | (exact absurd h Bool.false_ne_true)
      | (rename_i q; cases q; done)
      | (rename_i q; cases q)
    simp only [Bool.and_eq_true, decide_eq_true_eq, Bool.not_eq_true'] at h
    obtain ⟨⟨⟨⟨⟨⟨⟨hh, h1⟩, h2⟩, h3⟩, h4⟩, h5⟩, h6⟩, h7⟩ := h
    rw [hnm.hot] at hh
    subst h1
    have hI := sI hnm it _ _ o h2
    have gi := good_mI h2
    have bk := blkOk_by h4
    have e1 : evE (fsOf Γ) (csOf Γ) (.comp el tg tp it c) = fun ρ => (evI (fsOf Γ) (csOf Γ) it ρ).bind fun xs => (compL (evE (fsOf Γ) (csOf Γ) el) (evE (fsOf Γ) (csOf Γ) c) (fun x => asgT tg tp x (killAll ρ tg)) xs).bind fun ys => if xs.length ≤ LIM then .ok (.lst ys) else .bad := by
      funext ρ
      simp only [evE]
    refine Snd.ofFre ?_ rfl (fun q => nomatch q)
    rw [e1]
    refine PE.weak (pe_lc (wi := rdI Γ W X.K .bor (evI (fsOf Γ) (csOf Γ) it)) (g := rdG X.K tg tp) (tt := rdT Γ W0 X.K (evE (fsOf Γ) (csOf Γ) c)) (te := rdE Γ W0 X.K .esc (evE (fsOf Γ) (csOf Γ) el)) (o.calm hh) (by rw [o.hN]; exact o.nd) hI.bor (by rw [o.hN, o.hsc]; exact bk) (fun s H C cl fp => pg_tgt (xok_blk o bk.kind s H C cl fp) hh h3) (fun s H C cl fp => ?_) (fun s H C cl fp => (sE hnm el _ (xok_blk o bk.kind s H C cl fp) h5).esc h6) (good_fold gi _)) (comp_rd (own_names tg))
    split at h7
    · cases c <;> first | (cases h7; done) | skip
      rename_i b
      cases b
      · cases h7
      · refine ⟨fun pins s σ H Q I ⟨B, ρ, G, ow, q⟩ => pts_nil.run pins s σ H Q I ?_⟩
        simp only [evE] at q
        obtain ⟨b, eb, q⟩ := q
        cases eb
        exact q G H (Ext.refl ow.gh)
    · simp only [Bool.and_eq_true] at h7
      exact pts_one ((sE hnm c _ (xok_blk o bk.kind s H C cl fp) h7.1).tst h7.2)
    · cases h7
theorem sA (hnm : nm.Of Γ) : ∀ (xs : PXs) (es : List Expr) {sc so : Scope} {W : WX} {X : Cx}, XOk Γ nm.N sc so W X → mEs nm sc so xs es = true → SndA Γ W X (fsOf Γ) (csOf Γ) xs es
  | .nil, es, sc, so, W, X, o, h => by
    cases es with
    | cons _ _ => simp [mEs] at h
    | nil => exact ⟨sa_nil, fun _ => sae_nil⟩
  | .cons x xs, es, sc, so, W, X, o, h => by
    cases es with
    | nil => simp [mEs] at h
    | cons e es =>
      simp only [mEs, Bool.and_eq_true] at h
      have ha := sE hnm x e o h.1
      have hr := sA hnm xs es o h.2
      have e1 : evEs (fsOf Γ) (csOf Γ) (.cons x xs) = fun ρ => (evE (fsOf Γ) (csOf Γ) x ρ).bind fun v => (evEs (fsOf Γ) (csOf Γ) xs ρ).bind fun vs => .ok (v :: vs) := by
        funext ρ
        simp only [evEs]
      refine ⟨?_, fun q => ?_⟩
      · rw [e1]
        exact sa_cons (good_mE h.1) ha.bor hr.bor
      · have q : (x.isB || xs.hasB) = false := q
        rw [Bool.or_eq_false_iff] at q
        rw [e1]
        exact sae_cons (good_mE h.1) (ha.esc q.1) (hr.esc q.2)
theorem sI (hnm : nm.Of Γ) : ∀ (it : PIt) (t e : Expr) {sc so : Scope} {W : WX} {X : Cx}, XOk Γ nm.N sc so W X → mI nm sc so it t e = true → SndI Γ W X (fsOf Γ) (csOf Γ) it t e
  | .seq a, t, e, sc, so, W, X, o, h => by
    unfold mI at h
    have ha := sE hnm a _ o h
    have e1 : evI (fsOf Γ) (csOf Γ) (.seq a) = fun ρ => (evE (fsOf Γ) (csOf Γ) a ρ).bind pSeq := by
      funext ρ
      simp only [evI]
    refine ⟨?_, fun q => ?_⟩
    · rw [e1]
      exact si_seq (.inr rfl) ha.bor
    · rw [e1]
      exact si_seq (.inl rfl) (ha.esc q)
  | .rng1 a, t, e, sc, so, W, X, o, h => by
    unfold mI at h
    split at h
    all_goals first
      | (exact absurd h Bool.false_ne_true)
      | (rename_i q; cases q; done)
      | (rename_i q; cases q)
    simp only [Bool.and_eq_true, decide_eq_true_eq] at h
    obtain ⟨⟨⟨h1, h2⟩, h3⟩, h4⟩ := h
    subst h1
    have ha := sE hnm a _ o h4
    have e1 : evI (fsOf Γ) (csOf Γ) (.rng1 a) = fun ρ => (evE (fsOf Γ) (csOf Γ) a ρ).bind fun x => (pInt x).bind fun n => if inSpan n then .ok (rngL 0 n.toNat) else .bad := by
      funext ρ
      simp only [evI]
    rw [hnm.bl] at h2
    refine ⟨?_, fun q => ?_⟩
    · rw [e1]
      exact si_rng1 o h2 h3 (good_mE h4) ha.bor
    · rw [e1]
      exact si_rng1 o h2 h3 (good_mE h4) ha.bor
  | .rng2 a b, t, e, sc, so, W, X, o, h => by
    unfold mI at h
    split at h
    all_goals first
      | (exact absurd h Bool.false_ne_true)
      | (rename_i q; cases q; done)
      | (rename_i q; cases q)
    simp only [Bool.and_eq_true, decide_eq_true_eq] at h
    obtain ⟨⟨⟨⟨h1, h2⟩, h3⟩, h4⟩, h5⟩ := h
    subst h1
    have ha := sE hnm a _ o h4
    have hb := sE hnm b _ o h5
    have e1 : evI (fsOf Γ) (csOf Γ) (.rng2 a b) = fun ρ => (evE (fsOf Γ) (csOf Γ) a ρ).bind fun x => (evE (fsOf Γ) (csOf Γ) b ρ).bind fun y => (pInt x).bind fun i => (pInt y).bind fun j => if inSpan i && inSpan j then .ok (rngL i (j - i).toNat) else .bad := by
      funext ρ
      simp only [evI]
    rw [hnm.bl] at h2
    refine ⟨?_, fun q => ?_⟩
    · rw [e1]
      exact si_rng2 o h2 h3 (good_mE h4) (good_mE h5) ha.bor hb.bor
    · rw [e1]
      exact si_rng2 o h2 h3 (good_mE h4) (good_mE h5) ha.bor hb.bor
  | .rng3 a b c, t, e, sc, so, W, X, o, h => by
    unfold mI at h
    split at h
    all_goals first
      | (exact absurd h Bool.false_ne_true)
      | (rename_i q; cases q; done)
      | (rename_i q; cases q)
    simp only [Bool.and_eq_true, decide_eq_true_eq] at h
    obtain ⟨⟨⟨⟨⟨h1, h2⟩, h3⟩, h4⟩, h5⟩, h6⟩ := h
    subst h1
    have ha := sE hnm a _ o h4
    have hb := sE hnm b _ o h5
    have hc := sE hnm c _ o h6
    have e1 : evI (fsOf Γ) (csOf Γ) (.rng3 a b c) = fun ρ => (evE (fsOf Γ) (csOf Γ) a ρ).bind fun x => (evE (fsOf Γ) (csOf Γ) b ρ).bind fun y => (evE (fsOf Γ) (csOf Γ) c ρ).bind fun z => pRng3 x y z := by
      funext ρ
      simp only [evI]
      rfl
    rw [hnm.bl] at h2
    refine ⟨?_, fun q => ?_⟩
    · rw [e1]
      exact si_rng3 o h2 h3 (good_mE h4) (good_mE h5) (good_mE h6) ha.bor hb.bor hc.bor
    · rw [e1]
      exact si_rng3 o h2 h3 (good_mE h4) (good_mE h5) (good_mE h6) ha.bor hb.bor hc.bor
  | .enum a, t, e, sc, so, W, X, o, h => by
    unfold mI at h
    split at h
    all_goals first
      | (exact absurd h Bool.false_ne_true)
      | (rename_i q; cases q; done)
      | (rename_i q; cases q)
    simp only [Bool.and_eq_true, decide_eq_true_eq] at h
    obtain ⟨⟨⟨⟨h1, h2⟩, h3⟩, h4⟩, h5⟩ := h
    subst h1
    have ha := sE hnm a _ o h4
    have e1 : evI (fsOf Γ) (csOf Γ) (.enum a) = fun ρ => (evE (fsOf Γ) (csOf Γ) a ρ).bind pEnumR := by
      funext ρ
      simp only [evI]
      rfl
    rw [hnm.bl] at h2
    obtain ⟨tes, tk, tp, rfl⟩ := isTup_eq h5
    refine ⟨?_, fun q => ?_⟩
    · rw [e1]
      exact si_enum o (.inr rfl) h2 h3 (good_mE h4) ha.bor
    · rw [e1]
      exact si_enum o (.inl rfl) h2 h3 (good_mE h4) (ha.esc q)
  | .zip a b, t, e, sc, so, W, X, o, h => by
    unfold mI at h
    split at h
    all_goals first
      | (exact absurd h Bool.false_ne_true)
      | (rename_i q; cases q; done)
      | (rename_i q; cases q)
    simp only [Bool.and_eq_true, decide_eq_true_eq] at h
    obtain ⟨⟨⟨⟨⟨h1, h2⟩, h3⟩, h4⟩, h5⟩, h6⟩ := h
    subst h1
    have ha := sE hnm a _ o h4
    have hb := sE hnm b _ o h5
    have e1 : evI (fsOf Γ) (csOf Γ) (.zip a b) = fun ρ => (evE (fsOf Γ) (csOf Γ) a ρ).bind fun x => (evE (fsOf Γ) (csOf Γ) b ρ).bind fun y => pZipR x y := by
      funext ρ
      simp only [evI]
      rfl
    rw [hnm.bl] at h2
    obtain ⟨tes, tk, tp, rfl⟩ := isTup_eq h6
    refine ⟨?_, fun q => ?_⟩
    · rw [e1]
      exact si_zip o (.inr rfl) h2 h3 (good_mE h4) (good_mE h5) ha.bor hb.bor
    · rw [e1]
      have q : (a.isB || b.isB) = false := q
      rw [Bool.or_eq_false_iff] at q
      exact si_zip o (.inl rfl) h2 h3 (good_mE h4) (good_mE h5) (ha.esc q.1) (hb.esc q.2)
  | .rev a, t, e, sc, so, W, X, o, h => by
    unfold mI at h
    split at h
    all_goals first
      | (exact absurd h Bool.false_ne_true)
      | (rename_i q; cases q; done)
      | (rename_i q; cases q)
    simp only [Bool.and_eq_true, decide_eq_true_eq] at h
    obtain ⟨⟨⟨h1, h2⟩, h3⟩, h4⟩ := h
    subst h1
    have ha := sE hnm a _ o h4
    have e1 : evI (fsOf Γ) (csOf Γ) (.rev a) = fun ρ => (evE (fsOf Γ) (csOf Γ) a ρ).bind pRevR := by
      funext ρ
      simp only [evI]
      rfl
    rw [hnm.bl] at h2
    refine ⟨?_, fun q => ?_⟩
    · rw [e1]
      exact si_rev o (.inr rfl) h2 h3 (good_mE h4) ha.bor
    · rw [e1]
      exact si_rev o (.inl rfl) h2 h3 (good_mE h4) (ha.esc q)
end
end
end Pf

set_option Elab.async false
set_option linter.all false
set_option maxRecDepth 100000
set_option autoImplicit false
set_option maxHeartbeats 4000000
/-! Pf9: statements; a def -/
namespace Pf
open PySem PySem.Spec L2
variable [Tbc] [Tlc]

section
variable (Γ : Gt) (W : WX) (K : PySem.W.Frag) (fr : Bool)
def PostS (B : Bd) (r : RS) (D : Ends) : Prop := match r with
  | .next ρ => ∀ σ G H, Ow K B ρ σ G H → D.nx σ H
  | .brk ρ => ∀ σ G H, Ow K B ρ σ G H → D.bk σ H
  | .cnt ρ => ∀ σ G H, Ow K B ρ σ G H → D.ct σ H
  | .ret v => ∀ w G H, Ext B.G0 B.H0 G H → RepM (if fr then .fre else .esc) K B.H0 G H v w → D.rt w H
  | .exn c ρ => ∀ σ G H, Ow K B ρ σ G H → W (.ref (Γ.cl c)) none σ H
  | .bad => False
def rdS (f : Env → RS) : TS := fun D σ H => ∃ (B : Bd) (ρ : Env) (G : Hp), Ow K B ρ σ G H ∧ PostS Γ W K fr B (f ρ) D
end
def SS (Γ : Gt) (W : WX) (fr : Bool) (X : Cx) (st : Stmt) (f : Env → RS) : Prop := L2.PS X st (rdS Γ W X.K fr f)
def SSs (Γ : Gt) (W : WX) (fr : Bool) (X : Cx) (st : List Stmt) (f : Env → RS) : Prop := PSs X st (rdS Γ W X.K fr f)
section
variable {Γ : Gt} {N : List Str} {sc so : Scope} {W : WX} {X : Cx} {fr : Bool}
theorem PS.weak {st : Stmt} {t t' : TS} (p : L2.PS X st t) (w : ∀ D σ H, t' D σ H → t D σ H) : L2.PS X st t' := ⟨fun pins s σ H D I h => p.run pins s σ H D I (w D σ H h)⟩
theorem PSs.weak {st : List Stmt} {t t' : TS} (p : PSs X st t) (w : ∀ D σ H, t' D σ H → t D σ H) : PSs X st t' := ⟨fun pins s σ H D I h => p.run pins s σ H D I (w D σ H h)⟩
/-- an expression ahead, by its answer -/
theorem of_rd {K : PySem.W.Frag} {m : Mode} {B : Bd} {ρ : Env} {σ : L2.St} {G H : Hp} {r : R PV} {k : PV → RS} {D : Ends} {Q : VK} {f : Env → R PV} (ow : Ow K B ρ σ G H) (er : f ρ = r) (h : PostS Γ W K fr B (RS.of r ρ k) D)
    (hq : ∀ x v G' H', Ext G H G' H' → RepM m K H G' H' x v → PostS Γ W K fr B (k x) D → Q v H') : rdE Γ W K m f σ H Q := by
  refine ⟨B, ρ, G, ow, ?_⟩
  rw [er]
  cases r with
  | ok x => exact fun v G' H' e rv => hq x v G' H' e rv h
  | exn c => exact fun G' H' e => h σ G' H' (ow.step e)
  | bad => exact h
/-! ### blocks -/
theorem sss_nil : SSs Γ W fr X [] (fun ρ => .next ρ) := PSs.weak pss_nil fun D σ H ⟨B, ρ, G, ow, q⟩ => q σ G H ow
theorem sss_cons {st : Stmt} {rest : List Stmt} {f g : Env → RS} (h1 : SS Γ W fr X st f) (h2 : SSs Γ W fr X rest g) : SSs Γ W fr X (st :: rest) (fun ρ => (f ρ).then g) := by
  refine PSs.weak (pss_cons h1 h2) fun D σ H ⟨B, ρ, G, ow, q⟩ => ⟨B, ρ, G, ow, ?_⟩
  have q : PostS Γ W X.K fr B ((f ρ).then g) D := q
  cases e : f ρ with
  | next ρ1 =>
    rw [e] at q
    exact fun σ1 G1 H1 o1 => ⟨B, ρ1, G1, o1, q⟩
  | brk ρ1 => rw [e] at q; exact q
  | cnt ρ1 => rw [e] at q; exact q
  | ret v => rw [e] at q; exact q
  | exn c ρ1 => rw [e] at q; exact q
  | bad => rw [e] at q; exact q
theorem sss_frz {rest : List Stmt} {g : Env → RS} (i : Nat) (h2 : SSs Γ W fr X rest g) : SSs Γ W fr X rest (fun ρ => (match ρ[i]? with
    | some (.ow xs) => RS.next (ρ.set i (.sh (.lst xs)))
    | _ => .next ρ).then g) := by
  refine PSs.weak h2 fun D σ H ⟨B, ρ, G, ow, q⟩ => ?_
  have q : PostS Γ W X.K fr B ((match ρ[i]? with
    | some (.ow xs) => RS.next (ρ.set i (.sh (.lst xs)))
    | _ => .next ρ).then g) D := q
  split at q
  · rename_i xs hx
    obtain ⟨G', o'⟩ := ow.freeze hx
    exact ⟨B, _, G', o', q⟩
  · exact ⟨B, ρ, G, ow, q⟩
theorem sss_kil {rest : List Stmt} {g : Env → RS} (i : Nat) (h2 : SSs Γ W fr X rest g) : SSs Γ W fr X rest (fun ρ => (RS.next (ρ.set i .no)).then g) :=
  PSs.weak h2 fun D σ H ⟨B, ρ, G, ow, q⟩ => ⟨B, _, G, ow.kill i, q⟩

/-! ### stores -/
theorem new_root {K : PySem.W.Frag} {B : Bd} {ρ : Env} {σ : L2.St} {G H : Hp} {a : Addr} (o : Ow K B ρ σ G H) (ha : H a = none) : B.H0 a = none ∧ ∀ (j : Nat) (ys : List PV), ρ[j]? = some (.ow ys) → σ[j]? ≠ some (some (.ref a)) := by
  refine ⟨o.ext.hh.free ha, fun j ys hj e => ?_⟩
  obtain ⟨b, vs, e', h1, _⟩ := o.ow hj
  rw [e] at e'
  cases e'
  rw [ha] at h1
  cases h1
theorem setName {K : PySem.W.Frag} {B : Bd} {ρ : Env} {σ : L2.St} {G H : Hp} {i : Nat} {x : PV} {v : V} {D : Ends} (o : Ow K B ρ σ G H) (r : Rep K G x v) (h : PostS Γ W K fr B (if i < ρ.length then .next (ρ.set i (.sh x)) else .bad) D) : D.nx (σ.set i (some v)) H := by
  split at h
  · rename_i hi
    exact h _ G H (o.setSh hi r)
  · exact h.elim
theorem setOwn {K : PySem.W.Frag} {B : Bd} {ρ : Env} {σ : L2.St} {G H G1 H1 : Hp} {i : Nat} {x : PV} {v : V} {D : Ends} (o : Ow K B ρ σ G H) (e : Ext G H G1 H1) (r : RepM .fre K H G1 H1 x v) (h : PostS Γ W K fr B (setOwR ρ i x) D) : D.nx (σ.set i (some v)) H1 := by
  unfold setOwR at h
  split at h
  · split at h
    · rename_i hi
      obtain ⟨a, vs, rfl, h0, g1, h1, r1⟩ := r
      obtain ⟨n1, n2⟩ := new_root o h0
      exact h _ G1 H1 ((o.step e).setOw hi h1 g1 n1 r1 fun j ys hj _ => n2 j ys hj)
    · exact h.elim
  · exact h.elim
theorem ss_set (o : XOk Γ N sc so W X) {i : Nat} {x : Str} {e : Expr} {p pos : Pos} {f : Env → R PV} (hn : N[i]? = some x) (hl : loc so x = true) (hs : swapsWith e (some (.Name x p)) pos.line X.env = pure false) (he : SE Γ W X .esc e f) :
    SS Γ W fr X (.Assign [.Name x p] e pos) (fun ρ => RS.of (f ρ) ρ fun v => if i < ρ.length then .next (ρ.set i (.sh v)) else .bad) := by
  obtain ⟨l1, l2⟩ := o.loc hl
  refine PS.weak (ps_set (i := i) (by rw [o.hN]; exact o.nd) (o.Nx hn) l1 he hs l2) fun D σ H ⟨B, ρ, G, ow, q⟩ => ?_
  exact of_rd ow rfl q fun x v G' H' ex rv hk => setName (ow.step ex) rv hk
theorem ss_seto (o : XOk Γ N sc so W X) {i : Nat} {x : Str} {e : Expr} {p pos : Pos} {f : Env → R PV} (hn : N[i]? = some x) (hl : loc so x = true) (hs : swapsWith e (some (.Name x p)) pos.line X.env = pure false) (he : SE Γ W X .fre e f) :
    SS Γ W fr X (.Assign [.Name x p] e pos) (fun ρ => RS.of (f ρ) ρ fun v => setOwR ρ i v) := by
  obtain ⟨l1, l2⟩ := o.loc hl
  refine PS.weak (ps_set (i := i) (by rw [o.hN]; exact o.nd) (o.Nx hn) l1 he hs l2) fun D σ H ⟨B, ρ, G, ow, q⟩ => ?_
  exact of_rd ow rfl q fun x v G' H' ex rv hk => setOwn ow ex rv hk
/-- a comprehension's parts -/
structure Parts (Γ : Gt) (W : WX) (X : Cx) (el t i : Expr) (ifs : List Expr) (scope : Scope) (tg : List Nat) (tp : Bool) (N : List Str) (fi : Env → R (List PV)) (fe fc : Env → R PV) : Prop where
  pi : PI X t i (rdI Γ W X.K .bor fi)
  bk : BlkOk X.N X.env.scope scope (tg.map fun j => (N.getD j "", j))
  pg : ∀ (s : Shared) (H : Hp) (C : Addr) (cl : List (Str × Addr)) (fp : List Addr), PG (X.blk s H scope (compEnvC scope cl C X.env) fp) t (rdG X.K tg tp)
  pt : ∀ (s : Shared) (H : Hp) (C : Addr) (cl : List (Str × Addr)) (fp : List Addr), PTs (X.blk s H scope (compEnvC scope cl C X.env) fp) ifs (rdT Γ W0 X.K fc)
  pe : ∀ (s : Shared) (H : Hp) (C : Addr) (cl : List (Str × Addr)) (fp : List Addr), PE (X.blk s H scope (compEnvC scope cl C X.env) fp) el (rdE Γ W0 X.K .esc fe)
  fd : ∀ x, foldedSetIterable i X.env x = pure x
theorem ss_setLc {k : Env → PV → RS} (o : XOk Γ N sc so W X) (hh : Γ.hot = false) {i : Nat} {y : Str} {py pos spos : Pos} {el t it : Expr} {ifs : List Expr} {scope : Scope} {tg : List Nat} {tp : Bool} {fi : Env → R (List PV)} {fe fc f : Env → R PV} (hn : N[i]? = some y) (hl : sc.names.lookup y = some .local)
    (hp : (py.line == pos.line) = true) (ha : (scope.names.any fun (n, k) => n == y && (k == .local || k == .cell)) = false) (P : Parts Γ W X el t it ifs scope tg tp N fi fe fc)
    (hf : f = fun ρ => (fi ρ).bind fun xs => (compL fe fc (fun x => asgT tg tp x (killAll ρ tg)) xs).bind fun ys => if xs.length ≤ LIM then .ok (.lst ys) else .bad)
    (hk : ∀ B ρ σ G H G1 H1 x v D, Ow X.K B ρ σ G H → Ext G H G1 H1 → RepM .fre X.K H G1 H1 x v → PostS Γ W X.K fr B (k ρ x) D → D.nx (σ.set i (some v)) H1) :
    SS Γ W fr X (.Assign [.Name y py] (.ListComp el [⟨t, it, ifs, 0⟩] scope pos) spos) (fun ρ => RS.of (f ρ) ρ (k ρ)) := by
  have hl' : X.env.scope.names.lookup y = some .local := by rw [o.hsc]; exact hl
  have sw : swapsWith (.ListComp el [⟨t, it, ifs, 0⟩] scope pos) (some (.Name y py)) spos.line X.env = pure true := sw_true (by rw [o.hsc]; exact o.kd) hl' hp ha
  refine PS.weak (ps_setLc (i := i) (o.calm hh) (by rw [o.hN]; exact o.nd) (o.Nx hn) hl' sw P.pi P.bk P.pg P.pt P.pe P.fd) fun D σ H ⟨B, ρ, G, ow, q⟩ => ?_
  refine comp_rd (own_names tg) σ H _ ?_
  rw [← hf]
  exact of_rd ow rfl q fun x v G' H' ex rv hk' => hk B ρ σ G H G' H' x v D ow ex rv hk'
theorem sw_cell {elt : Expr} {gs : List Comprehension} {scope : Scope} {pos py : Pos} {y : Str} {l : Nat} {env : PySem.Env} (hy : env.scope.names.lookup y = some .cell) : swapsWith (.ListComp elt gs scope pos) (some (.Name y py)) l env = pure false := by
  have ky : env.kindOf y = some .cell := hy
  unfold swapsWith
  simp only [ky, Expr.pos]
  have : (some NameKind.cell == some NameKind.local) = false := by decide
  simp only [this, Bool.and_false, Bool.false_and]
/-- a, b, .. = e -/
theorem ss_unp (o : XOk Γ N sc so W X) (hh : Γ.hot = false) {tg : List Nat} {es : List Expr} {k : Nat} {p pos : Pos} {e : Expr} {f : Env → R PV} (hm : mNames N so tg es = true) (hs : swapsWith e (some (.Tuple es k p)) pos.line X.env = pure false) (hw : swappedStores [.Tuple es k p] e X.env = pure none) (he : SE Γ W X .esc e f) :
    SS Γ W fr X (.Assign [.Tuple es k p] e pos) (fun ρ => RS.of (f ρ) ρ fun v => match asgT tg true v ρ with
      | some ρ' => .next ρ'
      | none => .bad) := by
  have pg : PG X (.Tuple es k p) (rdG X.K tg true) := pg_tgt o hh (tp := true) (by unfold mTgt; rw [if_pos rfl]; exact hm)
  refine PS.weak (ps_asg he pg hs hw rfl) fun D σ H ⟨B, ρ, G, ow, q⟩ => ?_
  refine of_rd ow rfl q fun x v G' H' ex rv hk => ?_
  split at hk
  · rename_i ρ' ea
    exact ow_asgT (ow.step ex) rv ea fun vs o' => hk _ G' H' o'
  · exact hk.elim
/-! ### a call that is given an owned list for good -/
def rdM (Γ : Gt) (W : WX) (K : PySem.W.Frag) (j : Nat) (f : Env → R (List PV)) : TA := fun σ H Q => ∃ (B : Bd) (ρ : Env) (G : Hp), Ow K B ρ σ G H ∧
  PK (f ρ) (fun xs => ∀ us G' H', Ext G H G' H' → Reps K G' xs us → ∀ w, σ[j]? = some (some w) → Q (us ++ [w]) H') (Ke Γ W σ G H) ∧ ((∃ w, σ[j]? = some (some w)) ∨ ∃ c, f ρ = .exn c)
theorem sam_nil (o : XOk Γ N sc so W X) {j : Nat} {x : Str} {p : Pos} (hn : N[j]? = some x) (hv : vis sc x = true) : PA X [.Name x p] (rdM Γ W X.K j (fun _ => .ok [])) := by
  refine PA.weak (pa_cons (pe_var (pos := p) (o.Nx hn) (o.vis hv) (o.nodb hn).1 (o.nodb hn).2) pa_nil rfl) fun σ H Q ⟨B, ρ, G, ow, q, hw⟩ => ?_
  obtain ⟨w, hw⟩ := hw.resolve_right fun ⟨c, z⟩ => nomatch z
  exact ⟨w, hw, q [] G H (Ext.refl ow.gh) (reps_nil.mpr rfl) w hw⟩
theorem sam_cons {j : Nat} {e : Expr} {es : List Expr} {fa : Env → R PV} {fb : Env → R (List PV)} (ge : good e = true) (ha : SE Γ W X .esc e fa) (hb : PA X es (rdM Γ W X.K j fb)) : PA X (e :: es) (rdM Γ W X.K j (fun ρ => (fa ρ).bind fun x => (fb ρ).bind fun xs => .ok (x :: xs))) := by
  refine PA.weak (pa_cons ha hb (good_star ge es _)) fun σ H Q ⟨B, ρ, G, ow, q, hw⟩ => ⟨B, ρ, G, ow, ?_⟩
  simp only at q hw
  cases ea : fa ρ with
  | bad => rw [ea] at q; exact q
  | exn c => rw [ea] at q; exact q
  | ok x =>
    rw [ea] at q hw
    rw [R.bind_ok] at q hw
    intro v G1 H1 e1 r1
    refine ⟨B, ρ, G1, ow.step e1, (PK_bind.mp q).imp (fun xs k vs G2 H2 e2 r2 => ?_) (fun _ z => Ke.step e1 z), hw.imp id fun ⟨c, z⟩ => ?_⟩
    · exact k (v :: vs) G2 H2 (e1.trans e2) (reps_cons.mpr ⟨v, vs, rfl, Rep.mono (e2.gg e1.gh) r1, r2⟩)
    · cases eb : fb ρ with
      | bad => rw [eb] at z; cases z
      | exn c2 => exact ⟨c2, rfl⟩
      | ok xs => rw [eb] at z; cases z
theorem del_ne {H : Hp} {p b : Addr} (h : b ≠ p) : del H p b = H b := if_neg h
theorem del_same {H : Hp} {p : Addr} : del H p p = none := if_pos rfl
theorem tabs_del {H : Hp} {p : Addr} {vs : List V} (h : H p = some (.lst vs)) (t : LamX.Tabs Tbc.T H) : LamX.Tabs Tbc.T (del H p) := fun x hx => by
  obtain ⟨ps, q1, q2, q3⟩ := t x hx
  refine ⟨ps, ?_, q2, fun pos cv hc => ?_⟩
  · rw [del_ne fun z => ?_]
    · exact q1
    · rw [z, h] at q1
      cases q1
  · obtain ⟨c, e1, e2⟩ := q3 pos cv hc
    refine ⟨c, e1, ?_⟩
    rw [del_ne fun z => ?_]
    · exact e2
    · rw [z, h] at e2
      cases e2
theorem sameT_del {H0 H : Hp} {p : Addr} {vs : List V} (s : SameT H0 H) (n : H0 p = none) (h : H p = some (.lst vs)) : SameT H0 (del H p) :=
  ⟨fun b o e hn => by rw [del_ne (ne_of_none e n)]; exact s.k b o e hn, fun b ps e => by rw [del_ne (ne_of_none e n)]; exact s.t b ps e, fun t => tabs_del h (s.tb t)⟩
/-- behind the call: the slot is left, the list is no longer asked for -/
theorem Ow.moved {K : PySem.W.Frag} {B : Bd} {ρ : Env} {σ : L2.St} {G H G' H' : Hp} {j : Nat} {zs : List PV} {p : Addr} (o : Ow K B ρ σ G H) (h : ρ[j]? = some (.ow zs)) (hp : σ[j]? = some (some (.ref p))) (e : Ext G (del H p) G' H') : Ow K B (ρ.set j .no) σ G' H' := by
  obtain ⟨a, vs, ha, h1, h2, h3, _⟩ := o.ow h
  rw [hp] at ha
  cases ha
  have k := o.kill j
  have ng : ∀ b u, G b = some u → b ≠ p := fun b u q => ne_of_none q h2
  have n0 : ∀ b u, B.H0 b = some u → b ≠ p := fun b u q => ne_of_none q h3
  have gg : Same G G' := fun b u q => by
    have hb := ng b u q
    rw [e.old b u (by rw [del_ne hb]; exact o.gh b u q)]
    exact q
  refine ⟨⟨(sameT_del o.ext.hh h3 h1).trans e.hh, e.gh, fun b u q => ?_, fun b ps q => o.ext.nt b ps (e.nt b ps q)⟩, e.clean ⟨o.cl.nt, tabs_del h1 o.cl.tb⟩, o.low.trans gg, k.len, fun i s hs => ?_, k.apart⟩
  · obtain ⟨u', q'⟩ := (sameT_del o.ext.hh h3 h1).there q
    rw [e.old b u' q']
    exact o.ext.old b u q
  · have q := k.slot i s hs
    cases s with
    | no => exact q
    | fn => exact q
    | sh x =>
      obtain ⟨v, ev, r⟩ := q
      exact ⟨v, ev, r.mono gg⟩
    | ow ys =>
      obtain ⟨a, us, ea, g1, g2, g3, r⟩ := q
      have hij : i ≠ j := fun z => by
        subst z
        have hi : i < ρ.length := (List.getElem?_eq_some_iff.mp h).1
        rw [List.getElem?_set_self hi] at hs
        cases hs
      have hρ : ρ[i]? = some (.ow ys) := by
        rw [List.getElem?_set_ne (Ne.symm hij)] at hs
        exact hs
      have hap : a ≠ p := fun z => by
        subst z
        obtain ⟨b', _, e', _⟩ := o.ow hρ
        refine hij (o.apart i j ys zs a hρ h ?_ hp)
        rw [e'] at ea ⊢
        exact congrArg some ea
      have hd : del H p a = some (.lst us) := by rw [del_ne hap]; exact g1
      exact ⟨a, us, ea, e.hh.lst hd, by rw [e.old _ _ hd]; exact g2, g3, r.mono gg⟩
theorem ss_unpM (o : XOk Γ N sc so W X) (hh : Γ.hot = false) {n : Fn} (hn : n ∈ Γ.fno) {tg : List Nat} {ts : List Expr} {k j : Nat} {p p2 p3 pos : Pos} {e : Expr} {es : List Expr} {f : Env → R (List PV)} (hm : mNames N so tg ts = true) (ge : (e :: es).all good = true) (hg : glb sc n.name = true)
    (hs : swapsWith (.Call (.Name n.name p2) (e :: es) [] p3) (some (.Tuple ts k p)) pos.line X.env = pure false) (ha : PA X (e :: es) (rdM Γ W X.K j f)) :
    SS Γ W fr X (.Assign [.Tuple ts k p] (.Call (.Name n.name p2) (e :: es) [] p3) pos) (fun ρ => RS.ofL (f ρ) ρ fun xs => (match ρ[j]? with
      | some (.ow zs) => RS.of (n.sem (xs ++ [.lst zs])) (ρ.set j .no) fun v => (match asgT tg true v (ρ.set j .no) with
        | some ρ' => .next ρ'
        | none => .bad)
      | _ => .bad)) := by
  have pg : PG X (.Tuple ts k p) (rdG X.K tg true) := pg_tgt o hh (tp := true) (by unfold mTgt; rw [if_pos rfl]; exact hm)
  simp only [List.all_cons, Bool.and_eq_true] at ge
  have F := o.g.fno n hn
  have pc : PE X (.Call (.Name n.name p2) (e :: es) [] p3) (tCallS (spO X.K Γ.cl n.ps.length n.sem) (WE W) (rdM Γ W X.K j f)) := pe_callS F.ok (o.room hh) (o.gl hg) F.gm F.kp F.bd (fun σ => passAt (o.tk hh) σ) ha F.db (good_star ge.1 es _) (good_any ge.2)
  refine PS.weak (ps_asg pc pg hs rfl rfl) fun D σ H ⟨B, ρ, G, ow, q⟩ => ?_
  have q : PostS Γ W X.K fr B (RS.ofL (f ρ) ρ fun xs => (match ρ[j]? with
      | some (.ow zs) => RS.of (n.sem (xs ++ [.lst zs])) (ρ.set j .no) fun v => (match asgT tg true v (ρ.set j .no) with
        | some ρ' => .next ρ'
        | none => .bad)
      | _ => .bad)) D := q
  cases er : f ρ with
  | bad => rw [er] at q; exact q.elim
  | exn c =>
    rw [er] at q
    refine ⟨B, ρ, G, ow, ?_, .inr ⟨c, er⟩⟩
    rw [er]
    exact fun G' H' e' => q σ G' H' (ow.step e')
  | ok xs =>
    rw [er] at q
    simp only [RS.ofL_ok] at q
    split at q
    · rename_i zs hz
      obtain ⟨a, vs, hσ, h1, h2, h3, r⟩ := ow.ow hz
      refine ⟨B, ρ, G, ow, ?_, .inl ⟨.ref a, hσ⟩⟩
      rw [er]
      intro us G1 H1 e1 r1 w hw
      rw [hσ] at hw
      cases hw
      have o1 := ow.step e1
      obtain ⟨a', vs', hσ', g1, g2, g3, rz⟩ := o1.ow hz
      rw [hσ] at hσ'
      cases hσ'
      refine ⟨?_, G1, xs, us, a, zs, vs', rfl, e1.gh, o1.cl, r1, g1, g2, rz, ?_⟩
      · rw [List.length_append, r1.length, List.length_singleton]
        have := F.len (xs ++ [.lst zs]) fun eb => by
          rw [eb] at q
          exact q
        rw [List.length_append, List.length_singleton] at this
        exact this
      · cases es2 : n.sem (xs ++ [.lst zs]) with
        | bad => rw [es2] at q; exact q.elim
        | exn c =>
          rw [es2] at q
          exact fun G' H' e2 => q σ G' H' (o1.moved hz hσ e2)
        | ok x =>
          rw [es2] at q
          simp only [RS.of_ok] at q
          intro v G' H' e2 rv
          split at q
          · rename_i ρ' ea
            exact ow_asgT (o1.moved hz hσ e2) rv ea fun vs o' => q _ G' H' o'
          · exact q.elim
    · exact q.elim
/-- the address of an owned list, as its name is read -/
theorem root_at {K : PySem.W.Frag} {B : Bd} {ρ : Env} {σ : L2.St} {G H : Hp} {i : Nat} {xs : List PV} {Q : VK} (o : Ow K B ρ σ G H) (h : ρ[i]? = some (.ow xs)) (q : ∀ a vs, σ[i]? = some (some (.ref a)) → H a = some (.lst vs) → Reps K G xs vs → Q (.ref a) H) : tVar i σ H Q := by
  obtain ⟨a, vs, e, h1, _, _, r⟩ := o.ow h
  exact ⟨.ref a, e, q a vs e h1 r⟩
/-- a store into an owned list: the reading of its parts -/
theorem put_rd {K : PySem.W.Frag} {B : Bd} {ρ : Env} {σ : L2.St} {G H : Hp} {i : Nat} {x : PV} {v : V} {fk : Env → R PV} {k : Env → RS} {D : Ends} {Q : L2.St → Hp → Prop} (o : Ow K B ρ σ G H) (r : Rep K G x v) (h : PostS Γ W K fr B (putAt ρ i (fk ρ) x k) D)
    (hQ : ∀ ρ1 G1 H1, Ow K B ρ1 σ G1 H1 → Same G G1 → PostS Γ W K fr B (k ρ1) D → Q σ H1) : gSub (tVar i) (rdE Γ W K .bor fk) rSetL v σ H Q := by
  unfold putAt at h
  split at h
  · rename_i xs hx
    obtain ⟨a, vs, ha, h1, h2, h3, rx⟩ := o.ow hx
    refine ⟨.ref a, ha, ?_⟩
    refine of_rd o rfl h fun z u G' H' ex rz hk => ?_
    split at hk
    · rename_i n
      split at hk
      · rename_i j hj
        have o' := o.step ex
        obtain ⟨a', vs', ha', h1', _, _, rx'⟩ := o'.ow hx
        rw [ha] at ha'
        cases ha'
        refine ⟨a, vs', n, j, rfl, int_of rz, h1', by rw [rx'.length]; exact hj, ?_⟩
        exact hQ _ G' _ (o'.write hx ha (rx'.set j (r.mono (ex.gg o.gh)))) (ex.gg o.gh) hk
      · exact hk.elim
    · exact hk.elim
  · exact h.elim
theorem slot_get {K : PySem.W.Frag} {B : Bd} {ρ : Env} {σ : L2.St} {G H : Hp} {i : Nat} (o : Ow K B ρ σ G H) : True := trivial
theorem pe_slot (o : XOk Γ N sc so W X) {i : Nat} {x : Str} {p : Pos} (hn : N[i]? = some x) (hv : vis sc x = true) : PE X (.Name x p) (tVar i) := pe_var (o.Nx hn) (o.vis hv) (o.nodb hn).1 (o.nodb hn).2
theorem good_sub {o i : Expr} {pos : Pos} (gi : good i = true) (env : PySem.Env) : ∀ v, assign (.Subscript o i pos) env v = (do
      let ov ← holding [v] (eval o env)
      let iv ← holding [v, ov] (eval i env)
      standAt pos
      holding [v, ov, iv] (setItem ov iv v)
      release [v, ov, iv] []) := by
  intro v
  cases i <;> first | rfl | (simp only [good, Bool.false_eq_true] at gi; done)
theorem ss_setix (o : XOk Γ N sc so W X) {i : Nat} {x : Str} {ix e : Expr} {p p2 pos : Pos} {f fk : Env → R PV} (hn : N[i]? = some x) (hv : vis sc x = true) (gi : good ix = true) (hs : swapsWith e (some (.Subscript (.Name x p) ix p2)) pos.line X.env = pure false) (he : SE Γ W X .esc e f) (hi : SE Γ W X .bor ix fk) :
    SS Γ W fr X (.Assign [.Subscript (.Name x p) ix p2] e pos) (fun ρ => RS.of (f ρ) ρ fun v => putAt ρ i (fk ρ) v fun ρ' => .next ρ') := by
  refine PS.weak (ps_asg he (pg_sub (pe_slot o hn hv) hi set_list (good_sub gi _)) hs rfl rfl) fun D σ H ⟨B, ρ, G, ow, q⟩ => ?_
  refine of_rd ow rfl q fun x v G' H' ex rv hk => ?_
  exact put_rd (ow.step ex) rv hk fun ρ1 G1 H1 o1 _ h1 => h1 σ G1 H1 o1
/-- lines[k], lines[l] = a, b -/
theorem ss_swp (o : XOk Γ N sc so W X) (hh : Γ.hot = false) {i : Nat} {x : Str} {k l a b : Expr} {p1 p2 p3 p4 pt pv pos : Pos} {k1 k2 : Nat} {fk fl fa fb : Env → R PV} (hn : N[i]? = some x) (hv : vis sc x = true) (gk : good k = true) (gl : good l = true) (ga : good a = true) (gb : good b = true)
    (ha : SE Γ W X .esc a fa) (hb : SE Γ W X .esc b fb) (hk : SE Γ W X .bor k fk) (hl : SE Γ W X .bor l fl) :
    SS Γ W fr X (.Assign [.Tuple [.Subscript (.Name x p1) k p2, .Subscript (.Name x p3) l p4] k1 pt] (.Tuple [a, b] k2 pv) pos)
      (fun ρ => RS.of (fa ρ) ρ fun v => RS.of (fb ρ) ρ fun w => putAt ρ i (fk ρ) v fun ρ1 => putAt ρ1 i (fl ρ1) w fun ρ2 => .next ρ2) := by
  have hw : swappedStores [.Tuple [.Subscript (.Name x p1) k p2, .Subscript (.Name x p3) l p4] k1 pt] (.Tuple [a, b] k2 pv) X.env = pure none := by
    unfold swappedStores
    simp only [List.length_cons, List.length_nil, List.filterMap_cons, List.filterMap_nil]
    cases X.env.blockKind <;> (cases a <;> first | (simp only [good, Bool.false_eq_true] at ga; done) | skip) <;> (cases b <;> first | (simp only [good, Bool.false_eq_true] at gb; done) | rfl)
  refine PS.weak (ps_asg (pe_tup (pa_cons ha (pa_cons hb pa_nil (good_star gb _ _)) (good_star ga _ _))) (pg_tup (n := 2) (o.calm hh) (pgs_cons (pg_sub (pe_slot o hn hv) hk set_list (good_sub gk _)) (pgs_cons (pg_sub (pe_slot o hn hv) hl set_list (good_sub gl _)) pgs_nil rfl) rfl) rfl rfl) rfl hw rfl) fun D σ H ⟨B, ρ, G, ow, q⟩ => ?_
  refine of_rd ow rfl q fun v1 u1 G1 H1 e1 r1 q => ?_
  refine of_rd (ow.step e1) rfl q fun v2 u2 G2 H2 e2 r2 q => ?_
  refine ⟨(by decide : 2 ≤ sizeLine), fun T hT => ?_⟩
  have oT := ((ow.step e1).step e2).step (Ext.new (o := .tup [u1, u2]) e2.gh hT)
  have sT : Same G2 (upd G2 T (.tup [u1, u2])) := same_upd (e2.gh.free hT)
  refine ⟨T, [u1, u2], rfl, .inl (.inl upd_same), rfl, u1, [u2], rfl, ?_⟩
  refine put_rd oT ((Rep.mono (e2.gg e1.gh) r1).mono sT) q fun ρ1 G3 H3 o3 s3 q => ?_
  refine ⟨u2, [], rfl, ?_⟩
  exact put_rd o3 ((Rep.mono sT r2).mono s3) q fun ρ2 G4 H4 o4 _ q => ⟨rfl, q σ G4 H4 o4⟩
/-- a, b = e1, e2 with local names -/
theorem ss_par (o : XOk Γ N sc so W X) (hh : Γ.hot = false) {i j : Nat} {x y : Str} {a b : Expr} {px py pt pv pos : Pos} {k1 k2 : Nat} {fa fb : Env → R PV} (hi : N[i]? = some x) (hj : N[j]? = some y) (hij : i ≠ j) (hx : sc.names.lookup x = some .local) (hy : sc.names.lookup y = some .local) (hxy : x ≠ y)
    (hline : py.line = px.line) (ga : good a = true) (gb : good b = true) (hf : [a, b].all (foldedForSure 8) = false) (hc : [a, b].all (constantsAlone 8) = false) (ha : SE Γ W X .esc a fa) (hb : SE Γ W X .esc b fb) :
    SS Γ W fr X (.Assign [.Tuple [.Name x px, .Name y py] k1 pt] (.Tuple [a, b] k2 pv) pos)
      (fun ρ => RS.of (fa ρ) ρ fun v => RS.of (fb ρ) ρ fun w => if i < ρ.length ∧ j < ρ.length then .next ((ρ.set i (.sh v)).set j (.sh w)) else .bad) := by
  have hx' : X.env.scope.names.lookup x = some .local := by rw [o.hsc]; exact hx
  have hy' : X.env.scope.names.lookup y = some .local := by rw [o.hsc]; exact hy
  have kx : X.env.kindOf x = some .local := hx'
  have ky : X.env.kindOf y = some .local := hy'
  have bk : X.env.blockKind = .function := by
    unfold PySem.Env.blockKind
    rw [o.hsc, o.kd]
    rfl
  have hw : swappedStores [.Tuple [.Name x px, .Name y py] k1 pt] (.Tuple [a, b] k2 pv) X.env = pure (some [x, y]) := by
    unfold swappedStores
    have st : ([a, b].any fun
      | .Starred .. => true
      | _ => false) = false := by
      cases a <;> first | (simp only [good, Bool.false_eq_true] at ga; done) | (cases b <;> first | (simp only [good, Bool.false_eq_true] at gb; done) | rfl)
    have ne : (x == y) = false := by simpa using hxy
    simp only [List.length_cons, List.length_nil, List.filterMap_cons, List.filterMap_nil, kx, ky, bk, st, hf, hc, hline, Expr.pos, List.head?_cons, Option.map_some, Option.getD_some, beq_self_eq_true, Bool.and_true, if_true]
    have dd : (([x, y] : List Str).eraseDups.length != [x, y].length) = false := by
      have nyx : (y == x) = false := by
        rw [beq_eq_false_iff_ne]
        exact fun e => hxy e.symm
      simp [List.eraseDups_cons, nyx]
    simp only [List.length_cons, List.length_nil] at dd
    simp [dd]
    rintro (h | h)
    · cases a <;> first | (simp only [good, Bool.false_eq_true] at ga; done) | (cases h; done)
    · cases b <;> first | (simp only [good, Bool.false_eq_true] at gb; done) | (cases h; done)
  refine PS.weak (ps_par (i := i) (j := j) (o.calm hh) (by rw [o.hN]; exact o.nd) (o.Nx hi) (o.Nx hj) hij hx' hy' (pa_cons ha (pa_cons hb pa_nil (good_star gb _ _)) (good_star ga _ _)) hw rfl) fun D σ H ⟨B, ρ, G, ow, q⟩ => ?_
  refine of_rd ow rfl q fun v1 u1 G1 H1 e1 r1 q => ?_
  refine of_rd (ow.step e1) rfl q fun v2 u2 G2 H2 e2 r2 q => ?_
  split at q
  · rename_i hl
    exact ⟨u1, u2, rfl, q _ G2 H2 ((((ow.step e1).step e2).setSh hl.1 (Rep.mono (e2.gg e1.gh) r1)).setSh (by simpa using hl.2) r2)⟩
  · exact q.elim
/-- xs.append(e) -/
theorem ss_app (o : XOk Γ N sc so W X) {i : Nat} {x : Str} {e : Expr} {p apos cpos pos : Pos} {f : Env → R PV} (hn : N[i]? = some x) (hv : vis sc x = true) (ge : good e = true) (hline : (apos.endLine == cpos.line) = true) (he : SE Γ W X .esc e f) :
    SS Γ W fr X (.Expr (.Call (.Attribute (.Name x p) "append" apos) [e] [] cpos) pos) (fun ρ => match ρ[i]? with
      | some (.ow xs) => RS.of (f ρ) ρ fun v => if xs.length ≤ LIM then .next (ρ.set i (.ow (xs ++ [v]))) else .bad
      | _ => .bad) := by
  have hfew : ((backTo cpos (starEach [e] X.env)).all (fun x => !x.1) && (backToKw cpos (keywordEach [] X.env)).all (fun x => x.1.isSome) && decide (([e] : List Expr).length + ([] : List Keyword).length + (if ([] : List Keyword).isEmpty then 0 else 1) < 30)) = true := by
    rw [good_star ge]
    rfl
  refine PS.weak (ps_expr (pe_bm PySem.F.plainAttrs_list PySem.F.slot_list_append PySem.F.type_list_append mt_append (pe_slot o hn hv) (pa_cons he pa_nil (good_star ge _ _)) rfl hfew hline (good_star ge _ _) rfl) rfl) fun D σ H ⟨B, ρ, G, ow, q⟩ => ?_
  have q : PostS Γ W X.K fr B (match ρ[i]? with
      | some (.ow xs) => RS.of (f ρ) ρ fun v => if xs.length ≤ LIM then .next (ρ.set i (.ow (xs ++ [v]))) else .bad
      | _ => .bad) D := q
  split at q
  · rename_i xs hx
    obtain ⟨a, vs, ha, h1, h2, h3, rx⟩ := ow.ow hx
    refine ⟨.ref a, ha, .inl ⟨rfl, _, SqL.of h1⟩, ?_⟩
    refine of_rd ow rfl q fun v u G' H' ex rv hk => ?_
    split at hk
    · rename_i hl
      have o' := ow.step ex
      obtain ⟨a', vs', ha', h1', _, _, rx'⟩ := o'.ow hx
      rw [ha] at ha'
      cases ha'
      refine ⟨a, vs', u, rfl, rfl, h1', ?_, hk _ G' _ (o'.write hx ha (rx'.snoc rv))⟩
      rw [rx'.length]
      have := lim_line
      have : LIM < sizeLine := by decide
      omega
    · exact hk.elim
  · exact q.elim
/-- xs.pop() -/
theorem ss_pop (o : XOk Γ N sc so W X) {i : Nat} {x : Str} {p apos cpos pos : Pos} (hn : N[i]? = some x) (hv : vis sc x = true) (hline : (apos.endLine == cpos.line) = true) :
    SS Γ W fr X (.Expr (.Call (.Attribute (.Name x p) "pop" apos) [] [] cpos) pos) (fun ρ => match ρ[i]? with
      | some (.ow xs) => if xs = [] then .bad else .next (ρ.set i (.ow xs.dropLast))
      | _ => .bad) := by
  refine PS.weak (ps_expr (pe_bm0 PySem.F.plainAttrs_list PySem.F.slot_list_pop PySem.F.type_list_pop mt_pop (pe_slot o hn hv) rfl hline) rfl) fun D σ H ⟨B, ρ, G, ow, q⟩ => ?_
  have q : PostS Γ W X.K fr B (match ρ[i]? with
      | some (.ow xs) => if xs = [] then .bad else .next (ρ.set i (.ow xs.dropLast))
      | _ => .bad) D := q
  split at q
  · rename_i xs hx
    split at q
    · exact q.elim
    · rename_i hne
      obtain ⟨a, vs, ha, h1, h2, h3, rx⟩ := ow.ow hx
      have hl := rx.length
      have hpos : 0 < xs.length := List.length_pos_iff.mpr hne
      refine ⟨.ref a, ha, .inl ⟨rfl, _, SqL.of h1⟩, a, vs, vs[vs.length - 1]'(by omega), rfl, rfl, h1, List.getElem?_eq_getElem _, q σ G _ (ow.write hx ha ?_)⟩
      rw [List.dropLast_eq_take, List.dropLast_eq_take, hl]
      exact rx.take _
  · exact q.elim
/-- xs.append(ys.pop(k)) -/
theorem ss_appP (o : XOk Γ N sc so W X) {i j : Nat} {x y : Str} {ie : Expr} {p apos cpos p2 apos2 cpos2 pos : Pos} {f : Env → R PV} (hij : i ≠ j) (hn : N[i]? = some x) (hv : vis sc x = true) (hm : N[j]? = some y) (hw : vis sc y = true) (ge : good ie = true) (hline : (apos.endLine == cpos.line) = true) (hline2 : (apos2.endLine == cpos2.line) = true) (he : SE Γ W X .esc ie f) :
    SS Γ W fr X (.Expr (.Call (.Attribute (.Name x p) "append" apos) [.Call (.Attribute (.Name y p2) "pop" apos2) [ie] [] cpos2] [] cpos) pos) (fun ρ => match ρ[i]?, ρ[j]? with
      | some (.ow xs), some (.ow ys) => RS.of (f ρ) ρ fun k => popTo ρ i j xs ys k
      | _, _ => .bad) := by
  have hfew2 : ((backTo cpos2 (starEach [ie] X.env)).all (fun x => !x.1) && (backToKw cpos2 (keywordEach [] X.env)).all (fun x => x.1.isSome) && decide (([ie] : List Expr).length + ([] : List Keyword).length + (if ([] : List Keyword).isEmpty then 0 else 1) < 30)) = true := by
    rw [good_star ge]
    rfl
  have inner := pe_bm PySem.F.plainAttrs_list PySem.F.slot_list_pop PySem.F.type_list_pop (mt_popAt (X := X)) (pe_slot (p := p2) o hm hw) (pa_cons he pa_nil (good_star ge _ _)) rfl hfew2 hline2 (good_star ge _ _) rfl
  refine PS.weak (ps_expr (pe_bm PySem.F.plainAttrs_list PySem.F.slot_list_append PySem.F.type_list_append mt_append (pe_slot o hn hv) (pa_cons inner pa_nil rfl) rfl rfl hline rfl rfl) rfl) fun D σ H ⟨B, ρ, G, ow, q⟩ => ?_
  have q : PostS Γ W X.K fr B (match ρ[i]?, ρ[j]? with
      | some (.ow xs), some (.ow ys) => RS.of (f ρ) ρ fun k => popTo ρ i j xs ys k
      | _, _ => .bad) D := q
  split at q
  · rename_i xs ys hx hy
    obtain ⟨a, vs, ha, h1, h2, h3, rx⟩ := ow.ow hx
    obtain ⟨b, us, hb, k1, k2, k3, ry⟩ := ow.ow hy
    refine ⟨.ref a, ha, .inl ⟨rfl, _, SqL.of h1⟩, ?_⟩
    refine ⟨.ref b, hb, .inl ⟨rfl, _, SqL.of k1⟩, ?_⟩
    refine of_rd ow rfl q fun k u G' H' ex rv hk => ?_
    unfold popTo at hk
    split at hk
    · rename_i z
      split at hk
      · rename_i hl
        split at hk
        · rename_i v hv
          have o' := ow.step ex
          obtain ⟨b', us', hb', k1', _, _, ry'⟩ := o'.ow hy
          rw [hb] at hb'
          cases hb'
          obtain ⟨w, hw', rw'⟩ := ry'.get hv
          have hlen : z.toNat < us'.length := (List.getElem?_eq_some_iff.mp hw').1
          have ow1 := o'.write (ys := ys.eraseIdx z.toNat) (us := us'.eraseIdx z.toNat) hy hb (by
            rw [List.eraseIdx_eq_take_drop_succ, List.eraseIdx_eq_take_drop_succ]
            exact (ry'.take _).append (ry'.drop _))
          have hx1 : (ρ.set j (.ow (ys.eraseIdx z.toNat)))[i]? = some (.ow xs) := by rw [List.getElem?_set_ne (by omega)]; exact hx
          obtain ⟨a', vs', ha', h1', _, _, rx'⟩ := ow1.ow hx1
          rw [ha] at ha'
          cases ha'
          refine ⟨b, us', z, z.toNat, w, rfl, by rw [int_of rv], k1', by omega, by omega, ?_, hw', ?_⟩
          · have hz : ¬ z < 0 := by omega
            simp only [seqIndex?, hz, if_false, decide_eq_true (show 0 ≤ z by omega), decide_eq_true (show z < (us'.length : Int) by omega), Bool.and_self, if_true]
          · refine ⟨a, vs', w, rfl, rfl, h1', ?_, hk _ G' _ (ow1.write hx1 ha (rx'.snoc rw'))⟩
            rw [rx'.length]
            have := lim_line
            have : LIM < sizeLine := by decide
            omega
        · exact hk.elim
      · exact hk.elim
    · exact hk.elim
  · exact q.elim
/-! ### what a call tells is new when nothing handed in holds a list -/
/-- the settled part without its lists -/
def noL (G : Hp) : Hp := fun b => match G b with
  | some (.lst _) => none
  | z => z
theorem noL_same (G : Hp) : Same (noL G) G := fun b o h => by
  unfold noL at h
  split at h
  · cases h
  · exact h
theorem noL_clean {G H : Hp} (c : Clean G H) : Clean (noL G) H := ⟨fun b ps h => c.nt b ps (noL_same _ _ _ h), c.tb⟩
theorem noL_keep {G : Hp} {b : Addr} {o : HO} (h : G b = some o) (hn : ∀ vs, o ≠ .lst vs) : noL G b = some o := by
  unfold noL
  split
  · rename_i vs e
    rw [h] at e
    exact absurd (Option.some.inj e) (hn vs)
  · exact h
theorem seqT_nol {K : PySem.W.Frag} {G G2 : Hp} {a : Addr} {vs : List V} (s : ∀ b o, G b = some o → (∀ us, o ≠ .lst us) → G2 b = some o) (h : SqT K G a vs) : SqT K G2 a vs := by
  rcases h with (h | ⟨o, h⟩) | h
  · exact .inl (.inl (s _ _ h fun _ => by simp))
  · exact .inl (.inr ⟨o, s _ _ h fun _ => by simp⟩)
  · exact .inr h
mutual
theorem nol_rep {K : PySem.W.Frag} {G G2 : Hp} (s : ∀ b o, G b = some o → (∀ us, o ≠ .lst us) → G2 b = some o) : ∀ {x : PV} {v : V}, nol x = true → Rep K G x v → Rep K G2 x v
  | .non, _, _, h => by simpa [Rep] using h
  | .bl _, _, _, h => by simpa [Rep] using h
  | .int _, _, _, h => by simpa [Rep] using h
  | .str _, _, _, h => by simpa [Rep] using h
  | .tup xs, v, n, h => by
    obtain ⟨a, vs, e, g, r⟩ := rep_tup.mp h
    exact rep_tup.mpr ⟨a, vs, e, seqT_nol s g, nols_rep s (by simpa [nol] using n) r⟩
  | .lst _, _, n, _ => by simp [nol] at n
  | .rl _, _, n, _ => by simp [nol] at n
  | .dk _ _, _, n, _ => by simp [nol] at n
  | .exc _, _, n, _ => by simp [nol] at n
theorem nols_rep {K : PySem.W.Frag} {G G2 : Hp} (s : ∀ b o, G b = some o → (∀ us, o ≠ .lst us) → G2 b = some o) : ∀ {xs : List PV} {vs : List V}, nols xs = true → Reps K G xs vs → Reps K G2 xs vs
  | [], _, _, h => by simpa [Reps] using h
  | x :: xs, vs, n, h => by
    simp only [nols, Bool.and_eq_true] at n
    obtain ⟨v, r, e, h1, h2⟩ := reps_cons.mp h
    exact reps_cons.mpr ⟨v, r, e, nol_rep s n.1 h1, nols_rep s n.2 h2⟩
end
/-- the settled part behind such a call: no new list in it -/
def mrg (H G G' : Hp) : Hp := fun b => match H b with
  | some _ => G b
  | none => noL G' b
theorem mrg_ext {G H G' H' : Hp} (gh : Same G H) (n : ∀ b ps, G b ≠ some (.tbl ps)) (e : Ext (noL G) H G' H') : Ext G H (mrg H G G') H' := by
  refine ⟨e.hh, fun b o h => ?_, fun b o h => ?_, fun b ps h => ?_⟩
  · unfold mrg at h
    split at h
    · exact e.hh.low gh n _ _ h
    · exact e.gh _ _ (noL_same _ _ _ h)
  · unfold mrg
    rw [h]
  · unfold mrg at h
    split at h
    · exact h
    · exact noL_same _ _ _ (e.nt b ps (noL_same _ _ _ h))
theorem mrg_keep {G H G' H' : Hp} (e : Ext (noL G) H G' H') : ∀ b o, G' b = some o → (∀ us, o ≠ .lst us) → mrg H G G' b = some o := fun b o h hn => by
  unfold mrg
  split
  · rename_i z hz
    rw [e.old _ _ hz] at h
    exact noL_same _ _ _ h
  · exact noL_keep h hn
theorem mrg_new {G H G' H' : Hp} (e : Ext (noL G) H G' H') {p : Addr} {vs : List V} (h : G' p = some (.lst vs)) : H p = none ∧ mrg H G G' p = none := by
  have h0 : H p = none := by
    cases q : H p with
    | none => rfl
    | some z =>
      rw [e.old _ _ q] at h
      unfold noL at h
      split at h
      · cases h
      · rename_i hz
        exact absurd h (hz vs)
  refine ⟨h0, ?_⟩
  unfold mrg
  rw [h0]
  show noL G' p = none
  unfold noL
  rw [h]
theorem flat_nol {x : PV} (h : flat x = true) : nol x = true := by
  cases x <;> first | rfl | (simp [flat] at h; done)
/-- found, clean = asked(..): a list that is told is the name's own -/
theorem ss_unpF (o : XOk Γ N sc so W X) (hh : Γ.hot = false) {n : Fn} (hn : n ∈ Γ.fns) (hf : n.fr = false) {i j : Nat} {ts : List Expr} {k : Nat} {p p2 p3 pos : Pos} {e : Expr} {es : List Expr} {f : Env → R (List PV)} (hij : i ≠ j) (hm : mNames N so [i, j] ts = true) (ge : (e :: es).all good = true) (hg : glb sc n.name = true)
    (hs : swapsWith (.Call (.Name n.name p2) (e :: es) [] p3) (some (.Tuple ts k p)) pos.line X.env = pure false) (ha : SAE Γ W X (e :: es) f) :
    SS Γ W fr X (.Assign [.Tuple ts k p] (.Call (.Name n.name p2) (e :: es) [] p3) pos) (fun ρ => RS.ofL (f ρ) ρ fun xs => if nols xs then RS.of (n.sem xs) ρ fun v => unpTo ρ i j v else .bad) := by
  have pg : PG X (.Tuple ts k p) (rdG X.K [i, j] true) := pg_tgt o hh (tp := true) (by unfold mTgt; rw [if_pos rfl]; exact hm)
  refine PS.weak (ps_asg (callee o hh hn ge hg ha) pg hs rfl rfl) fun D σ H ⟨B, ρ, G, ow, q⟩ => ?_
  have q : PostS Γ W X.K fr B (RS.ofL (f ρ) ρ fun xs => if nols xs then RS.of (n.sem xs) ρ fun v => unpTo ρ i j v else .bad) D := q
  refine ⟨B, ρ, G, ow, ?_⟩
  cases er : f ρ with
  | bad => rw [er] at q; exact q.elim
  | exn c =>
    rw [er] at q
    exact fun G' H' e' => q σ G' H' (ow.step e')
  | ok xs =>
    rw [er] at q
    simp only [RS.ofL_ok] at q
    split at q
    · rename_i hnl
      intro us G1 H1 e1 r1
      have o1 := ow.step e1
      have gh1 := o1.gh
      refine ⟨?_, noL G1, xs, (noL_same G1).trans gh1, noL_clean o1.cl, nols_rep (fun b z hz hl => noL_keep hz hl) hnl r1, ?_⟩
      · rw [r1.length]
        refine (o.g.fn n hn).len xs fun eb => ?_
        rw [eb] at q
        exact q
      · cases es2 : n.sem xs with
        | bad => rw [es2] at q; exact q.elim
        | exn c =>
          rw [es2] at q
          exact fun G' H' e2 => q σ _ H' (o1.step (mrg_ext gh1 o1.cl.nt e2))
        | ok v =>
          rw [es2] at q
          simp only [RS.of_ok] at q
          intro u G' H' e2 rv
          rw [hf] at rv
          replace rv : Rep X.K G' v u := rv
          have o2 := o1.step (mrg_ext gh1 o1.cl.nt e2)
          unfold unpTo at q
          split at q
          · rename_i x y
            split at q
            · rename_i hc
              simp only [Bool.and_eq_true, decide_eq_true_eq] at hc
              obtain ⟨a, vs, rfl, hsq, hr⟩ := rep_tup.mp rv
              obtain ⟨w1, r2, rfl, g1, hr⟩ := reps_cons.mp hr
              obtain ⟨w2, r3, rfl, g2, hr⟩ := reps_cons.mp hr
              have := reps_nil.mp hr
              subst this
              have sq' : SqT X.K H' a [w1, w2] := same_seqT e2.gh hsq
              have y2 : Rep X.K (mrg H1 G1 G') y w2 := nol_rep (mrg_keep e2) (flat_nol hc.2) g2
              split at q
              · rename_i zs
                split at q
                · rename_i hz
                  obtain ⟨b, ws, rfl, gb, rz⟩ := rep_lst.mp g1
                  obtain ⟨n1, n2⟩ := mrg_new e2 gb
                  have h0 : B.H0 b = none := o1.ext.hh.free n1
                  have o3 := o2.setOw (i := i) (xs := zs) (a := b) hc.1.1 (e2.gh _ _ gb) n2 h0 (nols_rep (mrg_keep e2) hz rz) fun j' ys hj' _ hσ => by
                    obtain ⟨a', vs', ha', h1', _⟩ := o1.ow hj'
                    rw [hσ] at ha'
                    cases ha'
                    rw [n1] at h1'
                    cases h1'
                  have o4 := o3.setSh (i := j) (x := y) (by simpa using hc.1.2) y2
                  exact ⟨a, [.ref b, w2], rfl, .inl sq', rfl, q _ _ H' o4⟩
                · exact q.elim
              · split at q
                · rename_i hx
                  have o3 := o2.setSh (i := i) (x := x) hc.1.1 (nol_rep (mrg_keep e2) (flat_nol hx) g1)
                  have o4 := o3.setSh (i := j) (x := y) (by simpa using hc.1.2) y2
                  exact ⟨a, [w1, w2], rfl, .inl sq', rfl, q _ _ H' o4⟩
                · exact q.elim
            · exact q.elim
          · exact q.elim
    · exact q.elim
/-! ### a list in a told list is changed, and the told one is forgotten -/
def mrgA (H G G' : Hp) : Hp := fun b => match H b with
  | some _ => G b
  | none => G' b
theorem mrgA_ext {G H G' H' : Hp} (gh : Same G H) (n : ∀ b ps, G b ≠ some (.tbl ps)) (e : Ext (noL G) H G' H') : Ext G H (mrgA H G G') H' := by
  refine ⟨e.hh, fun b o h => ?_, fun b o h => ?_, fun b ps h => ?_⟩
  · unfold mrgA at h
    split at h
    · exact e.hh.low gh n _ _ h
    · exact e.gh _ _ h
  · unfold mrgA
    rw [h]
  · unfold mrgA at h
    split at h
    · exact h
    · exact noL_same _ _ _ (e.nt b ps h)
theorem mrgA_same {G H G' H' : Hp} (e : Ext (noL G) H G' H') : Same G' (mrgA H G G') := fun b o h => by
  unfold mrgA
  split
  · rename_i z hz
    rw [e.old _ _ hz] at h
    exact noL_same _ _ _ h
  · exact h
theorem Ow.anyNo {K : PySem.W.Frag} {B : Bd} {ρ : Env} {σ : L2.St} {G H : Hp} (o : Ow K B ρ σ G H) {i : Nat} (h : ρ[i]? = some .no) (x : Option V) : Ow K B ρ (σ.set i x) G H := by
  have hi : i < ρ.length := (List.getElem?_eq_some_iff.mp h).1
  have hi' : i < σ.length := by rw [o.len]; exact hi
  have ne : ∀ j zs, ρ[j]? = some (.ow zs) → j ≠ i := fun j zs hj e => by
    subst e
    rw [h] at hj
    cases hj
  refine ⟨o.ext, o.cl, o.low, by simp [o.len], fun j s hj => ?_, fun j k xs ys a h1 h2 h3 h4 => ?_⟩
  · rw [getD_set hi']
    by_cases e : j = i
    · subst e
      rw [h] at hj
      cases hj
      trivial
    · rw [if_neg e]
      exact o.slot j s hj
  · rw [List.getElem?_set_ne (Ne.symm (ne j xs h1))] at h3
    rw [List.getElem?_set_ne (Ne.symm (ne k ys h2))] at h4
    exact o.apart j k xs ys a h1 h2 h3 h4
theorem sss_scr (o : XOk Γ N sc so W X) (hh : Γ.hot = false) {n : Fn} (hn : n ∈ Γ.fns) (hf : n.fr = false) {i : Nat} {y : Str} {k0 k1 : Nat} {z : Int} {p p2 p3 p4 p5 p6 p7 apos cpos pos pos2 pos3 : Pos} {c e : Expr} {es : List Expr} {f : Env → R (List PV)} {fc : Env → R PV} {rest : List Stmt} {g : Env → RS}
    (hi : N[i]? = some y) (hl : loc so y = true) (hv : vis sc y = true) (ge : (e :: es).all good = true) (hg : glb sc n.name = true) (hs : swapsWith (.Call (.Name n.name p2) (e :: es) [] p3) (some (.Name y p)) pos.line X.env = pure false) (ha : SAE Γ W X (e :: es) f) (hline : (apos.endLine == cpos.line) = true)
    (hc : ST Γ W X c fc) (hfc : ∀ (ρ : Env) (zs : List PV), ρ[i]? = some (.sh (.lst zs)) → fc ρ = .ok (.bl (decide ((0 : Int) < (zs.length : Int))))) (h2 : SSs Γ W fr X rest g) :
    SSs Γ W fr X (.Assign [.Name y p] (.Call (.Name n.name p2) (e :: es) [] p3) pos :: .If c [.Expr (.Call (.Attribute (.Subscript (.Name y p4) (.Constant (.int 0) k0 p5) p6) "append" apos) [.Constant (.int z) k1 p7] [] cpos) pos2] [] pos3 :: rest) (fun ρ => (RS.ofL (f ρ) ρ fun xs => if nols xs then RS.of (n.sem xs) ρ fun v => scrTo ρ i v else .bad).then g) := by
  obtain ⟨l1, l2⟩ := o.loc hl
  have body := pss_cons (ps_expr (pos := pos2) (pe_bm (cpos := cpos) PySem.F.plainAttrs_list PySem.F.slot_list_append PySem.F.type_list_append (mt_append (X := X)) (pe_ix (pos := p6) ix_list (pe_slot (p := p4) o hi hv) (pe_int (i := 0) (j := k0) (pos := p5)) (good_ix rfl)) (pa_cons (pe_int (i := z) (j := k1) (pos := p7)) pa_nil rfl) rfl rfl hline rfl rfl) rfl) (pss_nil (X := X))
  refine PSs.weak (pss_cons (ps_set (i := i) (by rw [o.hN]; exact o.nd) (o.Nx hi) l1 (callee o hh hn ge hg ha) hs l2) (pss_cons (ps_if hc body pss_nil) h2)) fun D σ H ⟨B, ρ, G, ow, q⟩ => ?_
  have q : PostS Γ W X.K fr B ((RS.ofL (f ρ) ρ fun xs => if nols xs then RS.of (n.sem xs) ρ fun v => scrTo ρ i v else .bad).then g) D := q
  refine ⟨B, ρ, G, ow, ?_⟩
  cases er : f ρ with
  | bad => rw [er] at q; exact q.elim
  | exn c =>
    rw [er] at q
    exact fun G' H' e' => q σ G' H' (ow.step e')
  | ok xs =>
    rw [er] at q
    simp only [RS.ofL_ok] at q
    split at q
    · rename_i hnl
      intro us G1 H1 e1 r1
      have o1 := ow.step e1
      have gh1 := o1.gh
      refine ⟨?_, noL G1, xs, (noL_same G1).trans gh1, noL_clean o1.cl, nols_rep (fun b z hz hl => noL_keep hz hl) hnl r1, ?_⟩
      · rw [r1.length]
        refine (o.g.fn n hn).len xs fun eb => ?_
        rw [eb] at q
        exact q
      · cases es2 : n.sem xs with
        | bad => rw [es2] at q; exact q.elim
        | exn c =>
          rw [es2] at q
          exact fun G' H' e2 => q σ _ H' (o1.step (mrg_ext gh1 o1.cl.nt e2))
        | ok v =>
          rw [es2] at q
          simp only [RS.of_ok] at q
          intro u G' H' e2 rv
          rw [hf] at rv
          replace rv : Rep X.K G' v u := rv
          unfold scrTo at q
          split at q
          · rename_i zs
            split at q
            · rename_i hz
              simp only [Bool.and_eq_true, decide_eq_true_eq] at hz
              obtain ⟨a, vs, rfl, ga, rz⟩ := rep_lst.mp rv
              have hi1 : i < ρ.length := hz.1
              have eA := mrgA_ext gh1 o1.cl.nt e2
              have oA := (o1.step eA).setSh (i := i) hi1 (Rep.mono (mrgA_same e2) rv)
              have fin : ∀ Hf : Hp, SameT H1 Hf → rdS Γ W X.K fr g D (σ.set i (some (.ref a))) Hf := fun Hf hs2 => by
                have o3 := ((o1.step ⟨hs2, hs2.low gh1 o1.cl.nt, fun _ _ _ => rfl, fun _ _ h => h⟩).kill i).anyNo (i := i) (by rw [List.getElem?_set_self hi1]) (some (.ref a))
                exact ⟨B, _, G1, o3, q⟩
              refine ⟨B, ρ.set i (.sh (.lst zs)), _, oA, ?_⟩
              rw [hfc _ zs (by rw [List.getElem?_set_self hi1])]
              refine ⟨_, rfl, fun G3 H3 e3 => ?_⟩
              have sH : SameT H1 H3 := e2.hh.trans e3.hh
              have a3 : H3 a = some (.lst vs) := e3.hh.lst (e2.gh _ _ ga)
              by_cases h0 : (0 : Int) < (zs.length : Int)
              · rw [decide_eq_true h0]
                refine iteT ?_
                cases zs with
                | nil => simp at h0
                | cons w zs =>
                  have hw := hz.2
                  rw [List.all_cons, Bool.and_eq_true] at hw
                  cases w with
                  | lst ys =>
                    obtain ⟨w1, r2, rfl, g1, _⟩ := reps_cons.mp rz
                    obtain ⟨b, ws, rfl, gb, ry⟩ := rep_lst.mp g1
                    have b3 : H3 b = some (.lst ws) := e3.hh.lst (e2.gh _ _ gb)
                    have b1 := (mrg_new e2 gb).1
                    have hlen : ys.length ≤ LIM := by simpa [isL] using hw.1
                    refine ⟨.ref a, ?_, ?_⟩
                    · rw [List.getElem?_set_self (by rw [← o1.len] at hi1; exact hi1)]
                    · refine ⟨a, .ref b :: r2, 0, .ref b, rfl, rfl, SqL.of a3, by
                        have : ixN (V.ref b :: r2).length 0 = some 0 := by
                          unfold ixN
                          rw [if_pos (by decide), if_pos (by rw [List.length_cons]; omega)]
                          rfl
                        unfold atI
                        rw [this]
                        rfl, ?_⟩
                      refine ⟨.inl ⟨rfl, _, SqL.of b3⟩, b, ws, .int z, rfl, rfl, b3, ?_, ?_⟩
                      · rw [ry.length]
                        have := lim_line
                        have : LIM < sizeLine := by decide
                        omega
                      · exact fin _ (sH.put b1 b3)
                  | _ => simp [isL] at hw
              · rw [decide_eq_false h0]
                exact iteF (fin H3 sH)
            · exact q.elim
          · exact q.elim
    · exact q.elim
/-! ### if, return -/
theorem ss_ite {c : Expr} {a b : List Stmt} {pos : Pos} {fc : Env → R PV} {fa fb : Env → RS} (hc : ST Γ W X c fc) (ha : SSs Γ W fr X a fa) (hb : SSs Γ W fr X b fb) :
    SS Γ W fr X (.If c a b pos) (fun ρ => RS.of (fc ρ) ρ fun v => RS.ifB v (fa ρ) (fb ρ)) := by
  refine PS.weak (ps_if hc ha hb) fun D σ H ⟨B, ρ, G, ow, q⟩ => ⟨B, ρ, G, ow, ?_⟩
  have q : PostS Γ W X.K fr B (RS.of (fc ρ) ρ fun v => RS.ifB v (fa ρ) (fb ρ)) D := q
  cases e : fc ρ with
  | bad => rw [e] at q; exact q
  | exn c =>
    rw [e] at q
    exact fun G' H' ex => q σ G' H' (ow.step ex)
  | ok v =>
    rw [e] at q
    have q : PostS Γ W X.K fr B (RS.ifB v (fa ρ) (fb ρ)) D := q
    unfold RS.ifB at q
    split at q
    · exact ⟨true, rfl, fun G1 H1 e1 => iteT ⟨B, ρ, G1, ow.step e1, q⟩⟩
    · exact ⟨false, rfl, fun G1 H1 e1 => iteF ⟨B, ρ, G1, ow.step e1, q⟩⟩
    · exact q.elim
theorem ss_ret {e : Expr} {pos : Pos} {f : Env → R PV} (he : SE Γ W X (if fr then .fre else .esc) e f) : SS Γ W fr X (.Return (some e) pos) (fun ρ => RS.of (f ρ) ρ fun v => .ret v) := by
  refine PS.weak (ps_ret he) fun D σ H ⟨B, ρ, G, ow, q⟩ => ?_
  exact of_rd ow rfl q fun x v G' H' ex rv hk => hk v G' H' (ow.ext.trans ex) (repM_old ow.ext.hh rv)
theorem ss_reto (o : XOk Γ N sc so W X) {i : Nat} {x : Str} {p pos : Pos} (hn : N[i]? = some x) (hv : vis sc x = true) : SS Γ W fr X (.Return (some (.Name x p)) pos) (fun ρ => match ρ[i]? with
      | some (.ow xs) => .ret (.lst xs)
      | some (.sh v) => if fr then .bad else .ret v
      | _ => .bad) := by
  refine PS.weak (ps_ret (pe_slot o hn hv)) fun D σ H ⟨B, ρ, G, ow, q⟩ => ?_
  have q : PostS Γ W X.K fr B (match ρ[i]? with
      | some (.ow xs) => .ret (.lst xs)
      | some (.sh v) => if fr then .bad else .ret v
      | _ => .bad) D := q
  split at q
  · rename_i xs hx
    obtain ⟨a, vs, ha, h1, h2, h3, rx⟩ := ow.ow hx
    refine ⟨.ref a, ha, ?_⟩
    cases fr with
    | true => exact q (.ref a) G H ow.ext ⟨a, vs, rfl, h3, h2, h1, rx⟩
    | false =>
      exact q (.ref a) (upd G a (.lst vs)) H (ow.ext.settle h3 h1) (show Rep X.K _ _ _ from rep_lst.mpr ⟨a, vs, rfl, upd_same, rx.mono (same_upd h2)⟩)
  · rename_i v hx
    split at q
    · exact q.elim
    · rename_i hf
      obtain ⟨w, e, r⟩ := ow.sh hx
      refine ⟨w, e, q w G H ow.ext ?_⟩
      rw [if_neg hf]
      exact r
  · exact q.elim
theorem ss_retN {pos : Pos} : SS Γ W false X (.Return none pos) (fun _ => .ret .non) := PS.weak ps_retN fun D σ H ⟨B, ρ, G, ow, q⟩ => q .non G H ow.ext (show Rep X.K G _ _ from rep_non.mpr rfl)
theorem ss_pass {pos : Pos} : SS Γ W fr X (.Pass pos) (fun ρ => .next ρ) := PS.weak ps_pass fun D σ H ⟨B, ρ, G, ow, q⟩ => q σ G H ow
theorem ss_brk {pos : Pos} : SS Γ W fr X (.Break pos) (fun ρ => .brk ρ) := PS.weak ps_break fun D σ H ⟨B, ρ, G, ow, q⟩ => q σ G H ow
theorem ss_cnt {pos : Pos} : SS Γ W fr X (.Continue pos) (fun ρ => .cnt ρ) := PS.weak ps_continue fun D σ H ⟨B, ρ, G, ow, q⟩ => q σ G H ow
theorem ss_raise (o : XOk Γ N sc so W X) (hh : Γ.hot = false) {x m : Str} {j : Nat} {p p2 p3 pos : Pos} {c : Nat} (hm : (x, c) ∈ Γ.ec.ex) (hg : glb sc x = true) :
    SS Γ W fr X (.Raise (some (.Call (.Name x p) [.Constant (.str m) j p2] [] p3)) none pos) (fun ρ => .exn c ρ) := by
  have E := o.g.ec.ex _ hm
  exact PS.weak (ps_raise (o.calm hh) (o.tk hh) (pmk_own PySem.F.excBase_ValueError E.ex E.gm E.kp (raises_own E.sb E.ty) (o.gl hg) E.db)) fun D σ H ⟨B, ρ, G, ow, q⟩ => q σ G H ow
theorem ss_exp {e : Expr} {pos : Pos} {f : Env → R PV} (hn : noComp e = true) (he : SE Γ W X .esc e f) : SS Γ W fr X (.Expr e pos) (fun ρ => RS.of (f ρ) ρ fun _ => .next ρ) := by
  refine PS.weak (ps_expr he (good_swap hn _ _ _)) fun D σ H ⟨B, ρ, G, ow, q⟩ => ?_
  exact of_rd ow rfl q fun x v G' H' ex rv hk => hk σ G' H' (ow.step ex)
/-! ### loops -/
theorem ss_for (o : XOk Γ N sc so W X) (hh : Γ.hot = false) (hp : PassesOwn (model X.prog X.w) X.A X.env X.xe) {tg : List Nat} {tp : Bool} {t it : Expr} {body : List Stmt} {pos : Pos} {fi : Env → R (List PV)} {fb : Env → RS} (gi : good it = true) (ht : mTgt N so tg tp t = true) (hi : SI Γ W X .esc t it fi) (hb : SSs Γ W fr X body fb) :
    SS Γ W fr X (.For t it body [] pos) (fun ρ => RS.ofL (fi ρ) ρ fun xs => forL (asgT tg tp) fb xs ρ) := by
  refine PS.weak (ps_for hp (o.calm hh) hi (pg_tgt o hh ht) hb (good_fold gi _)) fun D σ H ⟨B, ρ, G, ow, q⟩ => ⟨B, ρ, G, ow, ?_⟩
  have q : PostS Γ W X.K fr B (RS.ofL (fi ρ) ρ fun xs => forL (asgT tg tp) fb xs ρ) D := q
  cases e : fi ρ with
  | bad => rw [e] at q; exact q
  | exn c =>
    rw [e] at q
    exact fun G' H' ex => q σ G' H' (ow.step ex)
  | ok xs =>
    rw [e] at q
    intro J G1 H1 e1 its
    have q : PostS Γ W X.K fr B (forL (asgT tg tp) fb xs ρ) D := q
    have o1 := ow.step e1
    refine ⟨fun i m σ H => i + m = xs.length ∧ ∃ ρ G, Ow X.K ⟨B.G0, B.H0, G1⟩ ρ σ G H ∧ PostS Γ W X.K fr ⟨B.G0, B.H0, G1⟩ (forL (asgT tg tp) fb (xs.drop i) ρ) D, ⟨xs.length, by omega, ρ, G1, o1.relow (Same.refl _), ?_⟩, ?_⟩
    · rw [List.drop_zero]
      have low : ∀ {ρ' σ' G' H'}, Ow X.K ⟨B.G0, B.H0, G1⟩ ρ' σ' G' H' → Ow X.K B ρ' σ' G' H' := fun o' => o'.relow (o1.low.trans o'.low)
      cases ef : forL (asgT tg tp) fb xs ρ with
      | next ρ' => rw [ef] at q; exact fun σ' G' H' o' => q σ' G' H' (low o')
      | brk ρ' => rw [ef] at q; exact fun σ' G' H' o' => q σ' G' H' (low o')
      | cnt ρ' => rw [ef] at q; exact fun σ' G' H' o' => q σ' G' H' (low o')
      | ret v => rw [ef] at q; exact q
      | exn c ρ' => rw [ef] at q; exact fun σ' G' H' o' => q σ' G' H' (low o')
      | bad => rw [ef] at q; exact q
    · rintro i m σ2 H2 ⟨him, ρ2, G2, o2, q2⟩
      have ci : CI .esc G1 H1 G2 H2 := ⟨o2.low, o2.gh, trivial⟩
      by_cases hlt : i < xs.length
      · refine .inr ⟨its.goes i G2 H2 hlt ci, fun σ3 H3 => (i + 1) + (m - 1) = xs.length ∧ ∃ ρ G, Ow X.K ⟨B.G0, B.H0, G1⟩ ρ σ3 G H3 ∧ PostS Γ W X.K fr ⟨B.G0, B.H0, G1⟩ (forL (asgT tg tp) fb (xs.drop (i + 1)) ρ) D, fun σ3 H3 h3 => ⟨m - 1, by omega, h3⟩, fun v H3 y => ?_⟩
        obtain ⟨G3, x, e3, hx, rx⟩ := its.yields i G2 H2 v H3 hlt o2.gh ci y
        have dr : xs.drop i = x :: xs.drop (i + 1) := by
          rw [List.drop_eq_getElem_cons hlt]
          have := List.getElem?_eq_getElem hlt
          rw [hx] at this
          rw [Option.some.inj this]
        rw [dr] at q2
        unfold forL at q2
        split at q2
        · exact q2.elim
        · rename_i ρ3 ea
          refine ow_asgT (o2.step e3) rx ea fun vs o3 => ⟨⟨B.G0, B.H0, G1⟩, ρ3, G3, o3, ?_⟩
          cases eb : fb ρ3 with
          | next ρ4 => rw [eb] at q2; exact fun σ4 G4 H4 o4 => ⟨by omega, ρ4, G4, o4, q2⟩
          | cnt ρ4 => rw [eb] at q2; exact fun σ4 G4 H4 o4 => ⟨by omega, ρ4, G4, o4, q2⟩
          | brk ρ4 => rw [eb] at q2; exact q2
          | ret v => rw [eb] at q2; exact q2
          | exn c ρ4 => rw [eb] at q2; exact q2
          | bad => rw [eb] at q2; exact q2
      · have ei : i = xs.length := by omega
        refine .inl ⟨by rw [ei]; exact its.stops G2 H2 ci, ?_⟩
        rw [ei, List.drop_length] at q2
        exact q2 σ2 G2 H2 o2
theorem ss_whl (hp : PassesOwn (model X.prog X.w) X.A X.env X.xe) {c : Expr} {body : List Stmt} {pos : Pos} {fc : Env → R PV} {fb : Env → RS} (n : Nat) (hc : ST Γ W X c fc) (hb : SSs Γ W fr X body fb) :
    SS Γ W fr X (.While c body [] pos) (fun ρ => whlL fc fb n ρ) := by
  refine PS.weak (ps_while hp hc hb) fun D σ H ⟨B, ρ, G, ow, q⟩ => ?_
  refine ⟨fun m σ H => ∃ ρ G, Ow X.K B ρ σ G H ∧ PostS Γ W X.K fr B (whlL fc fb m ρ) D, ⟨n, ρ, G, ow, q⟩, ?_⟩
  rintro m σ1 H1 ⟨ρ1, G1, o1, q1⟩
  cases m with
  | zero => exact q1.elim
  | succ m =>
    unfold whlL at q1
    refine ⟨B, ρ1, G1, o1, ?_⟩
    cases e : fc ρ1 with
    | bad => rw [e] at q1; exact q1
    | exn c =>
      rw [e] at q1
      exact fun G' H' ex => q1 σ1 G' H' (o1.step ex)
    | ok v =>
      rw [e] at q1
      have q1 : PostS Γ W X.K fr B (RS.ifB v ((fb ρ1).turn (whlL fc fb m)) (.next ρ1)) D := q1
      unfold RS.ifB at q1
      split at q1
      · refine ⟨true, rfl, fun G2 H2 e2 => iteT ⟨fun σ' H' => ∃ ρ G, Ow X.K B ρ σ' G H' ∧ PostS Γ W X.K fr B (whlL fc fb m ρ) D, fun σ' H' h' => ⟨m, Nat.lt_succ_self _, h'⟩, B, ρ1, G2, o1.step e2, ?_⟩⟩
        cases eb : fb ρ1 with
        | next ρ4 => rw [eb] at q1; exact fun σ4 G4 H4 o4 => ⟨ρ4, G4, o4, q1⟩
        | cnt ρ4 => rw [eb] at q1; exact fun σ4 G4 H4 o4 => ⟨ρ4, G4, o4, q1⟩
        | brk ρ4 => rw [eb] at q1; exact q1
        | ret v => rw [eb] at q1; exact q1
        | exn c ρ4 => rw [eb] at q1; exact q1
        | bad => rw [eb] at q1; exact q1
      · exact ⟨false, rfl, fun G2 H2 e2 => iteF (q1 σ1 G2 H2 (o1.step e2))⟩
      · exact q1.elim
end

/-! ### try -/
/-- a lambda that gives r is called -/
def rdTl (Γ : Gt) (W : WX) (K : PySem.W.Frag) (r : R PV) : TE := fun σ H Q => ∃ (B : Bd) (ρ : Env) (G : Hp), Ow K B ρ σ G H ∧ ρ[0]? = some .fn ∧
  PK r (fun x => ∀ v G' H', Ext G H G' H' → Rep K G' x v → Q v H') (Ke Γ W σ G H)
/-- what the statements ask of a context -/
structure SOk (Γ : Gt) (X : Cx) : Prop where
  po : PassesOwn (model X.prog X.w) X.A X.env X.xe
  st : X.stack = X.env :: X.outer
  fm : X.env.frame = some X.env.locals
  tl : ∀ a r, Γ.tl = some (a, r) → ∀ (W : WX) (pn : List (Addr × Obj)) (xe : Value → Shared → Prop), Takes (X.tr pn xe) W → ∀ p1 p2 : Pos, PE (X.tr pn xe) (.Call (.Name a p1) [] [] p2) (rdTl Γ W X.K r)
abbrev Gt.heat (Γ : Gt) : Gt := { Γ with hot := true }
section
variable {Γ : Gt} {N : List Str} {sc so : Scope} {W : WX} {X : Cx} {fr : Bool}
theorem XOk.suite (o : XOk Γ N sc so W X) (a : Addr) (pn : List (Addr × Obj)) : XOk Γ.heat N sc so W0 (X.suite a pn) :=
  ⟨⟨fun n hn => ⟨(o.g.fn n hn).ok, (o.g.fn n hn).gm, (o.g.fn n hn).kp, (o.g.fn n hn).bd, (o.g.fn n hn).len, (o.g.fn n hn).db⟩, o.g.bl, o.g.cn, o.g.ec, fun n hn => ⟨(o.g.fno n hn).ok, (o.g.fno n hn).gm, (o.g.fno n hn).kp, (o.g.fno n hn).bd, (o.g.fno n hn).len, (o.g.fno n hn).db⟩⟩, o.hN, o.nd, o.db, o.hsc, o.kd, fun h => (nomatch h), o.fn, fun h => (nomatch h), o.un, fun h => (nomatch h), fun _ h => (nomatch h)⟩
theorem XOk.tried (o : XOk Γ N sc so W X) {W' : WX} {pn : List (Addr × Obj)} {xe : Value → Shared → Prop} (tk : Takes (X.tr pn xe) W') : XOk Γ N sc so W' (X.tr pn xe) :=
  ⟨o.g, o.hN, o.nd, o.db, o.hsc, o.kd, o.calm, o.fn, o.room, o.un, fun _ => tk, fun h1 h2 => (let ⟨a, b, c, d⟩ := o.la h1 h2; ⟨a, b, c, d⟩)⟩
theorem exq_ne (C a : Addr) (ps : Array Value) : ExQ C a ≠ .tbl ps := fun z => by
  unfold ExQ at z
  cases z
/-- what was got is called -/
theorem se_told (o : XOk Γ N sc so W X) (hh : Γ.hot = false) (sk : SOk Γ X) {a : Str} {r : R PV} (h : Γ.tl = some (a, r)) {p1 p2 : Pos} : SE Γ W X .esc (.Call (.Name a p1) [] [] p2) (fun ρ => match ρ[(0 : Nat)]? with
    | some .fn => r
    | _ => .bad) := by
  refine PE.weak (sk.tl a r h W X.pn X.xe (o.tk hh) p1 p2) fun σ H Q ⟨B, ρ, G, ow, q⟩ => ?_
  dsimp only at q
  split at q
  · rename_i h0
    exact ⟨B, ρ, G, ow, h0, q⟩
  · exact q.elim
theorem ss_told (o : XOk Γ N sc so W X) (hh : Γ.hot = false) (sk : SOk Γ X) {i : Nat} {x a : Str} {r : R PV} (h : Γ.tl = some (a, r)) {p p1 p2 pos : Pos} (hn : N[i]? = some x) (hl : loc so x = true) (hs : swapsWith (.Call (.Name a p1) [] [] p2) (some (.Name x p)) pos.line X.env = pure false) :
    SS Γ W fr X (.Assign [.Name x p] (.Call (.Name a p1) [] [] p2) pos) (fun ρ => match ρ[(0 : Nat)]? with
      | some .fn => RS.of r ρ fun v => toldTo ρ (some i) v
      | _ => .bad) := by
  have e : (fun ρ : Env => match ρ[(0 : Nat)]? with
      | some .fn => RS.of r ρ fun v => toldTo ρ (some i) v
      | _ => .bad) = fun ρ => RS.of (match ρ[(0 : Nat)]? with
        | some .fn => r
        | _ => .bad) ρ fun v => if i < ρ.length then .next (ρ.set i (.sh v)) else .bad := by
    funext ρ
    split <;> rfl
  rw [e]
  exact ss_set o hn hl hs (se_told o hh sk h)
theorem ss_toldN (o : XOk Γ N sc so W X) (hh : Γ.hot = false) (sk : SOk Γ X) {a : Str} {r : R PV} (h : Γ.tl = some (a, r)) {p1 p2 pos : Pos} (hc : noComp (.Call (.Name a p1) [] [] p2) = true) :
    SS Γ W fr X (.Expr (.Call (.Name a p1) [] [] p2) pos) (fun ρ => match ρ[(0 : Nat)]? with
      | some .fn => RS.of r ρ fun v => toldTo ρ none v
      | _ => .bad) := by
  have e : (fun ρ : Env => match ρ[(0 : Nat)]? with
      | some .fn => RS.of r ρ fun v => toldTo ρ none v
      | _ => .bad) = fun ρ => RS.of (match ρ[(0 : Nat)]? with
        | some .fn => r
        | _ => .bad) ρ fun _ => .next ρ := by
    funext ρ
    split <;> rfl
  rw [e]
  exact ss_exp hc (se_told o hh sk h)
theorem ss_try (o : XOk Γ N sc so W X) (sk : SOk Γ X) {x n : Str} {i : Nat} {rs : List Nat} {bs suite : List Stmt} {b₀ : Stmt} {np p2 pos : Pos} {fb fh : Env → RS} (hi : N[i]? = some n) (hl : sc.names.lookup n = some .local) (hx : (x, 0) ∈ Γ.ec.ex) (hg : glb sc x = true) (hrs : rs = Γ.ec.rs)
    (hb : ∀ (W' : WX) (pn : List (Addr × Obj)) (xe : Value → Shared → Prop), XOk Γ N sc so W' (X.tr pn xe) → SOk Γ (X.tr pn xe) → SSs Γ W' fr (X.tr pn xe) bs fb) (hs : ∀ (a : Addr) (pn : List (Addr × Obj)), SSs Γ.heat W0 fr (X.suite a pn) (b₀ :: suite) fh) :
    SS Γ W fr X (.Try bs [.ExceptHandler (some (.Name x np)) (some n) (b₀ :: suite) p2] [] [] pos) (fun ρ => (fb ρ).caught rs i fh) := by
  have E := o.g.ec.ex _ hx
  have ki : X.env.kindOf n = some .local := by
    show X.env.scope.names.lookup n = _
    rw [o.hsc]
    exact hl
  refine PS.weak (ps_try_keep (tb := fun W' => rdS Γ W' X.K fr fb) (ts := rdS Γ.heat W0 X.K fr fh) (c := .ref (Γ.cl 0)) (i := i) sk.st sk.fm (by rw [o.hN]; exact o.nd) (o.Nx hi) ki ⟨o.gl hg, E.db, .inl E.gm⟩ (fun W' pn xe tk po => hb W' pn xe (o.tried tk) ⟨po, sk.st, sk.fm, fun a r h W2 pn2 xe2 tk2 p1 p2 => sk.tl a r h W2 pn2 xe2 tk2 p1 p2⟩) hs) fun D σ H ⟨B, ρ, G, ow, q⟩ => ⟨B, ρ, G, ow, ?_⟩
  have q : PostS Γ W X.K fr B ((fb ρ).caught rs i fh) D := q
  cases e : fb ρ with
  | next ρ1 => rw [e] at q; exact q
  | brk ρ1 => rw [e] at q; exact q
  | cnt ρ1 => rw [e] at q; exact q
  | ret v => rw [e] at q; exact q
  | bad => rw [e] at q; exact q
  | exn c ρ1 =>
    rw [e, RS.caught_exn] at q
    intro σ1 G1 H1 o1
    split at q
    · rename_i hc
      rw [Bool.and_eq_true, decide_eq_true_eq] at hc
      have hc' : c ∈ Γ.ec.rs := by
        rw [← hrs]
        exact List.contains_iff_mem.mp hc.1
      refine ⟨Γ.cl c, rfl, rfl, o.g.ec.em c hc', fun a ha => ⟨B, ρ1.set i (.sh (.exc c)), upd G1 a (ExQ (Γ.cl c) a), (o1.step (Ext.new o1.gh ha (exq_ne _ _))).setSh hc.2 (rep_exc.mpr ⟨a, _, rfl, o.g.ec.ns c hc', upd_same⟩), ?_⟩⟩
      cases eh : fh (ρ1.set i (.sh (.exc c))) with
      | next ρ2 => rw [eh] at q; exact fun σ2 G2 H2 o2 => q _ G2 H2 (o2.drop i)
      | brk ρ2 => rw [eh] at q; exact fun σ2 G2 H2 o2 => q _ G2 H2 (o2.drop i)
      | cnt ρ2 => rw [eh] at q; exact fun σ2 G2 H2 o2 => q _ G2 H2 (o2.drop i)
      | ret v => rw [eh] at q; exact q
      | exn d ρ2 => rw [eh] at q; exact q.elim
      | bad => rw [eh] at q; exact q.elim
    · exact q.elim
end
end Pf

set_option Elab.async false
set_option linter.all false
set_option maxRecDepth 100000
set_option autoImplicit false
set_option maxHeartbeats 4000000
/-! PfA: a core block that matches a written one computes what that one does; a def; the law's end -/
namespace Pf
open PySem PySem.Spec L2
variable [Tbc] [Tlc]

def isComp : Expr → Bool
  | .ListComp _ _ _ _ => true
  | _ => false
/-- how a name takes a comprehension -/
def compTo (sc : Scope) (x : Str) (py : Pos) : Expr → Bool
  | .ListComp _ _ scope pos => (match sc.names.lookup x with
    | some .local => (py.line == pos.line) && !(scope.names.any fun (n, k) => n == x && (k == .local || k == .cell))
    | some .cell => true
    | _ => false)
  | e => noComp e
def isTup : Expr → Bool
  | .Tuple _ _ _ => true
  | _ => false
/-- a tuple is unpacked: none that is written out, but for names that are cells -/
def unpOk (sc : Scope) (es : List Expr) (e : Expr) : Bool := !isTup e || (match es with
  | [.Name x _, .Name y _] => decide (sc.names.lookup x = some .cell) || decide (sc.names.lookup y = some .cell)
  | _ => false)
def PX.modeOk (nm : Nm) (fr : Bool) (x : PX) : Bool := if fr then x.isF nm else !x.isB
/-- an except suite: plain stores -/
def mHs (nm : Nm) (sc so : Scope) : List PSt → List Stmt → Bool
  | [], [] => true
  | .set i x :: ps, .Assign [.Name y p] e _ :: ss => decide (nm.N[i]? = some y) && loc so y && compTo sc y p e && mE nm sc so x e && !x.isB && mHs nm sc so ps ss
  | _, _ => false
/-- lists are told, a first one of them is changed, and all is forgotten -/
def mScr (nm : Nm) (sc so : Scope) (i k : Nat) (es : PXs) : Stmt → Stmt → Bool
  | .Assign [.Name y _] (.Call (.Name x p2) (e :: as) [] p3) _, .If c [.Expr (.Call (.Attribute (.Subscript (.Name y2 _) (.Constant (.int 0) _ _) _) at_ apos) [.Constant (.int _) _ _] [] cpos) _] [] _ =>
    decide (nm.N[i]? = some y) && loc so y && vis sc y && decide (y2 = y) && decide (at_ = "append") && (apos.endLine == cpos.line) && (match nm.fn[k]? with
      | some p => decide (p.1 = x) && !p.2
      | none => false) && glb sc x && noComp (.Call (.Name x p2) (e :: as) [] p3) && mEs nm sc so es (e :: as) && !es.hasB && !nm.hot && mE nm sc so (.cmp .gt (.bi .len (.cons (.var i) .nil)) (.int 0)) c
  | _, _ => false
/-- arguments, the last one an owned list that is given away -/
def mM (nm : Nm) (sc so : Scope) (j : Nat) : PXs → List Expr → Bool
  | .nil, [.Name y _] => decide (nm.N[j]? = some y) && vis sc y
  | .cons x xs, e :: es => mE nm sc so x e && !x.isB && mM nm sc so j xs es
  | _, _ => false
section
variable (nm : Nm) (fr : Bool)
mutual
def mS (sc so : Scope) : PSt → Stmt → Bool
  | .set i x, .Assign [.Name y p] e _ => decide (nm.N[i]? = some y) && loc so y && compTo sc y p e && mE nm sc so x e && !x.isB
  | .seto i x, .Assign [.Name y p] e _ => decide (nm.N[i]? = some y) && loc so y && compTo sc y p e && mE nm sc so x e && x.isF nm
  | .unp tg x, .Assign [.Tuple es _ _] e _ => mNames nm.N so tg es && noComp e && unpOk sc es e && mE nm sc so x e && !x.isB && !nm.hot
  | .unpM tg k es j, .Assign [.Tuple ts _ _] (.Call (.Name x p2) (e :: as) [] p3) _ => mNames nm.N so tg ts && decide (nm.fn.length ≤ k) && decide (nm.fno[k - nm.fn.length]? = some x) && glb sc x && noComp (.Call (.Name x p2) (e :: as) [] p3) && mM nm sc so j es (e :: as) && !nm.hot
  | .unpF i j k es, .Assign [.Tuple ts _ _] (.Call (.Name x p2) (e :: as) [] p3) _ => mNames nm.N so [i, j] ts && decide (i ≠ j) && (match nm.fn[k]? with
    | some p => decide (p.1 = x) && !p.2
    | none => false) && glb sc x && noComp (.Call (.Name x p2) (e :: as) [] p3) && mEs nm sc so es (e :: as) && !es.hasB && !nm.hot
  | .par i j a b, .Assign [.Tuple [.Name x px, .Name y py] _ _] (.Tuple [e, f] _ _) _ => decide (nm.N[i]? = some x) && decide (nm.N[j]? = some y) && decide (i ≠ j) && decide (x ≠ y) && decide (sc.names.lookup x = some .local) && decide (sc.names.lookup y = some .local) &&
      decide (py.line = px.line) && !([e, f].all (foldedForSure 8)) && !([e, f].all (constantsAlone 8)) && mE nm sc so a e && !a.isB && mE nm sc so b f && !b.isB && !nm.hot
  | .swp i k l a b, .Assign [.Tuple [.Subscript (.Name x _) k' _, .Subscript (.Name y _) l' _] _ _] (.Tuple [e, f] _ _) _ => decide (nm.N[i]? = some x) && decide (x = y) && vis sc x && mE nm sc so k k' && mE nm sc so l l' && mE nm sc so a e && !a.isB && mE nm sc so b f && !b.isB && !nm.hot
  | .setix i ix x, .Assign [.Subscript (.Name y _) ie _] e _ => decide (nm.N[i]? = some y) && vis sc y && mE nm sc so ix ie && mE nm sc so x e && !x.isB
  | .app i x, .Expr (.Call (.Attribute (.Name y _) at_ apos) [e] [] cpos) _ => decide (nm.N[i]? = some y) && decide (at_ = "append") && vis sc y && (apos.endLine == cpos.line) && mE nm sc so x e && !x.isB
  | .appP i j ix, .Expr (.Call (.Attribute (.Name y _) at_ apos) [.Call (.Attribute (.Name y2 _) at2 apos2) [ie] [] cpos2] [] cpos) _ => decide (nm.N[i]? = some y) && decide (at_ = "append") && vis sc y && (apos.endLine == cpos.line) && decide (nm.N[j]? = some y2) && decide (at2 = "pop") && vis sc y2 && (apos2.endLine == cpos2.line) && decide (i ≠ j) && mE nm sc so ix ie && !ix.isB
  | .pop i, .Expr (.Call (.Attribute (.Name y _) at_ apos) [] [] cpos) _ => decide (nm.N[i]? = some y) && decide (at_ = "pop") && vis sc y && (apos.endLine == cpos.line)
  | .ite c a b, .If e s t _ => mE nm sc so c e && c.isT && mSs sc so a s && mSs sc so b t
  | .reto i, .Return (some (.Name y _)) _ => decide (nm.N[i]? = some y) && vis sc y
  | .ret x, .Return (some e) _ => mE nm sc so x e && x.modeOk nm fr
  | .pass, .Pass _ => true
  | .brk, .Break _ => true
  | .cnt, .Continue _ => true
  | .forS tg tp it body, .For t e s [] _ => mTgt nm.N so tg tp t && mI nm sc so it t e && !it.hasB && mSs sc so body s && !nm.hot
  | .whl _ c body, .While e s [] _ => mE nm sc so c e && c.isT && mSs sc so body s
  | .exp x, .Expr e _ => mE nm sc so x e && noComp e && !x.isB
  | .told (some i) k, .Assign [.Name y _] (.Call (.Name a p1) [] [] p2) _ => decide (nm.N[i]? = some y) && loc so y && decide (nm.tl = some a) && decide (k = nm.fn.length + nm.fno.length + nm.fnl.length) && noComp (.Call (.Name a p1) [] [] p2) && !nm.hot
  | .told none k, .Expr (.Call (.Name a p1) [] [] p2) _ => decide (nm.tl = some a) && decide (k = nm.fn.length + nm.fno.length + nm.fnl.length) && noComp (.Call (.Name a p1) [] [] p2) && !nm.hot
  | .raise c, .Raise (some (.Call (.Name x _) [.Constant (.str _) _ _] [] _)) none _ => nm.ec.ex.contains (x, c) && glb sc x && !nm.hot
  | .tryS body rs i h, .Try bs [.ExceptHandler (some (.Name x _)) (some n) (b₀ :: suite) _] [] [] _ => decide (nm.N[i]? = some n) && decide (sc.names.lookup n = some .local) && nm.ec.ex.contains (x, 0) && glb sc x && decide (rs = nm.ec.rs) && mSs sc so body bs && mHs { nm with hot := true } sc so h (b₀ :: suite)
  | _, _ => false
def mSs (sc so : Scope) : List PSt → List Stmt → Bool
  | [], [] => true
  | .frz _ :: ps, ss => mSs sc so ps ss
  | .kil _ :: ps, ss => mSs sc so ps ss
  | .scr i k es :: ps, s :: ss => (match ss with
    | s2 :: ss' => mScr nm sc so i k es s s2 && mSs sc so ps ss'
    | [] => false)
  | p :: ps, s :: ss => mS sc so p s && mSs sc so ps ss
  | _, _ => false
end
end

section
variable {Γ : Gt} {nm : Nm} {fr : Bool}
theorem comp_parts (hnm : nm.Of Γ) {el : PX} {tg : List Nat} {tp : Bool} {it : PIt} {c : PX} {e t i : Expr} {ifs : List Expr} {a : Int} {scope : Scope} {pos : Pos} {sc so : Scope} {W : WX} {X : Cx} (o : XOk Γ nm.N sc so W X) (h : mE nm sc so (.comp el tg tp it c) (.ListComp e [⟨t, i, ifs, a⟩] scope pos) = true) :
    Γ.hot = false ∧ a = 0 ∧ Parts Γ W X e t i ifs scope tg tp nm.N (evI (fsOf Γ) (csOf Γ) it) (evE (fsOf Γ) (csOf Γ) el) (evE (fsOf Γ) (csOf Γ) c) := by
  simp only [mE, Bool.and_eq_true, decide_eq_true_eq, Bool.not_eq_true'] at h
  obtain ⟨⟨⟨⟨⟨⟨⟨hh, h1⟩, h2⟩, h3⟩, h4⟩, h5⟩, h6⟩, h7⟩ := h
  rw [hnm.hot] at hh
  have bk := blkOk_by h4
  refine ⟨hh, h1, (sI hnm it _ _ o h2).bor, by rw [o.hN, o.hsc]; exact bk, fun s H C cl fp => pg_tgt (xok_blk o bk.kind s H C cl fp) hh h3, fun s H C cl fp => ?_, fun s H C cl fp => (sE hnm el _ (xok_blk o bk.kind s H C cl fp) h5).esc h6, good_fold (good_mI h2) _⟩
  split at h7
  · cases c <;> first | (cases h7; done) | skip
    rename_i b
    cases b
    · cases h7
    · refine ⟨fun pins s σ H Q I ⟨B, ρ, G, ow, q⟩ => pts_nil.run pins s σ H Q I ?_⟩
      simp only [evE] at q
      obtain ⟨b, eb, q⟩ := q
      cases eb
      exact q G H (Ext.refl ow.gh)
  · simp only [Bool.and_eq_true] at h7
    exact pts_one ((sE hnm c _ (xok_blk o bk.kind s H C cl fp) h7.1).tst h7.2)
  · cases h7
/-- a store to a name: any expression, a comprehension in its own way -/
theorem ss_to (hnm : nm.Of Γ) {sc so : Scope} {W : WX} {X : Cx} (o : XOk Γ nm.N sc so W X) {i : Nat} {x : PX} {y : Str} {p pos : Pos} {e : Expr} (hn : nm.N[i]? = some y) (hl : loc so y = true) (hc : compTo sc y p e = true) (h : mE nm sc so x e = true) (own : Bool)
    (hx : (if own then x.isF nm else !x.isB) = true) :
    SS Γ W fr X (.Assign [.Name y p] e pos) (fun ρ => RS.of (evE (fsOf Γ) (csOf Γ) x ρ) ρ fun v => if own then setOwR ρ i v else if i < ρ.length then .next (ρ.set i (.sh v)) else .bad) := by
  have plain : swapsWith e (some (.Name y p)) pos.line X.env = pure false → SS Γ W fr X (.Assign [.Name y p] e pos) (fun ρ => RS.of (evE (fsOf Γ) (csOf Γ) x ρ) ρ fun v => if own then setOwR ρ i v else if i < ρ.length then .next (ρ.set i (.sh v)) else .bad) := fun hs => by
    have s := sE hnm x e o h
    cases own with
    | true => exact ss_seto o hn hl hs (s.fre hx)
    | false =>
      have hx : (!x.isB) = true := hx
      rw [Bool.not_eq_true'] at hx
      exact ss_set o hn hl hs (s.esc hx)
  unfold compTo at hc
  split at hc
  · rename_i el gs scope cpos
    split at hc
    · rename_i hloc
      rw [Bool.and_eq_true, Bool.not_eq_true'] at hc
      have hm := h
      unfold mE at h
      split at h
      all_goals first
        | (exact absurd h Bool.false_ne_true)
        | skip
      all_goals first
        | (rename_i q; cases q; done)
        | skip
      rename_i q
      cases q
      obtain ⟨hh, ha, P⟩ := comp_parts hnm o hm
      subst ha
      refine ss_setLc (k := fun ρ v => if own then setOwR ρ i v else if i < ρ.length then .next (ρ.set i (.sh v)) else .bad) o hh hn hloc hc.1 hc.2 P ?_ fun B ρ σ G H G1 H1 x v D ow ex rv hk => ?_
      · funext ρ
        simp only [evE]
      · cases own with
        | true => exact setOwn ow ex rv hk
        | false =>
          obtain ⟨G2, e2, r2⟩ := RepF.settle ex rv
          exact setName (ow.step e2) r2 hk
    · rename_i hcell
      exact plain (sw_cell (by rw [o.hsc]; exact hcell))
    · cases hc
  · exact plain (good_swap hc _ _ _)
theorem swap_none {es : List Expr} {k : Nat} {p : Pos} {e : Expr} {env : PySem.Env} (h : isTup e = false) : swappedStores [.Tuple es k p] e env = pure none := by
  cases e <;> first | rfl | (cases h; done)
theorem swap_cell {env : PySem.Env} {x y : Str} {px py p pv : Pos} {k k2 : Nat} {vs : List Expr} (h : env.kindOf x = some .cell ∨ env.kindOf y = some .cell) : swappedStores [.Tuple [.Name x px, .Name y py] k p] (.Tuple vs k2 pv) env = pure none := by
  unfold swappedStores
  simp only [List.length_cons, List.length_nil, List.filterMap_cons, List.filterMap_nil]
  have nl : ((some NameKind.cell : Option NameKind) == some NameKind.local) = false := rfl
  rcases h with h | h
  · simp only [h, nl, Bool.false_and, Bool.false_eq_true, if_false]
    split
    · rfl
    · split
      · rfl
      · split <;> simp
  · simp only [h, nl, Bool.false_and, Bool.false_eq_true, if_false]
    split
    · rfl
    · split
      · rfl
      · split <;> simp
theorem unp_swap {sc : Scope} {es : List Expr} {k : Nat} {p : Pos} {e : Expr} {env : PySem.Env} (hs : env.scope = sc) (h : unpOk sc es e = true) : swappedStores [.Tuple es k p] e env = pure none := by
  unfold unpOk at h
  rw [Bool.or_eq_true, Bool.not_eq_true'] at h
  rcases h with h | h
  · exact swap_none h
  · split at h
    · rw [Bool.or_eq_true, decide_eq_true_eq, decide_eq_true_eq] at h
      by_cases ht : isTup e = true
      · cases e <;> first | (cases ht; done) | skip
        refine swap_cell (h.imp (fun q => ?_) fun q => ?_) <;> (unfold PySem.Env.kindOf; rw [hs]; exact q)
      · exact swap_none (by simpa using ht)
    · cases h
theorem mSs_ghost {i : Nat} {ps : List PSt} {sc so : Scope} {ss : List Stmt} : (mSs nm fr sc so (.frz i :: ps) ss = mSs nm fr sc so ps ss) ∧ (mSs nm fr sc so (.kil i :: ps) ss = mSs nm fr sc so ps ss) := by
  constructor <;> (cases ss <;> simp only [mSs])
theorem Nm.Of.heat (h : nm.Of Γ) : ({ nm with hot := true } : Nm).Of Γ.heat := ⟨h.fn, h.bl, h.cn, h.ec, rfl, h.fno, h.fnl, h.tl, h.lm⟩
theorem good_mM {nm : Nm} {sc so : Scope} {j : Nat} : ∀ {xs : PXs} {es : List Expr}, mM nm sc so j xs es = true → es.all good = true
  | .nil, [], h => by simp [mM] at h
  | .nil, [e], h => by
    cases e <;> first | rfl | (simp [mM] at h; done)
  | .nil, _ :: _ :: _, h => by simp [mM] at h
  | .cons _ _, [], h => by simp [mM] at h
  | .cons x xs, e :: es, h => by
    simp only [mM, Bool.and_eq_true] at h
    rw [List.all_cons, good_mE h.1.1, good_mM h.2]
    rfl
theorem sM {nm : Nm} {Γ : Gt} (hnm : nm.Of Γ) {j : Nat} : ∀ (xs : PXs) (es : List Expr) {sc so : Scope} {W : WX} {X : Cx}, XOk Γ nm.N sc so W X → mM nm sc so j xs es = true → PA X es (rdM Γ W X.K j (evEs (fsOf Γ) (csOf Γ) xs))
  | .nil, [], sc, so, W, X, o, h => by simp [mM] at h
  | .nil, [e], sc, so, W, X, o, h => by
    cases e with
    | Name y p =>
      simp only [mM, Bool.and_eq_true, decide_eq_true_eq] at h
      have e1 : evEs (fsOf Γ) (csOf Γ) .nil = fun _ => .ok [] := by
        funext ρ
        simp only [evEs]
      rw [e1]
      exact sam_nil o h.1 h.2
    | _ => simp [mM] at h
  | .nil, _ :: _ :: _, sc, so, W, X, o, h => by simp [mM] at h
  | .cons _ _, [], sc, so, W, X, o, h => by simp [mM] at h
  | .cons x xs, e :: es, sc, so, W, X, o, h => by
    simp only [mM, Bool.and_eq_true, Bool.not_eq_true'] at h
    obtain ⟨⟨h1, h2⟩, h3⟩ := h
    have e1 : evEs (fsOf Γ) (csOf Γ) (.cons x xs) = fun ρ => (evE (fsOf Γ) (csOf Γ) x ρ).bind fun v => (evEs (fsOf Γ) (csOf Γ) xs ρ).bind fun vs => .ok (v :: vs) := by
      funext ρ
      simp only [evEs]
    rw [e1]
    exact sam_cons (good_mE h1) ((sE hnm x e o h1).esc h2) (sM hnm xs es o h3)
theorem sHs (hnm : nm.Of Γ) : ∀ (ps : List PSt) (ss : List Stmt) {sc so : Scope} {W : WX} {X : Cx}, XOk Γ nm.N sc so W X → mHs nm sc so ps ss = true → SSs Γ W fr X ss (evSs (fsOf Γ) (csOf Γ) fr ps)
  | [], ss, sc, so, W, X, o, h => by
    cases ss with
    | nil =>
      have e1 : evSs (fsOf Γ) (csOf Γ) fr [] = fun ρ => .next ρ := by
        funext ρ
        simp only [evSs]
      rw [e1]
      exact sss_nil
    | cons _ _ => simp [mHs] at h
  | p :: ps, ss, sc, so, W, X, o, h => by
    unfold mHs at h
    split at h
    all_goals first
      | (exact absurd h Bool.false_ne_true)
      | skip
    · rename_i q
      cases q
    · rename_i i x ps' y yp e spos ss' q
      cases q
      simp only [Bool.and_eq_true] at h
      obtain ⟨⟨⟨⟨⟨h1, h2⟩, h3⟩, h4⟩, h5⟩, h6⟩ := h
      have e1 : evSs (fsOf Γ) (csOf Γ) fr (.set i x :: ps) = fun ρ => (RS.of (evE (fsOf Γ) (csOf Γ) x ρ) ρ fun v => if false then setOwR ρ i v else if i < ρ.length then .next (ρ.set i (.sh v)) else .bad).then (evSs (fsOf Γ) (csOf Γ) fr ps) := by
        funext ρ
        simp only [evSs, evS, Bool.false_eq_true, if_false]
      rw [e1]
      exact sss_cons (ss_to hnm o (of_decide_eq_true h1) h2 h3 h4 false h5) (sHs hnm ps ss' o h6)
mutual
theorem sS (hnm : nm.Of Γ) : ∀ (p : PSt) (st : Stmt) {sc so : Scope} {W : WX} {X : Cx}, XOk Γ nm.N sc so W X → SOk Γ X → mS nm fr sc so p st = true → SS Γ W fr X st (evS (fsOf Γ) (csOf Γ) fr p)
  | .set i x, st, sc, so, W, X, o, hp, h => by
    unfold mS at h
    split at h
    all_goals first
      | (exact absurd h Bool.false_ne_true)
      | (rename_i q; cases q; done)
      | (rename_i q; cases q)
    simp only [Bool.and_eq_true, decide_eq_true_eq] at h
    obtain ⟨⟨⟨⟨h1, h2⟩, h3⟩, h4⟩, h5⟩ := h
    have e1 : evS (fsOf Γ) (csOf Γ) fr (.set i x) = fun ρ => RS.of (evE (fsOf Γ) (csOf Γ) x ρ) ρ fun v => if false then setOwR ρ i v else if i < ρ.length then .next (ρ.set i (.sh v)) else .bad := by
      funext ρ
      simp only [evS, Bool.false_eq_true, if_false]
    rw [e1]
    exact ss_to hnm o h1 h2 h3 h4 false h5
  | .seto i x, st, sc, so, W, X, o, hp, h => by
    unfold mS at h
    split at h
    all_goals first
      | (exact absurd h Bool.false_ne_true)
      | (rename_i q; cases q; done)
      | (rename_i q; cases q)
    simp only [Bool.and_eq_true, decide_eq_true_eq] at h
    obtain ⟨⟨⟨⟨h1, h2⟩, h3⟩, h4⟩, h5⟩ := h
    have e1 : evS (fsOf Γ) (csOf Γ) fr (.seto i x) = fun ρ => RS.of (evE (fsOf Γ) (csOf Γ) x ρ) ρ fun v => if true then setOwR ρ i v else if i < ρ.length then .next (ρ.set i (.sh v)) else .bad := by
      funext ρ
      simp only [evS, if_true]
    rw [e1]
    exact ss_to hnm o h1 h2 h3 h4 true h5
  | .unp tg x, st, sc, so, W, X, o, hp, h => by
    unfold mS at h
    split at h
    all_goals first
      | (exact absurd h Bool.false_ne_true)
      | (rename_i q; cases q; done)
      | (rename_i q; cases q)
    simp only [Bool.and_eq_true, Bool.not_eq_true'] at h
    obtain ⟨⟨⟨⟨⟨h1, h2⟩, h3⟩, h4⟩, h5⟩, hh⟩ := h
    rw [hnm.hot] at hh
    have e1 : evS (fsOf Γ) (csOf Γ) fr (.unp tg x) = fun ρ => RS.of (evE (fsOf Γ) (csOf Γ) x ρ) ρ fun v => match asgT tg true v ρ with
      | some ρ' => .next ρ'
      | none => .bad := by
      funext ρ
      simp only [evS]
      all_goals rfl
    rw [e1]
    exact ss_unp o hh h1 (good_swap h2 _ _ _) (unp_swap o.hsc h3) ((sE hnm x _ o h4).esc h5)
  | .unpM tg k es j, st, sc, so, W, X, o, hp, h => by
    unfold mS at h
    split at h
    all_goals first
      | (exact absurd h Bool.false_ne_true)
      | (rename_i q; cases q; done)
      | (rename_i q; cases q)
    simp only [Bool.and_eq_true, Bool.not_eq_true', decide_eq_true_eq] at h
    obtain ⟨⟨⟨⟨⟨⟨h1, h2⟩, h3⟩, h4⟩, h5⟩, h6⟩, hh⟩ := h
    rw [hnm.hot] at hh
    obtain ⟨n, hn, nn, ns⟩ := fno_at hnm h2 h3
    subst nn
    have e1 : evS (fsOf Γ) (csOf Γ) fr (.unpM tg k es j) = fun ρ => RS.ofL (evEs (fsOf Γ) (csOf Γ) es ρ) ρ fun xs => (match ρ[j]? with
      | some (.ow zs) => RS.of (n.sem (xs ++ [.lst zs])) (ρ.set j .no) fun v => (match asgT tg true v (ρ.set j .no) with
        | some ρ' => .next ρ'
        | none => .bad)
      | _ => .bad) := by
      funext ρ
      simp only [evS]
      rw [← ns]
      all_goals rfl
    rw [e1]
    exact ss_unpM o hh hn h1 (good_mM h6) h4 (good_swap h5 _ _ _) (sM hnm es _ o h6)
  | .unpF i j k es, st, sc, so, W, X, o, hp, h => by
    unfold mS at h
    split at h
    all_goals first
      | (exact absurd h Bool.false_ne_true)
      | (rename_i q; cases q; done)
      | (rename_i q; cases q)
    simp only [Bool.and_eq_true, Bool.not_eq_true', decide_eq_true_eq] at h
    obtain ⟨⟨⟨⟨⟨⟨⟨h1, h2⟩, h3⟩, h4⟩, h5⟩, h6⟩, h7⟩, hh⟩ := h
    rw [hnm.hot] at hh
    split at h3
    · rename_i p hp2
      simp only [Bool.and_eq_true, Bool.not_eq_true', decide_eq_true_eq] at h3
      obtain ⟨n, hn, nn, nf, ns⟩ := fn_at hnm hp2
      have ex : n.name = _ := nn.trans h3.1
      subst ex
      have e1 : evS (fsOf Γ) (csOf Γ) fr (.unpF i j k es) = fun ρ => RS.ofL (evEs (fsOf Γ) (csOf Γ) es ρ) ρ fun xs => if nols xs then RS.of (n.sem xs) ρ fun v => unpTo ρ i j v else .bad := by
        funext ρ
        simp only [evS]
        rw [← ns]
        all_goals rfl
      rw [e1]
      exact ss_unpF o hh hn (nf.trans h3.2) h2 h1 (good_mEs h6).1 h4 (good_swap h5 _ _ _) ((sA hnm es _ o h6).esc h7)
    · cases h3
  | .par i j a b, st, sc, so, W, X, o, hp, h => by
    unfold mS at h
    split at h
    all_goals first
      | (exact absurd h Bool.false_ne_true)
      | (rename_i q; cases q; done)
      | (rename_i q; cases q)
    simp only [Bool.and_eq_true, Bool.not_eq_true', decide_eq_true_eq] at h
    obtain ⟨⟨⟨⟨⟨⟨⟨⟨⟨⟨⟨⟨⟨h1, h2⟩, h3⟩, h4⟩, h5⟩, h6⟩, h7⟩, h8⟩, h9⟩, h10⟩, h11⟩, h12⟩, h13⟩, hh⟩ := h
    rw [hnm.hot] at hh
    have e1 : evS (fsOf Γ) (csOf Γ) fr (.par i j a b) = fun ρ => RS.of (evE (fsOf Γ) (csOf Γ) a ρ) ρ fun v => RS.of (evE (fsOf Γ) (csOf Γ) b ρ) ρ fun w => if i < ρ.length ∧ j < ρ.length then .next ((ρ.set i (.sh v)).set j (.sh w)) else .bad := by
      funext ρ
      simp only [evS]
    rw [e1]
    exact ss_par o hh h1 h2 h3 h5 h6 h4 h7 (good_mE h10) (good_mE h12) h8 h9 ((sE hnm a _ o h10).esc h11) ((sE hnm b _ o h12).esc h13)
  | .swp i k l a b, st, sc, so, W, X, o, hp, h => by
    unfold mS at h
    split at h
    all_goals first
      | (exact absurd h Bool.false_ne_true)
      | (rename_i q; cases q; done)
      | (rename_i q; cases q)
    simp only [Bool.and_eq_true, Bool.not_eq_true', decide_eq_true_eq] at h
    obtain ⟨⟨⟨⟨⟨⟨⟨⟨⟨h1, h2⟩, h3⟩, h4⟩, h5⟩, h6⟩, h7⟩, h8⟩, h9⟩, hh⟩ := h
    rw [hnm.hot] at hh
    subst h2
    have e1 : evS (fsOf Γ) (csOf Γ) fr (.swp i k l a b) = fun ρ => RS.of (evE (fsOf Γ) (csOf Γ) a ρ) ρ fun v => RS.of (evE (fsOf Γ) (csOf Γ) b ρ) ρ fun w => putAt ρ i (evE (fsOf Γ) (csOf Γ) k ρ) v fun ρ1 => putAt ρ1 i (evE (fsOf Γ) (csOf Γ) l ρ1) w fun ρ2 => .next ρ2 := by
      funext ρ
      simp only [evS]
    rw [e1]
    exact ss_swp o hh h1 h3 (good_mE h4) (good_mE h5) (good_mE h6) (good_mE h8) ((sE hnm a _ o h6).esc h7) ((sE hnm b _ o h8).esc h9) (sE hnm k _ o h4).bor (sE hnm l _ o h5).bor
  | .setix i ix x, st, sc, so, W, X, o, hp, h => by
    unfold mS at h
    split at h
    all_goals first
      | (exact absurd h Bool.false_ne_true)
      | (rename_i q; cases q; done)
      | (rename_i q; cases q)
    simp only [Bool.and_eq_true, Bool.not_eq_true', decide_eq_true_eq] at h
    obtain ⟨⟨⟨⟨h1, h2⟩, h3⟩, h4⟩, h5⟩ := h
    have e1 : evS (fsOf Γ) (csOf Γ) fr (.setix i ix x) = fun ρ => RS.of (evE (fsOf Γ) (csOf Γ) x ρ) ρ fun v => putAt ρ i (evE (fsOf Γ) (csOf Γ) ix ρ) v fun ρ' => .next ρ' := by
      funext ρ
      simp only [evS]
    rw [e1]
    rename_i st' y p ie p2 e pos
    have hs : swapsWith e (some (.Subscript (.Name y p) ie p2)) pos.line X.env = pure false := by
      cases e <;> rfl
    exact ss_setix o h1 h2 (good_mE h3) hs ((sE hnm x _ o h4).esc h5) (sE hnm ix _ o h3).bor
  | .app i x, st, sc, so, W, X, o, hp, h => by
    unfold mS at h
    split at h
    all_goals first
      | (exact absurd h Bool.false_ne_true)
      | (rename_i q; cases q; done)
      | (rename_i q; cases q)
    simp only [Bool.and_eq_true, Bool.not_eq_true', decide_eq_true_eq] at h
    obtain ⟨⟨⟨⟨⟨h1, h2⟩, h3⟩, h4⟩, h5⟩, h6⟩ := h
    subst h2
    have e1 : evS (fsOf Γ) (csOf Γ) fr (.app i x) = fun ρ => match ρ[i]? with
      | some (.ow xs) => RS.of (evE (fsOf Γ) (csOf Γ) x ρ) ρ fun v => if xs.length ≤ LIM then .next (ρ.set i (.ow (xs ++ [v]))) else .bad
      | _ => .bad := by
      funext ρ
      simp only [evS]
      all_goals rfl
    rw [e1]
    exact ss_app o h1 h3 (good_mE h5) h4 ((sE hnm x _ o h5).esc h6)
  | .appP i j ix, st, sc, so, W, X, o, hp, h => by
    unfold mS at h
    split at h
    all_goals first
      | (exact absurd h Bool.false_ne_true)
      | (rename_i q; cases q; done)
      | (rename_i q; cases q)
    simp only [Bool.and_eq_true, Bool.not_eq_true', decide_eq_true_eq] at h
    obtain ⟨⟨⟨⟨⟨⟨⟨⟨⟨⟨h1, h2⟩, h3⟩, h4⟩, h5⟩, h6⟩, h7⟩, h8⟩, h9⟩, h10⟩, h11⟩ := h
    subst h2
    subst h6
    have e1 : evS (fsOf Γ) (csOf Γ) fr (.appP i j ix) = fun ρ => match ρ[i]?, ρ[j]? with
      | some (.ow xs), some (.ow ys) => RS.of (evE (fsOf Γ) (csOf Γ) ix ρ) ρ fun k => popTo ρ i j xs ys k
      | _, _ => .bad := by
      funext ρ
      simp only [evS]
      all_goals rfl
    rw [e1]
    exact ss_appP o h9 h1 h3 h5 h7 (good_mE h10) h4 h8 ((sE hnm ix _ o h10).esc h11)
  | .pop i, st, sc, so, W, X, o, hp, h => by
    unfold mS at h
    split at h
    all_goals first
      | (exact absurd h Bool.false_ne_true)
      | (rename_i q; cases q; done)
      | (rename_i q; cases q)
    simp only [Bool.and_eq_true, decide_eq_true_eq] at h
    obtain ⟨⟨⟨h1, h2⟩, h3⟩, h4⟩ := h
    subst h2
    have e1 : evS (fsOf Γ) (csOf Γ) fr (.pop i) = fun ρ => match ρ[i]? with
      | some (.ow xs) => if xs = [] then .bad else .next (ρ.set i (.ow xs.dropLast))
      | _ => .bad := by
      funext ρ
      simp only [evS]
      all_goals rfl
    rw [e1]
    exact ss_pop o h1 h3 h4
  | .ite c a b, st, sc, so, W, X, o, hp, h => by
    unfold mS at h
    split at h
    all_goals first
      | (exact absurd h Bool.false_ne_true)
      | (rename_i q; cases q; done)
      | (rename_i q; cases q)
    simp only [Bool.and_eq_true] at h
    obtain ⟨⟨⟨h1, h2⟩, h3⟩, h4⟩ := h
    have e1 : evS (fsOf Γ) (csOf Γ) fr (.ite c a b) = fun ρ => RS.of (evE (fsOf Γ) (csOf Γ) c ρ) ρ fun v => RS.ifB v (evSs (fsOf Γ) (csOf Γ) fr a ρ) (evSs (fsOf Γ) (csOf Γ) fr b ρ) := by
      funext ρ
      simp only [evS]
    rw [e1]
    exact ss_ite ((sE hnm c _ o h1).tst h2) (sSs hnm a _ o hp h3) (sSs hnm b _ o hp h4)
  | .reto i, st, sc, so, W, X, o, hp, h => by
    unfold mS at h
    split at h
    all_goals first
      | (exact absurd h Bool.false_ne_true)
      | (rename_i q; cases q; done)
      | (rename_i q; cases q)
    simp only [Bool.and_eq_true, decide_eq_true_eq] at h
    have e1 : evS (fsOf Γ) (csOf Γ) fr (.reto i) = fun ρ => match ρ[i]? with
      | some (.ow xs) => .ret (.lst xs)
      | some (.sh v) => if fr then .bad else .ret v
      | _ => .bad := by
      funext ρ
      simp only [evS]
      all_goals rfl
    rw [e1]
    exact ss_reto o h.1 h.2
  | .ret x, st, sc, so, W, X, o, hp, h => by
    unfold mS at h
    split at h
    all_goals first
      | (exact absurd h Bool.false_ne_true)
      | (rename_i q; cases q; done)
      | (rename_i q; cases q)
    simp only [Bool.and_eq_true] at h
    have e1 : evS (fsOf Γ) (csOf Γ) fr (.ret x) = fun ρ => RS.of (evE (fsOf Γ) (csOf Γ) x ρ) ρ fun v => .ret v := by
      funext ρ
      simp only [evS]
    rw [e1]
    refine ss_ret ?_
    have s := sE hnm x _ o h.1
    have hm := h.2
    unfold PX.modeOk at hm
    cases fr with
    | true => exact s.fre hm
    | false =>
      have hm : (!x.isB) = true := hm
      rw [Bool.not_eq_true'] at hm
      exact s.esc hm
  | .pass, st, sc, so, W, X, o, hp, h => by
    unfold mS at h
    split at h
    all_goals first
      | (exact absurd h Bool.false_ne_true)
      | (rename_i q; cases q; done)
      | (rename_i q; cases q)
    have e1 : evS (fsOf Γ) (csOf Γ) fr .pass = fun ρ => .next ρ := by
      funext ρ
      simp only [evS]
    rw [e1]
    exact ss_pass
  | .brk, st, sc, so, W, X, o, hp, h => by
    unfold mS at h
    split at h
    all_goals first
      | (exact absurd h Bool.false_ne_true)
      | (rename_i q; cases q; done)
      | (rename_i q; cases q)
    have e1 : evS (fsOf Γ) (csOf Γ) fr .brk = fun ρ => .brk ρ := by
      funext ρ
      simp only [evS]
    rw [e1]
    exact ss_brk
  | .cnt, st, sc, so, W, X, o, hp, h => by
    unfold mS at h
    split at h
    all_goals first
      | (exact absurd h Bool.false_ne_true)
      | (rename_i q; cases q; done)
      | (rename_i q; cases q)
    have e1 : evS (fsOf Γ) (csOf Γ) fr .cnt = fun ρ => .cnt ρ := by
      funext ρ
      simp only [evS]
    rw [e1]
    exact ss_cnt
  | .forS tg tp it body, st, sc, so, W, X, o, hp, h => by
    unfold mS at h
    split at h
    all_goals first
      | (exact absurd h Bool.false_ne_true)
      | (rename_i q; cases q; done)
      | (rename_i q; cases q)
    simp only [Bool.and_eq_true, Bool.not_eq_true'] at h
    obtain ⟨⟨⟨⟨h1, h2⟩, h3⟩, h4⟩, hh⟩ := h
    rw [hnm.hot] at hh
    have e1 : evS (fsOf Γ) (csOf Γ) fr (.forS tg tp it body) = fun ρ => RS.ofL (evI (fsOf Γ) (csOf Γ) it ρ) ρ fun xs => forL (asgT tg tp) (evSs (fsOf Γ) (csOf Γ) fr body) xs ρ := by
      funext ρ
      simp only [evS]
    rw [e1]
    exact ss_for o hh hp.po (good_mI h2) h1 ((sI hnm it _ _ o h2).esc h3) (sSs hnm body _ o hp h4)
  | .whl n c body, st, sc, so, W, X, o, hp, h => by
    unfold mS at h
    split at h
    all_goals first
      | (exact absurd h Bool.false_ne_true)
      | (rename_i q; cases q; done)
      | (rename_i q; cases q)
    simp only [Bool.and_eq_true] at h
    obtain ⟨⟨h1, h2⟩, h3⟩ := h
    have e1 : evS (fsOf Γ) (csOf Γ) fr (.whl n c body) = fun ρ => whlL (evE (fsOf Γ) (csOf Γ) c) (evSs (fsOf Γ) (csOf Γ) fr body) n ρ := by
      funext ρ
      simp only [evS]
    rw [e1]
    exact ss_whl hp.po n ((sE hnm c _ o h1).tst h2) (sSs hnm body _ o hp h3)
  | .exp x, st, sc, so, W, X, o, hp, h => by
    unfold mS at h
    split at h
    all_goals first
      | (exact absurd h Bool.false_ne_true)
      | (rename_i q; cases q; done)
      | (rename_i q; cases q)
    simp only [Bool.and_eq_true, Bool.not_eq_true'] at h
    obtain ⟨⟨h1, h2⟩, h3⟩ := h
    have e1 : evS (fsOf Γ) (csOf Γ) fr (.exp x) = fun ρ => RS.of (evE (fsOf Γ) (csOf Γ) x ρ) ρ fun _ => .next ρ := by
      funext ρ
      simp only [evS]
    rw [e1]
    exact ss_exp h2 ((sE hnm x _ o h1).esc h3)
  | .raise c, st, sc, so, W, X, o, hp, h => by
    unfold mS at h
    split at h
    all_goals first
      | (exact absurd h Bool.false_ne_true)
      | (rename_i q; cases q; done)
      | (rename_i q; cases q)
    simp only [Bool.and_eq_true, Bool.not_eq_true'] at h
    obtain ⟨⟨h1, h2⟩, hh⟩ := h
    rw [hnm.hot] at hh
    have e1 : evS (fsOf Γ) (csOf Γ) fr (.raise c) = fun ρ => .exn c ρ := by
      funext ρ
      simp only [evS]
    rw [e1]
    refine ss_raise o hh ?_ h2
    rw [← hnm.ec]
    exact List.contains_iff_mem.mp h1
  | .told i k, st, sc, so, W, X, o, hp, h => by
    unfold mS at h
    split at h
    all_goals first
      | (exact absurd h Bool.false_ne_true)
      | (rename_i q; cases q; done)
      | (rename_i q; cases q)
    · simp only [Bool.and_eq_true, Bool.not_eq_true', decide_eq_true_eq] at h
      obtain ⟨⟨⟨⟨⟨h1, h2⟩, h3⟩, h4⟩, h5⟩, hh⟩ := h
      rw [hnm.hot] at hh
      obtain ⟨r, hr, hs⟩ := tl_at hnm h4 h3
      rename_i i' y yp a p1 p2 pos
      have e1 : evS (fsOf Γ) (csOf Γ) fr (.told (some i') k) = fun ρ => match ρ[(0 : Nat)]? with
        | some .fn => RS.of r ρ fun v => toldTo ρ (some i') v
        | _ => .bad := by
        funext ρ
        simp only [evS, hs]
        all_goals rfl
      rw [e1]
      exact ss_told o hh hp hr h1 h2 (good_swap h5 _ _ _)
    · simp only [Bool.and_eq_true, Bool.not_eq_true', decide_eq_true_eq] at h
      obtain ⟨⟨⟨h3, h4⟩, h5⟩, hh⟩ := h
      rw [hnm.hot] at hh
      obtain ⟨r, hr, hs⟩ := tl_at hnm h4 h3
      have e1 : evS (fsOf Γ) (csOf Γ) fr (.told none k) = fun ρ => match ρ[(0 : Nat)]? with
        | some .fn => RS.of r ρ fun v => toldTo ρ none v
        | _ => .bad := by
        funext ρ
        simp only [evS, hs]
        all_goals rfl
      rw [e1]
      exact ss_toldN o hh hp hr h5
  | .tryS body rs i hd, st, sc, so, W, X, o, hp, h => by
    unfold mS at h
    split at h
    all_goals first
      | (exact absurd h Bool.false_ne_true)
      | (rename_i q; cases q; done)
      | (rename_i q; cases q)
    simp only [Bool.and_eq_true, decide_eq_true_eq] at h
    obtain ⟨⟨⟨⟨⟨⟨h1, h2⟩, h3⟩, h4⟩, h5⟩, h6⟩, h7⟩ := h
    have e1 : evS (fsOf Γ) (csOf Γ) fr (.tryS body rs i hd) = fun ρ => (evSs (fsOf Γ) (csOf Γ) fr body ρ).caught rs i (evSs (fsOf Γ) (csOf Γ) fr hd) := by
      funext ρ
      simp only [evS]
    rw [e1]
    refine ss_try o hp h1 h2 (by rw [← hnm.ec]; exact List.contains_iff_mem.mp h3) h4 (by rw [h5, hnm.ec]) (fun W' pn xe o' hp' => sSs hnm body _ o' hp' h6) fun a pn => ?_
    exact sHs (Γ := Γ.heat) (nm := { nm with hot := true }) hnm.heat hd _ (o.suite a pn) h7
  | .scr i k es, st, sc, so, W, X, o, hp, h => by
    cases st <;> simp [mS] at h
  | .frz i, st, sc, so, W, X, o, hp, h => by
    cases st <;> simp [mS] at h
  | .kil i, st, sc, so, W, X, o, hp, h => by
    cases st <;> simp [mS] at h
theorem sSs (hnm : nm.Of Γ) : ∀ (ps : List PSt) (ss : List Stmt) {sc so : Scope} {W : WX} {X : Cx}, XOk Γ nm.N sc so W X → SOk Γ X → mSs nm fr sc so ps ss = true → SSs Γ W fr X ss (evSs (fsOf Γ) (csOf Γ) fr ps)
  | [], ss, sc, so, W, X, o, hp, h => by
    cases ss with
    | nil =>
      have e1 : evSs (fsOf Γ) (csOf Γ) fr [] = fun ρ => .next ρ := by
        funext ρ
        simp only [evSs]
      rw [e1]
      exact sss_nil
    | cons _ _ => simp [mSs] at h
  | p :: ps, ss, sc, so, W, X, o, hp, h => by
    have e1 : evSs (fsOf Γ) (csOf Γ) fr (p :: ps) = fun ρ => (evS (fsOf Γ) (csOf Γ) fr p ρ).then (evSs (fsOf Γ) (csOf Γ) fr ps) := by
      funext ρ
      simp only [evSs]
    have gen : ∀ s ss', mS nm fr sc so p s = true → mSs nm fr sc so ps ss' = true → SSs Γ W fr X (s :: ss') (evSs (fsOf Γ) (csOf Γ) fr (p :: ps)) := fun s ss' h1 h2 => by
      rw [e1]
      exact sss_cons (sS hnm p s o hp h1) (sSs hnm ps ss' o hp h2)
    cases p with
    | scr i k es =>
      match ss, h with
      | [], h => simp [mSs] at h
      | [s], h => simp [mSs] at h
      | s :: s2 :: ss', h =>
        simp only [mSs, Bool.and_eq_true] at h
        obtain ⟨hm, hr⟩ := h
        have ih := sSs hnm ps ss' o hp hr
        unfold mScr at hm
        split at hm
        · rename_i y py x p2 e as p3 pos c y2 p4 k0 p5 p6 at_ apos z k1 p7 cpos pos2 pos3
          simp only [Bool.and_eq_true, Bool.not_eq_true', decide_eq_true_eq] at hm
          obtain ⟨⟨⟨⟨⟨⟨⟨⟨⟨⟨⟨⟨h1, h2⟩, h3⟩, h4⟩, h5⟩, h6⟩, h7⟩, h8⟩, h9⟩, h10⟩, h11⟩, hh⟩, h13⟩ := hm
          rw [hnm.hot] at hh
          subst h4
          subst h5
          split at h7
          · rename_i p hp2
            simp only [Bool.and_eq_true, Bool.not_eq_true', decide_eq_true_eq] at h7
            obtain ⟨n, hn, nn, nf, ns⟩ := fn_at hnm hp2
            have ex : n.name = _ := nn.trans h7.1
            subst ex
            rw [e1]
            have e2 : (fun ρ => (evS (fsOf Γ) (csOf Γ) fr (.scr i k es) ρ).then (evSs (fsOf Γ) (csOf Γ) fr ps)) = fun ρ => (RS.ofL (evEs (fsOf Γ) (csOf Γ) es ρ) ρ fun xs => if nols xs then RS.of (n.sem xs) ρ fun v => scrTo ρ i v else .bad).then (evSs (fsOf Γ) (csOf Γ) fr ps) := by
              funext ρ
              simp only [evS]
              rw [← ns]
              all_goals rfl
            rw [e2]
            refine sss_scr o hh hn (nf.trans h7.2) h1 h2 h3 (good_mEs h10).1 h8 (good_swap h9 _ _ _) ((sA hnm es _ o h10).esc h11) h6 ((sE hnm _ _ o h13).tst rfl) (fun ρ zs hz => ?_) ih
            simp only [evE, evEs, getE, hz, R.bind_ok]
            rfl
          · cases h7
        · cases hm
    | frz i =>
      rw [mSs_ghost.1] at h
      rw [e1]
      have e2 : (fun ρ => (evS (fsOf Γ) (csOf Γ) fr (.frz i) ρ).then (evSs (fsOf Γ) (csOf Γ) fr ps)) = fun ρ => (match ρ[i]? with
        | some (.ow xs) => RS.next (ρ.set i (.sh (.lst xs)))
        | _ => .next ρ).then (evSs (fsOf Γ) (csOf Γ) fr ps) := by
        funext ρ
        simp only [evS]
        all_goals rfl
      rw [e2]
      exact sss_frz i (sSs hnm ps ss o hp h)
    | kil i =>
      rw [mSs_ghost.2] at h
      rw [e1]
      have e2 : (fun ρ => (evS (fsOf Γ) (csOf Γ) fr (.kil i) ρ).then (evSs (fsOf Γ) (csOf Γ) fr ps)) = fun ρ => (RS.next (ρ.set i .no)).then (evSs (fsOf Γ) (csOf Γ) fr ps) := by
        funext ρ
        simp only [evS]
      rw [e2]
      exact sss_kil i (sSs hnm ps ss o hp h)
    | _ =>
      cases ss with
      | nil => simp [mSs] at h
      | cons s ss' =>
        simp only [mSs, Bool.and_eq_true] at h
        exact gen s ss' h.1 h.2
end

/-! ### a def -/
theorem ow_start {K : PySem.W.Frag} {G H : Hp} {xs : List PV} {vs : List V} {N : List Str} (s : Same G H) (c : Clean G H) (r : Reps K G xs vs) (hl : vs.length ≤ N.length) : Ow K ⟨G, H, G⟩ (startE N.length xs) (L2.start N vs) G H := by
  have e := r.length
  refine ⟨Ext.refl s, c, Same.refl _, ?_, fun i sv h => ?_, fun i j as bs a h1 h2 _ _ => ?_⟩
  · unfold L2.start startE
    simp
    omega
  · unfold startE at h
    unfold L2.start
    by_cases hi : i < xs.length
    · rw [List.getElem?_append_left (by simpa using hi), List.getElem?_map, List.getElem?_eq_getElem hi] at h
      cases h
      obtain ⟨v, hv, rv⟩ := r.get (List.getElem?_eq_getElem hi)
      refine ⟨v, ?_, rv⟩
      rw [List.getElem?_append_left (by simp; omega), List.getElem?_map, hv]
      rfl
    · rw [List.getElem?_append_right (by simp; omega)] at h
      have := List.mem_of_getElem? h
      rw [List.mem_replicate] at this
      rw [this.2]
      trivial
  · unfold startE at h1
    have := List.mem_of_getElem? h1
    rw [List.mem_append] at this
    rcases this with z | z
    · rw [List.mem_map] at z
      obtain ⟨_, _, q⟩ := z
      cases q
    · rw [List.mem_replicate] at z
      cases z.2
/-- lambdas may be made in a def: its own table, and what is known at a lower level -/
structure LmOk (Γ : Gt) (P : Program) (w : World) (K : PySem.W.Frag) (mg : Str → Option Value) (base : Heap) (qual : Str) (fd : FuncData) : Prop where
  two : 2 ≤ Γ.k
  fnl : ∀ n ∈ Γ.fnl, n.Ok Γ.cl P w K mg base (Γ.k - 2)
  lo : Gt.Ok { Γ with k := Γ.k - 2, lm := false } P w K mg base
  tab : ∃ c Pt, fd.code = .ref c ∧ LamX.TabB base mg c Pt ∧ (Pt, qual ++ ".<locals>." ++ "<lambda>") ∈ Tbc.T ∧ ∀ p ∈ Tbc.T, p.1 = Pt → p.2 = qual ++ ".<locals>." ++ "<lambda>"
theorem okX2 {P : Program} {w : World} {K : PySem.W.Frag} {mg : Str → Option Value} {base : Heap} {x qual : Str} {st : Stmt} {f : Addr} {fd : FuncData} {N ps : List Str} {k : Nat} {sp : Sp} (F : Fun K x qual st f fd) (S : FnScope N ps (defScope st)) (len : ∀ vs H Q E, sp vs H Q E → vs.length = ps.length)
    (hb : ∀ (cdv : Value) (A : Around) (outer : List PySem.Env) (s : Shared) (H : Hp) (vs : List V) (Q : VK) (E : XK), fd.code = cdv → Room k (A.deeper (PyProof.Rows.envOfC qual (defScope st) s.heap.objs.size f cdv)) → sp vs H Q E →
      ∃ t, PSs (cxOf (L2.CX P w) P w K mg base N qual (defScope st) f cdv A outer s H E) (defBody st) t ∧ t { nx := fun _ H2 => Q .non H2, rt := Q } (L2.start N vs) H) : FnOk P w K mg base (L2.CX P w) (k + 1) f fd ps sp := by
  obtain ⟨_, _, _, _, _, _, cdv, _, _, rfl, l1, l2⟩ := F.ex
  exact fn_of l1 l2 S len fun A outer s H vs Q E hr hsp => hb cdv A outer s H vs Q E rfl hr hsp
/-- a def keeps the promise of what its core block computes -/
theorem fn_ok {P : Program} {w : World} {K : PySem.W.Frag} {mg : Str → Option Value} {base : Heap} {x qual : Str} {st : Stmt} {f : Addr} {fd : FuncData} {ps : List Str} {body : List PSt} (F : Fun K x qual st f fd) (S : FnScope nm.N ps (defScope st)) (g : Γ.Ok P w K mg base) (hnm : nm.Of Γ)
    (hdb : nm.N.all (fun x => !(x == ("__debug__" : Str)) && !(x == ("__classdict__" : Str))) = true) (hpl : ps.length ≤ nm.N.length) (hm : mSs nm fr (defScope st) (defScope st) body (defBody st) = true) (hcool : Γ.hot = false) (htl : Γ.tl = none) (hla : Γ.lm = true → LmOk Γ P w K mg base qual fd) :
    FnOk P w K mg base (L2.CX P w) (Γ.k + 1) f fd ps (spP K Γ.cl ps.length (run (fsOf Γ) (csOf Γ) fr nm.N.length ps.length body) fr) := by
  refine okX2 F S (fun vs H Q E h => h.1) fun cdv A outer s H vs Q E hcode hr h => ?_
  obtain ⟨hl, G, xs, sg, cG, r, hk⟩ := h
  have o : XOk Γ nm.N (defScope st) (defScope st) (fun cls d _ H => E cls d H) (cxOf (L2.CX P w) P w K mg base nm.N qual (defScope st) f cdv A outer s H E) := by
    refine ⟨g, rfl, S.nd, fun y hy => ?_, rfl, S.kind, fun _ => rfl, fun y hy => ⟨?_, .inl rfl⟩, fun _ => hr, (by have := hr.units; exact this), fun _ => (takes_of rfl rfl rfl rfl : Takes (cxOf (L2.CX P w) P w K mg base nm.N qual (defScope st) f cdv A outer s H E) (fun cls d _ H => E cls d H)), fun z _ => (let L := hla z; let ⟨c, Pt, l1, l2, l3, l4⟩ := L.tab; ⟨L.two, L.fnl, L.lo, c, Pt, l2, hcode.symm.trans l1, l3, l4⟩)⟩
    · have := List.all_eq_true.mp hdb y hy
      simp only [Bool.and_eq_true, Bool.not_eq_true'] at this
      exact this
    · unfold loc at hy
      split at hy
      · exact .inl (by assumption)
      · exact .inr (by assumption)
      · cases hy
  have hp0 : PassesOwn (model P w) (A.deeper (PyProof.Rows.envOfC qual (defScope st) s.heap.objs.size f cdv)) (PyProof.Rows.envOfC qual (defScope st) s.heap.objs.size f cdv) (cxOf (L2.CX P w) P w K mg base nm.N qual (defScope st) f cdv A outer s H E).xe := PassesOwn.leaving
  refine ⟨_, sSs (fr := fr) hnm body _ o ⟨hp0, rfl, rfl, fun a r z => by rw [htl] at z; cases z⟩ hm, ⟨G, H, G⟩, startE nm.N.length xs, G, ow_start sg cG r (by omega), ?_⟩
  have hxl : xs.length = ps.length := by rw [← r.length]; exact hl
  unfold run at hk
  rw [if_pos hxl] at hk
  cases ev : evSs (fsOf Γ) (csOf Γ) fr body (startE nm.N.length xs) with
  | next ρ =>
    rw [ev] at hk
    intro σ G' H' ow
    refine hk .non G' H' ow.ext ?_
    cases fr <;> exact (show Rep K G' .non .non from rep_non.mpr rfl)
  | ret v =>
    rw [ev] at hk
    exact fun w G' H' e rv => hk w G' H' e rv
  | exn c ρ =>
    rw [ev] at hk
    exact fun σ G' H' ow => hk G' H' ow.ext
  | brk ρ => rw [ev] at hk; exact hk.elim
  | cnt ρ => rw [ev] at hk; exact hk.elim
  | bad => rw [ev] at hk; exact hk.elim
theorem ow_startO {K : PySem.W.Frag} {G H : Hp} {xs zs : List PV} {us ws : List V} {p : Addr} {N : List Str} (s : Same G H) (c : Clean G H) (r : Reps K G xs us) (h1 : H p = some (.lst ws)) (h2 : G p = none) (rz : Reps K G zs ws) (hl : us.length + 1 ≤ N.length) :
    Ow K ⟨G, del H p, G⟩ ((startE N.length (xs ++ [.lst zs])).set xs.length (.ow zs)) (L2.start N (us ++ [.ref p])) G H := by
  have e := r.length
  have len : (startE N.length (xs ++ [.lst zs])).length = N.length := by
    unfold startE
    simp
    omega
  have at_ : ∀ i, i ≠ xs.length → ∀ sv, ((startE N.length (xs ++ [.lst zs])).set xs.length (.ow zs))[i]? = some sv → (∃ x, xs[i]? = some x ∧ sv = .sh x) ∨ sv = .no := fun i hi sv h => by
    rw [List.getElem?_set_ne (Ne.symm hi)] at h
    unfold startE at h
    by_cases hx : i < xs.length
    · rw [List.getElem?_append_left (by simp; omega), List.getElem?_map, List.getElem?_append_left hx, List.getElem?_eq_getElem hx] at h
      cases h
      exact .inl ⟨_, List.getElem?_eq_getElem hx, rfl⟩
    · rw [List.getElem?_append_right (by simp; omega)] at h
      have := List.mem_of_getElem? h
      rw [List.mem_replicate] at this
      exact .inr this.2
  have self : ((startE N.length (xs ++ [.lst zs])).set xs.length (.ow zs))[xs.length]? = some (.ow zs) := by
    rw [List.getElem?_set_self (by rw [len]; omega)]
  have sp : (L2.start N (us ++ [.ref p]))[xs.length]? = some (some (.ref p)) := by
    unfold L2.start
    rw [← e, List.getElem?_append_left (by simp), List.getElem?_map, List.getElem?_append_right (Nat.le_refl _), Nat.sub_self]
    rfl
  refine ⟨⟨.of fun b u q => ?_, s, fun _ _ _ => rfl, fun _ _ h => h⟩, c, Same.refl _, ?_, fun i sv h => ?_, fun i j as bs a g1 g2 _ _ => ?_⟩
  · have q : del H p b = some u := q
    by_cases hb : b = p
    · subst hb
      rw [show del H b b = none from if_pos rfl] at q
      cases q
    · rw [show del H p b = H b from if_neg hb] at q
      exact q
  · rw [List.length_set, len]
    unfold L2.start
    simp
    omega
  · by_cases hi : i = xs.length
    · subst hi
      rw [self] at h
      cases h
      exact ⟨p, ws, by rw [sp]; rfl, h1, h2, if_pos rfl, rz⟩
    · rcases at_ i hi sv h with ⟨x, hx, rfl⟩ | rfl
      · obtain ⟨v, hv, rv⟩ := r.get hx
        refine ⟨v, ?_, rv⟩
        have hlt : i < us.length := (List.getElem?_eq_some_iff.mp hv).1
        unfold L2.start
        rw [List.getElem?_append_left (by simp; omega), List.getElem?_map, List.getElem?_append_left hlt, hv]
        rfl
      · trivial
  · have hi : i = xs.length := by
      refine Classical.byContradiction fun hn => ?_
      rcases at_ i hn _ g1 with ⟨_, _, z⟩ | z <;> cases z
    have hj : j = xs.length := by
      refine Classical.byContradiction fun hn => ?_
      rcases at_ j hn _ g2 with ⟨_, _, z⟩ | z <;> cases z
    rw [hi, hj]
/-- a def that owns its last argument keeps the promise of what its core block computes -/
theorem fn_okO {P : Program} {w : World} {K : PySem.W.Frag} {mg : Str → Option Value} {base : Heap} {x qual : Str} {st : Stmt} {f : Addr} {fd : FuncData} {ps : List Str} {body : List PSt} (F : Fun K x qual st f fd) (S : FnScope nm.N ps (defScope st)) (g : Γ.Ok P w K mg base) (hnm : nm.Of Γ)
    (hdb : nm.N.all (fun x => !(x == ("__debug__" : Str)) && !(x == ("__classdict__" : Str))) = true) (hpl : ps.length ≤ nm.N.length) (hm : mSs nm false (defScope st) (defScope st) body (defBody st) = true) (hcool : Γ.hot = false) (htl : Γ.tl = none) (hlm : Γ.lm = false) :
    FnOk P w K mg base (L2.CX P w) (Γ.k + 1) f fd ps (spO K Γ.cl ps.length (runO (fsOf Γ) (csOf Γ) nm.N.length ps.length body)) := by
  refine F.okX S (fun vs H Q E h => h.1) fun cdv A outer s H vs Q E hr h => ?_
  obtain ⟨hl, G, xs, us, p, zs, ws, ev0, sg, cG, r, h1, h2, rz, hk⟩ := h
  subst ev0
  have o : XOk Γ nm.N (defScope st) (defScope st) (fun cls d _ H => E cls d H) (cxOf (L2.CX P w) P w K mg base nm.N qual (defScope st) f cdv A outer s H E) := by
    refine ⟨g, rfl, S.nd, fun y hy => ?_, rfl, S.kind, fun _ => rfl, fun y hy => ⟨?_, .inl rfl⟩, fun _ => hr, (by have := hr.units; exact this), fun _ => (takes_of rfl rfl rfl rfl : Takes (cxOf (L2.CX P w) P w K mg base nm.N qual (defScope st) f cdv A outer s H E) (fun cls d _ H => E cls d H)), fun z => by rw [hlm] at z; cases z⟩
    · have := List.all_eq_true.mp hdb y hy
      simp only [Bool.and_eq_true, Bool.not_eq_true'] at this
      exact this
    · unfold loc at hy
      split at hy
      · exact .inl (by assumption)
      · exact .inr (by assumption)
      · cases hy
  have hp0 : PassesOwn (model P w) (A.deeper (PyProof.Rows.envOfC qual (defScope st) s.heap.objs.size f cdv)) (PyProof.Rows.envOfC qual (defScope st) s.heap.objs.size f cdv) (cxOf (L2.CX P w) P w K mg base nm.N qual (defScope st) f cdv A outer s H E).xe := PassesOwn.leaving
  have hul : us.length + 1 = ps.length := by
    rw [List.length_append, List.length_singleton] at hl
    exact hl
  have hxl : xs.length + 1 = ps.length := by rw [← r.length]; exact hul
  refine ⟨_, sSs (fr := false) hnm body _ o ⟨hp0, rfl, rfl, fun a r z => by rw [htl] at z; cases z⟩ hm, ⟨G, del H p, G⟩, (startE nm.N.length (xs ++ [PV.lst zs])).set xs.length (.ow zs), G, ow_startO (N := nm.N) sg cG r h1 h2 rz (by omega), ?_⟩
  unfold runO at hk
  rw [if_pos (by simp; omega), List.getLast?_concat, show ps.length - 1 = xs.length by omega] at hk
  simp only at hk
  cases ev : evSs (fsOf Γ) (csOf Γ) false body ((startE nm.N.length (xs ++ [.lst zs])).set xs.length (.ow zs)) with
  | next ρ =>
    rw [ev] at hk
    intro σ G' H' ow
    exact hk .non G' H' ow.ext (rep_non.mpr rfl)
  | ret v =>
    rw [ev] at hk
    exact fun w G' H' e rv => hk w G' H' e rv
  | exn c ρ =>
    rw [ev] at hk
    exact fun σ G' H' ow => hk G' H' ow.ext
  | brk ρ => rw [ev] at hk; exact hk.elim
  | cnt ρ => rw [ev] at hk; exact hk.elim
  | bad => rw [ev] at hk; exact hk.elim
/-- a def that gets a lambda keeps the promise of what its core block computes -/
theorem fn_okL {P : Program} {w : World} {K : PySem.W.Frag} {mg : Str → Option Value} {base : Heap} {k : Nat} {x a : Str} {st : Stmt} {f : Addr} {fd : FuncData} {cl : Nat → Addr} {body : List PSt} (cn : List (Str × PV)) (gm : mg x = some (.ref f)) (F : Fun K x x st f fd) (S : FnScope nm.N [a] (defScope st))
    (hbl : ∀ y ∈ nm.bl, mg y = none) (hec : EcOk K mg cl nm.ec) (hcn : ∀ p ∈ cn, (p.1 == ("__debug__" : Str)) = false ∧ ∃ v u, mg p.1 = some u ∧ RelV v u ∧ ∀ G, Rep K G p.2 v) (hfix : nm.fn = [] ∧ nm.fno = [] ∧ nm.fnl = [] ∧ nm.tl = some a ∧ nm.lm = false ∧ nm.hot = false) (hcm : nm.cn = cn.map (·.1))
    (hdb : (nm.N.all (fun x => !(x == ("__debug__" : Str)) && !(x == ("__classdict__" : Str))) && !(x == ("__debug__" : Str))) = true) (hN0 : nm.N[0]? = some a) (hv : vis (defScope st) a = true) (hm : mSs nm false (defScope st) (defScope st) body (defBody st) = true) (hb : L2.Binds K fd [a] []) :
    FnL.Ok cl P w K mg base k ⟨x, f, runL [] (cn.map (·.2)) nm.N.length body⟩ := by
  rw [Bool.and_eq_true, Bool.not_eq_true'] at hdb
  obtain ⟨h1, h2, h3, h4, h5, h6⟩ := hfix
  have da := List.all_eq_true.mp hdb.1 a (List.mem_of_getElem? hN0)
  simp only [Bool.and_eq_true, Bool.not_eq_true'] at da
  have hv' : Vis (defScope st) a := by
    unfold vis at hv
    split at hv
    · exact .inl (by assumption)
    · exact .inr (.inl (by assumption))
    · exact .inr (.inr (by assumption))
    · cases hv
  refine ⟨gm, hdb.2, fun r c z => ?_, st, fd, nm.N, a, F, S, hb, hN0, hv', da.1, da.2, fun cdv A stack s G H Q r f' c1 q hr sG cG hc act hk => ?_⟩
  · have z : runL [] (cn.map (·.2)) nm.N.length body r = .exn c := z
    unfold runL at z
    split at z <;> cases z
  · letI : Tlc := ⟨f', G, H⟩
    have len : (SV.fn :: List.replicate (nm.N.length - 1) SV.no).length = nm.N.length := by
      have := (List.getElem?_eq_some_iff.mp hN0).1
      simp
      omega
    have g : Gt.Ok ⟨k + 1, cl, [], nm.bl, cn, nm.ec, false, [], [], some (a, r), false⟩ P w K mg base := ⟨fun _ z => (nomatch z), hbl, hcn, hec, fun _ z => (nomatch z)⟩
    have hnm : nm.Of ⟨k + 1, cl, [], nm.bl, cn, nm.ec, false, [], [], some (a, r), false⟩ := ⟨h1, rfl, hcm, rfl, h6, h2, h3, h4, h5⟩
    have o : XOk ⟨k + 1, cl, [], nm.bl, cn, nm.ec, false, [], [], some (a, r), false⟩ nm.N (defScope st) (defScope st) (fun _ _ _ _ => False) (cxOf C8.CX0 P w K mg base nm.N x (defScope st) f cdv A stack s H C8.E0).nox := by
      refine ⟨g, rfl, S.nd, fun y hy => ?_, rfl, S.kind, fun _ => rfl, fun y hy => ⟨?_, .inl rfl⟩, fun _ => hr, hr.units, fun _ => LamX.takes0, fun z => nomatch z⟩
      · have := List.all_eq_true.mp hdb.1 y hy
        simp only [Bool.and_eq_true, Bool.not_eq_true'] at this
        exact this
      · unfold loc at hy
        split at hy
        · exact .inl (by assumption)
        · exact .inr (by assumption)
        · cases hy
    have hp : SOk ⟨k + 1, cl, [], nm.bl, cn, nm.ec, false, [], [], some (a, r), false⟩ (cxOf C8.CX0 P w K mg base nm.N x (defScope st) f cdv A stack s H C8.E0).nox := by
      refine ⟨PassesOwn.never, rfl, rfl, fun a' r' z W' pn xe tk p1 p2 => ?_⟩
      cases z
      refine PE.weak (act W' pn xe p1 p2 tk) fun σ H' Q' ⟨B, ρ, G', ow, h0, hr'⟩ => ?_
      obtain ⟨s1, s2, s3⟩ := ow.slot 0 _ h0
      have e := ow.ext
      rw [s2, s3] at e
      refine ⟨?_, e.hh.k c1 _ hc LamX.codeO_ne, G', e, hr'.imp (fun x k => k) fun c k => k⟩
      cases q : σ[0]? with
      | none => rw [q] at s1; cases s1
      | some z => rw [q] at s1; exact congrArg some s1
    refine ⟨_, sSs (fr := false) hnm body _ o hp hm, ⟨G, H, G⟩, SV.fn :: List.replicate (nm.N.length - 1) SV.no, G, ⟨Ext.refl sG, cG, Same.refl _, ?_, fun i sv h => ?_, fun i j as bs b e1 _ _ _ => ?_⟩, ?_⟩
    · rw [len]
      unfold L2.start
      have := (List.getElem?_eq_some_iff.mp hN0).1
      simp
      omega
    · cases i with
      | zero =>
        cases h
        exact ⟨rfl, rfl, rfl⟩
      | succ i =>
        rw [List.getElem?_cons_succ] at h
        have := List.mem_of_getElem? h
        rw [List.mem_replicate] at this
        rw [this.2]
        trivial
    · cases i with
      | zero => cases e1
      | succ i =>
        rw [List.getElem?_cons_succ] at e1
        have := List.mem_of_getElem? e1
        rw [List.mem_replicate] at this
        cases this.2
    · have hk : PK (runL [] (cn.map (·.2)) nm.N.length body r) _ _ := hk
      unfold runL at hk
      show PostS _ _ K false _ (evSs [fun _ => r] (cn.map (·.2)) false body (SV.fn :: List.replicate (nm.N.length - 1) SV.no)) _
      have ef : ([] ++ [(fun _ => r : Sem1)]) = [fun _ => r] := rfl
      rw [ef] at hk
      cases ev : evSs [fun _ => r] (cn.map (·.2)) false body (SV.fn :: List.replicate (nm.N.length - 1) SV.no) with
      | next ρ =>
        rw [ev] at hk
        intro σ G' H' ow
        exact hk .non G' H' ow.ext (rep_non.mpr rfl)
      | ret v =>
        rw [ev] at hk
        exact fun w G' H' e rv => hk w G' H' e rv
      | exn c ρ => rw [ev] at hk; exact hk.elim
      | brk ρ => rw [ev] at hk; exact hk.elim
      | cnt ρ => rw [ev] at hk; exact hk.elim
      | bad => rw [ev] at hk; exact hk.elim
theorem runO_len {fs : List Sem1} {cs : List PV} {n m : Nat} {body : List PSt} {xs : List PV} (h : runO fs cs n m body xs ≠ .bad) : xs.length = m := by
  unfold runO at h
  split at h
  · assumption
  · exact absurd rfl h
theorem run_len {fs : List Sem1} {cs : List PV} {n m : Nat} {body : List PSt} {xs : List PV} (h : run fs cs fr n m body xs ≠ .bad) : xs.length = m := by
  unfold run at h
  split at h
  · assumption
  · exact absurd rfl h
end
end Pf

set_option Elab.async false
set_option linter.all false
set_option maxRecDepth 100000
set_option autoImplicit false
set_option maxHeartbeats 4000000
/-! PfB: defs put together, and the law's end -/
namespace Pf
open PySem PySem.Spec L2 PyProof.Rows
variable [Tbc]
/-- no lambda was got -/
instance tlc0 : Tlc := ⟨0, fun _ => none, fun _ => none⟩

/-- turns of a loop, more than any list has -/
def LOOPS : Nat := 1000000000
section
variable {P : Program} {w : World} {K : PySem.W.Frag} {mg : Str → Option Value} {base : Heap} {cl : Nat → Addr}
def Fn.At (P : Program) (w : World) (K : PySem.W.Frag) (mg : Str → Option Value) (base : Heap) (cl : Nat → Addr) (k : Nat) (n : Fn) : Prop := n.Ok ⟨k, cl, [], [], [], ⟨[], [], [], []⟩, false, [], [], none, false⟩ P w K mg base
theorem Fn.At.to {n : Fn} {j : Nat} {Γ : Gt} (h : n.At P w K mg base Γ.cl j) (hj : j ≤ Γ.k) : n.Ok Γ P w K mg base := ⟨h.ok.mono hj, h.gm, h.kp, h.bd, h.len, h.db⟩
theorem Fn.At.up {n : Fn} {j k : Nat} (h : n.At P w K mg base cl j) (hj : j ≤ k) : n.At P w K mg base cl k := Fn.At.to (Γ := ⟨k, cl, [], [], [], ⟨[], [], [], []⟩, false, [], [], none, false⟩) h hj
def Fn.AtO (P : Program) (w : World) (K : PySem.W.Frag) (mg : Str → Option Value) (base : Heap) (cl : Nat → Addr) (k : Nat) (n : Fn) : Prop := n.OkO ⟨k, cl, [], [], [], ⟨[], [], [], []⟩, false, [], [], none, false⟩ P w K mg base
theorem Fn.AtO.to {n : Fn} {j : Nat} {Γ : Gt} (h : n.AtO P w K mg base Γ.cl j) (hj : j ≤ Γ.k) : n.OkO Γ P w K mg base := ⟨h.ok.mono hj, h.gm, h.kp, h.bd, h.len, h.db⟩
theorem Fn.AtO.up {n : Fn} {j k : Nat} (h : n.AtO P w K mg base cl j) (hj : j ≤ k) : n.AtO P w K mg base cl k := Fn.AtO.to (Γ := ⟨k, cl, [], [], [], ⟨[], [], [], []⟩, false, [], [], none, false⟩) h hj
theorem ato_nil {k : Nat} : ∀ n ∈ ([] : List Fn), n.AtO P w K mg base cl k := fun _ h => nomatch h
theorem ato_cons {k j : Nat} {n : Fn} {ns : List Fn} (h : n.AtO P w K mg base cl j) (hj : j ≤ k) (t : ∀ n ∈ ns, n.AtO P w K mg base cl k) : ∀ m ∈ n :: ns, m.AtO P w K mg base cl k := fun m hm => by
  rcases List.mem_cons.mp hm with rfl | z
  · exact h.up hj
  · exact t m z
def DefIs (K : PySem.W.Frag) (x : Str) (st : Stmt) : Prop := ∃ (f : Addr) (fd : FuncData), PySem.W.nsIn K mainGlobals x = some (some (.ref f)) ∧ Fun K x x st f fd
omit [Tbc] in
theorem DefIs.mk {x : Str} {st : Stmt} {f : Addr} {oc : Value} {od an : Option Addr} {osl : Array (Option Value)} {kV doc pm cdv ct : Value} (a : PySem.W.nsIn K mainGlobals x = some (some (.ref f)))
    (l : K.lookup f = some ⟨oc, od, .func (PySem.W.fnOf x x (defArgs st) (defBody st) (defScope st) .none kV doc pm an cdv ct), osl⟩) (c : PySem.W.codeIn K cdv x = true) (k : PySem.W.keepIn K (.ref f) = true) : DefIs K x st := ⟨f, _, a, fun_mk l c k⟩
abbrev CnOk (mg : Str → Option Value) (K : PySem.W.Frag) (cn : List (Str × PV)) : Prop := ∀ p ∈ cn, (p.1 == ("__debug__" : Str)) = false ∧ ∃ v u, mg p.1 = some u ∧ RelV v u ∧ ∀ G, Rep K G p.2 v
omit [Tbc] in
theorem cn_nil : CnOk mg K [] := fun _ h => nomatch h
omit [Tbc] in
theorem cn_cons {p : Str × PV} {cn : List (Str × PV)} (h : (p.1 == ("__debug__" : Str)) = false ∧ ∃ v u, mg p.1 = some u ∧ RelV v u ∧ ∀ G, Rep K G p.2 v) (t : CnOk mg K cn) : CnOk mg K (p :: cn) := fun q hq => by
  rcases List.mem_cons.mp hq with rfl | z
  · exact h
  · exact t q z
theorem at_nil {k : Nat} : ∀ n ∈ ([] : List Fn), n.At P w K mg base cl k := fun _ h => nomatch h
theorem at_cons {k j : Nat} {n : Fn} {ns : List Fn} (h : n.At P w K mg base cl j) (hj : j ≤ k) (t : ∀ n ∈ ns, n.At P w K mg base cl k) : ∀ m ∈ n :: ns, m.At P w K mg base cl k := fun m hm => by
  rcases List.mem_cons.mp hm with rfl | z
  · exact h.up hj
  · exact t m z
omit [Tbc] in
theorem ex_nil : ∀ p ∈ ([] : List (Str × Nat)), ExG K mg p.1 (cl p.2) := fun _ h => nomatch h
omit [Tbc] in
theorem ex_cons {p : Str × Nat} {ps : List (Str × Nat)} (h : ExG K mg p.1 (cl p.2)) (t : ∀ p ∈ ps, ExG K mg p.1 (cl p.2)) : ∀ q ∈ p :: ps, ExG K mg q.1 (cl q.2) := fun q hq => by
  rcases List.mem_cons.mp hq with rfl | z
  · exact h
  · exact t q z
omit [Tbc] in
theorem bl_nil : ∀ x ∈ ([] : List Str), mg x = none := fun _ h => nomatch h
omit [Tbc] in
theorem bl_cons {x : Str} {xs : List Str} (h : mg x = none) (t : ∀ x ∈ xs, mg x = none) : ∀ y ∈ x :: xs, mg y = none := fun y hy => by
  rcases List.mem_cons.mp hy with rfl | z
  · exact h
  · exact t y z
/-- a def of which nothing is asked -/
theorem def_zero {k : Nat} {x : Str} {st : Stmt} {ps : List Str} {nm : Nm} {fr : Bool} {f : Addr} {fd : FuncData} (gm : mg x = some (.ref f)) (F : Fun K x x st f fd)
    (hdb : (nm.N.all (fun x => !(x == ("__debug__" : Str)) && !(x == ("__classdict__" : Str))) && decide (ps.length ≤ nm.N.length) && !(x == ("__debug__" : Str))) = true)
    (hb : Binds K fd ps []) : Fn.At P w K mg base cl k ⟨x, ps, f, fd, fun _ => .bad, fr⟩ := by
  simp only [Bool.and_eq_true, Bool.not_eq_true', decide_eq_true_eq] at hdb
  exact ⟨⟨fun vs H Q E q => (let ⟨_, _, _, _, _, _, z⟩ := q; False.elim z), fun A outer s H args us vs Q E hr he hb hv q => (let ⟨_, _, _, _, _, _, z⟩ := q; False.elim z)⟩, gm, F.kp, hb, fun xs h => absurd rfl h, hdb.2⟩
/-- a def by its core block -/
theorem def_ok {k : Nat} {x : Str} {st : Stmt} {ps : List Str} {body : List PSt} {nm : Nm} {fr : Bool} {f : Addr} {fd : FuncData} (cs co : List Fn) (cn : List (Str × PV)) (gm : mg x = some (.ref f)) (F : Fun K x x st f fd)
    (S : FnScope nm.N ps (defScope st)) (hcs : ∀ n ∈ cs, n.At P w K mg base cl k) (hco : ∀ n ∈ co, n.AtO P w K mg base cl k) (hbl : ∀ y ∈ nm.bl, mg y = none) (hec : EcOk K mg cl nm.ec) (hot : nm.hot = false) (hcn : CnOk mg K cn) (hfn : nm.fn = cs.map fun n => (n.name, n.fr)) (hcm : nm.cn = cn.map (·.1)) (hfo : nm.fno = co.map (·.name)) (hx : nm.fnl = [] ∧ nm.tl = none ∧ nm.lm = false)
    (hdb : (nm.N.all (fun x => !(x == ("__debug__" : Str)) && !(x == ("__classdict__" : Str))) && decide (ps.length ≤ nm.N.length) && !(x == ("__debug__" : Str))) = true) (hm : mSs nm fr (defScope st) (defScope st) body (defBody st) = true)
    (hb : Binds K fd ps []) : Fn.At P w K mg base cl (k + 1) ⟨x, ps, f, fd, run (cs.map (·.sem) ++ (co.map (·.sem) ++ ([] ++ []))) (cn.map (·.2)) fr nm.N.length ps.length body, fr⟩ := by
  simp only [Bool.and_eq_true, Bool.not_eq_true', decide_eq_true_eq] at hdb
  have g : Gt.Ok ⟨k, cl, cs, nm.bl, cn, nm.ec, false, co, [], none, false⟩ P w K mg base := ⟨fun n hn => (hcs n hn).to (Γ := ⟨k, cl, cs, nm.bl, cn, nm.ec, false, co, [], none, false⟩) (Nat.le_refl _), hbl, hcn, hec, fun n hn => (hco n hn).to (Γ := ⟨k, cl, cs, nm.bl, cn, nm.ec, false, co, [], none, false⟩) (Nat.le_refl _)⟩
  refine ⟨fn_ok (Γ := ⟨k, cl, cs, nm.bl, cn, nm.ec, false, co, [], none, false⟩) F S g ⟨hfn, rfl, hcm, rfl, hot, hfo, hx.1, hx.2.1, hx.2.2⟩ ?_ hdb.1.2 hm rfl rfl (fun z => nomatch z), gm, F.kp, hb, fun xs h => run_len h, hdb.2⟩
  simpa using hdb.1.1
/-- a def by its core block -/
theorem def_okO {k : Nat} {x : Str} {st : Stmt} {ps : List Str} {body : List PSt} {nm : Nm} {f : Addr} {fd : FuncData} (cs co : List Fn) (cn : List (Str × PV)) (gm : mg x = some (.ref f)) (F : Fun K x x st f fd)
    (S : FnScope nm.N ps (defScope st)) (hcs : ∀ n ∈ cs, n.At P w K mg base cl k) (hco : ∀ n ∈ co, n.AtO P w K mg base cl k) (hbl : ∀ y ∈ nm.bl, mg y = none) (hec : EcOk K mg cl nm.ec) (hot : nm.hot = false) (hcn : CnOk mg K cn) (hfn : nm.fn = cs.map fun n => (n.name, n.fr)) (hcm : nm.cn = cn.map (·.1)) (hfo : nm.fno = co.map (·.name)) (hx : nm.fnl = [] ∧ nm.tl = none ∧ nm.lm = false)
    (hdb : (nm.N.all (fun x => !(x == ("__debug__" : Str)) && !(x == ("__classdict__" : Str))) && decide (ps.length ≤ nm.N.length) && !(x == ("__debug__" : Str))) = true) (hm : mSs nm false (defScope st) (defScope st) body (defBody st) = true)
    (hb : Binds K fd ps []) : Fn.AtO P w K mg base cl (k + 1) ⟨x, ps, f, fd, runO (cs.map (·.sem) ++ (co.map (·.sem) ++ ([] ++ []))) (cn.map (·.2)) nm.N.length ps.length body, false⟩ := by
  simp only [Bool.and_eq_true, Bool.not_eq_true', decide_eq_true_eq] at hdb
  have g : Gt.Ok ⟨k, cl, cs, nm.bl, cn, nm.ec, false, co, [], none, false⟩ P w K mg base := ⟨fun n hn => (hcs n hn).to (Γ := ⟨k, cl, cs, nm.bl, cn, nm.ec, false, co, [], none, false⟩) (Nat.le_refl _), hbl, hcn, hec, fun n hn => (hco n hn).to (Γ := ⟨k, cl, cs, nm.bl, cn, nm.ec, false, co, [], none, false⟩) (Nat.le_refl _)⟩
  refine ⟨fn_okO (Γ := ⟨k, cl, cs, nm.bl, cn, nm.ec, false, co, [], none, false⟩) F S g ⟨hfn, rfl, hcm, rfl, hot, hfo, hx.1, hx.2.1, hx.2.2⟩ ?_ hdb.1.2 hm rfl rfl rfl, gm, F.kp, hb, fun xs h => runO_len h, hdb.2⟩
  simpa using hdb.1.1
/-- a def that makes lambdas, by its core block -/
theorem def_okM {k : Nat} {x : Str} {st : Stmt} {ps : List Str} {body : List PSt} {nm : Nm} {fr : Bool} {f c Pt : Addr} {fd : FuncData} (cs co : List Fn) (cf : List FnL) (cn : List (Str × PV)) (gm : mg x = some (.ref f)) (F : Fun K x x st f fd)
    (S : FnScope nm.N ps (defScope st)) (hcs : ∀ n ∈ cs, n.At P w K mg base cl k) (hco : ∀ n ∈ co, n.AtO P w K mg base cl k) (hcf : ∀ n ∈ cf, n.Ok cl P w K mg base k) (hbl : ∀ y ∈ nm.bl, mg y = none) (hec : EcOk K mg cl nm.ec) (hot : nm.hot = false) (hcn : CnOk mg K cn) (hfn : nm.fn = cs.map fun n => (n.name, n.fr)) (hcm : nm.cn = cn.map (·.1)) (hfo : nm.fno = co.map (·.name)) (hx : nm.fnl = cf.map (·.name) ∧ nm.tl = none ∧ nm.lm = true)
    (hdb : (nm.N.all (fun x => !(x == ("__debug__" : Str)) && !(x == ("__classdict__" : Str))) && decide (ps.length ≤ nm.N.length) && !(x == ("__debug__" : Str))) = true) (hm : mSs nm fr (defScope st) (defScope st) body (defBody st) = true)
    (hb : Binds K fd ps []) (hcode : fd.code = .ref c) (TB : LamX.TabB base mg c Pt) (mT : (Pt, x ++ ".<locals>." ++ "<lambda>") ∈ Tbc.T) (uq : ∀ p ∈ Tbc.T, p.1 = Pt → p.2 = x ++ ".<locals>." ++ "<lambda>") :
    Fn.At P w K mg base cl (k + 3) ⟨x, ps, f, fd, run (cs.map (·.sem) ++ (co.map (·.sem) ++ (cf.map (fun n => encL n.sem) ++ []))) (cn.map (·.2)) fr nm.N.length ps.length body, fr⟩ := by
  simp only [Bool.and_eq_true, Bool.not_eq_true', decide_eq_true_eq] at hdb
  have g : Gt.Ok ⟨k + 2, cl, cs, nm.bl, cn, nm.ec, false, co, cf, none, true⟩ P w K mg base := ⟨fun n hn => (hcs n hn).to (Γ := ⟨k + 2, cl, cs, nm.bl, cn, nm.ec, false, co, cf, none, true⟩) (Nat.le_add_right k 2), hbl, hcn, hec, fun n hn => (hco n hn).to (Γ := ⟨k + 2, cl, cs, nm.bl, cn, nm.ec, false, co, cf, none, true⟩) (Nat.le_add_right k 2)⟩
  have lo : Gt.Ok ⟨k, cl, cs, nm.bl, cn, nm.ec, false, co, cf, none, false⟩ P w K mg base := ⟨fun n hn => (hcs n hn).to (Γ := ⟨k, cl, cs, nm.bl, cn, nm.ec, false, co, cf, none, false⟩) (Nat.le_refl k), hbl, hcn, hec, fun n hn => (hco n hn).to (Γ := ⟨k, cl, cs, nm.bl, cn, nm.ec, false, co, cf, none, false⟩) (Nat.le_refl k)⟩
  refine ⟨fn_ok (Γ := ⟨k + 2, cl, cs, nm.bl, cn, nm.ec, false, co, cf, none, true⟩) F S g ⟨hfn, rfl, hcm, rfl, hot, hfo, hx.1, hx.2.1, hx.2.2⟩ ?_ hdb.1.2 hm rfl rfl fun _ => ⟨Nat.le_add_left 2 k, hcf, lo, c, Pt, hcode, TB, mT, uq⟩, gm, F.kp, hb, fun xs h => run_len h, hdb.2⟩
  simpa using hdb.1.1
theorem fnl_nil {k : Nat} : ∀ n ∈ ([] : List FnL), n.Ok cl P w K mg base k := fun _ h => nomatch h
theorem fnl_cons {k : Nat} {n : FnL} {ns : List FnL} (h : n.Ok cl P w K mg base k) (t : ∀ n ∈ ns, n.Ok cl P w K mg base k) : ∀ m ∈ n :: ns, m.Ok cl P w K mg base k := fun m hm => by
  rcases List.mem_cons.mp hm with rfl | z
  · exact h
  · exact t m z
omit [Tbc] in
theorem binds_law {x l : Str} {st : Stmt} {f : Addr} {fd : FuncData} (F : Fun K l l st f fd) (h : ∀ (kV doc pm : Value) (an : Option Addr) (cdv ct : Value) (u : Value), bindArgs (PySem.W.fnOf l l (defArgs st) (defBody st) (defScope st) .none kV doc pm an cdv ct) ⟨[u], []⟩ = pure [(x, u)]) :
    ∀ (s : Shared) (u : Value), BindsTo s fd ⟨[u], []⟩ [(x, u)] := fun s u => by
  obtain ⟨oc, od, kV, doc, pm, an, cdv, ct, osl, rfl, lk, hcd⟩ := F.ex
  exact .of_eq (h kV doc pm an cdv ct u)
end
abbrev script (ns : List Int) : PV := .rl (ns.map PV.int)
/-- what all_mk gives -/
abbrev LawOk (K : PySem.W.Frag) (P : Program) (w : World) (mg : Str → Option Value) (fa : Addr) (x : Str) (k : Nat) (sem : Sem1) : Prop :=
  ∃ fd : FuncData, (∀ (s : Shared) (u : Value), BindsTo s fd ⟨[u], []⟩ [(x, u)]) ∧ ∀ base : Heap, K.In base → base.Ns mainGlobals mg → ∃ cl, FnOk P w K mg base (L2.CX P w) k fa fd [x] (spP K cl 1 sem false)
/-- the law's promise -/
def spOne (K : PySem.W.Frag) : Sp := fun vs H Q _ => ∃ (a : Addr) (ns : List Int), vs = [.ref a] ∧ SqL K H a (ns.map V.int) ∧ ns.length ≤ 63 ∧ (∀ z ∈ ns, Builtin.Int.intBits z ≤ 1048576) ∧ LamX.Tabs Tbc.T H ∧ ∀ H', Q (.bl true) H'
theorem sqL_noT {K : PySem.W.Frag} {H : Hp} {a : Addr} {xs : List V} (h : SqL K H a xs) : SqL K (noT H) a xs := by
  rcases h with (h | ⟨o, h⟩) | h
  · exact .inl (.inl (noT_of h fun _ z => by cases z))
  · exact .inl (.inr ⟨o, noT_of h fun _ z => by cases z⟩)
  · exact .inr h
theorem spOne_of {K : PySem.W.Frag} {cl : Nat → Addr} {sem : Sem1} (h : ∀ ns : List Int, ns.length ≤ 63 → (∀ z ∈ ns, Builtin.Int.intBits z ≤ 1048576) → sem [script ns] = .ok (.bl true)) (vs : List V) (H : Hp) (Q : VK) (E : XK) (z : spOne K vs H Q E) : spP K cl 1 sem false vs H Q E := by
  obtain ⟨a, ns, rfl, hS, hl, hb, hT, k⟩ := z
  refine ⟨rfl, noT H, [script ns], noT_same H, ⟨fun _ _ q => (noT_get q).2 _ rfl, hT⟩, ⟨.ref a, [], rfl, ⟨a, ns.map V.int, rfl, sqL_noT hS, reps_ints.mpr rfl⟩, rfl⟩, ?_⟩
  rw [h ns hl hb]
  intro v G' H' _ r
  have e : v = .bl true := rep_bl.mp (show Rep K G' (.bl true) v from r)
  rw [e]
  exact k H'
theorem walk (hT : Tbc.T = []) {l : PySem.W.OpenLaw} {q : Program} {loose : List Str} {XP : (Str → Option Value) → Heap → Prop} {YP : World → Heap → Prop} {d : DefRec} {K : Params → PySem.W.Frag} {x : Str} {k : Nat} {sem : Sem1} (hn : l.most = some 63) (hdf : d.params.defaults = []) (hr : Room k callerA)
    (hsem : ∀ ns : List Int, ns.length ≤ 63 → (∀ z ∈ ns, Builtin.Int.intBits z ≤ 1048576) → sem [script ns] = .ok (.bl true))
    (hY : ∀ (w : World) (h : Heap), YP w h → (K w.params).In h)
    (F : ∀ (w : World) (mg : Str → Option Value) (fa : Addr) (h : Heap), (K w.params).In h → h.Ns mainGlobals mg → mg d.name = some (.ref fa) → LawOk (K w.params) l.prog w mg fa x k sem) :
    PySem.W.WalkO q loose XP YP l.row.toRowW d [] (fun f vs => PySem.call f vs) :=
  L2.walk_ofB (n := 63) (k := k) (x := x) (CX := fun w => L2.CX l.prog w) (sp := fun w => spOne (K w.params)) hn (by decide) hdf hr hY
    (fun w mg fa h KX G hmg => by
      obtain ⟨fd, hb, hF⟩ := F w mg fa h KX G hmg
      refine ⟨fd, hb, fun base KB GB => ?_⟩
      obtain ⟨cl, ok⟩ := hF base KB GB
      exact ok.imp (spOne_of hsem)) (fun _ _ a ns hl hb _ hS => ⟨a, ns, rfl, hS, hl, hb, (by rw [hT]; exact fun _ z => nomatch z), fun _ => rfl⟩) fun _ _ _ _ _ ⟨_, _, _, _, _, _, _, _, _, _, _, _, z⟩ => z
/-- a def's own code object and its table -/
def TabD (K : PySem.W.Frag) (mg : Str → Option Value) (x : Str) (c Pt : Addr) : Prop := ∃ (f : Addr) (o : Obj) (fd : FuncData) (e : Value) (dd : Option Addr) (vs : Array Value) (sl : Array (Option Value)),
  mg x = some (.ref f) ∧ K.lookup f = some o ∧ o.data = .func fd ∧ fd.code = .ref c ∧ K.lookup c = some ⟨e, dd, .fields vs, sl⟩ ∧ vs[11]? = some (.ref Pt)
/-- the same, by the module's own names -/
def TabK (K : PySem.W.Frag) (x : Str) (c Pt : Addr) : Prop := ∃ (f : Addr) (o : Obj) (fd : FuncData) (e : Value) (dd : Option Addr) (vs : Array Value) (sl : Array (Option Value)),
  PySem.W.nsIn K mainGlobals x = some (some (.ref f)) ∧ K.lookup f = some o ∧ o.data = .func fd ∧ fd.code = .ref c ∧ K.lookup c = some ⟨e, dd, .fields vs, sl⟩ ∧ vs[11]? = some (.ref Pt)
omit [Tbc] in
theorem TabK.mk {K : PySem.W.Frag} {x : Str} (st : Stmt) {c Pt f : Addr} {oc e : Value} {od dd an : Option Addr} {osl sl : Array (Option Value)} {vs : Array Value} {kV doc pm cdv ct : Value} (ta : PySem.W.nsIn K mainGlobals x = some (some (.ref f)))
    (tl : K.lookup f = some ⟨oc, od, .func (PySem.W.fnOf x x (defArgs st) (defBody st) (defScope st) .none kV doc pm an cdv ct), osl⟩) (te : cdv = .ref c) (tc : K.lookup c = some ⟨e, dd, .fields vs, sl⟩) (tp : vs[11]? = some (.ref Pt)) : TabK K x c Pt :=
  ⟨f, _, _, e, dd, vs, sl, ta, tl, rfl, te, tc, tp⟩
omit [Tbc] in
theorem TabK.to {K : PySem.W.Frag} {x : Str} {c Pt : Addr} {h : Heap} {mg : Str → Option Value} (T : TabK K x c Pt) (X : K.In h) (G : h.Ns mainGlobals mg) : TabD K mg x c Pt :=
  let ⟨f, o, fd, e, dd, vs, sl, a, l⟩ := T
  ⟨f, o, fd, e, dd, vs, sl, PySem.W.mg_of X G a, l⟩
omit [Tbc] in
theorem TabD.code {K : PySem.W.Frag} {mg : Str → Option Value} {x : Str} {st : Stmt} {c Pt f : Addr} {fd : FuncData} (T : TabD K mg x c Pt) (gm : mg x = some (.ref f)) (F : Fun K x x st f fd) : fd.code = .ref c := by
  obtain ⟨f2, o, fd2, e, dd, vs, sl, a, l, d, k, _⟩ := T
  obtain ⟨_, _, _, _, _, _, _, _, _, e1, lk, _⟩ := F.ex
  rw [gm] at a
  cases a
  rw [lk] at l
  cases l
  cases d
  exact k
/-- the lambdas' tables: name, code object, table -/
abbrev tabT (cs : List (Str × Addr × Addr)) : Tbc := ⟨cs.map fun p => (p.2.2, p.1 ++ ".<locals>." ++ "<lambda>")⟩
/-- what all_mk gives where lambdas are made -/
abbrev LawOkT (cs : List (Str × Addr × Addr)) (K : PySem.W.Frag) (P : Program) (w : World) (mg : Str → Option Value) (fa : Addr) (x : Str) (k : Nat) (sem : Sem1) : Prop :=
  ∃ fd : FuncData, (∀ (s : Shared) (u : Value), BindsTo s fd ⟨[u], []⟩ [(x, u)]) ∧ ∀ base : Heap, K.In base → base.Ns mainGlobals mg → (∀ p ∈ cs, LamX.TabB base mg p.2.1 p.2.2) → ∃ cl, FnOk P w K mg base (L2.CX P w) k fa fd [x] (@spP (tabT cs) K cl 1 sem false)
omit [Tbc] in
theorem walkT {l : PySem.W.OpenLaw} {q : Program} {loose : List Str} {XP : (Str → Option Value) → Heap → Prop} {YP : World → Heap → Prop} {d : DefRec} {K : Params → PySem.W.Frag} {x : Str} {k : Nat} {sem : Sem1} (xs : List Str) (hxs : (xs.all fun x => (recsOf q).any fun e => e.name == x) = true) (hn : l.most = some 63) (hdf : d.params.defaults = []) (hr : Room k callerA)
    (hsem : ∀ ns : List Int, ns.length ≤ 63 → (∀ z ∈ ns, Builtin.Int.intBits z ≤ 1048576) → sem [script ns] = .ok (.bl true))
    (hY : ∀ (w : World) (h : Heap), YP w h → (K w.params).In h)
    (F : ∀ (w : World) (mg : Str → Option Value) (fa : Addr) (h : Heap), (K w.params).In h → h.Ns mainGlobals mg → mg d.name = some (.ref fa) → ∃ cs : List (Str × Addr × Addr), (∀ p ∈ cs, p.1 ∈ xs ∧ TabD (K w.params) mg p.1 p.2.1 p.2.2 ∧ (K w.params).lookup p.2.2 = none) ∧ LawOkT cs (K w.params) l.prog w mg fa x k sem) :
    PySem.W.WalkO q loose XP YP l.row.toRowW d [] (fun f vs => PySem.call f vs) := by
  refine Att.attach_callB hn hdf fun w s0 s1 mg mb fa o pm cd doc a vs ns G Y ho hd hcd hmg hobj hints hlen hbits hg => ?_
  have KX := hY w _ Y
  obtain ⟨cs, hcs, fd, hb, hF⟩ := F w mg fa _ KX G.T.g hmg
  have tabs : ∀ p ∈ cs, s1.heap.get? p.2.2 = some { cls := .none, data := .fields #[] } ∧ PySem.W.CodeHd s1.heap p.2.1 p.2.2 := fun p hp => by
    obtain ⟨hx, ⟨f, of, ff, e, dd, fs, sl, t1, t2, t3, t4, t5, t6⟩, _⟩ := hcs p hp
    obtain ⟨dL, hm, hL⟩ := List.any_eq_true.mp (List.all_eq_true.mp hxs _ hx)
    obtain ⟨a2, o2, f2, c2, P2, h1, h2, h3, h4, h5, h6⟩ := G.T.tab dL hm
    rw [beq_iff_eq.mp hL, t1] at h1
    cases h1
    rw [KX _ _ t2] at h2
    cases h2
    rw [t3] at h3
    cases h3
    rw [t4] at h4
    cases h4
    have hh := PySem.W.CodeHd.of h5 h6
    obtain ⟨⟨oc, vc, e1, _, e3, e4⟩, hP⟩ := h6
    rw [KX _ _ t5] at e1
    cases e1
    cases e3
    rw [t6] at e4
    cases e4
    exact ⟨hP, hh⟩
  refine LamX.law_callTs (CX := L2.CX l.prog w) (k := k) (x := x) (cs := cs.map fun p => (p.2.1, p.2.2)) (sp := @spOne (tabT cs) (K w.params)) KX G.T.g G.T.b G.T.builtins G.T.nolimit hg (fun p hp => ?_) (fun p hp => ?_) (fun p hp => ?_) G.T.bmain hobj hints (Nat.le_trans hlen (by decide)) hr (fun base KB GB hTB => ?_) hb (fun H hH hS => ⟨a, ns, rfl, hS, hlen, hbits, fun p hp => ?_, fun _ => rfl⟩) fun _ _ _ ⟨_, _, _, _, _, _, _, _, _, _, _, _, z⟩ => z
  · obtain ⟨p', hp', rfl⟩ := List.mem_map.mp hp
    exact (tabs p' hp').1
  · obtain ⟨p', hp', rfl⟩ := List.mem_map.mp hp
    exact (hcs p' hp').2.2
  · obtain ⟨p', hp', rfl⟩ := List.mem_map.mp hp
    exact (tabs p' hp').2
  · obtain ⟨cl, ok⟩ := hF base KB GB fun p hp => hTB (p.2.1, p.2.2) (List.mem_map.mpr ⟨p, hp, rfl⟩)
    exact ok.imp (@spOne_of (tabT cs) _ _ _ hsem)
  · obtain ⟨p', hp', rfl⟩ := List.mem_map.mp hp
    exact LamX.TabS.nil (hH (p'.2.1, p'.2.2) (List.mem_map.mpr ⟨p', hp', rfl⟩))
end Pf

set_option Elab.async false
set_option linter.all false
set_option maxRecDepth 100000
set_option autoImplicit false
/-! PfQ: plain sums, rows of numbers, polynomials -/
namespace Pf

/-! ### sums -/
def sm (n : Nat) (f : Nat → Int) : Int := match n with
  | 0 => 0
  | n + 1 => sm n f + f n
@[simp] theorem sm_zero (f : Nat → Int) : sm 0 f = 0 := rfl
theorem sm_succ (n : Nat) (f : Nat → Int) : sm (n + 1) f = sm n f + f n := rfl
theorem sm_congr {n : Nat} {f g : Nat → Int} (h : ∀ i, i < n → f i = g i) : sm n f = sm n g := by
  induction n with
  | zero => rfl
  | succ n ih =>
    rw [sm_succ, sm_succ, ih fun i hi => h i (by omega), h n (by omega)]
theorem sm_all0 {n : Nat} {f : Nat → Int} (h : ∀ i, i < n → f i = 0) : sm n f = 0 := by
  induction n with
  | zero => rfl
  | succ n ih => rw [sm_succ, ih fun i hi => h i (by omega), h n (by omega)]; rfl
theorem sm_add (n : Nat) (f g : Nat → Int) : sm n (fun i => f i + g i) = sm n f + sm n g := by
  induction n with
  | zero => rfl
  | succ n ih => rw [sm_succ, sm_succ, sm_succ, ih]; omega
theorem sm_sub (n : Nat) (f g : Nat → Int) : sm n (fun i => f i - g i) = sm n f - sm n g := by
  induction n with
  | zero => rfl
  | succ n ih => rw [sm_succ, sm_succ, sm_succ, ih]; omega
theorem sm_mul (n : Nat) (c : Int) (f : Nat → Int) : sm n (fun i => c * f i) = c * sm n f := by
  induction n with
  | zero => simp
  | succ n ih => rw [sm_succ, sm_succ, ih, Int.mul_add]
theorem sm_mulr (n : Nat) (c : Int) (f : Nat → Int) : sm n (fun i => f i * c) = sm n f * c := by
  rw [Int.mul_comm, ← sm_mul]
  exact sm_congr fun i _ => Int.mul_comm ..
theorem sm_neg (n : Nat) (f : Nat → Int) : sm n (fun i => -f i) = -sm n f := by
  induction n with
  | zero => rfl
  | succ n ih => rw [sm_succ, sm_succ, ih]; omega
theorem sm_front (n : Nat) (f : Nat → Int) : sm (n + 1) f = f 0 + sm n (fun i => f (i + 1)) := by
  induction n with
  | zero => simp [sm_succ]
  | succ n ih => rw [sm_succ, ih, sm_succ n]; omega
theorem sm_split (n m : Nat) (f : Nat → Int) : sm (n + m) f = sm n f + sm m (fun i => f (n + i)) := by
  induction m with
  | zero => simp
  | succ m ih => rw [← Nat.add_assoc, sm_succ, ih, sm_succ]; omega
theorem sm_more {n m : Nat} {f : Nat → Int} (hnm : n ≤ m) (h : ∀ i, n ≤ i → i < m → f i = 0) : sm m f = sm n f := by
  obtain ⟨d, rfl⟩ := Nat.exists_eq_add_of_le hnm
  rw [sm_split, sm_all0 (n := d), Int.add_zero]
  intro i hi
  exact h _ (by omega) (by omega)
theorem sm_rev (n : Nat) (f : Nat → Int) : sm n f = sm n (fun i => f (n - 1 - i)) := by
  induction n with
  | zero => rfl
  | succ n ih =>
    rw [sm_front n (fun i => f (n + 1 - 1 - i)), sm_succ, ih, Int.add_comm]
    congr 1
    refine sm_congr fun i hi => ?_
    congr 1
    omega
theorem sm_swap (n m : Nat) (f : Nat → Nat → Int) : sm n (fun i => sm m (fun j => f i j)) = sm m (fun j => sm n (fun i => f i j)) := by
  induction n with
  | zero => exact (sm_all0 fun _ _ => rfl).symm
  | succ n ih => rw [sm_succ, ih, ← sm_add]; rfl
theorem sm_one {n : Nat} {f : Nat → Int} (k : Nat) (hk : k < n) (h : ∀ i, i < n → i ≠ k → f i = 0) : sm n f = f k := by
  rw [sm_more (n := k + 1) (by omega) (fun i h1 h2 => h i h2 (by omega)), sm_succ, sm_all0 (fun i hi => h i (by omega) (by omega)), Int.zero_add]
theorem sm_map (n : Nat) (f : Nat → Int) : ((List.range n).map f).sum = sm n f := by
  induction n with
  | zero => rfl
  | succ n ih =>
    rw [List.range_succ, List.map_append, List.sum_append, ih]
    simp [sm_succ]
theorem sum_filter_map {α : Type} (p : α → Bool) (f : α → Int) (l : List α) : ((l.filter p).map f).sum = (l.map fun x => if p x then f x else 0).sum := by
  induction l with
  | nil => rfl
  | cons x l ih =>
    rw [List.filter_cons]
    cases h : p x with
    | true => simp [h, ih]
    | false => simp [h, ih]
theorem sm_filter (n : Nat) (p : Nat → Bool) (f : Nat → Int) : (((List.range n).filter p).map f).sum = sm n fun i => if p i then f i else 0 := by
  rw [sum_filter_map, sm_map]

/-! ### rests -/
def tk (b n : Int) : Int := if b = 0 then n else n % b
theorem tk0 (n : Int) : tk 0 n = n := rfl
theorem tk_pos {b : Int} (h : 0 < b) (n : Int) : tk b n = n % b := if_neg (by omega)
theorem tk_zero (b : Int) : tk b 0 = 0 := by
  unfold tk
  split <;> simp
theorem tk_tk (b n : Int) : tk b (tk b n) = tk b n := by
  unfold tk
  split
  · rfl
  · exact Int.emod_emod_of_dvd n (Int.dvd_refl b)
theorem tk_eq_iff {b x y : Int} : tk b x = tk b y ↔ b ∣ x - y := by
  unfold tk
  split
  · rename_i h
    subst h
    rw [Int.zero_dvd]
    omega
  · exact Int.emod_eq_emod_iff_emod_sub_eq_zero.trans Int.dvd_iff_emod_eq_zero.symm
theorem tk_dvd (b n : Int) : b ∣ tk b n - n := tk_eq_iff.mp (tk_tk b n)
theorem tk_add (b x y : Int) : tk b (tk b x + tk b y) = tk b (x + y) := by
  rw [tk_eq_iff]
  have := Int.dvd_add (tk_dvd b x) (tk_dvd b y)
  rwa [show tk b x - x + (tk b y - y) = tk b x + tk b y - (x + y) by omega] at this
theorem tk_add_l (b x y : Int) : tk b (tk b x + y) = tk b (x + y) := by
  rw [tk_eq_iff, show tk b x + y - (x + y) = tk b x - x by omega]
  exact tk_dvd b x
theorem tk_add_r (b x y : Int) : tk b (x + tk b y) = tk b (x + y) := by
  rw [tk_eq_iff, show x + tk b y - (x + y) = tk b y - y by omega]
  exact tk_dvd b y
theorem tk_sub_l (b x y : Int) : tk b (tk b x - y) = tk b (x - y) := by
  rw [tk_eq_iff, show tk b x - y - (x - y) = tk b x - x by omega]
  exact tk_dvd b x
theorem tk_sub_r (b x y : Int) : tk b (x - tk b y) = tk b (x - y) := by
  rw [tk_eq_iff, show x - tk b y - (x - y) = -(tk b y - y) by omega]
  exact Int.dvd_neg.mpr (tk_dvd b y)
theorem tk_mul_l (b x y : Int) : tk b (tk b x * y) = tk b (x * y) := by
  rw [tk_eq_iff, ← Int.sub_mul]
  exact Int.dvd_trans (tk_dvd b x) (Int.dvd_mul_right ..)
theorem tk_mul_r (b x y : Int) : tk b (x * tk b y) = tk b (x * y) := by
  rw [Int.mul_comm, tk_mul_l, Int.mul_comm]
theorem tk_neg (b x : Int) : tk b (-tk b x) = tk b (-x) := by
  have := tk_sub_r b 0 x
  simpa using this
theorem tk_sm (b : Int) (n : Nat) (f : Nat → Int) : tk b (sm n fun i => tk b (f i)) = tk b (sm n f) := by
  induction n with
  | zero => rfl
  | succ n ih =>
    rw [sm_succ, sm_succ, ← tk_add_l, ih, tk_add]
theorem tk_sm_congr {b : Int} {n : Nat} {f g : Nat → Int} (h : ∀ i, i < n → tk b (f i) = tk b (g i)) : tk b (sm n f) = tk b (sm n g) := by
  rw [← tk_sm b n f, ← tk_sm b n g, sm_congr h]
theorem tk_nonneg {b : Int} (h : 0 < b) (n : Int) : 0 ≤ tk b n := by
  rw [tk_pos h]
  exact Int.emod_nonneg _ (by omega)
theorem tk_lt {b : Int} (h : 0 < b) (n : Int) : tk b n < b := by
  rw [tk_pos h]
  exact Int.emod_lt_of_pos _ h
theorem tk_id {b n : Int} (h : 0 < b → 0 ≤ n ∧ n < b) (hb : 0 ≤ b) : tk b n = n := by
  unfold tk
  split
  · rfl
  · obtain ⟨h1, h2⟩ := h (by omega)
    exact Int.emod_eq_of_lt h1 h2

/-! ### rows of numbers as functions -/
def cf (xs : List Int) (k : Nat) : Int := xs.getD k 0
theorem cf_ge {xs : List Int} {k : Nat} (h : xs.length ≤ k) : cf xs k = 0 := by
  unfold cf
  rw [List.getD_eq_getElem?_getD, List.getElem?_eq_none h]
  rfl
theorem cf_lt {xs : List Int} {k : Nat} (h : k < xs.length) : cf xs k = xs[k] := by
  unfold cf
  rw [List.getD_eq_getElem?_getD, List.getElem?_eq_getElem h]
  rfl
theorem cf_mem {xs : List Int} {k : Nat} (h : k < xs.length) : cf xs k ∈ xs := by
  rw [cf_lt h]
  exact List.getElem_mem h
theorem cf_nil (k : Nat) : cf [] k = 0 := cf_ge (Nat.zero_le _)
theorem cf_cons0 (x : Int) (xs : List Int) : cf (x :: xs) 0 = x := rfl
theorem cf_consS (x : Int) (xs : List Int) (k : Nat) : cf (x :: xs) (k + 1) = cf xs k := rfl
theorem cf_map {f : Int → Int} (h : f 0 = 0) (xs : List Int) (k : Nat) : cf (xs.map f) k = f (cf xs k) := by
  by_cases hk : k < xs.length
  · rw [cf_lt (by simpa using hk), cf_lt hk, List.getElem_map]
  · rw [cf_ge (by simpa using hk), cf_ge (by omega), h]
theorem cf_range (n : Nat) (f : Nat → Int) (k : Nat) : cf ((List.range n).map f) k = if k < n then f k else 0 := by
  split
  · rename_i h
    rw [cf_lt (by simpa using h), List.getElem_map, List.getElem_range]
  · rw [cf_ge (by simp; omega)]
theorem cf_app_l {xs ys : List Int} {k : Nat} (h : k < xs.length) : cf (xs ++ ys) k = cf xs k := by
  rw [cf_lt (by simp; omega), cf_lt h, List.getElem_append_left h]
theorem cf_app_r {xs ys : List Int} {k : Nat} (h : xs.length ≤ k) : cf (xs ++ ys) k = cf ys (k - xs.length) := by
  by_cases hk : k < (xs ++ ys).length
  · rw [cf_lt hk, List.getElem_append_right h, cf_lt]
  · rw [cf_ge (by omega), cf_ge]
    simp at hk
    omega
theorem cf_take (xs : List Int) (n k : Nat) : cf (xs.take n) k = if k < n then cf xs k else 0 := by
  unfold cf
  rw [List.getD_eq_getElem?_getD, List.getD_eq_getElem?_getD, List.getElem?_take]
  split <;> simp
theorem cf_drop (xs : List Int) (n k : Nat) : cf (xs.drop n) k = cf xs (n + k) := by
  unfold cf
  rw [List.getD_eq_getElem?_getD, List.getD_eq_getElem?_getD, List.getElem?_drop]
theorem cf_set {xs : List Int} {i : Nat} (v : Int) (h : i < xs.length) (k : Nat) : cf (xs.set i v) k = if k = i then v else cf xs k := by
  unfold cf
  rw [List.getD_eq_getElem?_getD, List.getD_eq_getElem?_getD]
  split
  · rename_i e
    subst e
    rw [List.getElem?_set_self h]
    rfl
  · rename_i e
    rw [List.getElem?_set_ne (Ne.symm e)]
theorem cf_reverse {xs : List Int} {k : Nat} (h : k < xs.length) : cf xs.reverse k = cf xs (xs.length - 1 - k) := by
  rw [cf_lt (by simpa using h), List.getElem_reverse, cf_lt (by omega)]
theorem cf_rep (n : Nat) (x : Int) (k : Nat) : cf (List.replicate n x) k = if k < n then x else 0 := by
  split
  · rename_i h
    rw [cf_lt (by simpa using h)]
    simp
  · rw [cf_ge (by simp; omega)]
theorem cf_ext {xs ys : List Int} (hl : xs.length = ys.length) (h : ∀ k, k < xs.length → cf xs k = cf ys k) : xs = ys := by
  apply List.ext_getElem hl
  intro i h1 h2
  have := h i h1
  rwa [cf_lt h1, cf_lt h2] at this
theorem range_cf (xs : List Int) : (List.range xs.length).map (cf xs) = xs := by
  apply cf_ext (by simp)
  intro k hk
  rw [cf_range, if_pos (by simpa using hk)]
theorem sum_cf (xs : List Int) : xs.sum = sm xs.length (cf xs) := by
  rw [← sm_map, range_cf]

/-! ### noughts behind -/
def trim : List Int → List Int
  | [] => []
  | x :: xs => match trim xs with
    | [] => if x = 0 then [] else [x]
    | y :: ys => x :: y :: ys
theorem trim_snoc0 : ∀ xs : List Int, trim (xs ++ [0]) = trim xs
  | [] => rfl
  | x :: xs => by
    show (match trim (xs ++ [0]) with | [] => if x = 0 then [] else [x] | y :: ys => x :: y :: ys) = (match trim xs with | [] => if x = 0 then [] else [x] | y :: ys => x :: y :: ys)
    rw [trim_snoc0 xs]
theorem trim_snoc {y : Int} (h : y ≠ 0) : ∀ xs : List Int, trim (xs ++ [y]) = xs ++ [y]
  | [] => by simp [trim, h]
  | x :: xs => by
    show (match trim (xs ++ [y]) with | [] => if x = 0 then [] else [x] | y :: ys => x :: y :: ys) = _
    rw [trim_snoc h xs]
    cases xs <;> rfl
theorem snoc_cases (xs : List Int) : xs = [] ∨ ∃ ys y, xs = ys ++ [y] := by
  cases h : xs.reverse with
  | nil => exact .inl (by simpa using h)
  | cons y ys =>
    refine .inr ⟨ys.reverse, y, ?_⟩
    have := congrArg List.reverse h
    simpa using this
theorem trim_len_le : ∀ xs : List Int, (trim xs).length ≤ xs.length
  | [] => Nat.le_refl _
  | x :: xs => by
    have := trim_len_le xs
    unfold trim
    cases h : trim xs with
    | nil =>
      by_cases hx : x = 0
      · simp [hx]
      · simp [hx]
    | cons y ys =>
      rw [h] at this
      simpa using this
theorem cf_trim : ∀ (xs : List Int) (k : Nat), cf (trim xs) k = cf xs k
  | [], k => rfl
  | x :: xs, k => by
    have ih := cf_trim xs
    unfold trim
    cases h : trim xs with
    | nil =>
      rw [h] at ih
      cases k with
      | zero =>
        by_cases hx : x = 0
        · simp [hx, cf]
        · simp [hx, cf]
      | succ k =>
        rw [cf_consS, ← ih k]
        by_cases hx : x = 0
        · simp [hx, cf]
        · simp [hx, cf]
    | cons y ys =>
      rw [h] at ih
      cases k with
      | zero => rfl
      | succ k => rw [cf_consS, cf_consS, ← ih k]
theorem trim_nil_iff : ∀ xs : List Int, trim xs = [] ↔ ∀ k, cf xs k = 0 := by
  intro xs
  constructor
  · intro h k
    rw [← cf_trim, h]
    rfl
  · intro h
    cases e : trim xs with
    | nil => rfl
    | cons y ys =>
      exfalso
      induction xs generalizing y ys with
      | nil => cases e
      | cons x xs ih =>
        have hx : x = 0 := h 0
        have ht : ∀ k, cf xs k = 0 := fun k => h (k + 1)
        unfold trim at e
        cases e' : trim xs with
        | nil => rw [e'] at e; simp [hx] at e
        | cons z zs => exact ih ht z zs e'
theorem trim_ext : ∀ {xs ys : List Int}, (∀ k, cf xs k = cf ys k) → trim xs = trim ys
  | [], ys, h => by
    symm
    rw [show trim [] = [] from rfl, trim_nil_iff]
    intro k
    rw [← h k]
    rfl
  | x :: xs, [], h => by
    rw [show trim [] = [] from rfl, trim_nil_iff]
    intro k
    rw [h k]
    rfl
  | x :: xs, y :: ys, h => by
    have h0 : x = y := h 0
    have ih := trim_ext (xs := xs) (ys := ys) fun k => h (k + 1)
    subst h0
    unfold trim
    rw [ih]
theorem trim_eq_iff {xs ys : List Int} : trim xs = trim ys ↔ ∀ k, cf xs k = cf ys k :=
  ⟨fun h k => by rw [← cf_trim, h, cf_trim], trim_ext⟩
theorem trim_trim (xs : List Int) : trim (trim xs) = trim xs := trim_ext (cf_trim xs)
theorem mem_trim {xs : List Int} {x : Int} (h : x ∈ trim xs) : x ∈ xs := by
  obtain ⟨k, hk, rfl⟩ := List.mem_iff_getElem.mp h
  have hk' : k < xs.length := Nat.lt_of_lt_of_le hk (trim_len_le xs)
  rw [← cf_lt hk, cf_trim, cf_lt hk']
  exact List.getElem_mem _
theorem trim_len_lt {xs : List Int} {n : Nat} (h : ∀ k, n ≤ k → cf xs k = 0) : (trim xs).length ≤ n := by
  rw [show trim xs = trim (xs.take n) from trim_ext fun k => by
    rw [cf_take]
    split
    · rfl
    · exact h k (by omega)]
  exact Nat.le_trans (trim_len_le _) (by simp; omega)
theorem trim_last {xs : List Int} (h : xs ≠ []) (e : trim xs = xs) : cf xs (xs.length - 1) ≠ 0 := by
  rcases snoc_cases xs with rfl | ⟨ys, y, rfl⟩
  · exact absurd rfl h
  · intro h0
    rw [List.length_append, List.length_singleton, Nat.add_sub_cancel, cf_app_r (Nat.le_refl _), Nat.sub_self, cf_cons0] at h0
    subst h0
    rw [trim_snoc0] at e
    have := trim_len_le ys
    rw [e] at this
    simp at this
    omega
theorem trim_of_last {xs : List Int} (h : cf xs (xs.length - 1) ≠ 0) : trim xs = xs := by
  rcases snoc_cases xs with rfl | ⟨ys, y, rfl⟩
  · rfl
  · rw [List.length_append, List.length_singleton, Nat.add_sub_cancel, cf_app_r (Nat.le_refl _), Nat.sub_self, cf_cons0] at h
    exact trim_snoc h ys

/-! ### products of rows -/
def cv (f g : Nat → Int) (t : Nat) : Int := sm (t + 1) fun i => f i * g (t - i)
theorem cv_comm (f g : Nat → Int) (t : Nat) : cv f g t = cv g f t := by
  unfold cv
  rw [sm_rev]
  refine sm_congr fun i hi => ?_
  rw [Int.mul_comm, show t + 1 - 1 - i = t - i by omega, show t - (t - i) = i by omega]
theorem cv_congr {f f' g g' : Nat → Int} (hf : ∀ i, f i = f' i) (hg : ∀ i, g i = g' i) (t : Nat) : cv f g t = cv f' g' t := sm_congr fun i _ => by rw [hf, hg]
theorem cv_add_l (f f' g : Nat → Int) (t : Nat) : cv (fun i => f i + f' i) g t = cv f g t + cv f' g t := by
  unfold cv
  rw [← sm_add]
  exact sm_congr fun i _ => Int.add_mul ..
theorem cv_add_r (f g g' : Nat → Int) (t : Nat) : cv f (fun i => g i + g' i) t = cv f g t + cv f g' t := by
  unfold cv
  rw [← sm_add]
  exact sm_congr fun i _ => Int.mul_add ..
theorem cv_zero_l {f : Nat → Int} (h : ∀ i, f i = 0) (g : Nat → Int) (t : Nat) : cv f g t = 0 := sm_all0 fun i _ => by rw [h, Int.zero_mul]
theorem cv_zero_r {g : Nat → Int} (h : ∀ i, g i = 0) (f : Nat → Int) (t : Nat) : cv f g t = 0 := sm_all0 fun i _ => by rw [h, Int.mul_zero]
/-- a row of n numbers: only its places count -/
theorem cv_len {f g : Nat → Int} {n m : Nat} (hf : ∀ i, n ≤ i → f i = 0) (hg : ∀ j, m ≤ j → g j = 0) (t : Nat) : cv f g t = sm n fun i => if i ≤ t ∧ t - i < m then f i * g (t - i) else 0 := by
  unfold cv
  have e1 : sm (t + 1) (fun i => f i * g (t - i)) = sm (t + 1 + n) (fun i => if i ≤ t ∧ t - i < m then f i * g (t - i) else 0) := by
    rw [sm_more (n := t + 1) (m := t + 1 + n) (by omega)]
    · refine sm_congr fun i hi => ?_
      by_cases hm : t - i < m
      · rw [if_pos ⟨by omega, hm⟩]
      · rw [if_neg (fun h => hm h.2), hg _ (by omega), Int.mul_zero]
    · intro i h1 h2
      exact if_neg (fun h => by omega)
  rw [e1]
  refine sm_more (by omega) fun i h1 h2 => ?_
  rw [hf i h1, Int.zero_mul]
  exact ite_self _
theorem cv_big {f g : Nat → Int} {n m t : Nat} (hf : ∀ i, n ≤ i → f i = 0) (hg : ∀ j, m ≤ j → g j = 0) (h : n + m ≤ t + 1) : cv f g t = 0 := by
  unfold cv
  refine sm_all0 fun i hi => ?_
  by_cases h1 : n ≤ i
  · rw [hf i h1, Int.zero_mul]
  · rw [hg _ (by omega), Int.mul_zero]
theorem cv_delta (q : Int) (k : Nat) (g : Nat → Int) (t : Nat) : cv (fun j => if j = k then q else 0) g t = if k ≤ t then q * g (t - k) else 0 := by
  unfold cv
  split
  · rename_i h
    rw [sm_one k (by omega)]
    · show (if k = k then q else 0) * _ = _
      rw [if_pos rfl]
    intro i h1 h2
    show (if i = k then q else 0) * _ = _
    rw [if_neg h2, Int.zero_mul]
  · rename_i h
    refine sm_all0 fun i hi => ?_
    show (if i = k then q else 0) * _ = _
    rw [if_neg (by omega), Int.zero_mul]
theorem cv_assoc (f g h : Nat → Int) (t : Nat) : cv (cv f g) h t = cv f (cv g h) t := by
  unfold cv
  have a : sm (t + 1) (fun i => sm (i + 1) (fun j => f j * g (i - j)) * h (t - i)) = sm (t + 1) fun i => sm (t + 1) fun j => if j ≤ i then f j * g (i - j) * h (t - i) else 0 := by
    refine sm_congr fun i hi => ?_
    rw [← sm_mulr, sm_more (n := i + 1) (m := t + 1) (f := fun j => if j ≤ i then f j * g (i - j) * h (t - i) else 0) (by omega) (fun j h1 h2 => if_neg (by omega))]
    exact sm_congr fun j hj => (if_pos (by omega)).symm
  have b : sm (t + 1) (fun i => f i * sm (t - i + 1) (fun j => g j * h (t - i - j))) = sm (t + 1) fun j => sm (t + 1) fun i => if j ≤ i then f j * g (i - j) * h (t - i) else 0 := by
    refine sm_congr fun i hi => ?_
    rw [← sm_mul]
    have e := sm_split i (t - i + 1) fun k => if i ≤ k then f i * g (k - i) * h (t - k) else 0
    rw [show i + (t - i + 1) = t + 1 by omega] at e
    rw [e, sm_all0 (n := i) (fun k hk => if_neg (by omega)), Int.zero_add]
    refine sm_congr fun k hk => ?_
    rw [if_pos (by omega), show i + k - i = k by omega, show t - (i + k) = t - i - k by omega, Int.mul_assoc]
  rw [a, b, sm_swap]
theorem cv_tk_l (b : Int) (f g : Nat → Int) (t : Nat) : tk b (cv (fun i => tk b (f i)) g t) = tk b (cv f g t) := tk_sm_congr fun i _ => tk_mul_l b _ _
theorem cv_tk_r (b : Int) (f g : Nat → Int) (t : Nat) : tk b (cv f (fun i => tk b (g i)) t) = tk b (cv f g t) := tk_sm_congr fun i _ => tk_mul_r b _ _

/-! ### how great -/
def bd (n : Nat) (x : Int) : Prop := x.natAbs < 2 ^ n
theorem bd_mono {n m : Nat} {x : Int} (h : bd n x) (hm : n ≤ m) : bd m x := Nat.lt_of_lt_of_le h (Nat.pow_le_pow_right (by decide) hm)
theorem bd_zero (n : Nat) : bd n 0 := Nat.pow_pos (by decide)
theorem bd_add {n : Nat} {x y : Int} (hx : bd n x) (hy : bd n y) : bd (n + 1) (x + y) := by
  unfold bd at *
  rw [Nat.pow_succ]
  omega
theorem bd_sub {n : Nat} {x y : Int} (hx : bd n x) (hy : bd n y) : bd (n + 1) (x - y) := by
  unfold bd at *
  rw [Nat.pow_succ]
  omega
theorem bd_neg {n : Nat} {x : Int} (hx : bd n x) : bd n (-x) := by
  unfold bd at *
  omega
theorem bd_mul {n m : Nat} {x y : Int} (hx : bd n x) (hy : bd m y) : bd (n + m) (x * y) := by
  unfold bd at *
  rw [Int.natAbs_mul, Nat.pow_add]
  exact Nat.mul_lt_mul'' hx hy
theorem bd_sm {n m k : Nat} {f : Nat → Int} (hk : k ≤ 2 ^ m) (h : ∀ i, i < k → bd n (f i)) : bd (n + m) (sm k f) := by
  have key : (sm k f).natAbs ≤ k * (2 ^ n - 1) := by
    clear hk
    induction k with
    | zero => simp
    | succ k ih =>
      have h1 := ih fun i hi => h i (by omega)
      have h2 := h k (by omega)
      unfold bd at h2
      rw [sm_succ, Nat.succ_mul]
      omega
  unfold bd
  have p : 0 < 2 ^ n := Nat.pow_pos (by decide)
  have q : k * (2 ^ n - 1) ≤ 2 ^ m * (2 ^ n - 1) := Nat.mul_le_mul_right _ hk
  have r : 2 ^ m * (2 ^ n - 1) < 2 ^ m * 2 ^ n := Nat.mul_lt_mul_of_pos_left (by omega) (Nat.pow_pos (by decide))
  rw [Nat.pow_add, Nat.mul_comm (2 ^ n)]
  omega
theorem bd_tk {n : Nat} {b x : Int} (h0 : 0 ≤ b) (h1 : b ≤ 1024) (hn : 10 ≤ n) (hx : bd n x) : bd n (tk b x) := by
  unfold tk
  split
  · exact hx
  · refine bd_mono (n := 10) ?_ hn
    unfold bd
    have := Int.emod_nonneg x (b := b) (by omega)
    have := Int.emod_lt_of_pos x (b := b) (by omega)
    omega
theorem bd_le {n : Nat} {x : Int} (h : x.natAbs < 2 ^ n) : bd n x := h
theorem bd_cf {n : Nat} {xs : List Int} (h : ∀ x ∈ xs, bd n x) (k : Nat) : bd n (cf xs k) := by
  by_cases hk : k < xs.length
  · exact h _ (cf_mem hk)
  · rw [cf_ge (by omega)]
    exact bd_zero n

/-! ### rows by rules -/
theorem dvd_sm {b : Int} {n : Nat} {f : Nat → Int} (h : ∀ i, i < n → b ∣ f i) : b ∣ sm n f := by
  induction n with
  | zero => exact Int.dvd_zero _
  | succ n ih => exact Int.dvd_add (ih fun i hi => h i (by omega)) (h n (by omega))
theorem tk_zero_iff {b x : Int} : tk b x = 0 ↔ b ∣ x := by
  have := tk_eq_iff (b := b) (x := x) (y := 0)
  rw [tk_zero, Int.sub_zero] at this
  exact this
def sqL (b : Int) (r s : List Int) : Nat → List Int
  | 0 => []
  | n + 1 => sqL b r s n ++ [if n < s.length then cf s n else tk b (sm r.length fun k => cf r k * cf (sqL b r s n) (n - 1 - k))]
def sq (b : Int) (r s : List Int) (n : Nat) : Int := cf (sqL b r s (n + 1)) n
section
variable {b : Int} {r s : List Int}
theorem sqL_len : ∀ n, (sqL b r s n).length = n
  | 0 => rfl
  | n + 1 => by
    unfold sqL
    rw [List.length_append, sqL_len n]
    rfl
theorem sqL_cf {n k : Nat} (h : k < n) : cf (sqL b r s n) k = sq b r s k := by
  induction n with
  | zero => omega
  | succ n ih =>
    by_cases hk : k = n
    · subst hk
      rfl
    · have : cf (sqL b r s (n + 1)) k = cf (sqL b r s n) k := by
        show cf (sqL b r s n ++ _) k = _
        rw [cf_app_l (by rw [sqL_len]; omega)]
      rw [this, ih (by omega)]
theorem sqL_eq (n : Nat) : sqL b r s n = (List.range n).map (sq b r s) := by
  apply cf_ext (by rw [sqL_len]; simp)
  intro k hk
  rw [sqL_len] at hk
  rw [sqL_cf hk, cf_range, if_pos hk]
theorem sq_def (n : Nat) : sq b r s n = if n < s.length then cf s n else tk b (sm r.length fun k => cf r k * cf (sqL b r s n) (n - 1 - k)) := by
  show cf (sqL b r s n ++ [_]) n = _
  rw [cf_app_r (by rw [sqL_len]; omega), sqL_len, Nat.sub_self]
  rfl
theorem sq_lt {n : Nat} (h : n < s.length) : sq b r s n = cf s n := by rw [sq_def, if_pos h]
theorem sq_ge {n : Nat} (h : s.length ≤ n) (hl : r.length ≤ n) : sq b r s n = tk b (sm r.length fun k => cf r k * sq b r s (n - 1 - k)) := by
  rw [sq_def, if_neg (by omega)]
  congr 1
  refine sm_congr fun k hk => ?_
  rw [sqL_cf (by omega)]
theorem sq_red (hs : ∀ x ∈ s, tk b x = x) (n : Nat) : tk b (sq b r s n) = sq b r s n := by
  rw [sq_def]
  split
  · rename_i h
    exact hs _ (cf_mem h)
  · exact tk_tk b _
theorem sq_bd {B : Nat} (hB : 70 ≤ B) (hb : 0 ≤ b) (hb1 : b ≤ 1024) (hr : ∀ x ∈ r, bd 70 x) (hs : ∀ x ∈ s, bd B x) (hl : r.length ≤ 16) : ∀ n, bd (B + 74 * n) (sq b r s n) := by
  intro n
  induction n using Nat.strongRecOn with
  | _ n ih =>
    rw [sq_def]
    split
    · rename_i h
      exact bd_mono (hs _ (cf_mem h)) (by omega)
    · by_cases h0 : r.length = 0
      · rw [h0, sm_zero, tk_zero]
        exact bd_zero _
      refine bd_tk hb hb1 (by omega) ?_
      by_cases hn : n = 0
      · subst hn
        refine bd_mono (n := 4) ?_ (by omega)
        rw [sm_all0]
        · exact bd_zero _
        · intro i hi
          rw [show sqL b r s 0 = [] from rfl, cf_nil, Int.mul_zero]
      have : ∀ k, k < r.length → bd (B - 4 + 74 * n) (cf r k * cf (sqL b r s n) (n - 1 - k)) := by
        intro k hk
        rw [sqL_cf (by omega)]
        exact bd_mono (bd_mul (hr _ (cf_mem hk)) (ih _ (by omega))) (by omega)
      exact bd_mono (bd_sm (m := 4) hl this) (by omega)
/-- sums of a polynomial's numbers times what stands from n on -/
def ke (b : Int) (r s p : List Int) (n : Nat) : Int := sm p.length fun k => cf p k * sq b r s (n + k)
theorem sq_rec {n : Nat} (h : s.length ≤ n) (hl : r.length = s.length) : b ∣ sq b r s n - sm r.length fun k => cf r k * sq b r s (n - 1 - k) := by
  rw [sq_ge h (by omega)]
  exact tk_dvd b _
theorem ke_rec (p : List Int) (n : Nat) (hl : r.length = s.length) : b ∣ ke b r s p (n + r.length) - sm r.length fun k => cf r k * ke b r s p (n + r.length - 1 - k) := by
  have e : ke b r s p (n + r.length) - (sm r.length fun k => cf r k * ke b r s p (n + r.length - 1 - k)) = sm p.length fun j => cf p j * (sq b r s (n + r.length + j) - sm r.length fun k => cf r k * sq b r s (n + r.length + j - 1 - k)) := by
    have e1 : (sm r.length fun k => cf r k * ke b r s p (n + r.length - 1 - k)) = sm p.length fun j => cf p j * sm r.length fun k => cf r k * sq b r s (n + r.length + j - 1 - k) := by
      have a : (sm r.length fun k => cf r k * ke b r s p (n + r.length - 1 - k)) = sm r.length fun k => sm p.length fun j => cf p j * (cf r k * sq b r s (n + r.length + j - 1 - k)) := by
        refine sm_congr fun k hk => ?_
        unfold ke
        rw [← sm_mul]
        refine sm_congr fun j _ => ?_
        rw [show n + r.length - 1 - k + j = n + r.length + j - 1 - k by omega, ← Int.mul_assoc, ← Int.mul_assoc, Int.mul_comm (cf r k)]
      rw [a, sm_swap]
      refine sm_congr fun j _ => ?_
      rw [sm_mul]
    rw [e1]
    unfold ke
    rw [← sm_sub]
    exact sm_congr fun j _ => (Int.mul_sub ..).symm
  rw [e]
  refine dvd_sm fun j _ => Int.dvd_trans ?_ (Int.dvd_mul_left ..)
  exact sq_rec (by omega) hl
theorem ke_all (p : List Int) (hl : r.length = s.length) (h : ∀ n, n < r.length → b ∣ ke b r s p n) : ∀ n, b ∣ ke b r s p n := by
  intro n
  induction n using Nat.strongRecOn with
  | _ n ih =>
    by_cases hn : n < r.length
    · exact h n hn
    · have := ke_rec (b := b) (r := r) (s := s) p (n - r.length) hl
      rw [show n - r.length + r.length = n by omega] at this
      refine (Int.dvd_iff_dvd_of_dvd_sub this).mpr ?_
      exact dvd_sm fun k hk => Int.dvd_trans (ih _ (by omega)) (Int.dvd_mul_left ..)
end
/-- two rows alike by a rule -/
theorem sq_uniq {b : Int} {r s : List Int} (f : Nat → Int) (hl : r.length = s.length) (h1 : ∀ n, n < s.length → f n = cf s n) (h2 : ∀ n, s.length ≤ n → f n = tk b (sm r.length fun k => cf r k * f (n - 1 - k))) : ∀ n, f n = sq b r s n := by
  intro n
  induction n using Nat.strongRecOn with
  | _ n ih =>
    by_cases hn : n < s.length
    · rw [h1 n hn, sq_lt hn]
    · rw [h2 n (by omega), sq_ge (by omega) (by omega)]
      congr 1
      refine sm_congr fun k hk => ?_
      rw [ih _ (by omega)]
theorem sq_from {b : Int} {r s w : List Int} (m : Nat) (hl : r.length = s.length) (hw : w.length = s.length) (h : ∀ k, k < s.length → cf w k = sq b r s (m + k)) : ∀ n, sq b r w n = sq b r s (m + n) := by
  intro n
  refine (sq_uniq (fun n => sq b r s (m + n)) (by omega) (fun n hn => (h n (by omega)).symm) (fun n hn => ?_) n).symm
  rw [sq_ge (by omega) (by omega)]
  congr 1
  refine sm_congr fun k hk => ?_
  rw [show m + n - 1 - k = m + (n - 1 - k) by omega]
theorem sq_tk {p : Int} {r s : List Int} (hl : r.length = s.length) : ∀ n, sq p (r.map (tk p)) (s.map (tk p)) n = tk p (sq 0 r s n) := by
  intro n
  refine (sq_uniq (fun n => tk p (sq 0 r s n)) (by simp [hl]) (fun n hn => ?_) (fun n hn => ?_) n).symm
  · rw [List.length_map] at hn
    rw [sq_lt hn, cf_map (tk_zero p)]
  · rw [List.length_map] at hn
    rw [sq_ge hn (by omega), tk0, List.length_map]
    refine tk_sm_congr fun k hk => ?_
    rw [cf_map (tk_zero p), tk_mul_l, tk_mul_r]
theorem sq_lin {b f : Int} {r s o u : List Int} (hl : r.length = s.length) (ho : o.length = s.length) (hu : u.length = s.length) (h : ∀ k, k < s.length → cf u k = tk b (cf s k + f * cf o k)) : ∀ n, sq b r u n = tk b (sq b r s n + f * sq b r o n) := by
  intro n
  refine (sq_uniq (fun n => tk b (sq b r s n + f * sq b r o n)) (by omega) (fun n hn => ?_) (fun n hn => ?_) n).symm
  · rw [h n (by omega), sq_lt (by omega), sq_lt (by omega)]
  · show tk b (sq b r s n + f * sq b r o n) = _
    rw [sq_ge (n := n) (s := s) (by omega) (by omega), sq_ge (n := n) (s := o) (by omega) (by omega), tk_add_l, ← tk_add_r, tk_mul_r, tk_add_r, ← sm_mul, ← sm_add]
    refine tk_sm_congr fun k hk => ?_
    rw [tk_mul_r]
    congr 1
    rw [Int.mul_add, ← Int.mul_assoc, ← Int.mul_assoc, Int.mul_comm f]

/-! ### what divides all -/
def gL (n : Nat) (f : Nat → Int) : Nat := match n with
  | 0 => 0
  | n + 1 => Int.gcd (gL n f) (f n)
theorem gL_congr {n : Nat} {f g : Nat → Int} (h : ∀ i, i < n → f i = g i) : gL n f = gL n g := by
  induction n with
  | zero => rfl
  | succ n ih =>
    show Int.gcd (gL n f) (f n) = Int.gcd (gL n g) (g n)
    rw [ih fun i hi => h i (by omega), h n (by omega)]
theorem gL_mul (c : Int) (f : Nat → Int) : ∀ n, gL n (fun i => c * f i) = c.natAbs * gL n f
  | 0 => (Nat.mul_zero _).symm
  | n + 1 => by
    show Int.gcd (gL n (fun i => c * f i)) (c * f n) = c.natAbs * Int.gcd (gL n f) (f n)
    rw [gL_mul c f n]
    show Nat.gcd ((c.natAbs * gL n f : Nat) : Int).natAbs (c * f n).natAbs = c.natAbs * Nat.gcd ((gL n f : Nat) : Int).natAbs (f n).natAbs
    rw [Int.natAbs_natCast, Int.natAbs_natCast, Int.natAbs_mul, Nat.gcd_mul_left]
theorem gL_dvd {x : Int} {f : Nat → Int} : ∀ {n : Nat}, x ∣ (gL n f : Int) ↔ ∀ i, i < n → x ∣ f i
  | 0 => by
    constructor
    · intro _ i hi
      omega
    · intro _
      exact Int.dvd_zero x
  | n + 1 => by
    constructor
    · intro h i hi
      have h1 : x ∣ (gL n f : Int) := Int.dvd_trans h (Int.gcd_dvd_left ..)
      have h2 : x ∣ f n := Int.dvd_trans h (Int.gcd_dvd_right ..)
      by_cases e : i = n
      · rw [e]
        exact h2
      · exact (gL_dvd (n := n)).mp h1 i (by omega)
    · intro h
      exact Int.dvd_coe_gcd ((gL_dvd (n := n)).mpr fun i hi => h i (by omega)) (h n (by omega))
theorem gL_eq {n m : Nat} {f g : Nat → Int} (h1 : ∀ x : Int, (∀ i, i < n → x ∣ f i) → ∀ i, i < m → x ∣ g i) (h2 : ∀ x : Int, (∀ i, i < m → x ∣ g i) → ∀ i, i < n → x ∣ f i) : gL n f = gL m g := by
  refine Nat.dvd_antisymm (Int.natCast_dvd_natCast.mp (gL_dvd.mpr (h1 _ (gL_dvd.mp (Int.dvd_refl _))))) (Int.natCast_dvd_natCast.mp (gL_dvd.mpr (h2 _ (gL_dvd.mp (Int.dvd_refl _)))))
/-- what divides the first numbers of an exact row divides all -/
theorem sq_dvd_all {x : Int} {r s : List Int} (hl : r.length = s.length) (h : ∀ i, i < s.length → x ∣ sq 0 r s i) : ∀ n, x ∣ sq 0 r s n := by
  intro n
  induction n using Nat.strongRecOn with
  | _ n ih =>
    by_cases hn : n < s.length
    · exact h n hn
    · rw [sq_ge (by omega) (by omega), tk0]
      exact dvd_sm fun k hk => Int.dvd_trans (ih _ (by omega)) (Int.dvd_mul_left ..)
theorem sq_scale {c : Int} {r s : List Int} (hl : r.length = s.length) : ∀ n, sq 0 r (s.map (c * ·)) n = c * sq 0 r s n := by
  intro n
  refine (sq_uniq (fun n => c * sq 0 r s n) (by simp [hl]) (fun n hn => ?_) (fun n hn => ?_) n).symm
  · rw [List.length_map] at hn
    rw [sq_lt hn, cf_map (by simp)]
  · rw [List.length_map] at hn
    rw [sq_ge hn (by omega), tk0, tk0, ← sm_mul]
    refine sm_congr fun k hk => ?_
    rw [← Int.mul_assoc, ← Int.mul_assoc, Int.mul_comm c]
theorem gL_row {r s : List Int} (hl : r.length = s.length) {n : Nat} (hn : s.length ≤ n) : gL n (sq 0 r s) = gL s.length (sq 0 r s) :=
  gL_eq (fun x h i hi => h i (by omega)) fun x h i _ => sq_dvd_all hl h i
theorem gL_bd {B : Nat} {f : Nat → Int} : ∀ {n : Nat}, (∀ i, i < n → bd B (f i)) → bd B (gL n f : Int)
  | 0, _ => bd_zero B
  | n + 1, h => by
    have ih := gL_bd (n := n) fun i hi => h i (by omega)
    have hf := h n (by omega)
    show (Int.gcd (gL n f) (f n) : Int).natAbs < 2 ^ B
    unfold bd at ih hf
    rw [Int.natAbs_natCast] at ih ⊢
    by_cases hz : gL n f = 0
    · rw [hz]
      show Nat.gcd 0 _ < _
      rw [Nat.gcd_zero_left]
      exact hf
    · exact Nat.lt_of_le_of_lt (Nat.gcd_le_left _ (by rw [Int.natAbs_natCast]; omega)) (by rwa [Int.natAbs_natCast])
end Pf

set_option Elab.async false
set_option linter.all false
set_option maxRecDepth 100000
set_option autoImplicit false
/-! PfP: plain laws of the core language -/
namespace Pf
open PySem L2

/-! ### numbers as items -/
def iL (xs : List Int) : List PV := xs.map PV.int
theorem iL_nil : iL [] = [] := rfl
theorem iL_cons (x : Int) (xs : List Int) : iL (x :: xs) = .int x :: iL xs := rfl
theorem iL_app (xs ys : List Int) : iL xs ++ iL ys = iL (xs ++ ys) := (List.map_append).symm
theorem iL_app1 (xs : List Int) (y : Int) : iL xs ++ [.int y] = iL (xs ++ [y]) := iL_app xs [y]
theorem iL_len (xs : List Int) : (iL xs).length = xs.length := List.length_map ..
theorem iL_get (xs : List Int) (i : Nat) : (iL xs)[i]? = (xs[i]?).map .int := List.getElem?_map ..
theorem iL_set (xs : List Int) (i : Nat) (v : Int) : (iL xs).set i (.int v) = iL (xs.set i v) := by
  unfold iL
  rw [List.map_set]
theorem iL_eq_nil (xs : List Int) : iL xs = [] ↔ xs = [] := List.map_eq_nil_iff
theorem iL_dropLast (xs : List Int) : (iL xs).dropLast = iL xs.dropLast := by
  unfold iL
  rw [List.map_dropLast]
theorem intsOf_iL : ∀ xs : List Int, intsOf (iL xs) = some xs
  | [] => rfl
  | x :: xs => by
    show (intsOf (iL xs)).map (x :: ·) = _
    rw [intsOf_iL xs]
    rfl
theorem pyEqs_iL : ∀ xs ys : List Int, pyEqs (iL xs) (iL ys) = decide (xs = ys)
  | [], [] => rfl
  | [], _ :: _ => by simp [iL, pyEqs]
  | _ :: _, [] => by simp [iL, pyEqs]
  | x :: xs, y :: ys => by
    show (x == y && pyEqs (iL xs) (iL ys)) = _
    rw [pyEqs_iL xs ys]
    simp [Bool.beq_eq_decide_eq]
theorem dat_iL (n : Nat) (xs : List Int) : (iL xs).all (dat n) = true := by
  rw [List.all_eq_true]
  intro x hx
  obtain ⟨i, _, rfl⟩ := List.mem_map.mp hx
  cases n <;> rfl
theorem eq_lst (xs ys : List Int) : pEq (.lst (iL xs)) (.lst (iL ys)) = .ok (.bl (decide (xs = ys))) := by
  have h1 : (dat 8 (.lst (iL xs)) && dat 8 (.lst (iL ys))) = true := by
    show ((iL xs).all (dat 7) && (iL ys).all (dat 7)) = true
    rw [dat_iL, dat_iL]
    rfl
  unfold pEq
  rw [if_pos h1]
  show R.ok (PV.bl (pyEqs (iL xs) (iL ys))) = _
  rw [pyEqs_iL]
theorem eq_tup (xs ys : List Int) : pEq (.tup (iL xs)) (.tup (iL ys)) = .ok (.bl (decide (xs = ys))) := by
  have h1 : (dat 8 (.tup (iL xs)) && dat 8 (.tup (iL ys))) = true := by
    show ((iL xs).all (dat 7) && (iL ys).all (dat 7)) = true
    rw [dat_iL, dat_iL]
    rfl
  unfold pEq
  rw [if_pos h1]
  show R.ok (PV.bl (pyEqs (iL xs) (iL ys))) = _
  rw [pyEqs_iL]
theorem eq_int (x y : Int) : pEq (.int x) (.int y) = .ok (.bl (decide (x = y))) := by
  show R.ok (PV.bl (x == y)) = _
  rw [Bool.beq_eq_decide_eq]
theorem ne_of_eq {a b : PV} {t : Bool} (h : pEq a b = .ok (.bl t)) : pNe a b = .ok (.bl (!t)) := by
  unfold pEq at h
  unfold pNe
  split at h
  · rename_i q
    rw [if_pos q]
    cases h
    rfl
  · cases h
theorem ne_lst (xs ys : List Int) : pNe (.lst (iL xs)) (.lst (iL ys)) = .ok (.bl (!decide (xs = ys))) := ne_of_eq (eq_lst xs ys)
theorem ne_lst0 (xs : List Int) : pNe (.lst (iL xs)) (.lst []) = .ok (.bl (!decide (xs = []))) := ne_lst xs []
theorem ne_tup (xs ys : List Int) : pNe (.tup (iL xs)) (.tup (iL ys)) = .ok (.bl (!decide (xs = ys))) := ne_of_eq (eq_tup xs ys)
theorem ne_tup0 (xs : List Int) : pNe (.tup (iL xs)) (.tup []) = .ok (.bl (!decide (xs = []))) := ne_tup xs []
theorem eq_tup0 (xs : List Int) : pEq (.tup (iL xs)) (.tup []) = .ok (.bl (decide (xs = []))) := eq_tup xs []
theorem eq_lst0 (xs : List Int) : pEq (.lst (iL xs)) (.lst []) = .ok (.bl (decide (xs = []))) := eq_lst xs []
theorem ne_int (x y : Int) : pNe (.int x) (.int y) = .ok (.bl (!decide (x = y))) := ne_of_eq (eq_int x y)

theorem atI_nat {α : Type} (xs : List α) (i : Int) (h0 : 0 ≤ i) : atI xs i = xs[i.toNat]? := by
  unfold atI ixN
  rw [if_pos h0]
  split
  · rfl
  · rw [Option.bind_none, List.getElem?_eq_none (by omega)]
theorem atI_last {α : Type} (xs : List α) : atI xs (-1) = xs[xs.length - 1]? := by
  unfold atI ixN
  rw [if_neg (by omega)]
  split
  · have : ((-1 : Int) + xs.length).toNat = xs.length - 1 := by omega
    rw [this]
    rfl
  · rw [List.getElem?_eq_none (by omega)]
    rfl
theorem pAt_iL (xs : List Int) (i : Int) (h0 : 0 ≤ i) (h1 : i < xs.length) : pAt (iL xs) i = .ok (.int (xs.getD i.toNat 0)) := by
  unfold pAt
  rw [atI_nat _ _ h0, iL_get, List.getElem?_eq_getElem (by omega)]
  simp [List.getElem?_eq_getElem (show i.toNat < xs.length by omega)]
theorem pAt_nat (xs : List Int) (i : Nat) (h1 : i < xs.length) : pAt (iL xs) (i : Nat) = .ok (.int (xs.getD i 0)) := by
  rw [pAt_iL xs _ (by omega) (by omega), Int.toNat_natCast]
theorem pAt_last (xs : List Int) (h : xs ≠ []) : pAt (iL xs) (-1) = .ok (.int (xs.getLast h)) := by
  unfold pAt
  rw [atI_last, iL_len, iL_get, List.getElem?_eq_getElem (by have := List.length_pos_iff.mpr h; omega), List.getLast_eq_getElem]
  rfl
theorem ixN_nat (n i : Nat) (h : i < n) : ixN n (i : Int) = some i := by
  unfold ixN
  rw [if_pos (by omega), if_pos (by omega), Int.toNat_natCast]

/-! ### loops -/
theorem forL_inv {α : Type} {asg : PV → Env → Option Env} {body : Env → RS} (inj : α → PV) : ∀ (xs : List α) (env : Nat → Env),
    (∀ i (hi : i < xs.length), ∃ ρ1, asg (inj xs[i]) (env i) = some ρ1 ∧ (body ρ1 = .next (env (i + 1)) ∨ body ρ1 = .cnt (env (i + 1)))) → forL asg body (xs.map inj) (env 0) = .next (env xs.length)
  | [], env, _ => rfl
  | x :: xs, env, h => by
    obtain ⟨ρ1, h1, h2⟩ := h 0 (by simp)
    have h1 : asg (inj x) (env 0) = some ρ1 := h1
    show (match asg (inj x) (env 0) with
      | none => RS.bad
      | some ρ1 => (body ρ1).turn (forL asg body (xs.map inj))) = _
    rw [h1]
    have ih := forL_inv inj xs (fun i => env (i + 1)) fun i hi => h (i + 1) (by simpa using hi)
    rcases h2 with h2 | h2
    · show (body ρ1).turn _ = _
      rw [h2, RS.turn_next, ih]
      rfl
    · show (body ρ1).turn _ = _
      rw [h2, RS.turn_cnt, ih]
      rfl
/-- a loop that may end with an answer at a place -/
theorem forL_out {α : Type} {asg : PV → Env → Option Env} {body : Env → RS} (inj : α → PV) : ∀ (xs : List α) (env : Nat → Env) (n : Nat) (r : RS), n < xs.length →
    (∀ i (hi : i < xs.length), i < n → ∃ ρ1, asg (inj xs[i]) (env i) = some ρ1 ∧ (body ρ1 = .next (env (i + 1)) ∨ body ρ1 = .cnt (env (i + 1)))) →
    (∀ (hi : n < xs.length), ∃ ρ1, asg (inj xs[n]) (env n) = some ρ1 ∧ (body ρ1).turn (fun _ => .bad) = r ∧ (∀ ρ, body ρ1 ≠ .next ρ) ∧ (∀ ρ, body ρ1 ≠ .cnt ρ)) → forL asg body (xs.map inj) (env 0) = r
  | [], env, n, r, hn, _, _ => absurd hn (Nat.not_lt_zero n)
  | x :: xs, env, 0, r, _, _, h => by
    obtain ⟨ρ1, h1, h2, h3, h4⟩ := h (by simp)
    have h1 : asg (inj x) (env 0) = some ρ1 := h1
    show (match asg (inj x) (env 0) with
      | none => RS.bad
      | some ρ1 => (body ρ1).turn (forL asg body (xs.map inj))) = _
    rw [h1]
    show (body ρ1).turn _ = _
    revert h2 h3 h4
    cases body ρ1 with
    | next ρ => intro _ h3 _; exact absurd rfl (h3 ρ)
    | cnt ρ => intro _ _ h4; exact absurd rfl (h4 ρ)
    | _ => intro h2 _ _; exact h2
  | x :: xs, env, n + 1, r, hn, h, hr => by
    obtain ⟨ρ1, h1, h2⟩ := h 0 (by simp) (by omega)
    have h1 : asg (inj x) (env 0) = some ρ1 := h1
    show (match asg (inj x) (env 0) with
      | none => RS.bad
      | some ρ1 => (body ρ1).turn (forL asg body (xs.map inj))) = _
    rw [h1]
    have ih := forL_out inj xs (fun i => env (i + 1)) n r (by simpa using hn) (fun i hi hin => h (i + 1) (by simpa using hi) (by omega)) (fun hi => hr (by simpa using hi))
    rcases h2 with h2 | h2
    · show (body ρ1).turn _ = _
      rw [h2, RS.turn_next, ih]
    · show (body ρ1).turn _ = _
      rw [h2, RS.turn_cnt, ih]
theorem rngL_eq (lo : Int) (n : Nat) : rngL lo n = (List.range n).map fun k : Nat => PV.int (lo + (k : Int)) := rfl
theorem forL_rng {asg : PV → Env → Option Env} {body : Env → RS} (lo : Int) (n : Nat) (env : Nat → Env)
    (h : ∀ i, i < n → ∃ ρ1, asg (.int (lo + (i : Int))) (env i) = some ρ1 ∧ (body ρ1 = .next (env (i + 1)) ∨ body ρ1 = .cnt (env (i + 1)))) : forL asg body (rngL lo n) (env 0) = .next (env n) := by
  rw [rngL_eq]
  have := forL_inv (asg := asg) (body := body) (fun k : Nat => PV.int (lo + (k : Int))) (List.range n) env (fun i hi => by
    rw [List.getElem_range]
    exact h i (by simpa using hi))
  rw [this, List.length_range]
theorem forL_rng0 {asg : PV → Env → Option Env} {body : Env → RS} (n : Nat) (env : Nat → Env)
    (h : ∀ i, i < n → ∃ ρ1, asg (.int (i : Int)) (env i) = some ρ1 ∧ (body ρ1 = .next (env (i + 1)) ∨ body ρ1 = .cnt (env (i + 1)))) : forL asg body (rngL 0 n) (env 0) = .next (env n) :=
  forL_rng 0 n env fun i hi => by
    rw [Int.zero_add]
    exact h i hi
theorem forL_rng0_out {asg : PV → Env → Option Env} {body : Env → RS} (n m : Nat) (env : Nat → Env) (r : RS) (hm : m < n)
    (h : ∀ i, i < m → ∃ ρ1, asg (.int (i : Int)) (env i) = some ρ1 ∧ (body ρ1 = .next (env (i + 1)) ∨ body ρ1 = .cnt (env (i + 1))))
    (hr : ∃ ρ1, asg (.int (m : Int)) (env m) = some ρ1 ∧ (body ρ1).turn (fun _ => .bad) = r ∧ (∀ ρ, body ρ1 ≠ .next ρ) ∧ (∀ ρ, body ρ1 ≠ .cnt ρ)) : forL asg body (rngL 0 n) (env 0) = r := by
  rw [rngL_eq]
  refine forL_out (fun k : Nat => PV.int (0 + (k : Int))) (List.range n) env m r (by simpa using hm) (fun i hi him => ?_) fun hi => ?_
  · rw [List.getElem_range, Int.zero_add]
    exact h i him
  · rw [List.getElem_range, Int.zero_add]
    exact hr
theorem whlL_inv {c : Env → R PV} {body : Env → RS} : ∀ (n m : Nat) (env : Nat → Env), n < m → (∀ i, i < n → c (env i) = .ok (.bl true) ∧ (body (env i) = .next (env (i + 1)) ∨ body (env i) = .cnt (env (i + 1)))) → c (env n) = .ok (.bl false) → whlL c body m (env 0) = .next (env n)
  | _, 0, _, h, _, _ => absurd h (Nat.not_lt_zero _)
  | 0, m + 1, env, _, _, h => by
    show RS.of (c (env 0)) (env 0) _ = _
    rw [h]
    rfl
  | n + 1, m + 1, env, hm, h, he => by
    obtain ⟨h1, h2⟩ := h 0 (by omega)
    show RS.of (c (env 0)) (env 0) (fun v => RS.ifB v ((body (env 0)).turn (whlL c body m)) (.next (env 0))) = _
    rw [h1, RS.of_ok, RS.ifB_t]
    have ih := whlL_inv n m (fun i => env (i + 1)) (by omega) (fun i hi => h (i + 1) (by omega)) he
    rcases h2 with h2 | h2
    · rw [h2, RS.turn_next, ih]
    · rw [h2, RS.turn_cnt, ih]
theorem LOOPS_eq : LOOPS = 1000000000 := rfl
theorem compL_inj {α : Type} {el co : Env → R PV} {asg : PV → Option Env} (inj : α → PV) (p : α → Bool) (g : α → PV) : ∀ (xs : List α), (∀ x, x ∈ xs → ∃ ρ, asg (inj x) = some ρ ∧ co ρ = .ok (.bl (p x)) ∧ (p x = true → el ρ = .ok (g x))) →
    compL el co asg (xs.map inj) = .ok ((xs.filter p).map g)
  | [], _ => rfl
  | x :: xs, h => by
    obtain ⟨ρ, h1, h2, h3⟩ := h x (List.mem_cons_self ..)
    have ih := compL_inj inj p g xs fun y hy => h y (List.mem_cons_of_mem _ hy)
    rw [List.map_cons]
    unfold compL
    rw [h1]
    simp only [h2]
    cases hp : p x with
    | true =>
      rw [h3 hp, ih]
      simp [hp, R.bind]
    | false =>
      simp only [ih, List.filter_cons, hp]
      rfl
theorem compL_all {α : Type} {el co : Env → R PV} {asg : PV → Option Env} (inj : α → PV) (g : α → PV) (xs : List α) (h : ∀ x, x ∈ xs → ∃ ρ, asg (inj x) = some ρ ∧ co ρ = .ok (.bl true) ∧ el ρ = .ok (g x)) : compL el co asg (xs.map inj) = .ok (xs.map g) := by
  have := compL_inj inj (fun _ => true) g xs (fun x hx => by
    obtain ⟨ρ, h1, h2, h3⟩ := h x hx
    exact ⟨ρ, h1, h2, fun _ => h3⟩)
  rwa [List.filter_eq_self.mpr (fun _ _ => rfl)] at this
theorem run_ret {fs : List Sem1} {cs : List PV} {fr : Bool} {n m : Nat} {body : List PSt} {vs : List PV} {v : PV} (hl : vs.length = m) (h : evSs fs cs fr body (startE n vs) = .ret v) : run fs cs fr n m body vs = .ok v := by
  unfold run
  rw [if_pos hl, h]
theorem pEnum_iL (xs : List Int) : pEnum (iL xs) = (List.range xs.length).map fun k : Nat => PV.tup [.int (k : Int), .int (xs.getD k 0)] := by
  unfold pEnum iL
  apply List.ext_getElem
  · simp
  · intro i h1 h2
    have h : i < xs.length := by simpa using h1
    simp [List.getElem?_eq_getElem h]
theorem small_le {a : Int} {n : Nat} (h : a.natAbs ≤ n) (hn : n < BIG) : small a := Nat.lt_of_le_of_lt h hn

/-! ### more -/
theorem iL_map (f : Int → Int) (xs : List Int) : (xs.map fun x => PV.int (f x)) = iL (xs.map f) := by
  unfold iL
  rw [List.map_map]
  rfl
theorem iL_rep (n : Nat) (x : Int) : iL (List.replicate n x) = List.replicate n (.int x) := by
  unfold iL
  rw [List.map_replicate]
theorem compL_iL {el co : Env → R PV} {asg : PV → Option Env} (f : Int → Int) (xs : List Int) (h : ∀ x, x ∈ xs → ∃ ρ, asg (.int x) = some ρ ∧ co ρ = .ok (.bl true) ∧ el ρ = .ok (.int (f x))) : compL el co asg (iL xs) = .ok (iL (xs.map f)) := by
  rw [← iL_map]
  exact compL_all PV.int (fun x => .int (f x)) xs h
theorem compL_rng {el co : Env → R PV} {asg : PV → Option Env} (p : Nat → Bool) (f : Nat → Int) (n : Nat) (h : ∀ i, i < n → ∃ ρ, asg (.int (i : Int)) = some ρ ∧ co ρ = .ok (.bl (p i)) ∧ (p i = true → el ρ = .ok (.int (f i)))) : compL el co asg (rngL 0 n) = .ok (iL (((List.range n).filter p).map f)) := by
  rw [rngL_eq]
  have := compL_inj (el := el) (co := co) (asg := asg) (fun k : Nat => PV.int (0 + (k : Int))) p (fun k => .int (f k)) (List.range n) (fun x hx => by
    rw [Int.zero_add]
    exact h x (List.mem_range.mp hx))
  rw [this]
  unfold iL
  rw [List.map_map]
  rfl
theorem compL_rngA {el co : Env → R PV} {asg : PV → Option Env} (f : Nat → Int) (n : Nat) (h : ∀ i, i < n → ∃ ρ, asg (.int (i : Int)) = some ρ ∧ co ρ = .ok (.bl true) ∧ el ρ = .ok (.int (f i))) : compL el co asg (rngL 0 n) = .ok (iL ((List.range n).map f)) := by
  have := compL_rng (el := el) (co := co) (asg := asg) (fun _ => true) f n (fun i hi => by
    obtain ⟨ρ, h1, h2, h3⟩ := h i hi
    exact ⟨ρ, h1, h2, fun _ => h3⟩)
  rwa [List.filter_eq_self.mpr (fun _ _ => rfl)] at this
theorem pAt_snoc (ys : List Int) (y : Int) : pAt (iL (ys ++ [y])) (-1) = .ok (.int y) := by
  rw [pAt_last _ (by simp), List.getLast_concat]
theorem pAt_cf (xs : List Int) (i : Int) (h0 : 0 ≤ i) (h1 : i < xs.length) : pAt (iL xs) i = .ok (.int (cf xs i.toNat)) := pAt_iL xs i h0 h1
theorem pAt_cfn (xs : List Int) (i : Nat) (h1 : i < xs.length) : pAt (iL xs) (i : Int) = .ok (.int (cf xs i)) := pAt_nat xs i h1
theorem rng_set (n : Nat) (G : Nat → Int) (i : Nat) (v : Int) : ((List.range n).map G).set i v = (List.range n).map fun k => if k = i then v else G k := by
  apply List.ext_getElem (by simp)
  intro k h1 h2
  rw [List.getElem_set]
  simp only [List.getElem_map, List.getElem_range]
  by_cases e : i = k
  · rw [if_pos e, if_pos e.symm]
  · rw [if_neg e, if_neg (Ne.symm e)]
theorem rng_congr {n : Nat} {f g : Nat → Int} (h : ∀ i, i < n → f i = g i) : (List.range n).map f = (List.range n).map g := List.map_congr_left fun i hi => h i (List.mem_range.mp hi)
/-- noughts behind are taken off -/
theorem trim_loop {c : Env → R PV} {body : Env → RS} (I : List Int → Env) (h0 : c (I []) = .ok (.bl false)) (h1 : ∀ ys y, c (I (ys ++ [y])) = .ok (.bl (decide (y = 0)))) (h2 : ∀ ys y, body (I (ys ++ [y])) = .next (I ys)) :
    ∀ (m : Nat) (xs : List Int), xs.length < m → whlL c body m (I xs) = .next (I (trim xs))
  | 0, _, h => absurd h (Nat.not_lt_zero _)
  | m + 1, xs, h => by
    show RS.of (c (I xs)) (I xs) (fun v => RS.ifB v ((body (I xs)).turn (whlL c body m)) (.next (I xs))) = _
    rcases snoc_cases xs with rfl | ⟨ys, y, rfl⟩
    · rw [h0]
      rfl
    · rw [h1, RS.of_ok]
      by_cases hy : y = 0
      · subst hy
        rw [decide_eq_true rfl, RS.ifB_t, h2, RS.turn_next, trim_loop I h0 h1 h2 m ys (by simp at h; omega), trim_snoc0]
      · rw [decide_eq_false hy, RS.ifB_f, trim_snoc hy]
theorem forL_enum {asg : PV → Env → Option Env} {body : Env → RS} (xs : List Int) (env : Nat → Env)
    (h : ∀ i, i < xs.length → ∃ ρ1, asg (.tup [.int (i : Int), .int (cf xs i)]) (env i) = some ρ1 ∧ (body ρ1 = .next (env (i + 1)) ∨ body ρ1 = .cnt (env (i + 1)))) : forL asg body (pEnum (iL xs)) (env 0) = .next (env xs.length) := by
  rw [pEnum_iL]
  have := forL_inv (asg := asg) (body := body) (fun k : Nat => PV.tup [.int (k : Int), .int (xs.getD k 0)]) (List.range xs.length) env (fun i hi => by
    rw [List.getElem_range]
    exact h i (by simpa using hi))
  rw [this, List.length_range]
/-- a loop by a law of each turn -/
theorem forL_ex {asg : PV → Env → Option Env} {body : Env → RS} (I : Nat → Env → Prop) (R : PV → Prop) : ∀ (xs : List PV) (k : Nat) (ρ0 : Env), I k ρ0 →
    (∀ i x ρ, xs[i]? = some x → I (k + i) ρ → ∃ ρ1, asg x ρ = some ρ1 ∧ ((∃ ρ2, (body ρ1 = .next ρ2 ∨ body ρ1 = .cnt ρ2) ∧ I (k + i + 1) ρ2) ∨ ∃ v, body ρ1 = .ret v ∧ R v)) →
    (∃ ρ, forL asg body xs ρ0 = .next ρ ∧ I (k + xs.length) ρ) ∨ ∃ v, forL asg body xs ρ0 = .ret v ∧ R v
  | [], k, ρ0, h0, _ => .inl ⟨ρ0, rfl, h0⟩
  | x :: xs, k, ρ0, h0, h => by
    obtain ⟨ρ1, h1, h2⟩ := h 0 x ρ0 rfl h0
    have e : forL asg body (x :: xs) ρ0 = (body ρ1).turn (forL asg body xs) := by
      show (match asg x ρ0 with
        | none => RS.bad
        | some ρ1 => (body ρ1).turn (forL asg body xs)) = _
      rw [h1]
    rw [e]
    rcases h2 with ⟨ρ2, h2, h3⟩ | ⟨v, h2, h3⟩
    · have ih := forL_ex I R xs (k + 1) ρ2 h3 fun i x ρ hx hi => by
        have := h (i + 1) x ρ (by simpa using hx) (by rwa [show k + (i + 1) = k + 1 + i by omega])
        rwa [show k + (i + 1) = k + 1 + i by omega] at this
      rw [show k + (x :: xs).length = k + 1 + xs.length by simp; omega]
      rcases h2 with h2 | h2
      · rw [h2, RS.turn_next]
        exact ih
      · rw [h2, RS.turn_cnt]
        exact ih
    · right
      exact ⟨v, by rw [h2, RS.turn_ret], h3⟩
/-- a loop whose turns leave the slots as they were -/
theorem forL_const {asg : PV → Env → Option Env} {body : Env → RS} (xs : List PV) (ρ : Env) (h : ∀ x, x ∈ xs → ∃ ρ1, asg x ρ = some ρ1 ∧ (body ρ1 = .next ρ ∨ body ρ1 = .cnt ρ)) : forL asg body xs ρ = .next ρ := by
  induction xs with
  | nil => rfl
  | cons x xs ih =>
    obtain ⟨ρ1, h1, h2⟩ := h x (List.mem_cons_self ..)
    have e : forL asg body (x :: xs) ρ = (body ρ1).turn (forL asg body xs) := by
      show (match asg x ρ with
        | none => RS.bad
        | some ρ1 => (body ρ1).turn (forL asg body xs)) = _
      rw [h1]
    rw [e]
    have ih := ih fun y hy => h y (List.mem_cons_of_mem _ hy)
    rcases h2 with h2 | h2
    · rw [h2, RS.turn_next, ih]
    · rw [h2, RS.turn_cnt, ih]
theorem mem_rng0 {x : PV} {n : Nat} (h : x ∈ rngL 0 n) : ∃ i : Nat, i < n ∧ x = .int (i : Int) := by
  rw [rngL_eq] at h
  obtain ⟨i, hi, rfl⟩ := List.mem_map.mp h
  exact ⟨i, List.mem_range.mp hi, by rw [Int.zero_add]⟩

/-! ### operators at numbers -/
theorem mod_pos {a b : Int} (h : 0 < b) : pMod (.int a) (.int b) = .ok (.int (a % b)) := by
  show (if b ≠ 0 then R.ok (PV.int (if 0 < b then a % b else a.fmod b)) else R.bad) = _
  rw [if_pos (by omega), if_pos h]
theorem fdiv_pos {a b : Int} (h : 0 < b) (h2 : b < 1000000000000000000) : pFdiv (.int a) (.int b) = .ok (.int (a / b)) := by
  show (if b ≠ 0 ∧ b.natAbs < 2 ^ 9000 then R.ok (PV.int (if 0 < b then a / b else a.fdiv b)) else R.bad) = _
  have : b.natAbs < 2 ^ 9000 := by
    have h3 : b.natAbs < 2 ^ 60 := by omega
    exact Nat.lt_of_lt_of_le h3 (Nat.pow_le_pow_right (by decide) (by decide))
  rw [if_pos ⟨by omega, this⟩, if_pos h]
theorem small_bd {n : Nat} {x : Int} (h : bd n x) (hn : n ≤ 3000000) : small x := by
  have h2 := bd_mono h hn
  unfold bd at h2
  unfold small BIG
  exact h2
theorem mul_ok {a b : Int} (ha : small a) (hb : small b) : pMul (.int a) (.int b) = .ok (.int (a * b)) := by
  show (if small a ∧ small b then R.ok (PV.int (a * b)) else R.bad) = _
  rw [if_pos ⟨ha, hb⟩]
theorem small_60 {x : Int} (h : x.natAbs < 2 ^ 60) : small x := small_bd (n := 60) h (by decide)
theorem mul_bd {n m : Nat} {a b : Int} (ha : bd n a) (hb : bd m b) (hn : n ≤ 3000000) (hm : m ≤ 3000000) : pMul (.int a) (.int b) = .ok (.int (a * b)) := mul_ok (small_bd ha hn) (small_bd hb hm)
theorem flat_rep1 (x : PV) : ∀ n : Nat, (List.replicate n [x]).flatten = List.replicate n x
  | 0 => rfl
  | n + 1 => by
    rw [List.replicate_succ, List.flatten_cons, flat_rep1 x n, List.replicate_succ]
    rfl
theorem mul_rep (n : Nat) (x : Int) (h : n ≤ LIM) : pMul (.lst [.int x]) (.int (n : Int)) = .ok (.lst (iL (List.replicate n x))) := by
  have hL : LIM = 1000000 := rfl
  have h3 : [PV.int x].length * (n : Int).toNat ≤ LIM := by
    rw [List.length_singleton, Int.toNat_natCast]
    omega
  simp only [pMul]
  rw [if_pos ⟨by omega, by omega, h3⟩, Int.toNat_natCast, flat_rep1, iL_rep]
theorem app_lst {xs ys : List PV} (h : xs.length + ys.length ≤ LIM) : pAdd (.lst xs) (.lst ys) = .ok (.lst (xs ++ ys)) := if_pos h
theorem app_tup {xs ys : List PV} (h : xs.length + ys.length ≤ LIM) : pAdd (.tup xs) (.tup ys) = .ok (.tup (xs ++ ys)) := if_pos h
theorem pow_ok {a b : Int} (h0 : 0 ≤ b) (h1 : b ≤ 1000000) (h2 : a.natAbs < 2 ^ 64) : pPow (.int a) (.int b) = .ok (.int (a ^ b.toNat)) := if_pos ⟨h0, h1, h2⟩
theorem ifB_dec {p : Prop} [Decidable p] (a b : RS) : RS.ifB (.bl (decide p)) a b = if p then a else b := by
  by_cases h : p
  · rw [if_pos h, decide_eq_true h]; rfl
  · rw [if_neg h, decide_eq_false h]; rfl
theorem sum_ok (xs : List Int) : pBi .sum [.lst (iL xs)] = .ok (.int xs.sum) := by
  show (match intsOf (iL xs) with
    | some ns => R.ok (PV.int ns.sum)
    | none => R.bad) = _
  rw [intsOf_iL]
theorem span_nat {n : Nat} (h : n ≤ LIM) : inSpan (n : Int) = true := by
  have hL : LIM = 1000000 := rfl
  unfold inSpan
  rw [decide_eq_true (by omega), decide_eq_true (by omega)]
  rfl
theorem span_int {i : Int} (h0 : -1000000 ≤ i) (h1 : i ≤ 1000000) : inSpan i = true := by
  unfold inSpan
  rw [decide_eq_true (by omega), decide_eq_true (by omega)]
  rfl
theorem bi_max (a b : Nat) : pBi .max [.int (a : Int), .int (b : Int)] = .ok (.int ((max a b : Nat) : Int)) := by
  show R.ok (PV.int (if (b : Int) > (a : Int) then (b : Int) else (a : Int))) = _
  congr 2
  split <;> omega
theorem bi_min (a b : Nat) : pBi .min [.int (a : Int), .int (b : Int)] = .ok (.int ((min a b : Nat) : Int)) := by
  show R.ok (PV.int (if (b : Int) < (a : Int) then (b : Int) else (a : Int))) = _
  congr 2
  split <;> omega
theorem bi_len_lst (xs : List PV) : pBi .len [.lst xs] = .ok (.int (xs.length : Nat)) := rfl
theorem bi_len_tup (xs : List PV) : pBi .len [.tup xs] = .ok (.int (xs.length : Nat)) := rfl
theorem bi_len_rl (xs : List PV) : pBi .len [.rl xs] = .ok (.int (xs.length : Nat)) := rfl
theorem bi_list_lst (xs : List PV) : pBi .list [.lst xs] = .ok (.lst xs) := rfl
theorem bi_list_tup (xs : List PV) : pBi .list [.tup xs] = .ok (.lst xs) := rfl
theorem bi_list_rl (xs : List PV) : pBi .list [.rl xs] = .ok (.lst xs) := rfl
theorem bi_tuple_lst (xs : List PV) : pBi .tuple [.lst xs] = .ok (.tup xs) := rfl
theorem bi_tuple_tup (xs : List PV) : pBi .tuple [.tup xs] = .ok (.tup xs) := rfl
theorem bi_tuple_rl (xs : List PV) : pBi .tuple [.rl xs] = .ok (.tup xs) := rfl
theorem bi_int_int (i : Int) : pBi .int [.int i] = .ok (.int i) := rfl
theorem bi_int_t : pBi .int [.bl true] = .ok (.int 1) := rfl
theorem bi_int_f : pBi .int [.bl false] = .ok (.int 0) := rfl
theorem rep_rng (n : Nat) (x : Int) : List.replicate n x = (List.range n).map fun _ => x := by
  apply List.ext_getElem (by simp)
  intro i h1 h2
  simp
theorem rng_app (G : Nat → Int) (k : Nat) : iL ((List.range k).map G) ++ [PV.int (G k)] = iL ((List.range (k + 1)).map G) := by
  rw [List.range_succ, List.map_append]
  exact iL_app1 _ _
theorem cf_rng {n i : Nat} (G : Nat → Int) (h : i < n) : cf ((List.range n).map G) i = G i := by rw [cf_range, if_pos h]
theorem compL_cons_t {el co : Env → R PV} {asg : PV → Option Env} {x : PV} {r : List PV} {ρ : Env} {v : PV} {vs : List PV} (h1 : asg x = some ρ) (h2 : co ρ = .ok (.bl true)) (h3 : el ρ = .ok v) (h : compL el co asg r = .ok vs) : compL el co asg (x :: r) = .ok (v :: vs) := by
  unfold compL
  simp only [h1, h2, h3, h, R.bind_ok]
theorem compL_cons_f {el co : Env → R PV} {asg : PV → Option Env} {x : PV} {r : List PV} {ρ : Env} {vs : List PV} (h1 : asg x = some ρ) (h2 : co ρ = .ok (.bl false)) (h : compL el co asg r = .ok vs) : compL el co asg (x :: r) = .ok vs := by
  unfold compL
  simp only [h1, h2, h]
theorem compL_pick {el co : Env → R PV} {asg : PV → Option Env} (i : Nat) (xs ys : List Int) (h1 : ∀ zs : List Int, i < zs.length → ∃ ρ, asg (.tup (iL zs)) = some ρ ∧ co ρ = .ok (.bl true) ∧ el ρ = .ok (.int (cf zs i)))
    (h2 : ∀ zs : List Int, zs.length ≤ i → ∃ ρ, asg (.tup (iL zs)) = some ρ ∧ co ρ = .ok (.bl false)) :
    compL el co asg [.tup (iL xs), .tup (iL ys)] = .ok (iL ((if i < xs.length then [cf xs i] else []) ++ (if i < ys.length then [cf ys i] else []))) := by
  have one : ∀ (zs : List Int) (r : List PV) (rs : List Int), compL el co asg r = .ok (iL rs) → compL el co asg (.tup (iL zs) :: r) = .ok (iL ((if i < zs.length then [cf zs i] else []) ++ rs)) := by
    intro zs r rs hr
    by_cases hz : i < zs.length
    · obtain ⟨ρ, a1, a2, a3⟩ := h1 zs hz
      rw [if_pos hz]
      exact compL_cons_t a1 a2 a3 hr
    · obtain ⟨ρ, a1, a2⟩ := h2 zs (by omega)
      rw [if_neg hz]
      exact compL_cons_f a1 a2 hr
  have := one xs _ _ (one ys [] [] rfl)
  rwa [List.append_nil] at this
theorem pick_sum (i : Nat) (xs ys : List Int) : ((if i < xs.length then [cf xs i] else []) ++ (if i < ys.length then [cf ys i] else [])).sum = cf xs i + cf ys i := by
  have one : ∀ zs : List Int, (if i < zs.length then [cf zs i] else []).sum = cf zs i := by
    intro zs
    split
    · simp
    · rename_i h
      rw [cf_ge (by omega)]
      rfl
  rw [List.sum_append, one, one]
theorem cut_take (xs : List PV) (k : Nat) : pCut xs none (some (k : Int)) = xs.take k := by
  unfold pCut
  rw [HT.sIx_none, HT.sIx_nat, List.drop_zero, Nat.sub_zero, Nat.min_comm, ← List.take_take, List.take_of_length_le (by simp; omega)]
theorem cut_drop (xs : List PV) (k : Nat) : pCut xs (some (k : Int)) none = xs.drop k := by
  unfold pCut
  rw [HT.sIx_none, HT.sIx_nat]
  by_cases h : k ≤ xs.length
  · rw [Nat.min_eq_left h, List.take_of_length_le (by simp)]
  · rw [Nat.min_eq_right (by omega), List.drop_length, List.drop_eq_nil_of_le (by omega), List.take_nil]
theorem cut_last (xs : List PV) : pCut xs none (some (-1)) = xs.dropLast := by
  unfold pCut
  rw [HT.sIx_none, List.drop_zero, Nat.sub_zero, List.dropLast_eq_take]
  congr 1
  show (if (-1 : Int) < 0 then ((-1 : Int) + (xs.length : Int)).toNat else min (-1 : Int).toNat xs.length) = _
  rw [if_pos (by decide)]
  omega
theorem iL_take (xs : List Int) (k : Nat) : (iL xs).take k = iL (xs.take k) := by
  unfold iL
  rw [List.map_take]
theorem iL_drop (xs : List Int) (k : Nat) : (iL xs).drop k = iL (xs.drop k) := by
  unfold iL
  rw [List.map_drop]
theorem iL_rev (xs : List Int) : (iL xs).reverse = iL xs.reverse := by
  unfold iL
  rw [List.map_reverse]
theorem sl_lst (xs : List PV) (a b : Option Int) : pSl (.lst xs) a b = .ok (.lst (pCut xs a b)) := rfl
theorem sl_tup (xs : List PV) (a b : Option Int) : pSl (.tup xs) a b = .ok (.tup (pCut xs a b)) := rfl
theorem sl_rl (xs : List PV) (a b : Option Int) : pSl (.rl xs) a b = .ok (.lst (pCut xs a b)) := rfl
theorem part_t (v : PV) : pPart true v = .ok none := rfl
theorem part_f (i : Int) : pPart false (.int i) = .ok (some i) := rfl
mutual
theorem pyEq_refl : ∀ {n : Nat} {x : PV}, dat n x = true → pyEq x x = true
  | _, .non, _ => rfl
  | _, .bl b, _ => by simp [pyEq]
  | _, .int i, _ => by simp [pyEq]
  | _, .str s, _ => by simp [pyEq]
  | n, .lst xs, h => by
    cases n with
    | zero => simp [dat] at h
    | succ n =>
      simp only [dat] at h
      simp only [pyEq]
      exact pyEqs_refl h
  | n, .tup xs, h => by
    cases n with
    | zero => simp [dat] at h
    | succ n =>
      simp only [dat] at h
      simp only [pyEq]
      exact pyEqs_refl h
  | _, .rl _, h => by simp [dat] at h
  | _, .dk _ _, h => by simp [dat] at h
  | _, .exc _, h => by simp [dat] at h
theorem pyEqs_refl : ∀ {n : Nat} {xs : List PV}, xs.all (dat n) = true → pyEqs xs xs = true
  | _, [], _ => rfl
  | n, x :: xs, h => by
    simp only [List.all_cons, Bool.and_eq_true] at h
    simp only [pyEqs, pyEq_refl h.1, pyEqs_refl h.2, Bool.and_self]
end
theorem eq_same {a b : PV} (h : a = b) (d : dat 8 a = true) : pEq a b = .ok (.bl true) := by
  subst h
  unfold pEq
  rw [d, pyEq_refl d]
  rfl
theorem ne_same {a b : PV} (h : a = b) (d : dat 8 a = true) : pNe a b = .ok (.bl false) := by
  subst h
  unfold pNe
  rw [d, pyEq_refl d]
  rfl
theorem dat_tupI (n : Nat) (xs : List Int) : dat (n + 1) (.tup (iL xs)) = true := dat_iL n xs
theorem dat_lstI (n : Nat) (xs : List Int) : dat (n + 1) (.lst (iL xs)) = true := dat_iL n xs
theorem dat_tup2 (n : Nat) (xs ys : List Int) : dat (n + 2) (.tup [.tup (iL xs), .tup (iL ys)]) = true := by
  show ([PV.tup (iL xs), .tup (iL ys)].all (dat (n + 1))) = true
  rw [List.all_cons, List.all_cons, dat_tupI, dat_tupI]
  rfl
theorem mem_iL {x : PV} {xs : List Int} (h : x ∈ iL xs) : ∃ z, z ∈ xs ∧ x = .int z := by
  obtain ⟨z, hz, rfl⟩ := List.mem_map.mp h
  exact ⟨z, hz, rfl⟩
theorem pAt_at (xs : List Int) {i : Int} (k : Nat) (h : i = (k : Int)) (hk : k < xs.length) : pAt (iL xs) i = .ok (.int (cf xs k)) := by
  subst h
  exact pAt_cfn xs k hk
/-- a loop that asks each, and ends where one doesn't keep it -/
theorem forL_allL {asg : PV → Env → Option Env} {body : Env → RS} (ρ : Env) (v : PV) (P : PV → Prop) : ∀ (xs : List PV), (∀ x, x ∈ xs → ∃ ρ1, asg x ρ = some ρ1 ∧ ((P x ∧ body ρ1 = .next ρ) ∨ (¬ P x ∧ body ρ1 = .ret v))) →
    ((∀ x, x ∈ xs → P x) ∧ forL asg body xs ρ = .next ρ) ∨ ((∃ x, x ∈ xs ∧ ¬ P x) ∧ forL asg body xs ρ = .ret v)
  | [], _ => .inl ⟨fun _ h => (nomatch h), rfl⟩
  | x :: xs, h => by
    obtain ⟨ρ1, h1, h2⟩ := h x (List.mem_cons_self ..)
    have e : forL asg body (x :: xs) ρ = (body ρ1).turn (forL asg body xs) := by
      show (match asg x ρ with
        | none => RS.bad
        | some ρ1 => (body ρ1).turn (forL asg body xs)) = _
      rw [h1]
    rw [e]
    rcases h2 with ⟨hp, h2⟩ | ⟨hp, h2⟩
    · rw [h2, RS.turn_next]
      rcases forL_allL ρ v P xs fun y hy => h y (List.mem_cons_of_mem _ hy) with ⟨a, b⟩ | ⟨⟨y, hy, a⟩, b⟩
      · refine .inl ⟨fun y hy => ?_, b⟩
        rcases List.mem_cons.mp hy with rfl | hy
        · exact hp
        · exact a y hy
      · exact .inr ⟨⟨y, List.mem_cons_of_mem _ hy, a⟩, b⟩
    · rw [h2, RS.turn_ret]
      exact .inr ⟨⟨x, List.mem_cons_self .., hp⟩, rfl⟩
theorem forL_all {asg : PV → Env → Option Env} {body : Env → RS} (ρ : Env) (v : PV) (n : Nat) (p : Nat → Prop) (h : ∀ i, i < n → ∃ ρ1, asg (.int (i : Int)) ρ = some ρ1 ∧ ((p i ∧ body ρ1 = .next ρ) ∨ (¬ p i ∧ body ρ1 = .ret v))) :
    ((∀ i, i < n → p i) ∧ forL asg body (rngL 0 n) ρ = .next ρ) ∨ ((¬ ∀ i, i < n → p i) ∧ forL asg body (rngL 0 n) ρ = .ret v) := by
  rcases forL_allL (asg := asg) (body := body) ρ v (fun x => ∀ i : Nat, x = .int (i : Int) → p i) (rngL 0 n) (fun x hx => by
    obtain ⟨i, hi, rfl⟩ := mem_rng0 hx
    obtain ⟨ρ1, h1, h2⟩ := h i hi
    refine ⟨ρ1, h1, ?_⟩
    rcases h2 with ⟨hp, h2⟩ | ⟨hp, h2⟩
    · refine .inl ⟨fun j e => ?_, h2⟩
      have : i = j := by
        injection e with e
        omega
      exact this ▸ hp
    · exact .inr ⟨fun q => hp (q i rfl), h2⟩) with ⟨a, b⟩ | ⟨⟨x, hx, a⟩, b⟩
  · refine .inl ⟨fun i hi => a (.int (i : Int)) ?_ i rfl, b⟩
    rw [rngL_eq]
    exact List.mem_map.mpr ⟨i, List.mem_range.mpr hi, by rw [Int.zero_add]⟩
  · refine .inr ⟨fun q => a fun i e => ?_, b⟩
    obtain ⟨j, hj, rfl⟩ := mem_rng0 hx
    have : i = j := by
      injection e with e
      omega
    exact this ▸ q j hj
theorem mul_repT (n : Nat) (x : Int) (h : n ≤ 1000) : pMul (.tup [.int x]) (.int (n : Int)) = .ok (.tup (iL (List.replicate n x))) := by
  simp only [pMul]
  have hc : [PV.int x].length ≤ 1000 ∧ (n : Int) ≤ 1000 ∧ -1000 ≤ (n : Int) := ⟨by simp, by omega, by omega⟩
  rw [if_pos hc, Int.toNat_natCast, flat_rep1, iL_rep]
theorem whlL_go {c : Env → R PV} {body : Env → RS} {ρ0 : Env} (n : Nat) {m : Nat} (env : Nat → Env) (hn : n < m) (h0 : ρ0 = env 0) (h : ∀ i, i < n → c (env i) = .ok (.bl true) ∧ (body (env i) = .next (env (i + 1)) ∨ body (env i) = .cnt (env (i + 1)))) (he : c (env n) = .ok (.bl false)) :
    whlL c body m ρ0 = .next (env n) := by
  rw [h0]
  exact whlL_inv n m env hn h he
theorem evSs_split {fs : List Sem1} {cs : List PV} {fr : Bool} : ∀ (n : Nat) (xs : List PSt) (ρ : Env), evSs fs cs fr xs ρ = (evSs fs cs fr (xs.take n) ρ).then (evSs fs cs fr (xs.drop n))
  | 0, xs, ρ => by
    rw [List.take_zero, List.drop_zero]
    simp only [evSs, RS.then_next]
  | n + 1, [], ρ => by
    simp only [List.take_nil, List.drop_nil, evSs, RS.then_next]
  | n + 1, x :: xs, ρ => by
    rw [List.take_succ_cons, List.drop_succ_cons]
    simp only [evSs]
    cases evS fs cs fr x ρ with
    | next ρ1 => rw [RS.then_next, RS.then_next, evSs_split n xs ρ1]
    | _ => rfl
theorem bi_int_b (b : Bool) : pBi .int [.bl b] = .ok (.int (if b then 1 else 0)) := rfl
theorem at_two (x y : PV) (t : Bool) : pAt [x, y] (if t then 1 else 0) = .ok (if t then y else x) := by cases t <;> rfl
theorem int_if (t : Bool) (x y : Int) : (if t then PV.int x else PV.int y) = PV.int (if t then x else y) := by cases t <;> rfl
theorem at3_0 (a c d : PV) : pAt [a, c, d] 0 = .ok a := rfl
theorem at3_1 (a c d : PV) : pAt [a, c, d] 1 = .ok c := rfl
theorem at3_2 (a c d : PV) : pAt [a, c, d] 2 = .ok d := rfl
theorem at2_0 (a c : PV) : pAt [a, c] 0 = .ok a := rfl
theorem at2_1 (a c : PV) : pAt [a, c] 1 = .ok c := rfl
theorem ixN_int {n : Nat} {i : Int} (h0 : 0 ≤ i) (h1 : i < n) : ixN n i = some i.toNat := by
  unfold ixN
  rw [if_pos h0, if_pos (by omega)]
def isT : R PV → Bool
  | .ok (.bl true) => true
  | _ => false
theorem isT_eq : ∀ {r : R PV}, isT r = true → r = .ok (.bl true)
  | .ok (.bl true), _ => rfl
  | .ok (.bl false), h => by cases h
  | .ok .non, h => by cases h
  | .ok (.int _), h => by cases h
  | .ok (.str _), h => by cases h
  | .ok (.lst _), h => by cases h
  | .ok (.tup _), h => by cases h
  | .ok (.rl _), h => by cases h
  | .ok (.dk _ _), h => by cases h
  | .ok (.exc _), h => by cases h
  | .exn _, h => by cases h
  | .bad, h => by cases h
theorem blsOf_map : ∀ bs : List Bool, blsOf (bs.map PV.bl) = some bs
  | [] => rfl
  | b :: bs => by
    show (blsOf (bs.map PV.bl)).map (b :: ·) = _
    rw [blsOf_map bs]
    rfl
theorem all_ok (bs : List Bool) : pBi .all [.lst (bs.map PV.bl)] = .ok (.bl (bs.all id)) := by
  show (match blsOf (bs.map PV.bl) with
    | some bs => R.ok (PV.bl (bs.all id))
    | none => R.bad) = _
  rw [blsOf_map]
theorem any_ok (bs : List Bool) : pBi .any [.lst (bs.map PV.bl)] = .ok (.bl (bs.any id)) := by
  show (match blsOf (bs.map PV.bl) with
    | some bs => R.ok (PV.bl (bs.any id))
    | none => R.bad) = _
  rw [blsOf_map]
/-- all([f(x) for x in xs]) of numbers -/
theorem compL_bl {el co : Env → R PV} {asg : PV → Option Env} (f : Int → Bool) (xs : List Int) (h : ∀ x, x ∈ xs → ∃ ρ, asg (.int x) = some ρ ∧ co ρ = .ok (.bl true) ∧ el ρ = .ok (.bl (f x))) : compL el co asg (iL xs) = .ok ((xs.map f).map PV.bl) := by
  rw [List.map_map]
  exact compL_all PV.int (fun x => .bl (f x)) xs h
theorem pZip_iL {xs ys : List Int} (h : xs.length = ys.length) : pZip (iL xs) (iL ys) = (List.range xs.length).map fun k : Nat => PV.tup [.int (cf xs k), .int (cf ys k)] := by
  unfold pZip iL
  apply List.ext_getElem
  · simp [h]
  · intro i h1 h2
    have h3 : i < xs.length := by simpa using h2
    rw [List.getElem_zipWith]
    simp only [List.getElem_map, List.getElem_range]
    rw [cf_lt h3, cf_lt (by omega)]
theorem compL_zip {el co : Env → R PV} {asg : PV → Option Env} (f : Int → Int → Int) {xs ys : List Int} (hl : xs.length = ys.length) (h : ∀ k, k < xs.length → ∃ ρ, asg (.tup [.int (cf xs k), .int (cf ys k)]) = some ρ ∧ co ρ = .ok (.bl true) ∧ el ρ = .ok (.int (f (cf xs k) (cf ys k)))) :
    compL el co asg (pZip (iL xs) (iL ys)) = .ok (iL ((List.range xs.length).map fun k => f (cf xs k) (cf ys k))) := by
  rw [pZip_iL hl]
  have := compL_all (el := el) (co := co) (asg := asg) (fun k : Nat => PV.tup [.int (cf xs k), .int (cf ys k)]) (fun k => .int (f (cf xs k) (cf ys k))) (List.range xs.length) (fun k hk => h k (List.mem_range.mp hk))
  rw [this]
  unfold iL
  rw [List.map_map]
  rfl
theorem pZip_len {xs ys : List Int} (h : xs.length = ys.length) : (pZip (iL xs) (iL ys)).length = xs.length := by
  rw [pZip_iL h]
  simp
theorem mem_rng {x : PV} {lo n : Nat} (h : x ∈ rngL (lo : Int) n) : ∃ i : Nat, lo ≤ i ∧ i < lo + n ∧ x = .int (i : Int) := by
  rw [rngL_eq] at h
  obtain ⟨i, hi, rfl⟩ := List.mem_map.mp h
  have := List.mem_range.mp hi
  exact ⟨lo + i, by omega, by omega, by rw [Int.natCast_add]⟩
theorem run_next {fs : List Sem1} {cs : List PV} {fr : Bool} {n m : Nat} {body : List PSt} {vs : List PV} {ρ : Env} (hl : vs.length = m) (h : evSs fs cs fr body (startE n vs) = .next ρ) : run fs cs fr n m body vs = .ok .non := by
  unfold run
  rw [if_pos hl, h]
theorem run_exn {fs : List Sem1} {cs : List PV} {fr : Bool} {n m : Nat} {body : List PSt} {vs : List PV} {ρ : Env} {c : Nat} (hl : vs.length = m) (h : evSs fs cs fr body (startE n vs) = .exn c ρ) : run fs cs fr n m body vs = .exn c := by
  unfold run
  rw [if_pos hl, h]
theorem forL_iL {asg : PV → Env → Option Env} {body : Env → RS} (xs : List Int) (env : Nat → Env)
    (h : ∀ i, i < xs.length → ∃ ρ1, asg (.int (cf xs i)) (env i) = some ρ1 ∧ (body ρ1 = .next (env (i + 1)) ∨ body ρ1 = .cnt (env (i + 1)))) : forL asg body (iL xs) (env 0) = .next (env xs.length) :=
  forL_inv PV.int xs env fun i hi => by
    rw [← cf_lt hi]
    exact h i hi
theorem forL_iLg {asg : PV → Env → Option Env} {body : Env → RS} (xs : List Int) (env : Nat → Env) (ρ0 : Env) (h0 : ρ0 = env 0)
    (h : ∀ i, i < xs.length → ∃ ρ1, asg (.int (cf xs i)) (env i) = some ρ1 ∧ (body ρ1 = .next (env (i + 1)) ∨ body ρ1 = .cnt (env (i + 1)))) : forL asg body (iL xs) ρ0 = .next (env xs.length) := by
  rw [h0]
  exact forL_iL xs env h
theorem maxOf_ge : ∀ (xs : List Int) (x : Int), x ∈ xs → x ≤ maxOf xs
  | [], _, h => nomatch h
  | [a], x, h => by
    rw [List.mem_singleton.mp h]
    exact Int.le_refl _
  | a :: b :: r, x, h => by
    show x ≤ max a (maxOf (b :: r))
    rcases List.mem_cons.mp h with rfl | h
    · omega
    · have := maxOf_ge (b :: r) x h
      omega
theorem max_ok (a : Int) (xs : List Int) : pBi .max [.lst (iL (a :: xs))] = .ok (.int (maxOf (a :: xs))) := by
  show (match intsOf (iL (a :: xs)) with
    | some (a :: r) => R.ok (PV.int (maxOf (a :: r)))
    | _ => R.bad) = _
  rw [intsOf_iL]
theorem rngL_len (lo : Int) (n : Nat) : (rngL lo n).length = n := by
  rw [rngL_eq]
  simp
end Pf

set_option Elab.async false
set_option linter.all false
set_option maxRecDepth 100000
set_option autoImplicit false
namespace Lw
open PySem L2 Pf
def cn_FARTHEST : PV := .int (400)
def c_l_mix : List PSt :=
[(.set 2 (.bin .mod (.bin .add (.bin .mul (.bin .add (.bin .mod (.var 0) (.int 2147483629)) (.int 1)) (.bin .add (.bin .add (.int 48271) (.bin .mul (.int 69621) (.var 1))) (.bin .mul (.bin .mul (.int 2) (.var 1)) (.var 1)))) (.var 1)) (.int 2147483647))),
 (.set 2 (.bin .mod (.bin .mul (.var 2) (.var 2)) (.int 2147483629))),
 (.ret (.bin .fdiv (.bin .mod (.bin .mul (.var 2) (.bin .add (.bin .add (.var 2) (.var 1)) (.int 1))) (.int 2147483587)) (.int 3)))]
def s_l_mix : Sem1 := run [] [] false 3 2 c_l_mix
def c_l_drawn_by : List PSt :=
[(.ret (.ix (.lst (.cons (.int 0) (.cons (.int 0) (.cons (.int 0) (.cons (.int 2) (.cons (.int 3) (.cons (.int 5) (.cons (.int 7) (.cons (.int 11) (.cons (.int 101) (.cons (.int 997) .nil))))))))))) (.bin .mod (.call 0 (.cons (.var 0) (.cons (.int 1) .nil))) (.int 10))))]
def s_l_drawn_by : Sem1 := run [s_l_mix] [] false 1 1 c_l_drawn_by
def c_l_cell_at : List PSt :=
[(.ite (.cmp .lt (.var 1) (.bi .len (.cons (.var 0) .nil)))
 [(.ret (.ix (.var 0) (.var 1)))]
 []),
 (.ret (.bin .mul (.bin .add (.bin .mul (.var 1) (.int 7919)) (.int 5)) (.bin .add (.var 1) (.int 31))))]
def s_l_cell_at : Sem1 := run [] [] false 2 2 c_l_cell_at
def c_l_taken : List PSt :=
[(.ite (.cmp .eq (.var 0) (.int 0))
 [(.ret (.var 1))]
 []),
 (.ret (.bin .mod (.var 1) (.var 0)))]
def s_l_taken : Sem1 := run [] [] false 2 2 c_l_taken
def c_l_one_number : List PSt :=
[(.set 3 (.bin .sub (.bin .add (.bin .mod (.bin .mul (.bin .add (.var 1) (.int 1)) (.bin .pow (.bin .add (.var 2) (.int 3)) (.int 7))) (.bin .sub (.bin .mul (.int 2) (.bin .pow (.int 10) (.int 9))) (.int 1))) (.int 1)) (.bin .pow (.int 10) (.int 9)))),
 (.set 4 (.ix (.lst (.cons (.int 0) (.cons (.int 1) (.cons (.neg (.int 1)) (.cons (.int 2) (.cons (.int 1) (.cons (.neg (.int 2)) (.cons (.int 3) (.cons (.int 0) (.cons (.int 1) (.cons (.int 5) .nil))))))))))) (.bin .mod (.call 0 (.cons (.var 1) (.cons (.bin .add (.int 20) (.var 2)) .nil))) (.int 10)))),
 (.ret (.call 1 (.cons (.var 0) (.cons (.ix (.lst (.cons (.var 4) (.cons (.var 3) .nil))) (.bi .int (.cons (.or (.cmp .gt (.var 0) (.int 7)) (.and (.cmp .gt (.var 2) (.int 14)) (.cmp .eq (.bin .mod (.call 0 (.cons (.var 1) (.cons (.bin .add (.int 50) (.var 2)) .nil))) (.int 7)) (.int 3)))) .nil))) .nil))))]
def s_l_one_number : Sem1 := run [s_l_mix, s_l_taken] [] false 5 3 c_l_one_number
def c_l_places_1 : List PSt :=
[(.set 6 (.bi .sum (.cons (.comp (.bin .mul (.ix (.var 4) (.var 7)) (.ix (.bvar 2) (.bin .sub (.neg (.int 1)) (.var 7)))) [7] false (.rng1 (.bi .len (.cons (.var 4) .nil))) (.bl true)) .nil))),
 (.app 2 (.call 0 (.cons (.var 3) (.cons (.var 6) .nil)))),
 (.kil 6)]
def c_l_places : List PSt :=
[(.unp [3, 4, 5] (.var 0)),
 (.seto 2 (.bi .list (.cons (.sl (.var 5) .non (.var 1)) .nil))),
 (.whl LOOPS (.cmp .lt (.bi .len (.cons (.bvar 2) .nil)) (.var 1)) c_l_places_1),
 (.kil 6),
 (.reto 2)]
def s_l_places : Sem1 := run [s_l_taken] [] false 8 2 c_l_places
def c_l_made_longer_1 : List PSt :=
[(.setix 3 (.var 4) (.bin .add (.ix (.bvar 3) (.var 4)) (.ix (.var 6) (.var 4)))),
 (.setix 3 (.bin .add (.var 4) (.int 1)) (.bin .sub (.ix (.bvar 3) (.bin .add (.var 4) (.int 1))) (.bin .mul (.var 1) (.ix (.var 6) (.var 4))))),
 (.kil 4)]
def c_l_made_longer : List PSt :=
[(.unp [5, 6, 7] (.var 0)),
 (.set 2 (.call 0 (.cons (.var 0) (.cons (.bin .add (.bi .len (.cons (.var 6) .nil)) (.int 1)) .nil)))),
 (.seto 3 (.bin .add (.lst (.cons (.var 1) .nil)) (.bin .mul (.lst (.cons (.int 0) .nil)) (.bi .len (.cons (.var 6) .nil))))),
 (.forS [4] false (.rng1 (.bi .len (.cons (.var 6) .nil))) c_l_made_longer_1),
 (.kil 4),
 (.ret (.tup (.cons (.var 5) (.cons (.bi .tuple (.cons (.comp (.call 1 (.cons (.var 5) (.cons (.var 8) .nil))) [8] false (.seq (.bvar 3)) (.bl true)) .nil)) (.cons (.bi .tuple (.cons (.var 2) .nil)) .nil)))))]
def s_l_made_longer : Sem1 := run [s_l_places, s_l_taken] [] false 9 2 c_l_made_longer
def c_l_drawn_row_1 : List PSt :=
[(.ite (.cmp .lt (.bi .len (.cons (.ix (.var 8) (.int 1)) .nil)) (.int 12))
 [(.set 8 (.call 3 (.cons (.var 8) (.cons (.call 4 (.cons (.var 2) (.cons (.bin .sub (.bin .mod (.call 1 (.cons (.var 4) (.cons (.bin .add (.int 4) (.var 9)) .nil))) (.int 5)) (.int 2)) .nil))) .nil))))]
 []),
 (.kil 9)]
def c_l_drawn_row : List PSt :=
[(.set 4 (.call 0 (.cons (.var 0) (.cons (.var 1) .nil)))),
 (.set 5 (.bin .mod (.call 1 (.cons (.var 4) (.cons (.int 2) .nil))) (.bin .add (.var 3) (.int 1)))),
 (.set 6 (.call 0 (.cons (.var 0) (.cons (.bin .add (.var 1) (.int 1)) .nil)))),
 (.set 7 (.bi .tuple (.cons (.comp (.call 2 (.cons (.var 2) (.cons (.var 6) (.cons (.var 9) .nil)))) [9] false (.rng1 (.var 5)) (.bl true)) .nil))),
 (.set 8 (.tup (.cons (.var 2) (.cons (.var 7) (.cons (.bi .tuple (.cons (.comp (.call 2 (.cons (.var 2) (.cons (.var 6) (.cons (.bin .add (.int 15) (.var 9)) .nil)))) [9] false (.rng1 (.var 5)) (.bl true)) .nil)) .nil))))),
 (.forS [9] false (.rng1 (.ix (.lst (.cons (.int 0) (.cons (.int 0) (.cons (.int 1) (.cons (.int 0) (.cons (.int 2) (.cons (.int 0) (.cons (.int 0) (.cons (.int 3) .nil))))))))) (.bin .mod (.call 1 (.cons (.var 4) (.cons (.int 3) .nil))) (.int 8)))) c_l_drawn_row_1),
 (.kil 9),
 (.ret (.var 8))]
def s_l_drawn_row : Sem1 := run [s_l_cell_at, s_l_mix, s_l_one_number, s_l_made_longer, s_l_taken] [] false 10 4 c_l_drawn_row
def c_ask_far : List PSt :=
[(.ite (.or (.cmp .lt (.var 1) (.int 0)) (.and (.cmp .eq (.ix (.var 0) (.int 0)) (.int 0)) (.cmp .gt (.var 1) (.con 0))))
 [(.raise 4)]
 [])]
def s_ask_far : Sem1 := run [] [cn_FARTHEST] false 2 2 c_ask_far
def c_taken : List PSt :=
[(.ite (.cmp .eq (.var 0) (.int 0))
 [(.ret (.var 1))]
 []),
 (.ret (.bin .mod (.var 1) (.var 0)))]
def s_taken : Sem1 := run [] [] false 2 2 c_taken
def c_trimmed_1 : List PSt :=
[(.pop 2)]
def c_trimmed : List PSt :=
[(.seto 2 (.comp (.call 0 (.cons (.var 0) (.cons (.var 3) .nil))) [3] false (.seq (.var 1)) (.bl true))),
 (.whl LOOPS (.and (.cmp .ne (.bvar 2) (.lst .nil)) (.cmp .eq (.ix (.bvar 2) (.neg (.int 1))) (.int 0))) c_trimmed_1),
 (.ret (.bi .tuple (.cons (.bvar 2) .nil)))]
def s_trimmed : Sem1 := run [s_taken] [] false 4 2 c_trimmed
def c_divided_1 : List PSt :=
[(.setix 3 (.bin .add (.var 5) (.var 6)) (.bin .sub (.ix (.bvar 3) (.bin .add (.var 5) (.var 6))) (.bin .mul (.ix (.bvar 4) (.var 5)) (.var 7)))),
 (.kil 6),
 (.kil 7)]
def c_divided_2 : List PSt :=
[(.setix 4 (.var 5) (.call 0 (.cons (.var 0) (.cons (.ix (.bvar 3) (.bin .sub (.bin .add (.var 5) (.bi .len (.cons (.var 2) .nil))) (.int 1))) .nil)))),
 (.forS [6, 7] true (.enum (.var 2)) c_divided_1),
 (.kil 6),
 (.kil 7),
 (.kil 5),
 (.kil 6),
 (.kil 7)]
def c_divided : List PSt :=
[(.seto 3 (.bi .list (.cons (.var 1) .nil))),
 (.seto 4 (.bin .mul (.lst (.cons (.int 0) .nil)) (.bi .len (.cons (.var 1) .nil)))),
 (.forS [5] false (.rng3 (.bin .sub (.bi .len (.cons (.var 1) .nil)) (.bi .len (.cons (.var 2) .nil))) (.neg (.int 1)) (.neg (.int 1))) c_divided_2),
 (.kil 5),
 (.kil 6),
 (.kil 7),
 (.frz 3),
 (.frz 4),
 (.ret (.tup (.cons (.call 1 (.cons (.var 0) (.cons (.var 4) .nil))) (.cons (.call 1 (.cons (.var 0) (.cons (.var 3) .nil))) .nil))))]
def s_divided : Sem1 := run [s_taken, s_trimmed] [] false 8 3 c_divided
def c_times_1 : List PSt :=
[(.setix 3 (.bin .add (.var 4) (.var 6)) (.bin .add (.ix (.bvar 3) (.bin .add (.var 4) (.var 6))) (.bin .mul (.var 5) (.var 7)))),
 (.kil 6),
 (.kil 7)]
def c_times_2 : List PSt :=
[(.forS [6, 7] true (.enum (.var 2)) c_times_1),
 (.kil 6),
 (.kil 7),
 (.kil 4),
 (.kil 5),
 (.kil 6),
 (.kil 7)]
def c_times : List PSt :=
[(.seto 3 (.bin .mul (.lst (.cons (.int 0) .nil)) (.bin .add (.bi .len (.cons (.var 1) .nil)) (.bi .len (.cons (.var 2) .nil))))),
 (.forS [4, 5] true (.enum (.var 1)) c_times_2),
 (.kil 4),
 (.kil 5),
 (.kil 6),
 (.kil 7),
 (.frz 3),
 (.ret (.call 0 (.cons (.var 0) (.cons (.var 3) .nil))))]
def s_times : Sem1 := run [s_trimmed] [] false 8 3 c_times
def c_power_left_1 : List PSt :=
[(.ite (.cmp .eq (.bin .mod (.var 1) (.int 2)) (.int 1))
 [(.set 3 (.ix (.call 0 (.cons (.var 0) (.cons (.call 1 (.cons (.var 0) (.cons (.var 3) (.cons (.var 4) .nil)))) (.cons (.var 2) .nil)))) (.int 1)))]
 []),
 (.set 4 (.ix (.call 0 (.cons (.var 0) (.cons (.call 1 (.cons (.var 0) (.cons (.var 4) (.cons (.var 4) .nil)))) (.cons (.var 2) .nil)))) (.int 1))),
 (.set 1 (.bin .fdiv (.var 1) (.int 2)))]
def c_power_left : List PSt :=
[(.set 3 (.ix (.call 0 (.cons (.var 0) (.cons (.tup (.cons (.int 1) .nil)) (.cons (.var 2) .nil)))) (.int 1))),
 (.set 4 (.ix (.call 0 (.cons (.var 0) (.cons (.tup (.cons (.int 0) (.cons (.int 1) .nil))) (.cons (.var 2) .nil)))) (.int 1))),
 (.whl LOOPS (.cmp .gt (.var 1) (.int 0)) c_power_left_1),
 (.kil 1),
 (.kil 4),
 (.ret (.var 3))]
def s_power_left : Sem1 := run [s_divided, s_times] [] false 5 3 c_power_left
def c_of_rule : List PSt :=
[(.ret (.bi .tuple (.cons (.bin .add (.comp (.call 0 (.cons (.var 0) (.cons (.bin .sub (.int 0) (.var 2)) .nil))) [2] false (.rev (.var 1)) (.bl true)) (.lst (.cons (.int 1) .nil))) .nil)))]
def s_of_rule : Sem1 := run [s_taken] [] false 3 2 c_of_rule
def c_jump : List PSt :=
[(.exp (.call 0 (.cons (.var 0) (.cons (.var 1) .nil)))),
 (.set 2 (.call 1 (.cons (.ix (.var 0) (.int 0)) (.cons (.var 1) (.cons (.call 2 (.cons (.ix (.var 0) (.int 0)) (.cons (.ix (.var 0) (.int 1)) .nil))) .nil))))),
 (.ret (.bi .tuple (.cons (.bin .add (.bi .list (.cons (.var 2) .nil)) (.bin .mul (.lst (.cons (.int 0) .nil)) (.bin .sub (.bi .len (.cons (.ix (.var 0) (.int 1)) .nil)) (.bi .len (.cons (.var 2) .nil))))) .nil)))]
def s_jump : Sem1 := run [s_ask_far, s_power_left, s_of_rule] [] false 3 2 c_jump
def c_first_places_1 : List PSt :=
[(.set 6 (.bin .add (.var 6) (.bin .mul (.var 8) (.ix (.bvar 2) (.bin .sub (.neg (.int 1)) (.var 7)))))),
 (.kil 7),
 (.kil 8)]
def c_first_places_2 : List PSt :=
[(.set 6 (.int 0)),
 (.forS [7, 8] true (.enum (.var 4)) c_first_places_1),
 (.kil 7),
 (.kil 8),
 (.app 2 (.call 0 (.cons (.var 3) (.cons (.var 6) .nil)))),
 (.kil 6),
 (.kil 7),
 (.kil 8)]
def c_first_places : List PSt :=
[(.unp [3, 4, 5] (.var 0)),
 (.seto 2 (.bi .list (.cons (.sl (.var 5) .non (.var 1)) .nil))),
 (.whl LOOPS (.cmp .lt (.bi .len (.cons (.bvar 2) .nil)) (.var 1)) c_first_places_2),
 (.kil 6),
 (.kil 7),
 (.kil 8),
 (.reto 2)]
def s_first_places : Sem1 := run [s_taken] [] false 9 2 c_first_places
def c_told_by : List PSt :=
[(.set 3 (.call 0 (.cons (.var 0) (.cons (.bin .add (.var 2) (.bi .len (.cons (.var 1) .nil))) .nil)))),
 (.ret (.call 1 (.cons (.ix (.var 0) (.int 0)) (.cons (.bi .sum (.cons (.comp (.bin .mul (.var 5) (.ix (.var 3) (.bin .add (.var 2) (.var 4)))) [4, 5] true (.enum (.var 1)) (.bl true)) .nil)) .nil))))]
def s_told_by : Sem1 := run [s_first_places, s_taken] [] false 6 3 c_told_by
def c_onward : List PSt :=
[(.set 2 (.call 0 (.cons (.var 0) (.cons (.var 1) .nil)))),
 (.ret (.tup (.cons (.ix (.var 0) (.int 0)) (.cons (.ix (.var 0) (.int 1)) (.cons (.bi .tuple (.cons (.comp (.call 1 (.cons (.var 0) (.cons (.var 2) (.cons (.var 3) .nil)))) [3] false (.rng1 (.bi .len (.cons (.ix (.var 0) (.int 1)) .nil))) (.bl true)) .nil)) .nil)))))]
def s_onward : Sem1 := run [s_jump, s_told_by] [] false 4 2 c_onward
def c_l_times_x : List PSt :=
[(.unp [0, 5, 6] (.var 1)),
 (.ite (.cmp .eq (.var 2) (.lst .nil))
 [(.ret (.lst .nil))]
 []),
 (.set 3 (.ix (.var 2) (.neg (.int 1)))),
 (.set 4 (.bin .add (.lst (.cons (.int 0) .nil)) (.sl (.var 2) .non (.neg (.int 1))))),
 (.ret (.comp (.call 0 (.cons (.var 0) (.cons (.bin .add (.ix (.var 4) (.var 7)) (.bin .mul (.var 3) (.ix (.var 5) (.bin .sub (.bin .sub (.bi .len (.cons (.var 5) .nil)) (.int 1)) (.var 7))))) .nil))) [7] false (.rng1 (.bi .len (.cons (.var 5) .nil))) (.bl true)))]
def s_l_times_x : Sem1 := run [s_l_taken] [] false 8 3 c_l_times_x
def c_l_step_by_step_1 : List PSt :=
[(.set 4 (.call 0 (.cons (.var 0) (.cons (.var 1) (.cons (.var 4) .nil))))),
 (.kil 5)]
def c_l_step_by_step : List PSt :=
[(.set 3 (.bi .len (.cons (.ix (.var 1) (.int 1)) .nil))),
 (.set 4 (.bin .add (.lst (.cons (.int 1) .nil)) (.bin .mul (.lst (.cons (.int 0) .nil)) (.bin .sub (.var 3) (.int 1))))),
 (.ite (.cmp .eq (.var 3) (.int 0))
 [(.set 4 (.lst .nil))]
 []),
 (.forS [5] false (.rng1 (.var 2)) c_l_step_by_step_1),
 (.kil 5),
 (.ret (.var 4))]
def s_l_step_by_step : Sem1 := run [s_l_times_x] [] false 6 3 c_l_step_by_step
def c_l_rolled_rests_1 : List PSt :=
[(.set 4 (.comp (.call 0 (.cons (.var 0) (.cons (.bin .add (.ix (.var 4) (.var 7)) (.bin .mul (.var 6) (.ix (.var 5) (.var 7)))) .nil))) [7] false (.rng1 (.bi .len (.cons (.var 2) .nil))) (.bl true))),
 (.set 5 (.call 1 (.cons (.var 0) (.cons (.var 1) (.cons (.var 5) .nil))))),
 (.kil 6)]
def c_l_rolled_rests : List PSt :=
[(.set 4 (.bin .mul (.lst (.cons (.int 0) .nil)) (.bi .len (.cons (.var 2) .nil)))),
 (.set 5 (.bi .list (.cons (.var 3) .nil))),
 (.forS [6] false (.seq (.var 2)) c_l_rolled_rests_1),
 (.kil 5),
 (.kil 6),
 (.ret (.var 4))]
def s_l_rolled_rests : Sem1 := run [s_l_taken, s_l_times_x] [] false 8 4 c_l_rolled_rests
def c_l_rest_far_1 : List PSt :=
[(.ite (.cmp .eq (.bin .mod (.var 2) (.int 2)) (.int 1))
 [(.set 3 (.call 1 (.cons (.var 0) (.cons (.var 1) (.cons (.var 3) (.cons (.var 4) .nil))))))]
 []),
 (.set 4 (.call 1 (.cons (.var 0) (.cons (.var 1) (.cons (.var 4) (.cons (.var 4) .nil)))))),
 (.set 2 (.bin .fdiv (.var 2) (.int 2)))]
def c_l_rest_far : List PSt :=
[(.set 3 (.call 0 (.cons (.var 0) (.cons (.var 1) (.cons (.int 0) .nil))))),
 (.set 4 (.call 0 (.cons (.var 0) (.cons (.var 1) (.cons (.int 1) .nil))))),
 (.whl LOOPS (.cmp .gt (.var 2) (.int 0)) c_l_rest_far_1),
 (.kil 2),
 (.kil 4),
 (.ret (.var 3))]
def s_l_rest_far : Sem1 := run [s_l_step_by_step, s_l_rolled_rests] [] false 5 3 c_l_rest_far
def c_l_refused : List PSt :=
[(.set 1 .non),
 (.tryS [(.told none 0)] [4] 2
 [(.set 1 (.var 2))]),
 (.kil 2),
 (.ite (.or (.isx (.var 1) [some 2, some 8, some 1, some 7, some 3, some 6, some 5] [4]) (.not (.isx (.var 1) [none] [4])))
 [(.ret (.bl false))]
 []),
 (.ret (.isx (.var 1) [some 4] [4]))]
def s_l_refused : R PV → R PV := runL [] [] 3 c_l_refused
def c_place_at : List PSt :=
[(.ret (.call 0 (.cons (.var 0) (.cons (.call 1 (.cons (.var 0) (.cons (.var 1) .nil))) (.cons (.int 0) .nil)))))]
def s_place_at : Sem1 := run [s_told_by, s_jump] [] false 2 2 c_place_at
def c_l_all_refused : List PSt :=
[(.ite (.not (.lam 3 (.call 0 (.cons (.var 0) (.cons (.var 1) .nil)))))
 [(.ret (.bl false))]
 []),
 (.ite (.not (.lam 3 (.call 1 (.cons (.var 0) (.cons (.var 1) .nil)))))
 [(.ret (.bl false))]
 []),
 (.ret (.lam 3 (.call 2 (.cons (.var 0) (.cons (.var 1) .nil)))))]
def s_l_all_refused : Sem1 := run [s_jump, s_onward, s_place_at, encL s_l_refused] [] false 2 2 c_l_all_refused
def c_l_is_row : List PSt :=
[(.ite (.or (.not (.isa (.var 0) .tuple)) (.or (.cmp .ne (.var 0) (.var 1)) (.not (.isa (.ix (.var 0) (.int 1)) .tuple))))
 [(.ret (.bl false))]
 []),
 (.ret (.and (.isa (.ix (.var 0) (.int 2)) .tuple) (.cmp .eq (.comp (.var 2) [2] false (.seq (.ix (.var 0) (.int 2))) (.isa (.var 2) .bool)) (.lst .nil))))]
def s_l_is_row : Sem1 := run [] [] false 3 2 c_l_is_row
def c_law_1 : List PSt :=
[(.set 8 (.call 5 (.cons (.var 2) (.cons (.var 6) .nil)))),
 (.ite (.not (.call 6 (.cons (.var 8) (.cons (.tup (.cons (.var 1) (.cons (.ix (.var 2) (.int 1)) (.cons (.bi .tuple (.cons (.sl (.var 5) (.var 6) (.bin .add (.var 6) (.var 4))) .nil)) .nil)))) .nil))))
 [(.ret (.bl false))]
 []),
 (.ite (.cmp .ne (.call 3 (.cons (.var 8) (.cons (.int 15) .nil))) (.sl (.var 5) (.var 6) (.bin .add (.var 6) (.int 15))))
 [(.ret (.bl false))]
 []),
 (.kil 6),
 (.kil 8)]
def c_law_2 : List PSt :=
[(.app 9 (.call 8 (.cons (.var 1) (.cons (.bi .sum (.cons (.comp (.bin .mul (.ix (.var 10) (.var 12)) (.ix (.var 5) (.bin .add (.var 11) (.var 12)))) [12] false (.rng1 (.var 4)) (.bl true)) .nil)) .nil)))),
 (.kil 11)]
def c_law : List PSt :=
[(.set 1 (.call 0 (.cons (.call 1 (.cons (.var 0) (.cons (.int 0) .nil))) .nil))),
 (.set 2 (.call 2 (.cons (.var 0) (.cons (.int 1) (.cons (.var 1) (.cons (.int 12) .nil)))))),
 (.set 3 (.call 1 (.cons (.var 0) (.cons (.int 3) .nil)))),
 (.set 4 (.bi .len (.cons (.ix (.var 2) (.int 1)) .nil))),
 (.set 5 (.call 3 (.cons (.var 2) (.cons (.int 420) .nil)))),
 (.forS [6] false (.seq (.lst (.cons (.int 0) (.cons (.bin .mod (.call 4 (.cons (.var 3) (.cons (.int 1) .nil))) (.int 401)) (.cons (.int 400) .nil))))) c_law_1),
 (.kil 6),
 (.kil 8),
 (.set 7 (.bin .mod (.bin .mul (.bin .add (.var 3) (.int 3)) (.bin .pow (.int 982451653) (.int 7))) (.bin .pow (.int 10) (.int 59)))),
 (.ite (.cmp .gt (.var 1) (.int 0))
 [(.seto 9 (.lst .nil)), (.set 10 (.call 7 (.cons (.var 1) (.cons (.var 2) (.cons (.var 7) .nil))))), (.forS [11] false (.rng1 (.var 4)) c_law_2), (.kil 11), (.ite (.not (.call 6 (.cons (.call 5 (.cons (.var 2) (.cons (.var 7) .nil))) (.cons (.tup (.cons (.var 1) (.cons (.ix (.var 2) (.int 1)) (.cons (.bi .tuple (.cons (.bvar 9) .nil)) .nil)))) .nil))))
 [(.ret (.bl false))]
 [])]
 [(.ite (.or (.not (.call 9 (.cons (.var 2) (.cons (.int 401) .nil)))) (.not (.call 9 (.cons (.var 2) (.cons (.bin .add (.int 401) (.var 7)) .nil)))))
 [(.ret (.bl false))]
 [])]),
 (.kil 9),
 (.kil 10),
 (.kil 11),
 (.ret (.and (.call 9 (.cons (.var 2) (.cons (.neg (.int 1)) .nil))) (.call 9 (.cons (.var 2) (.cons (.bin .sub (.neg (.int 1)) (.var 7)) .nil)))))]
def s_law : Sem1 := run [s_l_drawn_by, s_l_cell_at, s_l_drawn_row, s_l_places, s_l_mix, s_onward, s_l_is_row, s_l_rest_far, s_l_taken, s_l_all_refused] [] false 13 1 c_law
end Lw

set_option Elab.async false
set_option linter.all false
set_option maxRecDepth 100000
set_option autoImplicit false
namespace Lw
open Pf
theorem taken_ok {b n : Int} (hb : 0 ≤ b) : s_taken [.int b, .int n] = .ok (.int (tk b n)) := by
  refine run_ret rfl ?_
  show evSs [] [] false c_taken [.sh (.int b), .sh (.int n)] = _
  by_cases h : b = 0
  · subst h
    simp -implicitDefEqProofs only [c_taken, evSs, evS, evE, evEs, evI, RS.of_ok, RS.of_exn, RS.ofL_ok, RS.ofL_exn, RS.then_next, RS.then_ret, RS.then_brk, RS.then_cnt, RS.then_exn, RS.ifB_t, RS.ifB_f, RS.caught_next, RS.caught_ret, RS.caught_exn, RS.suite_next, RS.suite_ret, pIsx, pIs, pIsN, lamR_enc_ok, lamR_enc_exn, Pf.toldTo, R.bind_ok, R.bind_exn, pBin, pCmp, pAdd, pSub, pNeg, pLt, pLe, pNot, pIx, pSeq, pInt, getE, getB, setOwR, Pf.putAt, Pf.popTo, Pf.scrTo, Pf.unpTo, pIsa, asgT, setAll, killAll, PX.isN, PX.isB, PXs.hasB, Bool.false_eq_true, Bool.or_false, Bool.or_self, List.getElem?_cons_zero, List.getElem?_cons_succ, List.set_cons_zero, List.set_cons_succ, List.length_cons, List.length_nil, List.getD_cons_zero, List.getD_cons_succ, Nat.reduceAdd, Nat.reduceLT, Nat.zero_lt_succ, Nat.zero_add, ite_self, Bool.false_or, Bool.true_or, iL_len, Int.cast_ofNat_Int, Bool.and_true, Bool.true_and, bi_len_lst, bi_len_tup, bi_len_rl, bi_list_lst, bi_list_tup, bi_list_rl, bi_tuple_lst, bi_tuple_tup, bi_tuple_rl, bi_int_int, bi_int_b, at_two, int_if, at3_0, at3_1, at3_2, at2_0, at2_1, List.take_succ_cons, List.take_zero, List.drop_succ_cons, List.drop_zero, sum_ok, sl_lst, sl_tup, sl_rl, part_t, part_f, if_true, if_false, ite_true, ite_false, reduceIte, Nat.reduceLeDiff, Nat.reduceSub, eq_self, and_self, and_true, true_and, eq_int, decide_true, tk0]
  · have hp : 0 < b := by omega
    simp -implicitDefEqProofs only [c_taken, evSs, evS, evE, evEs, evI, RS.of_ok, RS.of_exn, RS.ofL_ok, RS.ofL_exn, RS.then_next, RS.then_ret, RS.then_brk, RS.then_cnt, RS.then_exn, RS.ifB_t, RS.ifB_f, RS.caught_next, RS.caught_ret, RS.caught_exn, RS.suite_next, RS.suite_ret, pIsx, pIs, pIsN, lamR_enc_ok, lamR_enc_exn, Pf.toldTo, R.bind_ok, R.bind_exn, pBin, pCmp, pAdd, pSub, pNeg, pLt, pLe, pNot, pIx, pSeq, pInt, getE, getB, setOwR, Pf.putAt, Pf.popTo, Pf.scrTo, Pf.unpTo, pIsa, asgT, setAll, killAll, PX.isN, PX.isB, PXs.hasB, Bool.false_eq_true, Bool.or_false, Bool.or_self, List.getElem?_cons_zero, List.getElem?_cons_succ, List.set_cons_zero, List.set_cons_succ, List.length_cons, List.length_nil, List.getD_cons_zero, List.getD_cons_succ, Nat.reduceAdd, Nat.reduceLT, Nat.zero_lt_succ, Nat.zero_add, ite_self, Bool.false_or, Bool.true_or, iL_len, Int.cast_ofNat_Int, Bool.and_true, Bool.true_and, bi_len_lst, bi_len_tup, bi_len_rl, bi_list_lst, bi_list_tup, bi_list_rl, bi_tuple_lst, bi_tuple_tup, bi_tuple_rl, bi_int_int, bi_int_b, at_two, int_if, at3_0, at3_1, at3_2, at2_0, at2_1, List.take_succ_cons, List.take_zero, List.drop_succ_cons, List.drop_zero, sum_ok, sl_lst, sl_tup, sl_rl, part_t, part_f, if_true, if_false, ite_true, ite_false, reduceIte, Nat.reduceLeDiff, Nat.reduceSub, eq_self, and_self, and_true, true_and, eq_int, h, decide_false, mod_pos hp, tk_pos hp]
theorem trimmed_ok {b : Int} (hb : 0 ≤ b) {v : PV} {xs : List Int} (hv : v = .lst (iL xs) ∨ v = .tup (iL xs)) (hl : xs.length ≤ 1000) : s_trimmed [.int b, v] = .ok (.tup (iL (trim (xs.map (tk b))))) := by
  have hl' : xs.length ≤ LIM := Nat.le_trans hl (by decide)
  have hLo : LOOPS = 1000000000 := rfl
  refine run_ret rfl ?_
  show evSs [s_taken] [] false c_trimmed [.sh (.int b), .sh v, .no, .no] = _
  rcases hv with rfl | rfl
  all_goals
    simp -implicitDefEqProofs only [c_trimmed, evSs, evS, evE, evEs, evI, RS.of_ok, RS.of_exn, RS.ofL_ok, RS.ofL_exn, RS.then_next, RS.then_ret, RS.then_brk, RS.then_cnt, RS.then_exn, RS.ifB_t, RS.ifB_f, RS.caught_next, RS.caught_ret, RS.caught_exn, RS.suite_next, RS.suite_ret, pIsx, pIs, pIsN, lamR_enc_ok, lamR_enc_exn, Pf.toldTo, R.bind_ok, R.bind_exn, pBin, pCmp, pAdd, pSub, pNeg, pLt, pLe, pNot, pIx, pSeq, pInt, getE, getB, setOwR, Pf.putAt, Pf.popTo, Pf.scrTo, Pf.unpTo, pIsa, asgT, setAll, killAll, PX.isN, PX.isB, PXs.hasB, Bool.false_eq_true, Bool.or_false, Bool.or_self, List.getElem?_cons_zero, List.getElem?_cons_succ, List.set_cons_zero, List.set_cons_succ, List.length_cons, List.length_nil, List.getD_cons_zero, List.getD_cons_succ, Nat.reduceAdd, Nat.reduceLT, Nat.zero_lt_succ, Nat.zero_add, ite_self, Bool.false_or, Bool.true_or, iL_len, Int.cast_ofNat_Int, Bool.and_true, Bool.true_and, bi_len_lst, bi_len_tup, bi_len_rl, bi_list_lst, bi_list_tup, bi_list_rl, bi_tuple_lst, bi_tuple_tup, bi_tuple_rl, bi_int_int, bi_int_b, at_two, int_if, at3_0, at3_1, at3_2, at2_0, at2_1, List.take_succ_cons, List.take_zero, List.drop_succ_cons, List.drop_zero, sum_ok, sl_lst, sl_tup, sl_rl, part_t, part_f, if_true, if_false, ite_true, ite_false, reduceIte, Nat.reduceLeDiff, Nat.reduceSub, eq_self, and_self, and_true, true_and]
    rw [compL_iL (tk b) xs ?hc]
    case hc =>
      intro x hx
      exact ⟨_, rfl, rfl, by simp -implicitDefEqProofs only [evSs, evS, evE, evEs, evI, RS.of_ok, RS.of_exn, RS.ofL_ok, RS.ofL_exn, RS.then_next, RS.then_ret, RS.then_brk, RS.then_cnt, RS.then_exn, RS.ifB_t, RS.ifB_f, RS.caught_next, RS.caught_ret, RS.caught_exn, RS.suite_next, RS.suite_ret, pIsx, pIs, pIsN, lamR_enc_ok, lamR_enc_exn, Pf.toldTo, R.bind_ok, R.bind_exn, pBin, pCmp, pAdd, pSub, pNeg, pLt, pLe, pNot, pIx, pSeq, pInt, getE, getB, setOwR, Pf.putAt, Pf.popTo, Pf.scrTo, Pf.unpTo, pIsa, asgT, setAll, killAll, PX.isN, PX.isB, PXs.hasB, Bool.false_eq_true, Bool.or_false, Bool.or_self, List.getElem?_cons_zero, List.getElem?_cons_succ, List.set_cons_zero, List.set_cons_succ, List.length_cons, List.length_nil, List.getD_cons_zero, List.getD_cons_succ, Nat.reduceAdd, Nat.reduceLT, Nat.zero_lt_succ, Nat.zero_add, ite_self, Bool.false_or, Bool.true_or, iL_len, Int.cast_ofNat_Int, Bool.and_true, Bool.true_and, bi_len_lst, bi_len_tup, bi_len_rl, bi_list_lst, bi_list_tup, bi_list_rl, bi_tuple_lst, bi_tuple_tup, bi_tuple_rl, bi_int_int, bi_int_b, at_two, int_if, at3_0, at3_1, at3_2, at2_0, at2_1, List.take_succ_cons, List.take_zero, List.drop_succ_cons, List.drop_zero, sum_ok, sl_lst, sl_tup, sl_rl, part_t, part_f, if_true, if_false, ite_true, ite_false, reduceIte, Nat.reduceLeDiff, Nat.reduceSub, eq_self, and_self, and_true, true_and, taken_ok hb]⟩
    simp -implicitDefEqProofs only [evSs, evS, evE, evEs, evI, RS.of_ok, RS.of_exn, RS.ofL_ok, RS.ofL_exn, RS.then_next, RS.then_ret, RS.then_brk, RS.then_cnt, RS.then_exn, RS.ifB_t, RS.ifB_f, RS.caught_next, RS.caught_ret, RS.caught_exn, RS.suite_next, RS.suite_ret, pIsx, pIs, pIsN, lamR_enc_ok, lamR_enc_exn, Pf.toldTo, R.bind_ok, R.bind_exn, pBin, pCmp, pAdd, pSub, pNeg, pLt, pLe, pNot, pIx, pSeq, pInt, getE, getB, setOwR, Pf.putAt, Pf.popTo, Pf.scrTo, Pf.unpTo, pIsa, asgT, setAll, killAll, PX.isN, PX.isB, PXs.hasB, Bool.false_eq_true, Bool.or_false, Bool.or_self, List.getElem?_cons_zero, List.getElem?_cons_succ, List.set_cons_zero, List.set_cons_succ, List.length_cons, List.length_nil, List.getD_cons_zero, List.getD_cons_succ, Nat.reduceAdd, Nat.reduceLT, Nat.zero_lt_succ, Nat.zero_add, ite_self, Bool.false_or, Bool.true_or, iL_len, Int.cast_ofNat_Int, Bool.and_true, Bool.true_and, bi_len_lst, bi_len_tup, bi_len_rl, bi_list_lst, bi_list_tup, bi_list_rl, bi_tuple_lst, bi_tuple_tup, bi_tuple_rl, bi_int_int, bi_int_b, at_two, int_if, at3_0, at3_1, at3_2, at2_0, at2_1, List.take_succ_cons, List.take_zero, List.drop_succ_cons, List.drop_zero, sum_ok, sl_lst, sl_tup, sl_rl, part_t, part_f, if_true, if_false, ite_true, ite_false, reduceIte, Nat.reduceLeDiff, Nat.reduceSub, eq_self, and_self, and_true, true_and, iL_len, hl']
    rw [trim_loop (fun zs => [.sh (.int b), .sh _, .ow (iL zs), .no]) ?h0 ?h1 ?h2 _ _ ?hm]
    case h0 => simp -implicitDefEqProofs only [evSs, evS, evE, evEs, evI, RS.of_ok, RS.of_exn, RS.ofL_ok, RS.ofL_exn, RS.then_next, RS.then_ret, RS.then_brk, RS.then_cnt, RS.then_exn, RS.ifB_t, RS.ifB_f, RS.caught_next, RS.caught_ret, RS.caught_exn, RS.suite_next, RS.suite_ret, pIsx, pIs, pIsN, lamR_enc_ok, lamR_enc_exn, Pf.toldTo, R.bind_ok, R.bind_exn, pBin, pCmp, pAdd, pSub, pNeg, pLt, pLe, pNot, pIx, pSeq, pInt, getE, getB, setOwR, Pf.putAt, Pf.popTo, Pf.scrTo, Pf.unpTo, pIsa, asgT, setAll, killAll, PX.isN, PX.isB, PXs.hasB, Bool.false_eq_true, Bool.or_false, Bool.or_self, List.getElem?_cons_zero, List.getElem?_cons_succ, List.set_cons_zero, List.set_cons_succ, List.length_cons, List.length_nil, List.getD_cons_zero, List.getD_cons_succ, Nat.reduceAdd, Nat.reduceLT, Nat.zero_lt_succ, Nat.zero_add, ite_self, Bool.false_or, Bool.true_or, iL_len, Int.cast_ofNat_Int, Bool.and_true, Bool.true_and, bi_len_lst, bi_len_tup, bi_len_rl, bi_list_lst, bi_list_tup, bi_list_rl, bi_tuple_lst, bi_tuple_tup, bi_tuple_rl, bi_int_int, bi_int_b, at_two, int_if, at3_0, at3_1, at3_2, at2_0, at2_1, List.take_succ_cons, List.take_zero, List.drop_succ_cons, List.drop_zero, sum_ok, sl_lst, sl_tup, sl_rl, part_t, part_f, if_true, if_false, ite_true, ite_false, reduceIte, Nat.reduceLeDiff, Nat.reduceSub, eq_self, and_self, and_true, true_and, ne_lst0, decide_true, Bool.not_true]
    case h1 =>
      intro ys y
      simp -implicitDefEqProofs only [evSs, evS, evE, evEs, evI, RS.of_ok, RS.of_exn, RS.ofL_ok, RS.ofL_exn, RS.then_next, RS.then_ret, RS.then_brk, RS.then_cnt, RS.then_exn, RS.ifB_t, RS.ifB_f, RS.caught_next, RS.caught_ret, RS.caught_exn, RS.suite_next, RS.suite_ret, pIsx, pIs, pIsN, lamR_enc_ok, lamR_enc_exn, Pf.toldTo, R.bind_ok, R.bind_exn, pBin, pCmp, pAdd, pSub, pNeg, pLt, pLe, pNot, pIx, pSeq, pInt, getE, getB, setOwR, Pf.putAt, Pf.popTo, Pf.scrTo, Pf.unpTo, pIsa, asgT, setAll, killAll, PX.isN, PX.isB, PXs.hasB, Bool.false_eq_true, Bool.or_false, Bool.or_self, List.getElem?_cons_zero, List.getElem?_cons_succ, List.set_cons_zero, List.set_cons_succ, List.length_cons, List.length_nil, List.getD_cons_zero, List.getD_cons_succ, Nat.reduceAdd, Nat.reduceLT, Nat.zero_lt_succ, Nat.zero_add, ite_self, Bool.false_or, Bool.true_or, iL_len, Int.cast_ofNat_Int, Bool.and_true, Bool.true_and, bi_len_lst, bi_len_tup, bi_len_rl, bi_list_lst, bi_list_tup, bi_list_rl, bi_tuple_lst, bi_tuple_tup, bi_tuple_rl, bi_int_int, bi_int_b, at_two, int_if, at3_0, at3_1, at3_2, at2_0, at2_1, List.take_succ_cons, List.take_zero, List.drop_succ_cons, List.drop_zero, sum_ok, sl_lst, sl_tup, sl_rl, part_t, part_f, if_true, if_false, ite_true, ite_false, reduceIte, Nat.reduceLeDiff, Nat.reduceSub, eq_self, and_self, and_true, true_and, ne_lst0, List.append_eq_nil_iff, List.cons_ne_nil, and_false, decide_false, Bool.not_false, pAt_snoc, eq_int]
    case h2 =>
      intro ys y
      simp -implicitDefEqProofs only [c_trimmed_1, evSs, evS, evE, evEs, evI, RS.of_ok, RS.of_exn, RS.ofL_ok, RS.ofL_exn, RS.then_next, RS.then_ret, RS.then_brk, RS.then_cnt, RS.then_exn, RS.ifB_t, RS.ifB_f, RS.caught_next, RS.caught_ret, RS.caught_exn, RS.suite_next, RS.suite_ret, pIsx, pIs, pIsN, lamR_enc_ok, lamR_enc_exn, Pf.toldTo, R.bind_ok, R.bind_exn, pBin, pCmp, pAdd, pSub, pNeg, pLt, pLe, pNot, pIx, pSeq, pInt, getE, getB, setOwR, Pf.putAt, Pf.popTo, Pf.scrTo, Pf.unpTo, pIsa, asgT, setAll, killAll, PX.isN, PX.isB, PXs.hasB, Bool.false_eq_true, Bool.or_false, Bool.or_self, List.getElem?_cons_zero, List.getElem?_cons_succ, List.set_cons_zero, List.set_cons_succ, List.length_cons, List.length_nil, List.getD_cons_zero, List.getD_cons_succ, Nat.reduceAdd, Nat.reduceLT, Nat.zero_lt_succ, Nat.zero_add, ite_self, Bool.false_or, Bool.true_or, iL_len, Int.cast_ofNat_Int, Bool.and_true, Bool.true_and, bi_len_lst, bi_len_tup, bi_len_rl, bi_list_lst, bi_list_tup, bi_list_rl, bi_tuple_lst, bi_tuple_tup, bi_tuple_rl, bi_int_int, bi_int_b, at_two, int_if, at3_0, at3_1, at3_2, at2_0, at2_1, List.take_succ_cons, List.take_zero, List.drop_succ_cons, List.drop_zero, sum_ok, sl_lst, sl_tup, sl_rl, part_t, part_f, if_true, if_false, ite_true, ite_false, reduceIte, Nat.reduceLeDiff, Nat.reduceSub, eq_self, and_self, and_true, true_and, iL_eq_nil, List.append_eq_nil_iff, List.cons_ne_nil, and_false, iL_dropLast, List.dropLast_concat]
    case hm => rw [List.length_map]; omega
    simp -implicitDefEqProofs only [evSs, evS, evE, evEs, evI, RS.of_ok, RS.of_exn, RS.ofL_ok, RS.ofL_exn, RS.then_next, RS.then_ret, RS.then_brk, RS.then_cnt, RS.then_exn, RS.ifB_t, RS.ifB_f, RS.caught_next, RS.caught_ret, RS.caught_exn, RS.suite_next, RS.suite_ret, pIsx, pIs, pIsN, lamR_enc_ok, lamR_enc_exn, Pf.toldTo, R.bind_ok, R.bind_exn, pBin, pCmp, pAdd, pSub, pNeg, pLt, pLe, pNot, pIx, pSeq, pInt, getE, getB, setOwR, Pf.putAt, Pf.popTo, Pf.scrTo, Pf.unpTo, pIsa, asgT, setAll, killAll, PX.isN, PX.isB, PXs.hasB, Bool.false_eq_true, Bool.or_false, Bool.or_self, List.getElem?_cons_zero, List.getElem?_cons_succ, List.set_cons_zero, List.set_cons_succ, List.length_cons, List.length_nil, List.getD_cons_zero, List.getD_cons_succ, Nat.reduceAdd, Nat.reduceLT, Nat.zero_lt_succ, Nat.zero_add, ite_self, Bool.false_or, Bool.true_or, iL_len, Int.cast_ofNat_Int, Bool.and_true, Bool.true_and, bi_len_lst, bi_len_tup, bi_len_rl, bi_list_lst, bi_list_tup, bi_list_rl, bi_tuple_lst, bi_tuple_tup, bi_tuple_rl, bi_int_int, bi_int_b, at_two, int_if, at3_0, at3_1, at3_2, at2_0, at2_1, List.take_succ_cons, List.take_zero, List.drop_succ_cons, List.drop_zero, sum_ok, sl_lst, sl_tup, sl_rl, part_t, part_f, if_true, if_false, ite_true, ite_false, reduceIte, Nat.reduceLeDiff, Nat.reduceSub, eq_self, and_self, and_true, true_and]
theorem times_1 {v0 v1 v2 : SV} (k : Nat) (number : Int) (m : Nat) (zs : List Int) (F : Nat → Int) (hm : k + zs.length ≤ m) (hn : bd 1000000 number) (hz : ∀ z ∈ zs, bd 1000000 z) :
    forL (asgT [6, 7] true) (evSs [s_trimmed] [] false c_times_1) (pEnum (iL zs)) [v0, v1, v2, .ow (iL ((List.range m).map F)), .sh (.int (k : Int)), .sh (.int number), .no, .no] =
      .next [v0, v1, v2, .ow (iL ((List.range m).map fun t => F t + if k ≤ t then number * cf zs (t - k) else 0)), .sh (.int (k : Int)), .sh (.int number), .no, .no] := by
  have h := forL_enum (asg := asgT [6, 7] true) (body := evSs [s_trimmed] [] false c_times_1) zs (fun i => [v0, v1, v2, .ow (iL ((List.range m).map fun t => F t + if k ≤ t ∧ t - k < i then number * cf zs (t - k) else 0)), .sh (.int (k : Int)), .sh (.int number), .no, .no]) fun i hi => by
    refine ⟨_, rfl, .inl ?_⟩
    simp -implicitDefEqProofs only [c_times_1, evSs, evS, evE, evEs, evI, RS.of_ok, RS.of_exn, RS.ofL_ok, RS.ofL_exn, RS.then_next, RS.then_ret, RS.then_brk, RS.then_cnt, RS.then_exn, RS.ifB_t, RS.ifB_f, RS.caught_next, RS.caught_ret, RS.caught_exn, RS.suite_next, RS.suite_ret, pIsx, pIs, pIsN, lamR_enc_ok, lamR_enc_exn, Pf.toldTo, R.bind_ok, R.bind_exn, pBin, pCmp, pAdd, pSub, pNeg, pLt, pLe, pNot, pIx, pSeq, pInt, getE, getB, setOwR, Pf.putAt, Pf.popTo, Pf.scrTo, Pf.unpTo, pIsa, asgT, setAll, killAll, PX.isN, PX.isB, PXs.hasB, Bool.false_eq_true, Bool.or_false, Bool.or_self, List.getElem?_cons_zero, List.getElem?_cons_succ, List.set_cons_zero, List.set_cons_succ, List.length_cons, List.length_nil, List.getD_cons_zero, List.getD_cons_succ, Nat.reduceAdd, Nat.reduceLT, Nat.zero_lt_succ, Nat.zero_add, ite_self, Bool.false_or, Bool.true_or, iL_len, Int.cast_ofNat_Int, Bool.and_true, Bool.true_and, bi_len_lst, bi_len_tup, bi_len_rl, bi_list_lst, bi_list_tup, bi_list_rl, bi_tuple_lst, bi_tuple_tup, bi_tuple_rl, bi_int_int, bi_int_b, at_two, int_if, at3_0, at3_1, at3_2, at2_0, at2_1, List.take_succ_cons, List.take_zero, List.drop_succ_cons, List.drop_zero, sum_ok, sl_lst, sl_tup, sl_rl, part_t, part_f, if_true, if_false, ite_true, ite_false, reduceIte, Nat.reduceLeDiff, Nat.reduceSub, eq_self, and_self, and_true, true_and, ← Int.natCast_add]
    rw [pAt_cfn _ _ (by simp; omega)]
    simp -implicitDefEqProofs only [evSs, evS, evE, evEs, evI, RS.of_ok, RS.of_exn, RS.ofL_ok, RS.ofL_exn, RS.then_next, RS.then_ret, RS.then_brk, RS.then_cnt, RS.then_exn, RS.ifB_t, RS.ifB_f, RS.caught_next, RS.caught_ret, RS.caught_exn, RS.suite_next, RS.suite_ret, pIsx, pIs, pIsN, lamR_enc_ok, lamR_enc_exn, Pf.toldTo, R.bind_ok, R.bind_exn, pBin, pCmp, pAdd, pSub, pNeg, pLt, pLe, pNot, pIx, pSeq, pInt, getE, getB, setOwR, Pf.putAt, Pf.popTo, Pf.scrTo, Pf.unpTo, pIsa, asgT, setAll, killAll, PX.isN, PX.isB, PXs.hasB, Bool.false_eq_true, Bool.or_false, Bool.or_self, List.getElem?_cons_zero, List.getElem?_cons_succ, List.set_cons_zero, List.set_cons_succ, List.length_cons, List.length_nil, List.getD_cons_zero, List.getD_cons_succ, Nat.reduceAdd, Nat.reduceLT, Nat.zero_lt_succ, Nat.zero_add, ite_self, Bool.false_or, Bool.true_or, iL_len, Int.cast_ofNat_Int, Bool.and_true, Bool.true_and, bi_len_lst, bi_len_tup, bi_len_rl, bi_list_lst, bi_list_tup, bi_list_rl, bi_tuple_lst, bi_tuple_tup, bi_tuple_rl, bi_int_int, bi_int_b, at_two, int_if, at3_0, at3_1, at3_2, at2_0, at2_1, List.take_succ_cons, List.take_zero, List.drop_succ_cons, List.drop_zero, sum_ok, sl_lst, sl_tup, sl_rl, part_t, part_f, if_true, if_false, ite_true, ite_false, reduceIte, Nat.reduceLeDiff, Nat.reduceSub, eq_self, and_self, and_true, true_and, iL_len, List.length_map, List.length_range]
    rw [mul_bd hn (hz _ (cf_mem hi)) (by decide) (by decide)]
    simp -implicitDefEqProofs only [evSs, evS, evE, evEs, evI, RS.of_ok, RS.of_exn, RS.ofL_ok, RS.ofL_exn, RS.then_next, RS.then_ret, RS.then_brk, RS.then_cnt, RS.then_exn, RS.ifB_t, RS.ifB_f, RS.caught_next, RS.caught_ret, RS.caught_exn, RS.suite_next, RS.suite_ret, pIsx, pIs, pIsN, lamR_enc_ok, lamR_enc_exn, Pf.toldTo, R.bind_ok, R.bind_exn, pBin, pCmp, pAdd, pSub, pNeg, pLt, pLe, pNot, pIx, pSeq, pInt, getE, getB, setOwR, Pf.putAt, Pf.popTo, Pf.scrTo, Pf.unpTo, pIsa, asgT, setAll, killAll, PX.isN, PX.isB, PXs.hasB, Bool.false_eq_true, Bool.or_false, Bool.or_self, List.getElem?_cons_zero, List.getElem?_cons_succ, List.set_cons_zero, List.set_cons_succ, List.length_cons, List.length_nil, List.getD_cons_zero, List.getD_cons_succ, Nat.reduceAdd, Nat.reduceLT, Nat.zero_lt_succ, Nat.zero_add, ite_self, Bool.false_or, Bool.true_or, iL_len, Int.cast_ofNat_Int, Bool.and_true, Bool.true_and, bi_len_lst, bi_len_tup, bi_len_rl, bi_list_lst, bi_list_tup, bi_list_rl, bi_tuple_lst, bi_tuple_tup, bi_tuple_rl, bi_int_int, bi_int_b, at_two, int_if, at3_0, at3_1, at3_2, at2_0, at2_1, List.take_succ_cons, List.take_zero, List.drop_succ_cons, List.drop_zero, sum_ok, sl_lst, sl_tup, sl_rl, part_t, part_f, if_true, if_false, ite_true, ite_false, reduceIte, Nat.reduceLeDiff, Nat.reduceSub, eq_self, and_self, and_true, true_and, iL_len, List.length_map, List.length_range]
    rw [ixN_nat _ _ (by omega)]
    simp -implicitDefEqProofs only [evSs, evS, evE, evEs, evI, RS.of_ok, RS.of_exn, RS.ofL_ok, RS.ofL_exn, RS.then_next, RS.then_ret, RS.then_brk, RS.then_cnt, RS.then_exn, RS.ifB_t, RS.ifB_f, RS.caught_next, RS.caught_ret, RS.caught_exn, RS.suite_next, RS.suite_ret, pIsx, pIs, pIsN, lamR_enc_ok, lamR_enc_exn, Pf.toldTo, R.bind_ok, R.bind_exn, pBin, pCmp, pAdd, pSub, pNeg, pLt, pLe, pNot, pIx, pSeq, pInt, getE, getB, setOwR, Pf.putAt, Pf.popTo, Pf.scrTo, Pf.unpTo, pIsa, asgT, setAll, killAll, PX.isN, PX.isB, PXs.hasB, Bool.false_eq_true, Bool.or_false, Bool.or_self, List.getElem?_cons_zero, List.getElem?_cons_succ, List.set_cons_zero, List.set_cons_succ, List.length_cons, List.length_nil, List.getD_cons_zero, List.getD_cons_succ, Nat.reduceAdd, Nat.reduceLT, Nat.zero_lt_succ, Nat.zero_add, ite_self, Bool.false_or, Bool.true_or, iL_len, Int.cast_ofNat_Int, Bool.and_true, Bool.true_and, bi_len_lst, bi_len_tup, bi_len_rl, bi_list_lst, bi_list_tup, bi_list_rl, bi_tuple_lst, bi_tuple_tup, bi_tuple_rl, bi_int_int, bi_int_b, at_two, int_if, at3_0, at3_1, at3_2, at2_0, at2_1, List.take_succ_cons, List.take_zero, List.drop_succ_cons, List.drop_zero, sum_ok, sl_lst, sl_tup, sl_rl, part_t, part_f, if_true, if_false, ite_true, ite_false, reduceIte, Nat.reduceLeDiff, Nat.reduceSub, eq_self, and_self, and_true, true_and, iL_set, rng_set, cf_rng _ (show k + i < m by omega)]
    rw [rng_congr (f := fun t => if t = k + i then _ else _) (g := fun t => F t + if k ≤ t ∧ t - k < i + 1 then number * cf zs (t - k) else 0)]
    intro t ht
    by_cases h1 : t = k + i
    · subst h1
      rw [if_pos rfl, if_neg (by omega), if_pos (by omega), Nat.add_sub_cancel_left, Int.add_zero]
    · rw [if_neg h1]
      by_cases h2 : k ≤ t ∧ t - k < i
      · rw [if_pos h2, if_pos (by omega)]
      · rw [if_neg h2, if_neg (by omega)]
  simp only [Nat.not_lt_zero, and_false, if_false, Int.add_zero] at h
  rw [h, rng_congr (f := fun t => F t + if k ≤ t ∧ t - k < zs.length then number * cf zs (t - k) else 0) (g := fun t => F t + if k ≤ t then number * cf zs (t - k) else 0)]
  intro t ht
  by_cases h2 : k ≤ t
  · by_cases h3 : t - k < zs.length
    · rw [if_pos ⟨h2, h3⟩, if_pos h2]
    · rw [if_neg (fun h => h3 h.2), if_pos h2, cf_ge (xs := zs) (by omega), Int.mul_zero]
  · rw [if_neg (fun h => h2 h.1), if_neg h2]
theorem times_ok {b : Int} (hb : 0 ≤ b) {xs ys : List Int} (hx : xs.length ≤ 500) (hy : ys.length ≤ 500) (bx : ∀ z ∈ xs, bd 1000000 z) (by' : ∀ z ∈ ys, bd 1000000 z) :
    s_times [.int b, .tup (iL xs), .tup (iL ys)] = .ok (.tup (iL (trim ((List.range (xs.length + ys.length)).map fun k => tk b (cv (cf xs) (cf ys) k))))) := by
  have hL : LIM = 1000000 := rfl
  refine run_ret rfl ?_
  show evSs [s_trimmed] [] false c_times [.sh (.int b), .sh (.tup (iL xs)), .sh (.tup (iL ys)), .no, .no, .no, .no, .no] = _
  simp -implicitDefEqProofs only [c_times, evSs, evS, evE, evEs, evI, RS.of_ok, RS.of_exn, RS.ofL_ok, RS.ofL_exn, RS.then_next, RS.then_ret, RS.then_brk, RS.then_cnt, RS.then_exn, RS.ifB_t, RS.ifB_f, RS.caught_next, RS.caught_ret, RS.caught_exn, RS.suite_next, RS.suite_ret, pIsx, pIs, pIsN, lamR_enc_ok, lamR_enc_exn, Pf.toldTo, R.bind_ok, R.bind_exn, pBin, pCmp, pAdd, pSub, pNeg, pLt, pLe, pNot, pIx, pSeq, pInt, getE, getB, setOwR, Pf.putAt, Pf.popTo, Pf.scrTo, Pf.unpTo, pIsa, asgT, setAll, killAll, PX.isN, PX.isB, PXs.hasB, Bool.false_eq_true, Bool.or_false, Bool.or_self, List.getElem?_cons_zero, List.getElem?_cons_succ, List.set_cons_zero, List.set_cons_succ, List.length_cons, List.length_nil, List.getD_cons_zero, List.getD_cons_succ, Nat.reduceAdd, Nat.reduceLT, Nat.zero_lt_succ, Nat.zero_add, ite_self, Bool.false_or, Bool.true_or, iL_len, Int.cast_ofNat_Int, Bool.and_true, Bool.true_and, bi_len_lst, bi_len_tup, bi_len_rl, bi_list_lst, bi_list_tup, bi_list_rl, bi_tuple_lst, bi_tuple_tup, bi_tuple_rl, bi_int_int, bi_int_b, at_two, int_if, at3_0, at3_1, at3_2, at2_0, at2_1, List.take_succ_cons, List.take_zero, List.drop_succ_cons, List.drop_zero, sum_ok, sl_lst, sl_tup, sl_rl, part_t, part_f, if_true, if_false, ite_true, ite_false, reduceIte, Nat.reduceLeDiff, Nat.reduceSub, eq_self, and_self, and_true, true_and, iL_len, ← Int.natCast_add]
  rw [mul_rep _ _ (by omega)]
  simp -implicitDefEqProofs only [evSs, evS, evE, evEs, evI, RS.of_ok, RS.of_exn, RS.ofL_ok, RS.ofL_exn, RS.then_next, RS.then_ret, RS.then_brk, RS.then_cnt, RS.then_exn, RS.ifB_t, RS.ifB_f, RS.caught_next, RS.caught_ret, RS.caught_exn, RS.suite_next, RS.suite_ret, pIsx, pIs, pIsN, lamR_enc_ok, lamR_enc_exn, Pf.toldTo, R.bind_ok, R.bind_exn, pBin, pCmp, pAdd, pSub, pNeg, pLt, pLe, pNot, pIx, pSeq, pInt, getE, getB, setOwR, Pf.putAt, Pf.popTo, Pf.scrTo, Pf.unpTo, pIsa, asgT, setAll, killAll, PX.isN, PX.isB, PXs.hasB, Bool.false_eq_true, Bool.or_false, Bool.or_self, List.getElem?_cons_zero, List.getElem?_cons_succ, List.set_cons_zero, List.set_cons_succ, List.length_cons, List.length_nil, List.getD_cons_zero, List.getD_cons_succ, Nat.reduceAdd, Nat.reduceLT, Nat.zero_lt_succ, Nat.zero_add, ite_self, Bool.false_or, Bool.true_or, iL_len, Int.cast_ofNat_Int, Bool.and_true, Bool.true_and, bi_len_lst, bi_len_tup, bi_len_rl, bi_list_lst, bi_list_tup, bi_list_rl, bi_tuple_lst, bi_tuple_tup, bi_tuple_rl, bi_int_int, bi_int_b, at_two, int_if, at3_0, at3_1, at3_2, at2_0, at2_1, List.take_succ_cons, List.take_zero, List.drop_succ_cons, List.drop_zero, sum_ok, sl_lst, sl_tup, sl_rl, part_t, part_f, if_true, if_false, ite_true, ite_false, reduceIte, Nat.reduceLeDiff, Nat.reduceSub, eq_self, and_self, and_true, true_and, rep_rng]
  have h := forL_enum (asg := asgT [4, 5] true) (body := evSs [s_trimmed] [] false c_times_2) xs (fun i => [.sh (.int b), .sh (.tup (iL xs)), .sh (.tup (iL ys)), .ow (iL ((List.range (xs.length + ys.length)).map fun t => sm i fun j => if j ≤ t then cf xs j * cf ys (t - j) else 0)), .no, .no, .no, .no]) fun i hi => by
    refine ⟨_, rfl, .inl ?_⟩
    simp -implicitDefEqProofs only [c_times_2, evSs, evS, evE, evEs, evI, RS.of_ok, RS.of_exn, RS.ofL_ok, RS.ofL_exn, RS.then_next, RS.then_ret, RS.then_brk, RS.then_cnt, RS.then_exn, RS.ifB_t, RS.ifB_f, RS.caught_next, RS.caught_ret, RS.caught_exn, RS.suite_next, RS.suite_ret, pIsx, pIs, pIsN, lamR_enc_ok, lamR_enc_exn, Pf.toldTo, R.bind_ok, R.bind_exn, pBin, pCmp, pAdd, pSub, pNeg, pLt, pLe, pNot, pIx, pSeq, pInt, getE, getB, setOwR, Pf.putAt, Pf.popTo, Pf.scrTo, Pf.unpTo, pIsa, asgT, setAll, killAll, PX.isN, PX.isB, PXs.hasB, Bool.false_eq_true, Bool.or_false, Bool.or_self, List.getElem?_cons_zero, List.getElem?_cons_succ, List.set_cons_zero, List.set_cons_succ, List.length_cons, List.length_nil, List.getD_cons_zero, List.getD_cons_succ, Nat.reduceAdd, Nat.reduceLT, Nat.zero_lt_succ, Nat.zero_add, ite_self, Bool.false_or, Bool.true_or, iL_len, Int.cast_ofNat_Int, Bool.and_true, Bool.true_and, bi_len_lst, bi_len_tup, bi_len_rl, bi_list_lst, bi_list_tup, bi_list_rl, bi_tuple_lst, bi_tuple_tup, bi_tuple_rl, bi_int_int, bi_int_b, at_two, int_if, at3_0, at3_1, at3_2, at2_0, at2_1, List.take_succ_cons, List.take_zero, List.drop_succ_cons, List.drop_zero, sum_ok, sl_lst, sl_tup, sl_rl, part_t, part_f, if_true, if_false, ite_true, ite_false, reduceIte, Nat.reduceLeDiff, Nat.reduceSub, eq_self, and_self, and_true, true_and]
    rw [times_1 _ _ _ _ _ (by omega) (bx _ (cf_mem hi)) by']
    simp -implicitDefEqProofs only [evSs, evS, evE, evEs, evI, RS.of_ok, RS.of_exn, RS.ofL_ok, RS.ofL_exn, RS.then_next, RS.then_ret, RS.then_brk, RS.then_cnt, RS.then_exn, RS.ifB_t, RS.ifB_f, RS.caught_next, RS.caught_ret, RS.caught_exn, RS.suite_next, RS.suite_ret, pIsx, pIs, pIsN, lamR_enc_ok, lamR_enc_exn, Pf.toldTo, R.bind_ok, R.bind_exn, pBin, pCmp, pAdd, pSub, pNeg, pLt, pLe, pNot, pIx, pSeq, pInt, getE, getB, setOwR, Pf.putAt, Pf.popTo, Pf.scrTo, Pf.unpTo, pIsa, asgT, setAll, killAll, PX.isN, PX.isB, PXs.hasB, Bool.false_eq_true, Bool.or_false, Bool.or_self, List.getElem?_cons_zero, List.getElem?_cons_succ, List.set_cons_zero, List.set_cons_succ, List.length_cons, List.length_nil, List.getD_cons_zero, List.getD_cons_succ, Nat.reduceAdd, Nat.reduceLT, Nat.zero_lt_succ, Nat.zero_add, ite_self, Bool.false_or, Bool.true_or, iL_len, Int.cast_ofNat_Int, Bool.and_true, Bool.true_and, bi_len_lst, bi_len_tup, bi_len_rl, bi_list_lst, bi_list_tup, bi_list_rl, bi_tuple_lst, bi_tuple_tup, bi_tuple_rl, bi_int_int, bi_int_b, at_two, int_if, at3_0, at3_1, at3_2, at2_0, at2_1, List.take_succ_cons, List.take_zero, List.drop_succ_cons, List.drop_zero, sum_ok, sl_lst, sl_tup, sl_rl, part_t, part_f, if_true, if_false, ite_true, ite_false, reduceIte, Nat.reduceLeDiff, Nat.reduceSub, eq_self, and_self, and_true, true_and, sm_succ]
  simp only [sm_zero] at h
  rw [h]
  simp -implicitDefEqProofs only [evSs, evS, evE, evEs, evI, RS.of_ok, RS.of_exn, RS.ofL_ok, RS.ofL_exn, RS.then_next, RS.then_ret, RS.then_brk, RS.then_cnt, RS.then_exn, RS.ifB_t, RS.ifB_f, RS.caught_next, RS.caught_ret, RS.caught_exn, RS.suite_next, RS.suite_ret, pIsx, pIs, pIsN, lamR_enc_ok, lamR_enc_exn, Pf.toldTo, R.bind_ok, R.bind_exn, pBin, pCmp, pAdd, pSub, pNeg, pLt, pLe, pNot, pIx, pSeq, pInt, getE, getB, setOwR, Pf.putAt, Pf.popTo, Pf.scrTo, Pf.unpTo, pIsa, asgT, setAll, killAll, PX.isN, PX.isB, PXs.hasB, Bool.false_eq_true, Bool.or_false, Bool.or_self, List.getElem?_cons_zero, List.getElem?_cons_succ, List.set_cons_zero, List.set_cons_succ, List.length_cons, List.length_nil, List.getD_cons_zero, List.getD_cons_succ, Nat.reduceAdd, Nat.reduceLT, Nat.zero_lt_succ, Nat.zero_add, ite_self, Bool.false_or, Bool.true_or, iL_len, Int.cast_ofNat_Int, Bool.and_true, Bool.true_and, bi_len_lst, bi_len_tup, bi_len_rl, bi_list_lst, bi_list_tup, bi_list_rl, bi_tuple_lst, bi_tuple_tup, bi_tuple_rl, bi_int_int, bi_int_b, at_two, int_if, at3_0, at3_1, at3_2, at2_0, at2_1, List.take_succ_cons, List.take_zero, List.drop_succ_cons, List.drop_zero, sum_ok, sl_lst, sl_tup, sl_rl, part_t, part_f, if_true, if_false, ite_true, ite_false, reduceIte, Nat.reduceLeDiff, Nat.reduceSub, eq_self, and_self, and_true, true_and]
  rw [trimmed_ok hb (.inl rfl) (by simp; omega)]
  simp -implicitDefEqProofs only [evSs, evS, evE, evEs, evI, RS.of_ok, RS.of_exn, RS.ofL_ok, RS.ofL_exn, RS.then_next, RS.then_ret, RS.then_brk, RS.then_cnt, RS.then_exn, RS.ifB_t, RS.ifB_f, RS.caught_next, RS.caught_ret, RS.caught_exn, RS.suite_next, RS.suite_ret, pIsx, pIs, pIsN, lamR_enc_ok, lamR_enc_exn, Pf.toldTo, R.bind_ok, R.bind_exn, pBin, pCmp, pAdd, pSub, pNeg, pLt, pLe, pNot, pIx, pSeq, pInt, getE, getB, setOwR, Pf.putAt, Pf.popTo, Pf.scrTo, Pf.unpTo, pIsa, asgT, setAll, killAll, PX.isN, PX.isB, PXs.hasB, Bool.false_eq_true, Bool.or_false, Bool.or_self, List.getElem?_cons_zero, List.getElem?_cons_succ, List.set_cons_zero, List.set_cons_succ, List.length_cons, List.length_nil, List.getD_cons_zero, List.getD_cons_succ, Nat.reduceAdd, Nat.reduceLT, Nat.zero_lt_succ, Nat.zero_add, ite_self, Bool.false_or, Bool.true_or, iL_len, Int.cast_ofNat_Int, Bool.and_true, Bool.true_and, bi_len_lst, bi_len_tup, bi_len_rl, bi_list_lst, bi_list_tup, bi_list_rl, bi_tuple_lst, bi_tuple_tup, bi_tuple_rl, bi_int_int, bi_int_b, at_two, int_if, at3_0, at3_1, at3_2, at2_0, at2_1, List.take_succ_cons, List.take_zero, List.drop_succ_cons, List.drop_zero, sum_ok, sl_lst, sl_tup, sl_rl, part_t, part_f, if_true, if_false, ite_true, ite_false, reduceIte, Nat.reduceLeDiff, Nat.reduceSub, eq_self, and_self, and_true, true_and, List.map_map, Function.comp_def]
  rw [rng_congr]
  intro t ht
  congr 1
  rw [cv_len (n := xs.length) (m := ys.length) (fun i => cf_ge) (fun i => cf_ge)]
  refine sm_congr fun j hj => ?_
  by_cases h1 : j ≤ t
  · by_cases h2 : t - j < ys.length
    · rw [if_pos h1, if_pos ⟨h1, h2⟩]
    · rw [if_pos h1, if_neg (fun h => h2 h.2), cf_ge (xs := ys) (by omega), Int.mul_zero]
  · rw [if_neg h1, if_neg (fun h => h1 h.1)]
theorem divided_1 {v0 v1 v2 : SV} (k : Nat) (q : Int) (m : Nat) (zs : List Int) (F : Nat → Int) (qs : List Int) (hk : k < qs.length) (hq : cf qs k = q) (hm : k + zs.length ≤ m) (hn : bd 2000000 q) (hz : ∀ z ∈ zs, bd 2000000 z) :
    forL (asgT [6, 7] true) (evSs [s_taken, s_trimmed] [] false c_divided_1) (pEnum (iL zs)) [v0, v1, v2, .ow (iL ((List.range m).map F)), .ow (iL qs), .sh (.int (k : Int)), .no, .no] =
      .next [v0, v1, v2, .ow (iL ((List.range m).map fun t => F t - if k ≤ t then q * cf zs (t - k) else 0)), .ow (iL qs), .sh (.int (k : Int)), .no, .no] := by
  have h := forL_enum (asg := asgT [6, 7] true) (body := evSs [s_taken, s_trimmed] [] false c_divided_1) zs (fun i => [v0, v1, v2, .ow (iL ((List.range m).map fun t => F t - if k ≤ t ∧ t - k < i then q * cf zs (t - k) else 0)), .ow (iL qs), .sh (.int (k : Int)), .no, .no]) fun i hi => by
    refine ⟨_, rfl, .inl ?_⟩
    simp -implicitDefEqProofs only [c_divided_1, evSs, evS, evE, evEs, evI, RS.of_ok, RS.of_exn, RS.ofL_ok, RS.ofL_exn, RS.then_next, RS.then_ret, RS.then_brk, RS.then_cnt, RS.then_exn, RS.ifB_t, RS.ifB_f, RS.caught_next, RS.caught_ret, RS.caught_exn, RS.suite_next, RS.suite_ret, pIsx, pIs, pIsN, lamR_enc_ok, lamR_enc_exn, Pf.toldTo, R.bind_ok, R.bind_exn, pBin, pCmp, pAdd, pSub, pNeg, pLt, pLe, pNot, pIx, pSeq, pInt, getE, getB, setOwR, Pf.putAt, Pf.popTo, Pf.scrTo, Pf.unpTo, pIsa, asgT, setAll, killAll, PX.isN, PX.isB, PXs.hasB, Bool.false_eq_true, Bool.or_false, Bool.or_self, List.getElem?_cons_zero, List.getElem?_cons_succ, List.set_cons_zero, List.set_cons_succ, List.length_cons, List.length_nil, List.getD_cons_zero, List.getD_cons_succ, Nat.reduceAdd, Nat.reduceLT, Nat.zero_lt_succ, Nat.zero_add, ite_self, Bool.false_or, Bool.true_or, iL_len, Int.cast_ofNat_Int, Bool.and_true, Bool.true_and, bi_len_lst, bi_len_tup, bi_len_rl, bi_list_lst, bi_list_tup, bi_list_rl, bi_tuple_lst, bi_tuple_tup, bi_tuple_rl, bi_int_int, bi_int_b, at_two, int_if, at3_0, at3_1, at3_2, at2_0, at2_1, List.take_succ_cons, List.take_zero, List.drop_succ_cons, List.drop_zero, sum_ok, sl_lst, sl_tup, sl_rl, part_t, part_f, if_true, if_false, ite_true, ite_false, reduceIte, Nat.reduceLeDiff, Nat.reduceSub, eq_self, and_self, and_true, true_and, ← Int.natCast_add]
    rw [pAt_cfn _ _ (by simp; omega), pAt_cfn qs k hk]
    simp -implicitDefEqProofs only [evSs, evS, evE, evEs, evI, RS.of_ok, RS.of_exn, RS.ofL_ok, RS.ofL_exn, RS.then_next, RS.then_ret, RS.then_brk, RS.then_cnt, RS.then_exn, RS.ifB_t, RS.ifB_f, RS.caught_next, RS.caught_ret, RS.caught_exn, RS.suite_next, RS.suite_ret, pIsx, pIs, pIsN, lamR_enc_ok, lamR_enc_exn, Pf.toldTo, R.bind_ok, R.bind_exn, pBin, pCmp, pAdd, pSub, pNeg, pLt, pLe, pNot, pIx, pSeq, pInt, getE, getB, setOwR, Pf.putAt, Pf.popTo, Pf.scrTo, Pf.unpTo, pIsa, asgT, setAll, killAll, PX.isN, PX.isB, PXs.hasB, Bool.false_eq_true, Bool.or_false, Bool.or_self, List.getElem?_cons_zero, List.getElem?_cons_succ, List.set_cons_zero, List.set_cons_succ, List.length_cons, List.length_nil, List.getD_cons_zero, List.getD_cons_succ, Nat.reduceAdd, Nat.reduceLT, Nat.zero_lt_succ, Nat.zero_add, ite_self, Bool.false_or, Bool.true_or, iL_len, Int.cast_ofNat_Int, Bool.and_true, Bool.true_and, bi_len_lst, bi_len_tup, bi_len_rl, bi_list_lst, bi_list_tup, bi_list_rl, bi_tuple_lst, bi_tuple_tup, bi_tuple_rl, bi_int_int, bi_int_b, at_two, int_if, at3_0, at3_1, at3_2, at2_0, at2_1, List.take_succ_cons, List.take_zero, List.drop_succ_cons, List.drop_zero, sum_ok, sl_lst, sl_tup, sl_rl, part_t, part_f, if_true, if_false, ite_true, ite_false, reduceIte, Nat.reduceLeDiff, Nat.reduceSub, eq_self, and_self, and_true, true_and, hq]
    rw [mul_bd hn (hz _ (cf_mem hi)) (by decide) (by decide)]
    simp -implicitDefEqProofs only [evSs, evS, evE, evEs, evI, RS.of_ok, RS.of_exn, RS.ofL_ok, RS.ofL_exn, RS.then_next, RS.then_ret, RS.then_brk, RS.then_cnt, RS.then_exn, RS.ifB_t, RS.ifB_f, RS.caught_next, RS.caught_ret, RS.caught_exn, RS.suite_next, RS.suite_ret, pIsx, pIs, pIsN, lamR_enc_ok, lamR_enc_exn, Pf.toldTo, R.bind_ok, R.bind_exn, pBin, pCmp, pAdd, pSub, pNeg, pLt, pLe, pNot, pIx, pSeq, pInt, getE, getB, setOwR, Pf.putAt, Pf.popTo, Pf.scrTo, Pf.unpTo, pIsa, asgT, setAll, killAll, PX.isN, PX.isB, PXs.hasB, Bool.false_eq_true, Bool.or_false, Bool.or_self, List.getElem?_cons_zero, List.getElem?_cons_succ, List.set_cons_zero, List.set_cons_succ, List.length_cons, List.length_nil, List.getD_cons_zero, List.getD_cons_succ, Nat.reduceAdd, Nat.reduceLT, Nat.zero_lt_succ, Nat.zero_add, ite_self, Bool.false_or, Bool.true_or, iL_len, Int.cast_ofNat_Int, Bool.and_true, Bool.true_and, bi_len_lst, bi_len_tup, bi_len_rl, bi_list_lst, bi_list_tup, bi_list_rl, bi_tuple_lst, bi_tuple_tup, bi_tuple_rl, bi_int_int, bi_int_b, at_two, int_if, at3_0, at3_1, at3_2, at2_0, at2_1, List.take_succ_cons, List.take_zero, List.drop_succ_cons, List.drop_zero, sum_ok, sl_lst, sl_tup, sl_rl, part_t, part_f, if_true, if_false, ite_true, ite_false, reduceIte, Nat.reduceLeDiff, Nat.reduceSub, eq_self, and_self, and_true, true_and, iL_len, List.length_map, List.length_range]
    rw [ixN_nat _ _ (by omega)]
    simp -implicitDefEqProofs only [evSs, evS, evE, evEs, evI, RS.of_ok, RS.of_exn, RS.ofL_ok, RS.ofL_exn, RS.then_next, RS.then_ret, RS.then_brk, RS.then_cnt, RS.then_exn, RS.ifB_t, RS.ifB_f, RS.caught_next, RS.caught_ret, RS.caught_exn, RS.suite_next, RS.suite_ret, pIsx, pIs, pIsN, lamR_enc_ok, lamR_enc_exn, Pf.toldTo, R.bind_ok, R.bind_exn, pBin, pCmp, pAdd, pSub, pNeg, pLt, pLe, pNot, pIx, pSeq, pInt, getE, getB, setOwR, Pf.putAt, Pf.popTo, Pf.scrTo, Pf.unpTo, pIsa, asgT, setAll, killAll, PX.isN, PX.isB, PXs.hasB, Bool.false_eq_true, Bool.or_false, Bool.or_self, List.getElem?_cons_zero, List.getElem?_cons_succ, List.set_cons_zero, List.set_cons_succ, List.length_cons, List.length_nil, List.getD_cons_zero, List.getD_cons_succ, Nat.reduceAdd, Nat.reduceLT, Nat.zero_lt_succ, Nat.zero_add, ite_self, Bool.false_or, Bool.true_or, iL_len, Int.cast_ofNat_Int, Bool.and_true, Bool.true_and, bi_len_lst, bi_len_tup, bi_len_rl, bi_list_lst, bi_list_tup, bi_list_rl, bi_tuple_lst, bi_tuple_tup, bi_tuple_rl, bi_int_int, bi_int_b, at_two, int_if, at3_0, at3_1, at3_2, at2_0, at2_1, List.take_succ_cons, List.take_zero, List.drop_succ_cons, List.drop_zero, sum_ok, sl_lst, sl_tup, sl_rl, part_t, part_f, if_true, if_false, ite_true, ite_false, reduceIte, Nat.reduceLeDiff, Nat.reduceSub, eq_self, and_self, and_true, true_and, iL_set, rng_set, cf_rng _ (show k + i < m by omega)]
    rw [rng_congr (f := fun t => if t = k + i then _ else _) (g := fun t => F t - if k ≤ t ∧ t - k < i + 1 then q * cf zs (t - k) else 0)]
    intro t ht
    by_cases h1 : t = k + i
    · subst h1
      rw [if_pos rfl, if_neg (by omega), if_pos (by omega), Nat.add_sub_cancel_left, Int.sub_zero]
    · rw [if_neg h1]
      by_cases h2 : k ≤ t ∧ t - k < i
      · rw [if_pos h2, if_pos (by omega)]
      · rw [if_neg h2, if_neg (by omega)]
  simp only [Nat.not_lt_zero, and_false, if_false, Int.sub_zero] at h
  rw [h, rng_congr (f := fun t => F t - if k ≤ t ∧ t - k < zs.length then q * cf zs (t - k) else 0) (g := fun t => F t - if k ≤ t then q * cf zs (t - k) else 0)]
  intro t ht
  by_cases h2 : k ≤ t
  · by_cases h3 : t - k < zs.length
    · rw [if_pos ⟨h2, h3⟩, if_pos h2]
    · rw [if_neg (fun h => h3 h.2), if_pos h2, cf_ge (xs := zs) (by omega), Int.mul_zero]
  · rw [if_neg (fun h => h2 h.1), if_neg h2]
/-- what a division tells -/
structure Dv (B : Nat) (b : Int) (xs ys : List Int) (Q L : Nat → Int) : Prop where
  eq : ∀ i, L i = cf xs i - cv Q (cf ys) i
  low : ∀ i, ys.length ≤ i + 1 → b ∣ L i
  red : ∀ k, tk b (Q k) = Q k
  sup : ∀ k, xs.length < k + ys.length → Q k = 0
  bq : ∀ k, bd (B + 6000) (Q k)
/-- after t steps -/
structure DvI (B : Nat) (b : Int) (xs ys : List Int) (t : Nat) (Q L : Nat → Int) : Prop where
  eq : ∀ i, L i = cf xs i - cv Q (cf ys) i
  low : ∀ i, xs.length ≤ i + t → b ∣ L i
  red : ∀ k, tk b (Q k) = Q k
  sup : ∀ k, xs.length < k + ys.length → Q k = 0
  new : ∀ k, k + ys.length + t ≤ xs.length → Q k = 0
  bq : ∀ k, bd (B + 6000) (Q k)
  bl : ∀ i, bd (B + 80 * t) (L i)
theorem divided_ok {B : Nat} (hB : 200 ≤ B) (hB1 : B ≤ 1000000) {b : Int} (hb : 0 ≤ b) (hb1 : b ≤ 997) {xs ys : List Int} (hn : xs.length ≤ 60) (hm : ys.length ≤ 60) (hm0 : 0 < ys.length) (hy : cf ys (ys.length - 1) = 1) (bx : ∀ x ∈ xs, bd B x) (bY : ∀ y ∈ ys, bd 70 y) :
    ∃ Q L, s_divided [.int b, .tup (iL xs), .tup (iL ys)] = .ok (.tup [.tup (iL (trim ((List.range xs.length).map Q))), .tup (iL (trim ((List.range xs.length).map fun i => tk b (L i))))]) ∧ Dv B b xs ys Q L := by
  have hL : LIM = 1000000 := rfl
  have key := forL_ex (asg := asgT [5] false) (body := evSs [s_taken, s_trimmed] [] false c_divided_2) (fun t ρ => ∃ Q L, ρ = [.sh (.int b), .sh (.tup (iL xs)), .sh (.tup (iL ys)), .ow (iL ((List.range xs.length).map L)), .ow (iL ((List.range xs.length).map Q)), .no, .no, .no] ∧ DvI B b xs ys t Q L) (fun _ => False)
    ((List.range (xs.length + 1 - ys.length)).map fun t : Nat => PV.int ((xs.length : Int) - (ys.length : Int) - (t : Int))) 0 [.sh (.int b), .sh (.tup (iL xs)), .sh (.tup (iL ys)), .ow (iL xs), .ow (iL ((List.range xs.length).map fun _ => 0)), .no, .no, .no] ?_ ?_
  · rcases key with ⟨ρ, e, Q, L, rfl, h⟩ | ⟨v, _, h⟩
    · rw [List.length_map, List.length_range, Nat.zero_add] at h
      refine ⟨Q, L, run_ret rfl ?_, ⟨h.eq, fun i hi => ?_, h.red, h.sup, h.bq⟩⟩
      · show evSs [s_taken, s_trimmed] [] false c_divided [.sh (.int b), .sh (.tup (iL xs)), .sh (.tup (iL ys)), .no, .no, .no, .no, .no] = _
        simp -implicitDefEqProofs only [c_divided, evSs, evS, evE, evEs, evI, RS.of_ok, RS.of_exn, RS.ofL_ok, RS.ofL_exn, RS.then_next, RS.then_ret, RS.then_brk, RS.then_cnt, RS.then_exn, RS.ifB_t, RS.ifB_f, RS.caught_next, RS.caught_ret, RS.caught_exn, RS.suite_next, RS.suite_ret, pIsx, pIs, pIsN, lamR_enc_ok, lamR_enc_exn, Pf.toldTo, R.bind_ok, R.bind_exn, pBin, pCmp, pAdd, pSub, pNeg, pLt, pLe, pNot, pIx, pSeq, pInt, getE, getB, setOwR, Pf.putAt, Pf.popTo, Pf.scrTo, Pf.unpTo, pIsa, asgT, setAll, killAll, PX.isN, PX.isB, PXs.hasB, Bool.false_eq_true, Bool.or_false, Bool.or_self, List.getElem?_cons_zero, List.getElem?_cons_succ, List.set_cons_zero, List.set_cons_succ, List.length_cons, List.length_nil, List.getD_cons_zero, List.getD_cons_succ, Nat.reduceAdd, Nat.reduceLT, Nat.zero_lt_succ, Nat.zero_add, ite_self, Bool.false_or, Bool.true_or, iL_len, Int.cast_ofNat_Int, Bool.and_true, Bool.true_and, bi_len_lst, bi_len_tup, bi_len_rl, bi_list_lst, bi_list_tup, bi_list_rl, bi_tuple_lst, bi_tuple_tup, bi_tuple_rl, bi_int_int, bi_int_b, at_two, int_if, at3_0, at3_1, at3_2, at2_0, at2_1, List.take_succ_cons, List.take_zero, List.drop_succ_cons, List.drop_zero, sum_ok, sl_lst, sl_tup, sl_rl, part_t, part_f, if_true, if_false, ite_true, ite_false, reduceIte, Nat.reduceLeDiff, Nat.reduceSub, eq_self, and_self, and_true, true_and, iL_len]
        rw [mul_rep _ _ (by omega)]
        simp -implicitDefEqProofs only [evSs, evS, evE, evEs, evI, RS.of_ok, RS.of_exn, RS.ofL_ok, RS.ofL_exn, RS.then_next, RS.then_ret, RS.then_brk, RS.then_cnt, RS.then_exn, RS.ifB_t, RS.ifB_f, RS.caught_next, RS.caught_ret, RS.caught_exn, RS.suite_next, RS.suite_ret, pIsx, pIs, pIsN, lamR_enc_ok, lamR_enc_exn, Pf.toldTo, R.bind_ok, R.bind_exn, pBin, pCmp, pAdd, pSub, pNeg, pLt, pLe, pNot, pIx, pSeq, pInt, getE, getB, setOwR, Pf.putAt, Pf.popTo, Pf.scrTo, Pf.unpTo, pIsa, asgT, setAll, killAll, PX.isN, PX.isB, PXs.hasB, Bool.false_eq_true, Bool.or_false, Bool.or_self, List.getElem?_cons_zero, List.getElem?_cons_succ, List.set_cons_zero, List.set_cons_succ, List.length_cons, List.length_nil, List.getD_cons_zero, List.getD_cons_succ, Nat.reduceAdd, Nat.reduceLT, Nat.zero_lt_succ, Nat.zero_add, ite_self, Bool.false_or, Bool.true_or, iL_len, Int.cast_ofNat_Int, Bool.and_true, Bool.true_and, bi_len_lst, bi_len_tup, bi_len_rl, bi_list_lst, bi_list_tup, bi_list_rl, bi_tuple_lst, bi_tuple_tup, bi_tuple_rl, bi_int_int, bi_int_b, at_two, int_if, at3_0, at3_1, at3_2, at2_0, at2_1, List.take_succ_cons, List.take_zero, List.drop_succ_cons, List.drop_zero, sum_ok, sl_lst, sl_tup, sl_rl, part_t, part_f, if_true, if_false, ite_true, ite_false, reduceIte, Nat.reduceLeDiff, Nat.reduceSub, eq_self, and_self, and_true, true_and, span_int (i := (xs.length : Int) - (ys.length : Int)) (by omega) (by omega), span_int (i := -1) (by decide) (by decide), Bool.and_self, rep_rng]
        rw [show ((xs.length : Int) - (ys.length : Int) - (-1)).toNat = xs.length + 1 - ys.length by omega, e]
        simp -implicitDefEqProofs only [evSs, evS, evE, evEs, evI, RS.of_ok, RS.of_exn, RS.ofL_ok, RS.ofL_exn, RS.then_next, RS.then_ret, RS.then_brk, RS.then_cnt, RS.then_exn, RS.ifB_t, RS.ifB_f, RS.caught_next, RS.caught_ret, RS.caught_exn, RS.suite_next, RS.suite_ret, pIsx, pIs, pIsN, lamR_enc_ok, lamR_enc_exn, Pf.toldTo, R.bind_ok, R.bind_exn, pBin, pCmp, pAdd, pSub, pNeg, pLt, pLe, pNot, pIx, pSeq, pInt, getE, getB, setOwR, Pf.putAt, Pf.popTo, Pf.scrTo, Pf.unpTo, pIsa, asgT, setAll, killAll, PX.isN, PX.isB, PXs.hasB, Bool.false_eq_true, Bool.or_false, Bool.or_self, List.getElem?_cons_zero, List.getElem?_cons_succ, List.set_cons_zero, List.set_cons_succ, List.length_cons, List.length_nil, List.getD_cons_zero, List.getD_cons_succ, Nat.reduceAdd, Nat.reduceLT, Nat.zero_lt_succ, Nat.zero_add, ite_self, Bool.false_or, Bool.true_or, iL_len, Int.cast_ofNat_Int, Bool.and_true, Bool.true_and, bi_len_lst, bi_len_tup, bi_len_rl, bi_list_lst, bi_list_tup, bi_list_rl, bi_tuple_lst, bi_tuple_tup, bi_tuple_rl, bi_int_int, bi_int_b, at_two, int_if, at3_0, at3_1, at3_2, at2_0, at2_1, List.take_succ_cons, List.take_zero, List.drop_succ_cons, List.drop_zero, sum_ok, sl_lst, sl_tup, sl_rl, part_t, part_f, if_true, if_false, ite_true, ite_false, reduceIte, Nat.reduceLeDiff, Nat.reduceSub, eq_self, and_self, and_true, true_and]
        rw [trimmed_ok hb (.inl rfl) (by simp; omega), trimmed_ok hb (.inl rfl) (by simp; omega)]
        simp -implicitDefEqProofs only [evSs, evS, evE, evEs, evI, RS.of_ok, RS.of_exn, RS.ofL_ok, RS.ofL_exn, RS.then_next, RS.then_ret, RS.then_brk, RS.then_cnt, RS.then_exn, RS.ifB_t, RS.ifB_f, RS.caught_next, RS.caught_ret, RS.caught_exn, RS.suite_next, RS.suite_ret, pIsx, pIs, pIsN, lamR_enc_ok, lamR_enc_exn, Pf.toldTo, R.bind_ok, R.bind_exn, pBin, pCmp, pAdd, pSub, pNeg, pLt, pLe, pNot, pIx, pSeq, pInt, getE, getB, setOwR, Pf.putAt, Pf.popTo, Pf.scrTo, Pf.unpTo, pIsa, asgT, setAll, killAll, PX.isN, PX.isB, PXs.hasB, Bool.false_eq_true, Bool.or_false, Bool.or_self, List.getElem?_cons_zero, List.getElem?_cons_succ, List.set_cons_zero, List.set_cons_succ, List.length_cons, List.length_nil, List.getD_cons_zero, List.getD_cons_succ, Nat.reduceAdd, Nat.reduceLT, Nat.zero_lt_succ, Nat.zero_add, ite_self, Bool.false_or, Bool.true_or, iL_len, Int.cast_ofNat_Int, Bool.and_true, Bool.true_and, bi_len_lst, bi_len_tup, bi_len_rl, bi_list_lst, bi_list_tup, bi_list_rl, bi_tuple_lst, bi_tuple_tup, bi_tuple_rl, bi_int_int, bi_int_b, at_two, int_if, at3_0, at3_1, at3_2, at2_0, at2_1, List.take_succ_cons, List.take_zero, List.drop_succ_cons, List.drop_zero, sum_ok, sl_lst, sl_tup, sl_rl, part_t, part_f, if_true, if_false, ite_true, ite_false, reduceIte, Nat.reduceLeDiff, Nat.reduceSub, eq_self, and_self, and_true, true_and, List.map_map, Function.comp_def, h.red]
      · by_cases h2 : xs.length ≤ i + (xs.length + 1 - ys.length)
        · exact h.low i h2
        · omega
    · exact h.elim
  · refine ⟨fun _ => 0, cf xs, by rw [range_cf], fun i => ?_, fun i hi => ?_, fun k => tk_zero b, fun k _ => rfl, fun k _ => rfl, fun k => bd_zero _, fun i => bd_cf bx i⟩
    · rw [cv_zero_l (fun _ => rfl), Int.sub_zero]
    · rw [cf_ge (by omega)]
      exact Int.dvd_zero _
  · rintro t x ρ hx ⟨Q, L, rfl, h⟩
    rw [Nat.zero_add] at h ⊢
    rw [List.getElem?_map] at hx
    obtain ⟨t', ht', rfl⟩ := Option.map_eq_some_iff.mp hx
    obtain ⟨ht1, ht2⟩ := List.getElem?_eq_some_iff.mp ht'
    rw [List.length_range] at ht1
    rw [List.getElem_range] at ht2
    subst ht2
    obtain ⟨k, hk⟩ : ∃ k, k + ys.length + t = xs.length := ⟨xs.length - ys.length - t, by omega⟩
    rw [show (xs.length : Int) - (ys.length : Int) - (t : Int) = (k : Int) by omega]
    have hQk : Q k = 0 := h.new k (by omega)
    have bq : bd (B + 80 * t) (tk b (L (k + ys.length - 1))) := bd_tk hb (by omega) (by omega) (h.bl _)
    refine ⟨_, rfl, .inl ⟨_, .inl ?_, fun i => if i = k then tk b (L (k + ys.length - 1)) else Q i, fun i => L i - (if k ≤ i then tk b (L (k + ys.length - 1)) * cf ys (i - k) else 0), rfl, ?_⟩⟩
    · simp -implicitDefEqProofs only [c_divided_2, evSs, evS, evE, evEs, evI, RS.of_ok, RS.of_exn, RS.ofL_ok, RS.ofL_exn, RS.then_next, RS.then_ret, RS.then_brk, RS.then_cnt, RS.then_exn, RS.ifB_t, RS.ifB_f, RS.caught_next, RS.caught_ret, RS.caught_exn, RS.suite_next, RS.suite_ret, pIsx, pIs, pIsN, lamR_enc_ok, lamR_enc_exn, Pf.toldTo, R.bind_ok, R.bind_exn, pBin, pCmp, pAdd, pSub, pNeg, pLt, pLe, pNot, pIx, pSeq, pInt, getE, getB, setOwR, Pf.putAt, Pf.popTo, Pf.scrTo, Pf.unpTo, pIsa, asgT, setAll, killAll, PX.isN, PX.isB, PXs.hasB, Bool.false_eq_true, Bool.or_false, Bool.or_self, List.getElem?_cons_zero, List.getElem?_cons_succ, List.set_cons_zero, List.set_cons_succ, List.length_cons, List.length_nil, List.getD_cons_zero, List.getD_cons_succ, Nat.reduceAdd, Nat.reduceLT, Nat.zero_lt_succ, Nat.zero_add, ite_self, Bool.false_or, Bool.true_or, iL_len, Int.cast_ofNat_Int, Bool.and_true, Bool.true_and, bi_len_lst, bi_len_tup, bi_len_rl, bi_list_lst, bi_list_tup, bi_list_rl, bi_tuple_lst, bi_tuple_tup, bi_tuple_rl, bi_int_int, bi_int_b, at_two, int_if, at3_0, at3_1, at3_2, at2_0, at2_1, List.take_succ_cons, List.take_zero, List.drop_succ_cons, List.drop_zero, sum_ok, sl_lst, sl_tup, sl_rl, part_t, part_f, if_true, if_false, ite_true, ite_false, reduceIte, Nat.reduceLeDiff, Nat.reduceSub, eq_self, and_self, and_true, true_and, iL_len]
      rw [pAt_cf _ _ (by omega) (by simp; omega), show ((k : Int) + (ys.length : Int) - 1).toNat = k + ys.length - 1 by omega, cf_rng _ (by omega)]
      simp -implicitDefEqProofs only [evSs, evS, evE, evEs, evI, RS.of_ok, RS.of_exn, RS.ofL_ok, RS.ofL_exn, RS.then_next, RS.then_ret, RS.then_brk, RS.then_cnt, RS.then_exn, RS.ifB_t, RS.ifB_f, RS.caught_next, RS.caught_ret, RS.caught_exn, RS.suite_next, RS.suite_ret, pIsx, pIs, pIsN, lamR_enc_ok, lamR_enc_exn, Pf.toldTo, R.bind_ok, R.bind_exn, pBin, pCmp, pAdd, pSub, pNeg, pLt, pLe, pNot, pIx, pSeq, pInt, getE, getB, setOwR, Pf.putAt, Pf.popTo, Pf.scrTo, Pf.unpTo, pIsa, asgT, setAll, killAll, PX.isN, PX.isB, PXs.hasB, Bool.false_eq_true, Bool.or_false, Bool.or_self, List.getElem?_cons_zero, List.getElem?_cons_succ, List.set_cons_zero, List.set_cons_succ, List.length_cons, List.length_nil, List.getD_cons_zero, List.getD_cons_succ, Nat.reduceAdd, Nat.reduceLT, Nat.zero_lt_succ, Nat.zero_add, ite_self, Bool.false_or, Bool.true_or, iL_len, Int.cast_ofNat_Int, Bool.and_true, Bool.true_and, bi_len_lst, bi_len_tup, bi_len_rl, bi_list_lst, bi_list_tup, bi_list_rl, bi_tuple_lst, bi_tuple_tup, bi_tuple_rl, bi_int_int, bi_int_b, at_two, int_if, at3_0, at3_1, at3_2, at2_0, at2_1, List.take_succ_cons, List.take_zero, List.drop_succ_cons, List.drop_zero, sum_ok, sl_lst, sl_tup, sl_rl, part_t, part_f, if_true, if_false, ite_true, ite_false, reduceIte, Nat.reduceLeDiff, Nat.reduceSub, eq_self, and_self, and_true, true_and, taken_ok hb, iL_len, List.length_map, List.length_range]
      rw [ixN_nat _ _ (by omega)]
      simp -implicitDefEqProofs only [evSs, evS, evE, evEs, evI, RS.of_ok, RS.of_exn, RS.ofL_ok, RS.ofL_exn, RS.then_next, RS.then_ret, RS.then_brk, RS.then_cnt, RS.then_exn, RS.ifB_t, RS.ifB_f, RS.caught_next, RS.caught_ret, RS.caught_exn, RS.suite_next, RS.suite_ret, pIsx, pIs, pIsN, lamR_enc_ok, lamR_enc_exn, Pf.toldTo, R.bind_ok, R.bind_exn, pBin, pCmp, pAdd, pSub, pNeg, pLt, pLe, pNot, pIx, pSeq, pInt, getE, getB, setOwR, Pf.putAt, Pf.popTo, Pf.scrTo, Pf.unpTo, pIsa, asgT, setAll, killAll, PX.isN, PX.isB, PXs.hasB, Bool.false_eq_true, Bool.or_false, Bool.or_self, List.getElem?_cons_zero, List.getElem?_cons_succ, List.set_cons_zero, List.set_cons_succ, List.length_cons, List.length_nil, List.getD_cons_zero, List.getD_cons_succ, Nat.reduceAdd, Nat.reduceLT, Nat.zero_lt_succ, Nat.zero_add, ite_self, Bool.false_or, Bool.true_or, iL_len, Int.cast_ofNat_Int, Bool.and_true, Bool.true_and, bi_len_lst, bi_len_tup, bi_len_rl, bi_list_lst, bi_list_tup, bi_list_rl, bi_tuple_lst, bi_tuple_tup, bi_tuple_rl, bi_int_int, bi_int_b, at_two, int_if, at3_0, at3_1, at3_2, at2_0, at2_1, List.take_succ_cons, List.take_zero, List.drop_succ_cons, List.drop_zero, sum_ok, sl_lst, sl_tup, sl_rl, part_t, part_f, if_true, if_false, ite_true, ite_false, reduceIte, Nat.reduceLeDiff, Nat.reduceSub, eq_self, and_self, and_true, true_and, iL_set, rng_set]
      rw [divided_1 k (tk b (L (k + ys.length - 1))) _ _ _ _ (by simp; omega) (by rw [cf_rng _ (by omega), if_pos rfl]) (by omega) (bd_mono bq (by omega)) (fun z hz => bd_mono (bY z hz) (by decide))]
      simp -implicitDefEqProofs only [evSs, evS, evE, evEs, evI, RS.of_ok, RS.of_exn, RS.ofL_ok, RS.ofL_exn, RS.then_next, RS.then_ret, RS.then_brk, RS.then_cnt, RS.then_exn, RS.ifB_t, RS.ifB_f, RS.caught_next, RS.caught_ret, RS.caught_exn, RS.suite_next, RS.suite_ret, pIsx, pIs, pIsN, lamR_enc_ok, lamR_enc_exn, Pf.toldTo, R.bind_ok, R.bind_exn, pBin, pCmp, pAdd, pSub, pNeg, pLt, pLe, pNot, pIx, pSeq, pInt, getE, getB, setOwR, Pf.putAt, Pf.popTo, Pf.scrTo, Pf.unpTo, pIsa, asgT, setAll, killAll, PX.isN, PX.isB, PXs.hasB, Bool.false_eq_true, Bool.or_false, Bool.or_self, List.getElem?_cons_zero, List.getElem?_cons_succ, List.set_cons_zero, List.set_cons_succ, List.length_cons, List.length_nil, List.getD_cons_zero, List.getD_cons_succ, Nat.reduceAdd, Nat.reduceLT, Nat.zero_lt_succ, Nat.zero_add, ite_self, Bool.false_or, Bool.true_or, iL_len, Int.cast_ofNat_Int, Bool.and_true, Bool.true_and, bi_len_lst, bi_len_tup, bi_len_rl, bi_list_lst, bi_list_tup, bi_list_rl, bi_tuple_lst, bi_tuple_tup, bi_tuple_rl, bi_int_int, bi_int_b, at_two, int_if, at3_0, at3_1, at3_2, at2_0, at2_1, List.take_succ_cons, List.take_zero, List.drop_succ_cons, List.drop_zero, sum_ok, sl_lst, sl_tup, sl_rl, part_t, part_f, if_true, if_false, ite_true, ite_false, reduceIte, Nat.reduceLeDiff, Nat.reduceSub, eq_self, and_self, and_true, true_and]
    · refine ⟨fun i => ?_, fun i hi => ?_, fun i => ?_, fun i hi => ?_, fun i hi => ?_, fun i => ?_, fun i => ?_⟩
      · show L i - _ = _
        have e : cv (fun j => if j = k then tk b (L (k + ys.length - 1)) else Q j) (cf ys) i = cv Q (cf ys) i + if k ≤ i then tk b (L (k + ys.length - 1)) * cf ys (i - k) else 0 := by
          rw [← cv_delta, ← cv_add_l]
          refine cv_congr (fun j => ?_) (fun _ => rfl) i
          by_cases hj : j = k
          · subst hj
            simp only [if_true, hQk, Int.zero_add]
          · simp only [if_neg hj, Int.add_zero]
        rw [e, h.eq i]
        omega
      · show b ∣ L i - _
        by_cases hi' : i = k + ys.length - 1
        · rw [if_pos (by omega), show i - k = ys.length - 1 by omega, hy, Int.mul_one, ← hi']
          have := Int.dvd_neg.mpr (tk_dvd b (L i))
          rwa [Int.neg_sub] at this
        · have hd := h.low i (by omega)
          rw [cf_ge (xs := ys) (by omega), Int.mul_zero, ite_self, Int.sub_zero]
          exact hd
      · show tk b (if i = k then _ else _) = if i = k then _ else _
        split
        · exact tk_tk b _
        · exact h.red i
      · show (if i = k then _ else _) = _
        rw [if_neg (by omega)]
        exact h.sup i hi
      · show (if i = k then _ else _) = _
        rw [if_neg (by omega)]
        exact h.new i (by omega)
      · show bd _ (if i = k then _ else _)
        split
        · exact bd_mono bq (by omega)
        · exact h.bq i
      · show bd _ (L i - _)
        have b1 : bd (B + 80 * t + 70) (L i) := bd_mono (h.bl i) (by omega)
        have b2 : bd (B + 80 * t + 70) (if k ≤ i then tk b (L (k + ys.length - 1)) * cf ys (i - k) else 0) := by
          split
          · exact bd_mul bq (bd_cf bY _)
          · exact bd_zero _
        exact bd_mono (bd_sub b1 b2) (by omega)
/-! ### what is left of x to the power n, by a rule's polynomial -/
def eU (d k : Nat) : List Int := (List.range d).map fun i => if i = k then 1 else 0
theorem eU_len (d k : Nat) : (eU d k).length = d := by simp [eU]
def U (b : Int) (r : List Int) (k n : Nat) : Int := sq b r (eU r.length k) n
def VL (b : Int) (r : List Int) (n : Nat) : List Int := (List.range r.length).map fun k => U b r k n
theorem VL_len (b : Int) (r : List Int) (n : Nat) : (VL b r n).length = r.length := by simp [VL]
theorem U_lt {b : Int} {r : List Int} {k n : Nat} (h : n < r.length) : U b r k n = if n = k then 1 else 0 := by
  unfold U
  rw [sq_lt (by rw [eU_len]; exact h)]
  unfold eU
  rw [cf_rng _ h]
theorem tk_one {b : Int} (h0 : 0 ≤ b) (h1 : b ≠ 1) : tk b 1 = 1 := tk_id (fun h => by omega) h0
theorem U_red {b : Int} (h0 : 0 ≤ b) (h1 : b ≠ 1) (r : List Int) (k n : Nat) : tk b (U b r k n) = U b r k n := by
  refine sq_red (fun x hx => ?_) n
  obtain ⟨i, _, rfl⟩ := List.mem_map.mp hx
  split
  · exact tk_one h0 h1
  · exact tk_zero b
theorem U_rec {b : Int} {r : List Int} {k n : Nat} (h : r.length ≤ n) : tk b (U b r k n) = tk b (sm r.length fun j => cf r j * U b r k (n - 1 - j)) :=
  tk_eq_iff.mpr (sq_rec (by rw [eU_len]; exact h) (by rw [eU_len]))
theorem tk_mulc {b x y : Int} (h : tk b x = tk b y) (z : Int) : tk b (x * z) = tk b (y * z) := by
  rw [← tk_mul_l, h, tk_mul_l]
theorem tk_mulcr {b x y : Int} (h : tk b x = tk b y) (z : Int) : tk b (z * x) = tk b (z * y) := by
  rw [← tk_mul_r, h, tk_mul_r]
/-- a place far on, by what is left -/
theorem J {b : Int} {r s : List Int} (hl : r.length = s.length) (m : Nat) : ∀ n, tk b (sm r.length fun j => U b r j n * sq b r s (m + j)) = tk b (sq b r s (m + n)) := by
  intro n
  induction n using Nat.strongRecOn with
  | ind n ih =>
  by_cases h : n < r.length
  · rw [sm_one n h]
    · rw [U_lt h, if_pos rfl, Int.one_mul]
    · intro i hi hn
      rw [U_lt h, if_neg (fun e => hn e.symm), Int.zero_mul]
  · have e1 : tk b (sm r.length fun j => U b r j n * sq b r s (m + j)) = tk b (sm r.length fun j => (sm r.length fun i => cf r i * U b r j (n - 1 - i)) * sq b r s (m + j)) :=
      tk_sm_congr fun j hj => tk_mulc (U_rec (by omega)) _
    have e2 : (sm r.length fun j => (sm r.length fun i => cf r i * U b r j (n - 1 - i)) * sq b r s (m + j)) = sm r.length fun i => cf r i * sm r.length fun j => U b r j (n - 1 - i) * sq b r s (m + j) := by
      rw [show (fun j => (sm r.length fun i => cf r i * U b r j (n - 1 - i)) * sq b r s (m + j)) = fun j => sm r.length fun i => cf r i * U b r j (n - 1 - i) * sq b r s (m + j) from funext fun j => (sm_mulr _ _ _).symm, sm_swap]
      refine sm_congr fun i hi => ?_
      rw [← sm_mul]
      exact sm_congr fun j hj => Int.mul_assoc _ _ _
    have e3 : tk b (sm r.length fun i => cf r i * sm r.length fun j => U b r j (n - 1 - i) * sq b r s (m + j)) = tk b (sm r.length fun i => cf r i * sq b r s (m + (n - 1 - i))) :=
      tk_sm_congr fun i hi => tk_mulcr (ih (n - 1 - i) (by omega)) _
    have e4 : tk b (sq b r s (m + n)) = tk b (sm r.length fun i => cf r i * sq b r s (m + (n - 1 - i))) := by
      have e := tk_eq_iff.mpr (sq_rec (b := b) (r := r) (s := s) (n := m + n) (by omega) hl)
      rw [e]
      congr 1
      refine sm_congr fun i hi => ?_
      rw [show m + n - 1 - i = m + (n - 1 - i) by omega]
    rw [e1, e2, e3, e4]
theorem JU {b : Int} (h0 : 0 ≤ b) (h1 : b ≠ 1) {r : List Int} (k m n : Nat) : tk b (sm r.length fun j => U b r j n * U b r k (m + j)) = U b r k (m + n) := by
  rw [← U_red h0 h1 r k (m + n)]
  exact J (eU_len _ _).symm m n
theorem cv_fun (f g S : Nat → Int) (T : Nat) : sm (T + 1) (fun i => cv f g i * S i) = sm (T + 1) fun a => f a * sm (T - a + 1) fun c => g c * S (a + c) := by
  have e := cv_assoc f g (fun t => S (T - t)) T
  unfold cv at e
  have e1 : (sm (T + 1) fun i => (sm (i + 1) fun j => f j * g (i - j)) * S (T - (T - i))) = sm (T + 1) fun i => cv f g i * S i := sm_congr fun i hi => by
    rw [show T - (T - i) = i by omega]
    rfl
  have e2 : (sm (T + 1) fun i => f i * sm (T - i + 1) fun c => g c * S (T - (T - i - c))) = sm (T + 1) fun a => f a * sm (T - a + 1) fun c => g c * S (a + c) := sm_congr fun a ha => by
    congr 1
    refine sm_congr fun c hc => ?_
    rw [show T - (T - a - c) = a + c by omega]
  rw [← e1, ← e2]
  exact e
theorem cv_fun2 {f g : Nat → Int} (S : Nat → Int) {n m : Nat} (hf : ∀ i, n ≤ i → f i = 0) (hg : ∀ i, m ≤ i → g i = 0) : sm (n + m) (fun i => cv f g i * S i) = sm n fun a => f a * sm m fun c => g c * S (a + c) := by
  have e := cv_fun f g S (n + m)
  rw [sm_succ, cv_big hf hg (by omega), Int.zero_mul, Int.add_zero] at e
  rw [e, sm_more (n := n) (m := n + m + 1) (by omega) (fun i h _ => by rw [hf i h, Int.zero_mul])]
  refine sm_congr fun a ha => ?_
  rw [sm_more (n := m) (m := n + m - a + 1) (by omega) (fun i h _ => by rw [hg i h, Int.zero_mul])]
/-- the polynomial of a rule -/
def PL (b : Int) (r : List Int) : List Int := r.reverse.map (fun x => tk b (0 - x)) ++ [1]
theorem PL_len (b : Int) (r : List Int) : (PL b r).length = r.length + 1 := by simp [PL]
theorem PL_top (b : Int) (r : List Int) : cf (PL b r) r.length = 1 := by
  unfold PL
  rw [cf_app_r (by simp)]
  simp [cf]
theorem PL_cf {b : Int} {r : List Int} {c : Nat} (h : c < r.length) : cf (PL b r) c = tk b (0 - cf r (r.length - 1 - c)) := by
  unfold PL
  rw [cf_app_l (by simpa using h), cf_map (f := fun x => tk b (0 - x)) (by simp [tk_zero]), cf_reverse h]
theorem PL_kills {b : Int} (r : List Int) (k a : Nat) : tk b (sm (r.length + 1) fun c => cf (PL b r) c * U b r k (a + c)) = 0 := by
  rw [sm_succ, PL_top, Int.one_mul, ← tk_add_r, U_rec (n := a + r.length) (by omega), tk_add_r, ← tk_add_l]
  have e : tk b (sm r.length fun c => cf (PL b r) c * U b r k (a + c)) = tk b (-sm r.length fun j => cf r j * U b r k (a + r.length - 1 - j)) := by
    rw [← sm_neg, sm_rev]
    refine tk_sm_congr fun i hi => ?_
    rw [PL_cf (by omega), tk_mul_l, show r.length - 1 - (r.length - 1 - i) = i by omega, show a + (r.length - 1 - i) = a + r.length - 1 - i by omega, Int.zero_sub, Int.neg_mul]
  rw [e, tk_add_l, Int.add_left_neg, tk_zero]
theorem sm_cf {xs : List Int} (S : Nat → Int) {N : Nat} (h : xs.length ≤ N) : sm N (fun i => cf xs i * S i) = sm xs.length fun i => cf xs i * S i :=
  sm_more h fun i h1 _ => by rw [cf_ge h1, Int.zero_mul]
/-- what a division by a rule's polynomial leaves -/
theorem rest_eq {B : Nat} {b : Int} {r xs : List Int} {Q L : Nat → Int} (h : Dv B b xs (PL b r) Q L) {j : Nat} (hj : j < r.length) : tk b (L j) = tk b (sm xs.length fun i => cf xs i * U b r j i) := by
  have lp := PL_len b r
  have hQ : ∀ k, xs.length ≤ k → Q k = 0 := fun k hk => h.sup k (by omega)
  have hP : ∀ k, r.length + 1 ≤ k → cf (PL b r) k = 0 := fun k hk => cf_ge (by omega)
  have a : tk b (sm (xs.length + (r.length + 1)) fun i => L i * U b r j i) = tk b (L j) := by
    rw [show tk b (L j) = tk b (sm (xs.length + (r.length + 1)) fun i => if i = j then L j else 0) from ?_]
    · refine tk_sm_congr fun i _ => ?_
      by_cases hi : i < r.length
      · rw [U_lt hi]
        by_cases e : i = j
        · subst e
          rw [if_pos rfl, if_pos rfl, Int.mul_one]
        · rw [if_neg e, if_neg e, Int.mul_zero]
      · rw [if_neg (by omega), tk_zero]
        exact tk_zero_iff.mpr (Int.dvd_trans (h.low i (by omega)) (Int.dvd_mul_right ..))
    · rw [sm_one j (by omega)]
      · rw [if_pos rfl]
      · intro i _ hn
        rw [if_neg hn]
  have c : tk b (sm (xs.length + (r.length + 1)) fun i => cv Q (cf (PL b r)) i * U b r j i) = 0 := by
    rw [cv_fun2 _ hQ hP, show (0 : Int) = tk b (sm xs.length fun _ => 0) by rw [sm_all0 (fun _ _ => rfl), tk_zero]]
    refine tk_sm_congr fun x _ => ?_
    rw [← tk_mul_r, PL_kills, Int.mul_zero]
  rw [← a, show (fun i => L i * U b r j i) = fun i => cf xs i * U b r j i - cv Q (cf (PL b r)) i * U b r j i from funext fun i => by rw [h.eq, Int.sub_mul], sm_sub, ← tk_sub_r, c, Int.sub_zero, sm_cf _ (by omega)]
theorem rest_list {B : Nat} {b : Int} {r xs : List Int} {Q L : Nat → Int} (h : Dv B b xs (PL b r) Q L) (n : Nat) (hn : ∀ k, k < r.length → tk b (sm xs.length fun i => cf xs i * U b r k i) = U b r k n) : trim ((List.range xs.length).map fun i => tk b (L i)) = trim (VL b r n) := by
  have lp := PL_len b r
  have hQ : ∀ k, xs.length ≤ k → Q k = 0 := fun k hk => h.sup k (by omega)
  refine trim_ext fun k => ?_
  unfold VL
  rw [cf_range, cf_range]
  by_cases hk : k < r.length
  · rw [if_pos hk]
    by_cases h2 : k < xs.length
    · rw [if_pos h2, rest_eq h hk, hn k hk]
    · rw [if_neg h2, ← hn k hk, sm_all0, tk_zero]
      intro i hi
      rw [U_lt (by omega), if_neg (by omega), Int.mul_zero]
  · rw [if_neg hk]
    split
    · exact tk_zero_iff.mpr (h.low k (by omega))
    · rfl
theorem mul_rest {b : Int} (h0 : 0 ≤ b) (h1 : b ≠ 1) {r xs : List Int} (n m : Nat) (hx : ∀ i, cf xs i = tk b (cv (cf (VL b r n)) (cf (VL b r m)) i)) (k : Nat) : tk b (sm xs.length fun i => cf xs i * U b r k i) = U b r k (m + n) := by
  have hv : ∀ n a, r.length ≤ a → cf (VL b r n) a = 0 := fun n a ha => cf_ge (by rw [VL_len]; exact ha)
  have e1 : (sm xs.length fun i => cf xs i * U b r k i) = sm (xs.length + (r.length + r.length)) fun i => cf xs i * U b r k i := (sm_cf _ (by omega)).symm
  have e2 : tk b (sm (xs.length + (r.length + r.length)) fun i => cf xs i * U b r k i) = tk b (sm (xs.length + (r.length + r.length)) fun i => cv (cf (VL b r n)) (cf (VL b r m)) i * U b r k i) :=
    tk_sm_congr fun i _ => by rw [hx, tk_mul_l]
  have e3 : (sm (xs.length + (r.length + r.length)) fun i => cv (cf (VL b r n)) (cf (VL b r m)) i * U b r k i) = sm (r.length + r.length) fun i => cv (cf (VL b r n)) (cf (VL b r m)) i * U b r k i :=
    sm_more (by omega) fun i hi _ => by rw [cv_big (hv n) (hv m) (by omega), Int.zero_mul]
  rw [e1, e2, e3, cv_fun2 _ (hv n) (hv m)]
  have e4 : ∀ a, a < r.length → (cf (VL b r n) a) = U b r a n := fun a ha => cf_rng _ ha
  have e5 : tk b (sm r.length fun a => cf (VL b r n) a * sm r.length fun c => cf (VL b r m) c * U b r k (a + c)) = tk b (sm r.length fun a => U b r a n * U b r k (m + a)) := by
    refine tk_sm_congr fun a ha => ?_
    rw [e4 a ha]
    refine tk_mulcr ?_ _
    rw [sm_congr (g := fun c => U b r c m * U b r k (a + c)) fun c hc => by rw [show cf (VL b r m) c = U b r c m from cf_rng _ hc], JU h0 h1, Nat.add_comm a m, U_red h0 h1]
  rw [e5, JU h0 h1]
theorem U_bd {b : Int} (h0 : 0 ≤ b) (h1 : b ≤ 997) (bn : b ≠ 1) {r : List Int} (hl : r.length ≤ 12) (hr : ∀ x ∈ r, bd 70 x) (k n : Nat) (hf : 0 < b ∨ n ≤ 1100) : bd 90000 (U b r k n) := by
  rcases hf with hf | hf
  · have e1 := tk_nonneg hf (U b r k n)
    have e2 := tk_lt hf (U b r k n)
    rw [U_red h0 bn] at e1 e2
    exact bd_mono (n := 10) (by unfold bd; omega) (by decide)
  · refine bd_mono (sq_bd (B := 70) (by decide) h0 (by omega) hr (fun x hx => ?_) (by omega) n) (by omega)
    obtain ⟨i, _, rfl⟩ := List.mem_map.mp hx
    split
    · exact bd_le (by decide)
    · exact bd_zero _
theorem VL_bd {b : Int} (h0 : 0 ≤ b) (h1 : b ≤ 997) (bn : b ≠ 1) {r : List Int} (hl : r.length ≤ 12) (hr : ∀ x ∈ r, bd 70 x) (n : Nat) (hf : 0 < b ∨ n ≤ 1100) : ∀ x ∈ VL b r n, bd 90000 x := by
  intro x hx
  obtain ⟨k, _, rfl⟩ := List.mem_map.mp hx
  exact U_bd h0 h1 bn hl hr k n hf
theorem PL_bd {b : Int} (h0 : 0 ≤ b) (h1 : b ≤ 997) {r : List Int} (hr : ∀ x ∈ r, bd 70 x) : ∀ x ∈ PL b r, bd 70 x := by
  intro x hx
  rcases List.mem_append.mp hx with hx | hx
  · obtain ⟨y, hy, rfl⟩ := List.mem_map.mp hx
    exact bd_tk h0 (by omega) (by decide) (by rw [Int.zero_sub]; exact bd_neg (hr y (List.mem_reverse.mp hy)))
  · rw [List.mem_singleton.mp hx]
    exact bd_le (by decide)
theorem div_VL {B : Nat} (hB : 200 ≤ B) (hB1 : B ≤ 1000000) {b : Int} (h0 : 0 ≤ b) (h1 : b ≤ 997) {r xs : List Int} (hl : r.length ≤ 12) (hr : ∀ x ∈ r, bd 70 x) (hx : xs.length ≤ 60) (bx : ∀ x ∈ xs, bd B x) (n : Nat) (hn : ∀ k, k < r.length → tk b (sm xs.length fun i => cf xs i * U b r k i) = U b r k n) :
    ∃ q, s_divided [.int b, .tup (iL xs), .tup (iL (PL b r))] = .ok (.tup [q, .tup (iL (trim (VL b r n)))]) := by
  have lp := PL_len b r
  obtain ⟨Q, L, e, h⟩ := divided_ok hB hB1 h0 h1 (xs := xs) (ys := PL b r) hx (by omega) (by omega) (by rw [lp, Nat.add_sub_cancel, PL_top]) bx (PL_bd h0 h1 hr)
  rw [rest_list h n hn] at e
  exact ⟨_, e⟩
theorem step_VL {b : Int} (h0 : 0 ≤ b) (h1 : b ≤ 997) (bn : b ≠ 1) {r : List Int} (hl : r.length ≤ 12) (hr : ∀ x ∈ r, bd 70 x) (n m : Nat) (fn : 0 < b ∨ n ≤ 1100) (fm : 0 < b ∨ m ≤ 1100) :
    ∃ t q, s_times [.int b, .tup (iL (trim (VL b r n))), .tup (iL (trim (VL b r m)))] = .ok t ∧ s_divided [.int b, t, .tup (iL (PL b r))] = .ok (.tup [q, .tup (iL (trim (VL b r (m + n))))]) := by
  have ln : (trim (VL b r n)).length ≤ 12 := Nat.le_trans (trim_len_le _) (by rw [VL_len]; exact hl)
  have lm : (trim (VL b r m)).length ≤ 12 := Nat.le_trans (trim_len_le _) (by rw [VL_len]; exact hl)
  have bN : ∀ x ∈ trim (VL b r n), bd 90000 x := fun x hx => VL_bd h0 h1 bn hl hr n fn x (mem_trim hx)
  have bM : ∀ x ∈ trim (VL b r m), bd 90000 x := fun x hx => VL_bd h0 h1 bn hl hr m fm x (mem_trim hx)
  have e := times_ok h0 (xs := trim (VL b r n)) (ys := trim (VL b r m)) (by omega) (by omega) (fun x hx => bd_mono (bN x hx) (by decide)) (fun x hx => bd_mono (bM x hx) (by decide))
  have hc : ∀ i, cf (trim ((List.range ((trim (VL b r n)).length + (trim (VL b r m)).length)).map fun k => tk b (cv (cf (trim (VL b r n))) (cf (trim (VL b r m))) k))) i = tk b (cv (cf (VL b r n)) (cf (VL b r m)) i) := by
    intro i
    rw [cf_trim, cf_range]
    split
    · rw [cv_congr (cf_trim _) (cf_trim _)]
    · rw [← cv_congr (cf_trim (VL b r n)) (cf_trim (VL b r m)), cv_big (n := (trim (VL b r n)).length) (m := (trim (VL b r m)).length) (fun i => cf_ge) (fun i => cf_ge) (by omega), tk_zero]
  have bt : ∀ x ∈ trim ((List.range ((trim (VL b r n)).length + (trim (VL b r m)).length)).map fun k => tk b (cv (cf (trim (VL b r n))) (cf (trim (VL b r m))) k)), bd 200000 x := by
    intro x hx
    obtain ⟨i, hi, rfl⟩ := List.mem_map.mp (mem_trim hx)
    have hi := List.mem_range.mp hi
    refine bd_tk h0 (by omega) (by decide) (bd_mono (bd_sm (n := 180000) (m := 5) (k := i + 1) (by omega) fun j _ => ?_) (by decide))
    exact bd_mul (n := 90000) (m := 90000) (bd_cf bN _) (bd_cf bM _)
  obtain ⟨q, e2⟩ := div_VL (B := 200000) (by decide) (by decide) h0 h1 hl hr (Nat.le_trans (trim_len_le _) (by simp; omega)) bt (m + n) (fun k _ => mul_rest h0 bn n m hc k)
  exact ⟨_, q, e, e2⟩
theorem power_left_ok {b : Int} (h0 : 0 ≤ b) (h1 : b ≤ 997) (bn : b ≠ 1) {r : List Int} (hl : r.length ≤ 12) (hr : ∀ x ∈ r, bd 70 x) (N : Nat) (hN : N < 2 ^ 300) (hf : 0 < b ∨ N ≤ 500) :
    s_power_left [.int b, .int (N : Int), .tup (iL (PL b r))] = .ok (.tup (iL (trim (VL b r N)))) := by
  have hLo : LOOPS = 1000000000 := rfl
  obtain ⟨q0, e0⟩ := div_VL (B := 200) (by decide) (by decide) h0 h1 hl hr (xs := [1]) (by decide) (by simp [bd]) 0 (fun k _ => by
    rw [show sm [(1 : Int)].length (fun i => cf [1] i * U b r k i) = U b r k 0 by simp [sm, cf], U_red h0 bn])
  obtain ⟨q1, e1⟩ := div_VL (B := 200) (by decide) (by decide) h0 h1 hl hr (xs := [0, 1]) (by decide) (by simp [bd]) 1 (fun k _ => by
    rw [show sm [(0 : Int), 1].length (fun i => cf [0, 1] i * U b r k i) = U b r k 1 by simp [sm, cf], U_red h0 bn])
  simp only [iL_cons, iL_nil] at e0 e1
  obtain ⟨t, ht, hT, hlo⟩ : ∃ t, N < 2 ^ t ∧ t ≤ 300 ∧ ∀ i, i < t → 2 ^ i ≤ N := by
    by_cases z : N = 0
    · exact ⟨0, by omega, by omega, fun i hi => by omega⟩
    · refine ⟨N.log2 + 1, Nat.lt_log2_self, (Nat.log2_lt z).mpr hN, fun i hi => ?_⟩
      exact Nat.le_trans (Nat.pow_le_pow_right (by decide) (show i ≤ N.log2 by omega)) (Nat.log2_self_le z)
  refine run_ret rfl ?_
  show evSs [s_divided, s_times] [] false c_power_left [.sh (.int b), .sh (.int (N : Int)), .sh (.tup (iL (PL b r))), .no, .no] = _
  simp -implicitDefEqProofs only [c_power_left, evSs, evS, evE, evEs, evI, RS.of_ok, RS.of_exn, RS.ofL_ok, RS.ofL_exn, RS.then_next, RS.then_ret, RS.then_brk, RS.then_cnt, RS.then_exn, RS.ifB_t, RS.ifB_f, RS.caught_next, RS.caught_ret, RS.caught_exn, RS.suite_next, RS.suite_ret, pIsx, pIs, pIsN, lamR_enc_ok, lamR_enc_exn, Pf.toldTo, R.bind_ok, R.bind_exn, pBin, pCmp, pAdd, pSub, pNeg, pLt, pLe, pNot, pIx, pSeq, pInt, getE, getB, setOwR, Pf.putAt, Pf.popTo, Pf.scrTo, Pf.unpTo, pIsa, asgT, setAll, killAll, PX.isN, PX.isB, PXs.hasB, Bool.false_eq_true, Bool.or_false, Bool.or_self, List.getElem?_cons_zero, List.getElem?_cons_succ, List.set_cons_zero, List.set_cons_succ, List.length_cons, List.length_nil, List.getD_cons_zero, List.getD_cons_succ, Nat.reduceAdd, Nat.reduceLT, Nat.zero_lt_succ, Nat.zero_add, ite_self, Bool.false_or, Bool.true_or, iL_len, Int.cast_ofNat_Int, Bool.and_true, Bool.true_and, bi_len_lst, bi_len_tup, bi_len_rl, bi_list_lst, bi_list_tup, bi_list_rl, bi_tuple_lst, bi_tuple_tup, bi_tuple_rl, bi_int_int, bi_int_b, at_two, int_if, at3_0, at3_1, at3_2, at2_0, at2_1, List.take_succ_cons, List.take_zero, List.drop_succ_cons, List.drop_zero, sum_ok, sl_lst, sl_tup, sl_rl, part_t, part_f, if_true, if_false, ite_true, ite_false, reduceIte, Nat.reduceLeDiff, Nat.reduceSub, eq_self, and_self, and_true, true_and, e0, e1]
  rw [whlL_go t (fun i => [.sh (.int b), .sh (.int ((N / 2 ^ i : Nat) : Int)), .sh (.tup (iL (PL b r))), .sh (.tup (iL (trim (VL b r (N % 2 ^ i))))), .sh (.tup (iL (trim (VL b r (2 ^ i)))))]) (by omega) ?h0 ?h ?he]
  case h0 => simp only [Nat.pow_zero, Nat.div_one, Nat.mod_one]
  case h =>
    intro i hi
    have hp := hlo i hi
    have hpos : 0 < N / 2 ^ i := Nat.div_pos hp (Nat.two_pow_pos i)
    have hmod : N % 2 ^ i < 2 ^ i := Nat.mod_lt _ (Nat.two_pow_pos i)
    have e2 : N / 2 ^ (i + 1) = N / 2 ^ i / 2 := by rw [Nat.pow_succ, Nat.div_div_eq_div_mul]
    have e3 : N % 2 ^ (i + 1) = N % 2 ^ i + 2 ^ i * (N / 2 ^ i % 2) := by rw [Nat.pow_succ, Nat.mod_mul]
    obtain ⟨t1, q1, a1, a2⟩ := step_VL h0 h1 bn hl hr (N % 2 ^ i) (2 ^ i) (hf.imp id fun _ => by omega) (hf.imp id fun _ => by omega)
    obtain ⟨t2, q2, b1, b2⟩ := step_VL h0 h1 bn hl hr (2 ^ i) (2 ^ i) (hf.imp id fun _ => by omega) (hf.imp id fun _ => by omega)
    have e4 : 2 ^ i + 2 ^ i = 2 ^ (i + 1) := by rw [Nat.pow_succ]; omega
    rw [e4] at b2
    refine ⟨?_, .inl ?_⟩
    · simp -implicitDefEqProofs only [evSs, evS, evE, evEs, evI, RS.of_ok, RS.of_exn, RS.ofL_ok, RS.ofL_exn, RS.then_next, RS.then_ret, RS.then_brk, RS.then_cnt, RS.then_exn, RS.ifB_t, RS.ifB_f, RS.caught_next, RS.caught_ret, RS.caught_exn, RS.suite_next, RS.suite_ret, pIsx, pIs, pIsN, lamR_enc_ok, lamR_enc_exn, Pf.toldTo, R.bind_ok, R.bind_exn, pBin, pCmp, pAdd, pSub, pNeg, pLt, pLe, pNot, pIx, pSeq, pInt, getE, getB, setOwR, Pf.putAt, Pf.popTo, Pf.scrTo, Pf.unpTo, pIsa, asgT, setAll, killAll, PX.isN, PX.isB, PXs.hasB, Bool.false_eq_true, Bool.or_false, Bool.or_self, List.getElem?_cons_zero, List.getElem?_cons_succ, List.set_cons_zero, List.set_cons_succ, List.length_cons, List.length_nil, List.getD_cons_zero, List.getD_cons_succ, Nat.reduceAdd, Nat.reduceLT, Nat.zero_lt_succ, Nat.zero_add, ite_self, Bool.false_or, Bool.true_or, iL_len, Int.cast_ofNat_Int, Bool.and_true, Bool.true_and, bi_len_lst, bi_len_tup, bi_len_rl, bi_list_lst, bi_list_tup, bi_list_rl, bi_tuple_lst, bi_tuple_tup, bi_tuple_rl, bi_int_int, bi_int_b, at_two, int_if, at3_0, at3_1, at3_2, at2_0, at2_1, List.take_succ_cons, List.take_zero, List.drop_succ_cons, List.drop_zero, sum_ok, sl_lst, sl_tup, sl_rl, part_t, part_f, if_true, if_false, ite_true, ite_false, reduceIte, Nat.reduceLeDiff, Nat.reduceSub, eq_self, and_self, and_true, true_and, show (0 : Int) < ((N / 2 ^ i : Nat) : Int) by omega, decide_true]
    · have d2 : ((N / 2 ^ i : Nat) : Int) / 2 = ((N / 2 ^ (i + 1) : Nat) : Int) := by rw [e2]; omega
      have m2 : (((N / 2 ^ i : Nat) : Int) % 2 = 1 ∧ N / 2 ^ i % 2 = 1) ∨ (¬ ((N / 2 ^ i : Nat) : Int) % 2 = 1 ∧ N / 2 ^ i % 2 = 0) := by omega
      rcases m2 with ⟨m2, m3⟩ | ⟨m2, m3⟩
      · rw [m3, Nat.mul_one] at e3
        rw [show 2 ^ i + N % 2 ^ i = N % 2 ^ (i + 1) by omega] at a2
        simp -implicitDefEqProofs only [c_power_left_1, evSs, evS, evE, evEs, evI, RS.of_ok, RS.of_exn, RS.ofL_ok, RS.ofL_exn, RS.then_next, RS.then_ret, RS.then_brk, RS.then_cnt, RS.then_exn, RS.ifB_t, RS.ifB_f, RS.caught_next, RS.caught_ret, RS.caught_exn, RS.suite_next, RS.suite_ret, pIsx, pIs, pIsN, lamR_enc_ok, lamR_enc_exn, Pf.toldTo, R.bind_ok, R.bind_exn, pBin, pCmp, pAdd, pSub, pNeg, pLt, pLe, pNot, pIx, pSeq, pInt, getE, getB, setOwR, Pf.putAt, Pf.popTo, Pf.scrTo, Pf.unpTo, pIsa, asgT, setAll, killAll, PX.isN, PX.isB, PXs.hasB, Bool.false_eq_true, Bool.or_false, Bool.or_self, List.getElem?_cons_zero, List.getElem?_cons_succ, List.set_cons_zero, List.set_cons_succ, List.length_cons, List.length_nil, List.getD_cons_zero, List.getD_cons_succ, Nat.reduceAdd, Nat.reduceLT, Nat.zero_lt_succ, Nat.zero_add, ite_self, Bool.false_or, Bool.true_or, iL_len, Int.cast_ofNat_Int, Bool.and_true, Bool.true_and, bi_len_lst, bi_len_tup, bi_len_rl, bi_list_lst, bi_list_tup, bi_list_rl, bi_tuple_lst, bi_tuple_tup, bi_tuple_rl, bi_int_int, bi_int_b, at_two, int_if, at3_0, at3_1, at3_2, at2_0, at2_1, List.take_succ_cons, List.take_zero, List.drop_succ_cons, List.drop_zero, sum_ok, sl_lst, sl_tup, sl_rl, part_t, part_f, if_true, if_false, ite_true, ite_false, reduceIte, Nat.reduceLeDiff, Nat.reduceSub, eq_self, and_self, and_true, true_and, mod_pos (b := 2) (by decide), eq_int, m2, decide_true, a1, a2, b1, b2, fdiv_pos (b := 2) (by decide) (by decide), d2]
      · rw [m3, Nat.mul_zero] at e3
        have e3 : N % 2 ^ (i + 1) = N % 2 ^ i := e3
        simp -implicitDefEqProofs only [c_power_left_1, evSs, evS, evE, evEs, evI, RS.of_ok, RS.of_exn, RS.ofL_ok, RS.ofL_exn, RS.then_next, RS.then_ret, RS.then_brk, RS.then_cnt, RS.then_exn, RS.ifB_t, RS.ifB_f, RS.caught_next, RS.caught_ret, RS.caught_exn, RS.suite_next, RS.suite_ret, pIsx, pIs, pIsN, lamR_enc_ok, lamR_enc_exn, Pf.toldTo, R.bind_ok, R.bind_exn, pBin, pCmp, pAdd, pSub, pNeg, pLt, pLe, pNot, pIx, pSeq, pInt, getE, getB, setOwR, Pf.putAt, Pf.popTo, Pf.scrTo, Pf.unpTo, pIsa, asgT, setAll, killAll, PX.isN, PX.isB, PXs.hasB, Bool.false_eq_true, Bool.or_false, Bool.or_self, List.getElem?_cons_zero, List.getElem?_cons_succ, List.set_cons_zero, List.set_cons_succ, List.length_cons, List.length_nil, List.getD_cons_zero, List.getD_cons_succ, Nat.reduceAdd, Nat.reduceLT, Nat.zero_lt_succ, Nat.zero_add, ite_self, Bool.false_or, Bool.true_or, iL_len, Int.cast_ofNat_Int, Bool.and_true, Bool.true_and, bi_len_lst, bi_len_tup, bi_len_rl, bi_list_lst, bi_list_tup, bi_list_rl, bi_tuple_lst, bi_tuple_tup, bi_tuple_rl, bi_int_int, bi_int_b, at_two, int_if, at3_0, at3_1, at3_2, at2_0, at2_1, List.take_succ_cons, List.take_zero, List.drop_succ_cons, List.drop_zero, sum_ok, sl_lst, sl_tup, sl_rl, part_t, part_f, if_true, if_false, ite_true, ite_false, reduceIte, Nat.reduceLeDiff, Nat.reduceSub, eq_self, and_self, and_true, true_and, mod_pos (b := 2) (by decide), eq_int, m2, decide_false, b1, b2, fdiv_pos (b := 2) (by decide) (by decide), d2, e3]
  case he => simp -implicitDefEqProofs only [evSs, evS, evE, evEs, evI, RS.of_ok, RS.of_exn, RS.ofL_ok, RS.ofL_exn, RS.then_next, RS.then_ret, RS.then_brk, RS.then_cnt, RS.then_exn, RS.ifB_t, RS.ifB_f, RS.caught_next, RS.caught_ret, RS.caught_exn, RS.suite_next, RS.suite_ret, pIsx, pIs, pIsN, lamR_enc_ok, lamR_enc_exn, Pf.toldTo, R.bind_ok, R.bind_exn, pBin, pCmp, pAdd, pSub, pNeg, pLt, pLe, pNot, pIx, pSeq, pInt, getE, getB, setOwR, Pf.putAt, Pf.popTo, Pf.scrTo, Pf.unpTo, pIsa, asgT, setAll, killAll, PX.isN, PX.isB, PXs.hasB, Bool.false_eq_true, Bool.or_false, Bool.or_self, List.getElem?_cons_zero, List.getElem?_cons_succ, List.set_cons_zero, List.set_cons_succ, List.length_cons, List.length_nil, List.getD_cons_zero, List.getD_cons_succ, Nat.reduceAdd, Nat.reduceLT, Nat.zero_lt_succ, Nat.zero_add, ite_self, Bool.false_or, Bool.true_or, iL_len, Int.cast_ofNat_Int, Bool.and_true, Bool.true_and, bi_len_lst, bi_len_tup, bi_len_rl, bi_list_lst, bi_list_tup, bi_list_rl, bi_tuple_lst, bi_tuple_tup, bi_tuple_rl, bi_int_int, bi_int_b, at_two, int_if, at3_0, at3_1, at3_2, at2_0, at2_1, List.take_succ_cons, List.take_zero, List.drop_succ_cons, List.drop_zero, sum_ok, sl_lst, sl_tup, sl_rl, part_t, part_f, if_true, if_false, ite_true, ite_false, reduceIte, Nat.reduceLeDiff, Nat.reduceSub, eq_self, and_self, and_true, true_and, Nat.div_eq_of_lt ht, show ((0 : Nat) : Int) = 0 from rfl, Int.lt_irrefl, decide_false]
  simp -implicitDefEqProofs only [evSs, evS, evE, evEs, evI, RS.of_ok, RS.of_exn, RS.ofL_ok, RS.ofL_exn, RS.then_next, RS.then_ret, RS.then_brk, RS.then_cnt, RS.then_exn, RS.ifB_t, RS.ifB_f, RS.caught_next, RS.caught_ret, RS.caught_exn, RS.suite_next, RS.suite_ret, pIsx, pIs, pIsN, lamR_enc_ok, lamR_enc_exn, Pf.toldTo, R.bind_ok, R.bind_exn, pBin, pCmp, pAdd, pSub, pNeg, pLt, pLe, pNot, pIx, pSeq, pInt, getE, getB, setOwR, Pf.putAt, Pf.popTo, Pf.scrTo, Pf.unpTo, pIsa, asgT, setAll, killAll, PX.isN, PX.isB, PXs.hasB, Bool.false_eq_true, Bool.or_false, Bool.or_self, List.getElem?_cons_zero, List.getElem?_cons_succ, List.set_cons_zero, List.set_cons_succ, List.length_cons, List.length_nil, List.getD_cons_zero, List.getD_cons_succ, Nat.reduceAdd, Nat.reduceLT, Nat.zero_lt_succ, Nat.zero_add, ite_self, Bool.false_or, Bool.true_or, iL_len, Int.cast_ofNat_Int, Bool.and_true, Bool.true_and, bi_len_lst, bi_len_tup, bi_len_rl, bi_list_lst, bi_list_tup, bi_list_rl, bi_tuple_lst, bi_tuple_tup, bi_tuple_rl, bi_int_int, bi_int_b, at_two, int_if, at3_0, at3_1, at3_2, at2_0, at2_1, List.take_succ_cons, List.take_zero, List.drop_succ_cons, List.drop_zero, sum_ok, sl_lst, sl_tup, sl_rl, part_t, part_f, if_true, if_false, ite_true, ite_false, reduceIte, Nat.reduceLeDiff, Nat.reduceSub, eq_self, and_self, and_true, true_and, Nat.mod_eq_of_lt ht]
theorem rev_map (f : Int → Int) (r : List Int) : r.reverse.map f = (List.range r.length).map fun k => f (cf r (r.length - 1 - k)) := by
  apply cf_ext (by simp)
  intro k hk
  have hk' : k < r.length := by simpa using hk
  rw [cf_rng _ hk', cf_lt hk, List.getElem_map, ← cf_lt (xs := r.reverse) (by simpa using hk'), cf_reverse hk']
theorem of_rule_ok {b : Int} (hb : 0 ≤ b) {r : List Int} (hr : r.length ≤ 1000) : s_of_rule [.int b, .tup (iL r)] = .ok (.tup (iL (PL b r))) := by
  have hL : LIM = 1000000 := rfl
  refine run_ret rfl ?_
  show evSs [s_taken] [] false c_of_rule [.sh (.int b), .sh (.tup (iL r)), .no] = _
  simp -implicitDefEqProofs only [c_of_rule, evSs, evS, evE, evEs, evI, RS.of_ok, RS.of_exn, RS.ofL_ok, RS.ofL_exn, RS.then_next, RS.then_ret, RS.then_brk, RS.then_cnt, RS.then_exn, RS.ifB_t, RS.ifB_f, RS.caught_next, RS.caught_ret, RS.caught_exn, RS.suite_next, RS.suite_ret, pIsx, pIs, pIsN, lamR_enc_ok, lamR_enc_exn, Pf.toldTo, R.bind_ok, R.bind_exn, pBin, pCmp, pAdd, pSub, pNeg, pLt, pLe, pNot, pIx, pSeq, pInt, getE, getB, setOwR, Pf.putAt, Pf.popTo, Pf.scrTo, Pf.unpTo, pIsa, asgT, setAll, killAll, PX.isN, PX.isB, PXs.hasB, Bool.false_eq_true, Bool.or_false, Bool.or_self, List.getElem?_cons_zero, List.getElem?_cons_succ, List.set_cons_zero, List.set_cons_succ, List.length_cons, List.length_nil, List.getD_cons_zero, List.getD_cons_succ, Nat.reduceAdd, Nat.reduceLT, Nat.zero_lt_succ, Nat.zero_add, ite_self, Bool.false_or, Bool.true_or, iL_len, Int.cast_ofNat_Int, Bool.and_true, Bool.true_and, bi_len_lst, bi_len_tup, bi_len_rl, bi_list_lst, bi_list_tup, bi_list_rl, bi_tuple_lst, bi_tuple_tup, bi_tuple_rl, bi_int_int, bi_int_b, at_two, int_if, at3_0, at3_1, at3_2, at2_0, at2_1, List.take_succ_cons, List.take_zero, List.drop_succ_cons, List.drop_zero, sum_ok, sl_lst, sl_tup, sl_rl, part_t, part_f, if_true, if_false, ite_true, ite_false, reduceIte, Nat.reduceLeDiff, Nat.reduceSub, eq_self, and_self, and_true, true_and, iL_rev]
  rw [compL_iL (fun x => tk b (0 - x)) r.reverse ?hc]
  case hc =>
    intro x hx
    exact ⟨_, rfl, rfl, by simp -implicitDefEqProofs only [evSs, evS, evE, evEs, evI, RS.of_ok, RS.of_exn, RS.ofL_ok, RS.ofL_exn, RS.then_next, RS.then_ret, RS.then_brk, RS.then_cnt, RS.then_exn, RS.ifB_t, RS.ifB_f, RS.caught_next, RS.caught_ret, RS.caught_exn, RS.suite_next, RS.suite_ret, pIsx, pIs, pIsN, lamR_enc_ok, lamR_enc_exn, Pf.toldTo, R.bind_ok, R.bind_exn, pBin, pCmp, pAdd, pSub, pNeg, pLt, pLe, pNot, pIx, pSeq, pInt, getE, getB, setOwR, Pf.putAt, Pf.popTo, Pf.scrTo, Pf.unpTo, pIsa, asgT, setAll, killAll, PX.isN, PX.isB, PXs.hasB, Bool.false_eq_true, Bool.or_false, Bool.or_self, List.getElem?_cons_zero, List.getElem?_cons_succ, List.set_cons_zero, List.set_cons_succ, List.length_cons, List.length_nil, List.getD_cons_zero, List.getD_cons_succ, Nat.reduceAdd, Nat.reduceLT, Nat.zero_lt_succ, Nat.zero_add, ite_self, Bool.false_or, Bool.true_or, iL_len, Int.cast_ofNat_Int, Bool.and_true, Bool.true_and, bi_len_lst, bi_len_tup, bi_len_rl, bi_list_lst, bi_list_tup, bi_list_rl, bi_tuple_lst, bi_tuple_tup, bi_tuple_rl, bi_int_int, bi_int_b, at_two, int_if, at3_0, at3_1, at3_2, at2_0, at2_1, List.take_succ_cons, List.take_zero, List.drop_succ_cons, List.drop_zero, sum_ok, sl_lst, sl_tup, sl_rl, part_t, part_f, if_true, if_false, ite_true, ite_false, reduceIte, Nat.reduceLeDiff, Nat.reduceSub, eq_self, and_self, and_true, true_and, taken_ok hb]⟩
  simp -implicitDefEqProofs only [evSs, evS, evE, evEs, evI, RS.of_ok, RS.of_exn, RS.ofL_ok, RS.ofL_exn, RS.then_next, RS.then_ret, RS.then_brk, RS.then_cnt, RS.then_exn, RS.ifB_t, RS.ifB_f, RS.caught_next, RS.caught_ret, RS.caught_exn, RS.suite_next, RS.suite_ret, pIsx, pIs, pIsN, lamR_enc_ok, lamR_enc_exn, Pf.toldTo, R.bind_ok, R.bind_exn, pBin, pCmp, pAdd, pSub, pNeg, pLt, pLe, pNot, pIx, pSeq, pInt, getE, getB, setOwR, Pf.putAt, Pf.popTo, Pf.scrTo, Pf.unpTo, pIsa, asgT, setAll, killAll, PX.isN, PX.isB, PXs.hasB, Bool.false_eq_true, Bool.or_false, Bool.or_self, List.getElem?_cons_zero, List.getElem?_cons_succ, List.set_cons_zero, List.set_cons_succ, List.length_cons, List.length_nil, List.getD_cons_zero, List.getD_cons_succ, Nat.reduceAdd, Nat.reduceLT, Nat.zero_lt_succ, Nat.zero_add, ite_self, Bool.false_or, Bool.true_or, iL_len, Int.cast_ofNat_Int, Bool.and_true, Bool.true_and, bi_len_lst, bi_len_tup, bi_len_rl, bi_list_lst, bi_list_tup, bi_list_rl, bi_tuple_lst, bi_tuple_tup, bi_tuple_rl, bi_int_int, bi_int_b, at_two, int_if, at3_0, at3_1, at3_2, at2_0, at2_1, List.take_succ_cons, List.take_zero, List.drop_succ_cons, List.drop_zero, sum_ok, sl_lst, sl_tup, sl_rl, part_t, part_f, if_true, if_false, ite_true, ite_false, reduceIte, Nat.reduceLeDiff, Nat.reduceSub, eq_self, and_self, and_true, true_and, List.length_reverse, List.length_map, show r.length ≤ LIM by omega, show r.length + 1 ≤ LIM by omega, iL_app1]
  rfl
theorem ask_far_ok {b : Int} {r s : List Int} (N : Nat) (hf : ¬ b = 0 ∨ N ≤ 400) : s_ask_far [.tup [.int b, .tup (iL r), .tup (iL s)], .int (N : Int)] = .ok .non := by
  refine run_next rfl (ρ := [.sh (.tup [.int b, .tup (iL r), .tup (iL s)]), .sh (.int (N : Int))]) ?_
  show evSs [] [cn_FARTHEST] false c_ask_far [.sh (.tup [.int b, .tup (iL r), .tup (iL s)]), .sh (.int (N : Int))] = _
  by_cases h : b = 0
  · have h2 : N ≤ 400 := hf.resolve_left fun q => q h
    simp -implicitDefEqProofs only [c_ask_far, cn_FARTHEST, evSs, evS, evE, evEs, evI, RS.of_ok, RS.of_exn, RS.ofL_ok, RS.ofL_exn, RS.then_next, RS.then_ret, RS.then_brk, RS.then_cnt, RS.then_exn, RS.ifB_t, RS.ifB_f, RS.caught_next, RS.caught_ret, RS.caught_exn, RS.suite_next, RS.suite_ret, pIsx, pIs, pIsN, lamR_enc_ok, lamR_enc_exn, Pf.toldTo, R.bind_ok, R.bind_exn, pBin, pCmp, pAdd, pSub, pNeg, pLt, pLe, pNot, pIx, pSeq, pInt, getE, getB, setOwR, Pf.putAt, Pf.popTo, Pf.scrTo, Pf.unpTo, pIsa, asgT, setAll, killAll, PX.isN, PX.isB, PXs.hasB, Bool.false_eq_true, Bool.or_false, Bool.or_self, List.getElem?_cons_zero, List.getElem?_cons_succ, List.set_cons_zero, List.set_cons_succ, List.length_cons, List.length_nil, List.getD_cons_zero, List.getD_cons_succ, Nat.reduceAdd, Nat.reduceLT, Nat.zero_lt_succ, Nat.zero_add, ite_self, Bool.false_or, Bool.true_or, iL_len, Int.cast_ofNat_Int, Bool.and_true, Bool.true_and, bi_len_lst, bi_len_tup, bi_len_rl, bi_list_lst, bi_list_tup, bi_list_rl, bi_tuple_lst, bi_tuple_tup, bi_tuple_rl, bi_int_int, bi_int_b, at_two, int_if, at3_0, at3_1, at3_2, at2_0, at2_1, List.take_succ_cons, List.take_zero, List.drop_succ_cons, List.drop_zero, sum_ok, sl_lst, sl_tup, sl_rl, part_t, part_f, if_true, if_false, ite_true, ite_false, reduceIte, Nat.reduceLeDiff, Nat.reduceSub, eq_self, and_self, and_true, true_and, show ¬ (N : Int) < 0 by omega, decide_false, eq_int, h, decide_true, show ¬ (400 : Int) < (N : Int) by omega]
  · simp -implicitDefEqProofs only [c_ask_far, cn_FARTHEST, evSs, evS, evE, evEs, evI, RS.of_ok, RS.of_exn, RS.ofL_ok, RS.ofL_exn, RS.then_next, RS.then_ret, RS.then_brk, RS.then_cnt, RS.then_exn, RS.ifB_t, RS.ifB_f, RS.caught_next, RS.caught_ret, RS.caught_exn, RS.suite_next, RS.suite_ret, pIsx, pIs, pIsN, lamR_enc_ok, lamR_enc_exn, Pf.toldTo, R.bind_ok, R.bind_exn, pBin, pCmp, pAdd, pSub, pNeg, pLt, pLe, pNot, pIx, pSeq, pInt, getE, getB, setOwR, Pf.putAt, Pf.popTo, Pf.scrTo, Pf.unpTo, pIsa, asgT, setAll, killAll, PX.isN, PX.isB, PXs.hasB, Bool.false_eq_true, Bool.or_false, Bool.or_self, List.getElem?_cons_zero, List.getElem?_cons_succ, List.set_cons_zero, List.set_cons_succ, List.length_cons, List.length_nil, List.getD_cons_zero, List.getD_cons_succ, Nat.reduceAdd, Nat.reduceLT, Nat.zero_lt_succ, Nat.zero_add, ite_self, Bool.false_or, Bool.true_or, iL_len, Int.cast_ofNat_Int, Bool.and_true, Bool.true_and, bi_len_lst, bi_len_tup, bi_len_rl, bi_list_lst, bi_list_tup, bi_list_rl, bi_tuple_lst, bi_tuple_tup, bi_tuple_rl, bi_int_int, bi_int_b, at_two, int_if, at3_0, at3_1, at3_2, at2_0, at2_1, List.take_succ_cons, List.take_zero, List.drop_succ_cons, List.drop_zero, sum_ok, sl_lst, sl_tup, sl_rl, part_t, part_f, if_true, if_false, ite_true, ite_false, reduceIte, Nat.reduceLeDiff, Nat.reduceSub, eq_self, and_self, and_true, true_and, show ¬ (N : Int) < 0 by omega, decide_false, eq_int, h]
theorem jump_ok {b : Int} (h0 : 0 ≤ b) (h1 : b ≤ 997) (bn : b ≠ 1) {r s : List Int} (hl : r.length ≤ 12) (hr : ∀ x ∈ r, bd 70 x) (N : Nat) (hN : N < 2 ^ 300) (hf : ¬ b = 0 ∨ N ≤ 400) :
    s_jump [.tup [.int b, .tup (iL r), .tup (iL s)], .int (N : Int)] = .ok (.tup (iL (VL b r N))) := by
  have hL : LIM = 1000000 := rfl
  have lt : (trim (VL b r N)).length ≤ r.length := Nat.le_trans (trim_len_le _) (by rw [VL_len]; omega)
  have e1 : (r.length : Int) - ((trim (VL b r N)).length : Int) = ((r.length - (trim (VL b r N)).length : Nat) : Int) := by omega
  have e2 : trim (VL b r N) ++ List.replicate (r.length - (trim (VL b r N)).length) 0 = VL b r N := by
    apply cf_ext (by rw [VL_len]; simp; omega)
    intro k hk
    by_cases h : k < (trim (VL b r N)).length
    · rw [cf_app_l h, cf_trim]
    · rw [cf_app_r (by omega), cf_rep, ite_self, ← cf_trim, cf_ge (by omega)]
  refine run_ret rfl ?_
  show evSs [s_ask_far, s_power_left, s_of_rule] [] false c_jump [.sh (.tup [.int b, .tup (iL r), .tup (iL s)]), .sh (.int (N : Int)), .no] = _
  simp -implicitDefEqProofs only [c_jump, evSs, evS, evE, evEs, evI, RS.of_ok, RS.of_exn, RS.ofL_ok, RS.ofL_exn, RS.then_next, RS.then_ret, RS.then_brk, RS.then_cnt, RS.then_exn, RS.ifB_t, RS.ifB_f, RS.caught_next, RS.caught_ret, RS.caught_exn, RS.suite_next, RS.suite_ret, pIsx, pIs, pIsN, lamR_enc_ok, lamR_enc_exn, Pf.toldTo, R.bind_ok, R.bind_exn, pBin, pCmp, pAdd, pSub, pNeg, pLt, pLe, pNot, pIx, pSeq, pInt, getE, getB, setOwR, Pf.putAt, Pf.popTo, Pf.scrTo, Pf.unpTo, pIsa, asgT, setAll, killAll, PX.isN, PX.isB, PXs.hasB, Bool.false_eq_true, Bool.or_false, Bool.or_self, List.getElem?_cons_zero, List.getElem?_cons_succ, List.set_cons_zero, List.set_cons_succ, List.length_cons, List.length_nil, List.getD_cons_zero, List.getD_cons_succ, Nat.reduceAdd, Nat.reduceLT, Nat.zero_lt_succ, Nat.zero_add, ite_self, Bool.false_or, Bool.true_or, iL_len, Int.cast_ofNat_Int, Bool.and_true, Bool.true_and, bi_len_lst, bi_len_tup, bi_len_rl, bi_list_lst, bi_list_tup, bi_list_rl, bi_tuple_lst, bi_tuple_tup, bi_tuple_rl, bi_int_int, bi_int_b, at_two, int_if, at3_0, at3_1, at3_2, at2_0, at2_1, List.take_succ_cons, List.take_zero, List.drop_succ_cons, List.drop_zero, sum_ok, sl_lst, sl_tup, sl_rl, part_t, part_f, if_true, if_false, ite_true, ite_false, reduceIte, Nat.reduceLeDiff, Nat.reduceSub, eq_self, and_self, and_true, true_and, ask_far_ok N hf, of_rule_ok h0 (show r.length ≤ 1000 by omega), power_left_ok h0 h1 bn hl hr N hN (hf.imp (fun q => by omega) (fun q => by omega)), e1]
  rw [mul_rep _ _ (by omega)]
  simp -implicitDefEqProofs only [evSs, evS, evE, evEs, evI, RS.of_ok, RS.of_exn, RS.ofL_ok, RS.ofL_exn, RS.then_next, RS.then_ret, RS.then_brk, RS.then_cnt, RS.then_exn, RS.ifB_t, RS.ifB_f, RS.caught_next, RS.caught_ret, RS.caught_exn, RS.suite_next, RS.suite_ret, pIsx, pIs, pIsN, lamR_enc_ok, lamR_enc_exn, Pf.toldTo, R.bind_ok, R.bind_exn, pBin, pCmp, pAdd, pSub, pNeg, pLt, pLe, pNot, pIx, pSeq, pInt, getE, getB, setOwR, Pf.putAt, Pf.popTo, Pf.scrTo, Pf.unpTo, pIsa, asgT, setAll, killAll, PX.isN, PX.isB, PXs.hasB, Bool.false_eq_true, Bool.or_false, Bool.or_self, List.getElem?_cons_zero, List.getElem?_cons_succ, List.set_cons_zero, List.set_cons_succ, List.length_cons, List.length_nil, List.getD_cons_zero, List.getD_cons_succ, Nat.reduceAdd, Nat.reduceLT, Nat.zero_lt_succ, Nat.zero_add, ite_self, Bool.false_or, Bool.true_or, iL_len, Int.cast_ofNat_Int, Bool.and_true, Bool.true_and, bi_len_lst, bi_len_tup, bi_len_rl, bi_list_lst, bi_list_tup, bi_list_rl, bi_tuple_lst, bi_tuple_tup, bi_tuple_rl, bi_int_int, bi_int_b, at_two, int_if, at3_0, at3_1, at3_2, at2_0, at2_1, List.take_succ_cons, List.take_zero, List.drop_succ_cons, List.drop_zero, sum_ok, sl_lst, sl_tup, sl_rl, part_t, part_f, if_true, if_false, ite_true, ite_false, reduceIte, Nat.reduceLeDiff, Nat.reduceSub, eq_self, and_self, and_true, true_and, List.length_replicate, show (trim (VL b r N)).length + (r.length - (trim (VL b r N)).length) ≤ LIM by omega, iL_app, e2]
theorem l_taken_ok {b n : Int} (hb : 0 ≤ b) : s_l_taken [.int b, .int n] = .ok (.int (tk b n)) := by
  refine run_ret rfl ?_
  show evSs [] [] false c_l_taken [.sh (.int b), .sh (.int n)] = _
  by_cases h : b = 0
  · subst h
    simp -implicitDefEqProofs only [c_l_taken, evSs, evS, evE, evEs, evI, RS.of_ok, RS.of_exn, RS.ofL_ok, RS.ofL_exn, RS.then_next, RS.then_ret, RS.then_brk, RS.then_cnt, RS.then_exn, RS.ifB_t, RS.ifB_f, RS.caught_next, RS.caught_ret, RS.caught_exn, RS.suite_next, RS.suite_ret, pIsx, pIs, pIsN, lamR_enc_ok, lamR_enc_exn, Pf.toldTo, R.bind_ok, R.bind_exn, pBin, pCmp, pAdd, pSub, pNeg, pLt, pLe, pNot, pIx, pSeq, pInt, getE, getB, setOwR, Pf.putAt, Pf.popTo, Pf.scrTo, Pf.unpTo, pIsa, asgT, setAll, killAll, PX.isN, PX.isB, PXs.hasB, Bool.false_eq_true, Bool.or_false, Bool.or_self, List.getElem?_cons_zero, List.getElem?_cons_succ, List.set_cons_zero, List.set_cons_succ, List.length_cons, List.length_nil, List.getD_cons_zero, List.getD_cons_succ, Nat.reduceAdd, Nat.reduceLT, Nat.zero_lt_succ, Nat.zero_add, ite_self, Bool.false_or, Bool.true_or, iL_len, Int.cast_ofNat_Int, Bool.and_true, Bool.true_and, bi_len_lst, bi_len_tup, bi_len_rl, bi_list_lst, bi_list_tup, bi_list_rl, bi_tuple_lst, bi_tuple_tup, bi_tuple_rl, bi_int_int, bi_int_b, at_two, int_if, at3_0, at3_1, at3_2, at2_0, at2_1, List.take_succ_cons, List.take_zero, List.drop_succ_cons, List.drop_zero, sum_ok, sl_lst, sl_tup, sl_rl, part_t, part_f, if_true, if_false, ite_true, ite_false, reduceIte, Nat.reduceLeDiff, Nat.reduceSub, eq_self, and_self, and_true, true_and, eq_int, decide_true, tk0]
  · have hp : 0 < b := by omega
    simp -implicitDefEqProofs only [c_l_taken, evSs, evS, evE, evEs, evI, RS.of_ok, RS.of_exn, RS.ofL_ok, RS.ofL_exn, RS.then_next, RS.then_ret, RS.then_brk, RS.then_cnt, RS.then_exn, RS.ifB_t, RS.ifB_f, RS.caught_next, RS.caught_ret, RS.caught_exn, RS.suite_next, RS.suite_ret, pIsx, pIs, pIsN, lamR_enc_ok, lamR_enc_exn, Pf.toldTo, R.bind_ok, R.bind_exn, pBin, pCmp, pAdd, pSub, pNeg, pLt, pLe, pNot, pIx, pSeq, pInt, getE, getB, setOwR, Pf.putAt, Pf.popTo, Pf.scrTo, Pf.unpTo, pIsa, asgT, setAll, killAll, PX.isN, PX.isB, PXs.hasB, Bool.false_eq_true, Bool.or_false, Bool.or_self, List.getElem?_cons_zero, List.getElem?_cons_succ, List.set_cons_zero, List.set_cons_succ, List.length_cons, List.length_nil, List.getD_cons_zero, List.getD_cons_succ, Nat.reduceAdd, Nat.reduceLT, Nat.zero_lt_succ, Nat.zero_add, ite_self, Bool.false_or, Bool.true_or, iL_len, Int.cast_ofNat_Int, Bool.and_true, Bool.true_and, bi_len_lst, bi_len_tup, bi_len_rl, bi_list_lst, bi_list_tup, bi_list_rl, bi_tuple_lst, bi_tuple_tup, bi_tuple_rl, bi_int_int, bi_int_b, at_two, int_if, at3_0, at3_1, at3_2, at2_0, at2_1, List.take_succ_cons, List.take_zero, List.drop_succ_cons, List.drop_zero, sum_ok, sl_lst, sl_tup, sl_rl, part_t, part_f, if_true, if_false, ite_true, ite_false, reduceIte, Nat.reduceLeDiff, Nat.reduceSub, eq_self, and_self, and_true, true_and, eq_int, h, decide_false, mod_pos hp, tk_pos hp]
theorem bits_bd {z : Int} (h : PySem.Builtin.Int.intBits z ≤ 1048576) : bd 1048576 z := by
  unfold PySem.Builtin.Int.intBits at h
  unfold bd
  by_cases e : z = 0
  · subst e
    exact Nat.pow_pos (by decide)
  · rw [if_neg (by simpa using e)] at h
    exact Nat.lt_of_lt_of_le Nat.lt_log2_self (Nat.pow_le_pow_right (by decide) h)
theorem l_cell_ok (ns : List Int) (hz : ∀ z ∈ ns, PySem.Builtin.Int.intBits z ≤ 1048576) (k : Int) (h0 : 0 ≤ k) (h1 : k ≤ 1000) : ∃ v, s_l_cell_at [script ns, .int k] = .ok (.int v) ∧ bd 1048576 v := by
  by_cases h : k < (ns.length : Int)
  · refine ⟨cf ns k.toNat, run_ret rfl ?_, bits_bd (hz _ (cf_mem (by omega)))⟩
    show evSs [] [] false c_l_cell_at [.sh (.rl (iL ns)), .sh (.int k)] = _
    simp -implicitDefEqProofs only [c_l_cell_at, evSs, evS, evE, evEs, evI, RS.of_ok, RS.of_exn, RS.ofL_ok, RS.ofL_exn, RS.then_next, RS.then_ret, RS.then_brk, RS.then_cnt, RS.then_exn, RS.ifB_t, RS.ifB_f, RS.caught_next, RS.caught_ret, RS.caught_exn, RS.suite_next, RS.suite_ret, pIsx, pIs, pIsN, lamR_enc_ok, lamR_enc_exn, Pf.toldTo, R.bind_ok, R.bind_exn, pBin, pCmp, pAdd, pSub, pNeg, pLt, pLe, pNot, pIx, pSeq, pInt, getE, getB, setOwR, Pf.putAt, Pf.popTo, Pf.scrTo, Pf.unpTo, pIsa, asgT, setAll, killAll, PX.isN, PX.isB, PXs.hasB, Bool.false_eq_true, Bool.or_false, Bool.or_self, List.getElem?_cons_zero, List.getElem?_cons_succ, List.set_cons_zero, List.set_cons_succ, List.length_cons, List.length_nil, List.getD_cons_zero, List.getD_cons_succ, Nat.reduceAdd, Nat.reduceLT, Nat.zero_lt_succ, Nat.zero_add, ite_self, Bool.false_or, Bool.true_or, iL_len, Int.cast_ofNat_Int, Bool.and_true, Bool.true_and, bi_len_lst, bi_len_tup, bi_len_rl, bi_list_lst, bi_list_tup, bi_list_rl, bi_tuple_lst, bi_tuple_tup, bi_tuple_rl, bi_int_int, bi_int_b, at_two, int_if, at3_0, at3_1, at3_2, at2_0, at2_1, List.take_succ_cons, List.take_zero, List.drop_succ_cons, List.drop_zero, sum_ok, sl_lst, sl_tup, sl_rl, part_t, part_f, if_true, if_false, ite_true, ite_false, reduceIte, Nat.reduceLeDiff, Nat.reduceSub, eq_self, and_self, and_true, true_and, h, decide_true]
    rw [pAt_cf _ _ h0 h]
    rfl
  · refine ⟨(k * 7919 + 5) * (k + 31), run_ret rfl ?_, bd_mono (n := 60) (bd_mul (n := 40) (m := 20) (by unfold bd; omega) (by unfold bd; omega)) (by decide)⟩
    have e1 : pMul (.int k) (.int 7919) = .ok (.int (k * 7919)) := mul_ok (small_60 (by omega)) (small_60 (by decide))
    have e2 : pMul (.int (k * 7919 + 5)) (.int (k + 31)) = .ok (.int ((k * 7919 + 5) * (k + 31))) := mul_ok (small_60 (by omega)) (small_60 (by omega))
    show evSs [] [] false c_l_cell_at [.sh (.rl (iL ns)), .sh (.int k)] = _
    simp -implicitDefEqProofs only [c_l_cell_at, evSs, evS, evE, evEs, evI, RS.of_ok, RS.of_exn, RS.ofL_ok, RS.ofL_exn, RS.then_next, RS.then_ret, RS.then_brk, RS.then_cnt, RS.then_exn, RS.ifB_t, RS.ifB_f, RS.caught_next, RS.caught_ret, RS.caught_exn, RS.suite_next, RS.suite_ret, pIsx, pIs, pIsN, lamR_enc_ok, lamR_enc_exn, Pf.toldTo, R.bind_ok, R.bind_exn, pBin, pCmp, pAdd, pSub, pNeg, pLt, pLe, pNot, pIx, pSeq, pInt, getE, getB, setOwR, Pf.putAt, Pf.popTo, Pf.scrTo, Pf.unpTo, pIsa, asgT, setAll, killAll, PX.isN, PX.isB, PXs.hasB, Bool.false_eq_true, Bool.or_false, Bool.or_self, List.getElem?_cons_zero, List.getElem?_cons_succ, List.set_cons_zero, List.set_cons_succ, List.length_cons, List.length_nil, List.getD_cons_zero, List.getD_cons_succ, Nat.reduceAdd, Nat.reduceLT, Nat.zero_lt_succ, Nat.zero_add, ite_self, Bool.false_or, Bool.true_or, iL_len, Int.cast_ofNat_Int, Bool.and_true, Bool.true_and, bi_len_lst, bi_len_tup, bi_len_rl, bi_list_lst, bi_list_tup, bi_list_rl, bi_tuple_lst, bi_tuple_tup, bi_tuple_rl, bi_int_int, bi_int_b, at_two, int_if, at3_0, at3_1, at3_2, at2_0, at2_1, List.take_succ_cons, List.take_zero, List.drop_succ_cons, List.drop_zero, sum_ok, sl_lst, sl_tup, sl_rl, part_t, part_f, if_true, if_false, ite_true, ite_false, reduceIte, Nat.reduceLeDiff, Nat.reduceSub, eq_self, and_self, and_true, true_and, h, decide_false, e1, e2]
theorem l_mix_ok (c k : Int) (h0 : 0 ≤ k) (h1 : k ≤ 1000) : ∃ v, s_l_mix [.int c, .int k] = .ok (.int v) ∧ 0 ≤ v ∧ v < 2147483648 := by
  have bk : bd 10 k := by unfold bd; omega
  have b2 : bd 21 (2 * k * k) := bd_mul (n := 11) (m := 10) (by unfold bd; omega) bk
  have b3 : bd 28 (48271 + 69621 * k + 2 * k * k) := bd_add (n := 27) (by unfold bd; omega) (bd_mono b2 (by decide))
  have b4 : bd 31 (c % 2147483629 + 1) := by unfold bd; omega
  obtain ⟨m, hm, m0, m1⟩ : ∃ m, ((c % 2147483629 + 1) * (48271 + 69621 * k + 2 * k * k) + k) % 2147483647 = m ∧ 0 ≤ m ∧ m < 2147483647 := ⟨_, rfl, by omega, by omega⟩
  obtain ⟨n, hn, n0, n1⟩ : ∃ n, m * m % 2147483629 = n ∧ 0 ≤ n ∧ n < 2147483629 := ⟨_, rfl, by omega, by omega⟩
  have e1 : pMul (.int 69621) (.int k) = .ok (.int (69621 * k)) := mul_ok (small_60 (by decide)) (small_60 (by omega))
  have e2 : pMul (.int 2) (.int k) = .ok (.int (2 * k)) := mul_ok (small_60 (by decide)) (small_60 (by omega))
  have e3 : pMul (.int (2 * k)) (.int k) = .ok (.int (2 * k * k)) := mul_ok (small_60 (by omega)) (small_60 (by omega))
  have e4 : pMul (.int (c % 2147483629 + 1)) (.int (48271 + 69621 * k + 2 * k * k)) = .ok (.int ((c % 2147483629 + 1) * (48271 + 69621 * k + 2 * k * k))) := mul_bd b4 b3 (by decide) (by decide)
  have e5 : pMul (.int m) (.int m) = .ok (.int (m * m)) := mul_ok (small_60 (by omega)) (small_60 (by omega))
  have e6 : pMul (.int n) (.int (n + k + 1)) = .ok (.int (n * (n + k + 1))) := mul_ok (small_60 (by omega)) (small_60 (by omega))
  refine ⟨n * (n + k + 1) % 2147483587 / 3, run_ret rfl ?_, by omega, by omega⟩
  show evSs [] [] false c_l_mix [.sh (.int c), .sh (.int k), .no] = _
  simp -implicitDefEqProofs only [c_l_mix, evSs, evS, evE, evEs, evI, RS.of_ok, RS.of_exn, RS.ofL_ok, RS.ofL_exn, RS.then_next, RS.then_ret, RS.then_brk, RS.then_cnt, RS.then_exn, RS.ifB_t, RS.ifB_f, RS.caught_next, RS.caught_ret, RS.caught_exn, RS.suite_next, RS.suite_ret, pIsx, pIs, pIsN, lamR_enc_ok, lamR_enc_exn, Pf.toldTo, R.bind_ok, R.bind_exn, pBin, pCmp, pAdd, pSub, pNeg, pLt, pLe, pNot, pIx, pSeq, pInt, getE, getB, setOwR, Pf.putAt, Pf.popTo, Pf.scrTo, Pf.unpTo, pIsa, asgT, setAll, killAll, PX.isN, PX.isB, PXs.hasB, Bool.false_eq_true, Bool.or_false, Bool.or_self, List.getElem?_cons_zero, List.getElem?_cons_succ, List.set_cons_zero, List.set_cons_succ, List.length_cons, List.length_nil, List.getD_cons_zero, List.getD_cons_succ, Nat.reduceAdd, Nat.reduceLT, Nat.zero_lt_succ, Nat.zero_add, ite_self, Bool.false_or, Bool.true_or, iL_len, Int.cast_ofNat_Int, Bool.and_true, Bool.true_and, bi_len_lst, bi_len_tup, bi_len_rl, bi_list_lst, bi_list_tup, bi_list_rl, bi_tuple_lst, bi_tuple_tup, bi_tuple_rl, bi_int_int, bi_int_b, at_two, int_if, at3_0, at3_1, at3_2, at2_0, at2_1, List.take_succ_cons, List.take_zero, List.drop_succ_cons, List.drop_zero, sum_ok, sl_lst, sl_tup, sl_rl, part_t, part_f, if_true, if_false, ite_true, ite_false, reduceIte, Nat.reduceLeDiff, Nat.reduceSub, eq_self, and_self, and_true, true_and, mod_pos (b := 2147483629) (by decide), mod_pos (b := 2147483647) (by decide), mod_pos (b := 2147483587) (by decide), fdiv_pos (b := 3) (by decide) (by decide), e1, e2, e3, e4, hm, e5, hn, e6]
def BYS : List Int := [0, 2, 3, 5, 7, 11, 101, 997]
theorem BYS_ok : ∀ b ∈ BYS, 0 ≤ b ∧ b ≤ 997 ∧ b ≠ 1 := by decide
theorem at10b (v : Int) : ∃ b, pAt [PV.int 0, PV.int 0, PV.int 0, PV.int 2, PV.int 3, PV.int 5, PV.int 7, PV.int 11, PV.int 101, PV.int 997] (v % 10) = .ok (.int b) ∧ b ∈ BYS := by
  have h : v % 10 = 0 ∨ v % 10 = 1 ∨ v % 10 = 2 ∨ v % 10 = 3 ∨ v % 10 = 4 ∨ v % 10 = 5 ∨ v % 10 = 6 ∨ v % 10 = 7 ∨ v % 10 = 8 ∨ v % 10 = 9 := by omega
  rcases h with h | h | h | h | h | h | h | h | h | h <;> rw [h] <;> exact ⟨_, rfl, by decide⟩
theorem l_drawn_by_ok (v : Int) : ∃ b, s_l_drawn_by [.int v] = .ok (.int b) ∧ b ∈ BYS := by
  obtain ⟨m, em, _, _⟩ := l_mix_ok v 1 (by decide) (by decide)
  obtain ⟨b, eb, hb⟩ := at10b m
  refine ⟨b, run_ret rfl ?_, hb⟩
  show evSs [s_l_mix] [] false c_l_drawn_by [.sh (.int v)] = _
  simp -implicitDefEqProofs only [c_l_drawn_by, evSs, evS, evE, evEs, evI, RS.of_ok, RS.of_exn, RS.ofL_ok, RS.ofL_exn, RS.then_next, RS.then_ret, RS.then_brk, RS.then_cnt, RS.then_exn, RS.ifB_t, RS.ifB_f, RS.caught_next, RS.caught_ret, RS.caught_exn, RS.suite_next, RS.suite_ret, pIsx, pIs, pIsN, lamR_enc_ok, lamR_enc_exn, Pf.toldTo, R.bind_ok, R.bind_exn, pBin, pCmp, pAdd, pSub, pNeg, pLt, pLe, pNot, pIx, pSeq, pInt, getE, getB, setOwR, Pf.putAt, Pf.popTo, Pf.scrTo, Pf.unpTo, pIsa, asgT, setAll, killAll, PX.isN, PX.isB, PXs.hasB, Bool.false_eq_true, Bool.or_false, Bool.or_self, List.getElem?_cons_zero, List.getElem?_cons_succ, List.set_cons_zero, List.set_cons_succ, List.length_cons, List.length_nil, List.getD_cons_zero, List.getD_cons_succ, Nat.reduceAdd, Nat.reduceLT, Nat.zero_lt_succ, Nat.zero_add, ite_self, Bool.false_or, Bool.true_or, iL_len, Int.cast_ofNat_Int, Bool.and_true, Bool.true_and, bi_len_lst, bi_len_tup, bi_len_rl, bi_list_lst, bi_list_tup, bi_list_rl, bi_tuple_lst, bi_tuple_tup, bi_tuple_rl, bi_int_int, bi_int_b, at_two, int_if, at3_0, at3_1, at3_2, at2_0, at2_1, List.take_succ_cons, List.take_zero, List.drop_succ_cons, List.drop_zero, sum_ok, sl_lst, sl_tup, sl_rl, part_t, part_f, if_true, if_false, ite_true, ite_false, reduceIte, Nat.reduceLeDiff, Nat.reduceSub, eq_self, and_self, and_true, true_and, em, mod_pos (b := 10) (by decide), eb]
theorem at10s (v : Int) : ∃ s, pAt [PV.int 0, PV.int 1, PV.int (-1), PV.int 2, PV.int 1, PV.int (-2), PV.int 3, PV.int 0, PV.int 1, PV.int 5] (v % 10) = .ok (.int s) ∧ s.natAbs ≤ 5 := by
  have h : v % 10 = 0 ∨ v % 10 = 1 ∨ v % 10 = 2 ∨ v % 10 = 3 ∨ v % 10 = 4 ∨ v % 10 = 5 ∨ v % 10 = 6 ∨ v % 10 = 7 ∨ v % 10 = 8 ∨ v % 10 = 9 := by omega
  rcases h with h | h | h | h | h | h | h | h | h | h <;> rw [h] <;> exact ⟨_, rfl, by decide⟩
theorem bd_pow {n : Nat} {x : Int} (h : bd n x) (k : Nat) (hk : k ≠ 0) : bd (n * k) (x ^ k) := by
  unfold bd at *
  rw [Int.natAbs_pow, Nat.pow_mul]
  exact Nat.pow_lt_pow_left h hk
/-- the far number of a cell -/
theorem far_eq {c k : Int} (hc : bd 1048576 c) (h0 : 0 ≤ k) (h1 : k ≤ 40) : ∃ f : Int, f.natAbs ≤ 1000000000 ∧ pPow (.int (k + 3)) (.int 7) = .ok (.int ((k + 3) ^ (7 : Int).toNat)) ∧ pPow (.int 10) (.int 9) = .ok (.int 1000000000) ∧
    pMul (.int (c + 1)) (.int ((k + 3) ^ (7 : Int).toNat)) = .ok (.int ((c + 1) * (k + 3) ^ (7 : Int).toNat)) ∧ pMul (.int 2) (.int 1000000000) = .ok (.int 2000000000) ∧ pMod (.int ((c + 1) * (k + 3) ^ (7 : Int).toNat)) (.int (2000000000 - 1)) = .ok (.int ((c + 1) * (k + 3) ^ (7 : Int).toNat % 1999999999)) ∧ (c + 1) * (k + 3) ^ (7 : Int).toNat % 1999999999 + 1 - 1000000000 = f := by
  refine ⟨_, ?_, pow_ok (by decide) (by decide) (by omega), by rw [pow_ok (by decide) (by decide) (by decide)]; rfl, ?_, ?_, ?_, rfl⟩
  · omega
  · exact mul_bd (n := 1048577) (m := 42) (bd_add (n := 1048576) hc (bd_mono (n := 1) (by unfold bd; decide) (by decide))) (bd_pow (n := 6) (by unfold bd; omega) 7 (by decide)) (by decide) (by decide)
  · rw [mul_ok (small_60 (by decide)) (small_60 (by decide))]
    rfl
  · exact mod_pos (b := 1999999999) (by decide)
abbrev ONE : Nat := 2
theorem one_segA {b c k : Int} (hc : bd 1048576 c) (h0 : 0 ≤ k) (h1 : k ≤ 40) : ∃ f s : Int, f.natAbs ≤ 1000000000 ∧ s.natAbs ≤ 5000 ∧ evSs [s_l_mix, s_l_taken] [] false (c_l_one_number.take ONE) [.sh (.int b), .sh (.int c), .sh (.int k), .no, .no] = .next [.sh (.int b), .sh (.int c), .sh (.int k), .sh (.int f), .sh (.int s)] := by
  obtain ⟨f, hf, f1, f2, f3, f4, f5, f6⟩ := far_eq hc h0 h1
  obtain ⟨m, em, m0, m1⟩ := l_mix_ok c (20 + k) (by omega) (by omega)
  obtain ⟨s, es, hs⟩ := at10s m
  refine ⟨f, s, hf, by omega, ?_⟩
  simp -implicitDefEqProofs only [c_l_one_number, evSs, evS, evE, evEs, evI, RS.of_ok, RS.of_exn, RS.ofL_ok, RS.ofL_exn, RS.then_next, RS.then_ret, RS.then_brk, RS.then_cnt, RS.then_exn, RS.ifB_t, RS.ifB_f, RS.caught_next, RS.caught_ret, RS.caught_exn, RS.suite_next, RS.suite_ret, pIsx, pIs, pIsN, lamR_enc_ok, lamR_enc_exn, Pf.toldTo, R.bind_ok, R.bind_exn, pBin, pCmp, pAdd, pSub, pNeg, pLt, pLe, pNot, pIx, pSeq, pInt, getE, getB, setOwR, Pf.putAt, Pf.popTo, Pf.scrTo, Pf.unpTo, pIsa, asgT, setAll, killAll, PX.isN, PX.isB, PXs.hasB, Bool.false_eq_true, Bool.or_false, Bool.or_self, List.getElem?_cons_zero, List.getElem?_cons_succ, List.set_cons_zero, List.set_cons_succ, List.length_cons, List.length_nil, List.getD_cons_zero, List.getD_cons_succ, Nat.reduceAdd, Nat.reduceLT, Nat.zero_lt_succ, Nat.zero_add, ite_self, Bool.false_or, Bool.true_or, iL_len, Int.cast_ofNat_Int, Bool.and_true, Bool.true_and, bi_len_lst, bi_len_tup, bi_len_rl, bi_list_lst, bi_list_tup, bi_list_rl, bi_tuple_lst, bi_tuple_tup, bi_tuple_rl, bi_int_int, bi_int_b, at_two, int_if, at3_0, at3_1, at3_2, at2_0, at2_1, List.take_succ_cons, List.take_zero, List.drop_succ_cons, List.drop_zero, sum_ok, sl_lst, sl_tup, sl_rl, part_t, part_f, if_true, if_false, ite_true, ite_false, reduceIte, Nat.reduceLeDiff, Nat.reduceSub, eq_self, and_self, and_true, true_and, f1, f2, f3, f4, f5, f6, em, mod_pos (b := 10) (by decide), es]
theorem tk_le {b x : Int} {M : Nat} (h0 : 0 ≤ b) (h1 : b ≤ 997) (hM : 1000 ≤ M) (hx : b = 0 → x.natAbs ≤ M) : (tk b x).natAbs ≤ M := by
  by_cases h : b = 0
  · rw [h, tk0]
    exact hx h
  · have := tk_nonneg (show 0 < b by omega) x
    have := tk_lt (show 0 < b by omega) x
    omega
theorem l_one_number_ok {b c k : Int} (hb0 : 0 ≤ b) (hb1 : b ≤ 997) (hc : bd 1048576 c) (h0 : 0 ≤ k) (h1 : k ≤ 40) : ∃ v, s_l_one_number [.int b, .int c, .int k] = .ok (.int v) ∧ tk b v = v ∧ bd 31 v ∧ (k < 15 → v.natAbs ≤ 5000) := by
  obtain ⟨f, s, hf, hs, e⟩ := one_segA (b := b) hc h0 h1
  obtain ⟨m, em, m0, m1⟩ := l_mix_ok c (50 + k) (by omega) (by omega)
  have tb : ∀ x : Int, x.natAbs ≤ 1000000000 → bd 31 (tk b x) := fun x hx => by
    have := tk_le hb0 hb1 (M := 1000000000) (by decide) (fun _ => hx)
    unfold bd
    omega
  have ts : (tk b s).natAbs ≤ 5000 := tk_le hb0 hb1 (by decide) fun _ => hs
  by_cases h2 : 7 < b
  · refine ⟨tk b f, run_ret rfl ?_, tk_tk b f, tb f hf, fun _ => ?_⟩
    · show evSs [s_l_mix, s_l_taken] [] false c_l_one_number [.sh (.int b), .sh (.int c), .sh (.int k), .no, .no] = _
      rw [evSs_split ONE, e, RS.then_next]
      simp -implicitDefEqProofs only [c_l_one_number, evSs, evS, evE, evEs, evI, RS.of_ok, RS.of_exn, RS.ofL_ok, RS.ofL_exn, RS.then_next, RS.then_ret, RS.then_brk, RS.then_cnt, RS.then_exn, RS.ifB_t, RS.ifB_f, RS.caught_next, RS.caught_ret, RS.caught_exn, RS.suite_next, RS.suite_ret, pIsx, pIs, pIsN, lamR_enc_ok, lamR_enc_exn, Pf.toldTo, R.bind_ok, R.bind_exn, pBin, pCmp, pAdd, pSub, pNeg, pLt, pLe, pNot, pIx, pSeq, pInt, getE, getB, setOwR, Pf.putAt, Pf.popTo, Pf.scrTo, Pf.unpTo, pIsa, asgT, setAll, killAll, PX.isN, PX.isB, PXs.hasB, Bool.false_eq_true, Bool.or_false, Bool.or_self, List.getElem?_cons_zero, List.getElem?_cons_succ, List.set_cons_zero, List.set_cons_succ, List.length_cons, List.length_nil, List.getD_cons_zero, List.getD_cons_succ, Nat.reduceAdd, Nat.reduceLT, Nat.zero_lt_succ, Nat.zero_add, ite_self, Bool.false_or, Bool.true_or, iL_len, Int.cast_ofNat_Int, Bool.and_true, Bool.true_and, bi_len_lst, bi_len_tup, bi_len_rl, bi_list_lst, bi_list_tup, bi_list_rl, bi_tuple_lst, bi_tuple_tup, bi_tuple_rl, bi_int_int, bi_int_b, at_two, int_if, at3_0, at3_1, at3_2, at2_0, at2_1, List.take_succ_cons, List.take_zero, List.drop_succ_cons, List.drop_zero, sum_ok, sl_lst, sl_tup, sl_rl, part_t, part_f, if_true, if_false, ite_true, ite_false, reduceIte, Nat.reduceLeDiff, Nat.reduceSub, eq_self, and_self, and_true, true_and, h2, decide_true, l_taken_ok hb0]
    · exact tk_le hb0 hb1 (by decide) fun h => by omega
  · by_cases h3 : 14 < k
    · by_cases h4 : m % 7 = 3
      · refine ⟨tk b f, run_ret rfl ?_, tk_tk b f, tb f hf, fun h => by omega⟩
        show evSs [s_l_mix, s_l_taken] [] false c_l_one_number [.sh (.int b), .sh (.int c), .sh (.int k), .no, .no] = _
        rw [evSs_split ONE, e, RS.then_next]
        simp -implicitDefEqProofs only [c_l_one_number, evSs, evS, evE, evEs, evI, RS.of_ok, RS.of_exn, RS.ofL_ok, RS.ofL_exn, RS.then_next, RS.then_ret, RS.then_brk, RS.then_cnt, RS.then_exn, RS.ifB_t, RS.ifB_f, RS.caught_next, RS.caught_ret, RS.caught_exn, RS.suite_next, RS.suite_ret, pIsx, pIs, pIsN, lamR_enc_ok, lamR_enc_exn, Pf.toldTo, R.bind_ok, R.bind_exn, pBin, pCmp, pAdd, pSub, pNeg, pLt, pLe, pNot, pIx, pSeq, pInt, getE, getB, setOwR, Pf.putAt, Pf.popTo, Pf.scrTo, Pf.unpTo, pIsa, asgT, setAll, killAll, PX.isN, PX.isB, PXs.hasB, Bool.false_eq_true, Bool.or_false, Bool.or_self, List.getElem?_cons_zero, List.getElem?_cons_succ, List.set_cons_zero, List.set_cons_succ, List.length_cons, List.length_nil, List.getD_cons_zero, List.getD_cons_succ, Nat.reduceAdd, Nat.reduceLT, Nat.zero_lt_succ, Nat.zero_add, ite_self, Bool.false_or, Bool.true_or, iL_len, Int.cast_ofNat_Int, Bool.and_true, Bool.true_and, bi_len_lst, bi_len_tup, bi_len_rl, bi_list_lst, bi_list_tup, bi_list_rl, bi_tuple_lst, bi_tuple_tup, bi_tuple_rl, bi_int_int, bi_int_b, at_two, int_if, at3_0, at3_1, at3_2, at2_0, at2_1, List.take_succ_cons, List.take_zero, List.drop_succ_cons, List.drop_zero, sum_ok, sl_lst, sl_tup, sl_rl, part_t, part_f, if_true, if_false, ite_true, ite_false, reduceIte, Nat.reduceLeDiff, Nat.reduceSub, eq_self, and_self, and_true, true_and, h2, decide_false, h3, decide_true, em, mod_pos (b := 7) (by decide), eq_int, h4, l_taken_ok hb0]
      · refine ⟨tk b s, run_ret rfl ?_, tk_tk b s, tb s (by omega), fun h => by omega⟩
        show evSs [s_l_mix, s_l_taken] [] false c_l_one_number [.sh (.int b), .sh (.int c), .sh (.int k), .no, .no] = _
        rw [evSs_split ONE, e, RS.then_next]
        simp -implicitDefEqProofs only [c_l_one_number, evSs, evS, evE, evEs, evI, RS.of_ok, RS.of_exn, RS.ofL_ok, RS.ofL_exn, RS.then_next, RS.then_ret, RS.then_brk, RS.then_cnt, RS.then_exn, RS.ifB_t, RS.ifB_f, RS.caught_next, RS.caught_ret, RS.caught_exn, RS.suite_next, RS.suite_ret, pIsx, pIs, pIsN, lamR_enc_ok, lamR_enc_exn, Pf.toldTo, R.bind_ok, R.bind_exn, pBin, pCmp, pAdd, pSub, pNeg, pLt, pLe, pNot, pIx, pSeq, pInt, getE, getB, setOwR, Pf.putAt, Pf.popTo, Pf.scrTo, Pf.unpTo, pIsa, asgT, setAll, killAll, PX.isN, PX.isB, PXs.hasB, Bool.false_eq_true, Bool.or_false, Bool.or_self, List.getElem?_cons_zero, List.getElem?_cons_succ, List.set_cons_zero, List.set_cons_succ, List.length_cons, List.length_nil, List.getD_cons_zero, List.getD_cons_succ, Nat.reduceAdd, Nat.reduceLT, Nat.zero_lt_succ, Nat.zero_add, ite_self, Bool.false_or, Bool.true_or, iL_len, Int.cast_ofNat_Int, Bool.and_true, Bool.true_and, bi_len_lst, bi_len_tup, bi_len_rl, bi_list_lst, bi_list_tup, bi_list_rl, bi_tuple_lst, bi_tuple_tup, bi_tuple_rl, bi_int_int, bi_int_b, at_two, int_if, at3_0, at3_1, at3_2, at2_0, at2_1, List.take_succ_cons, List.take_zero, List.drop_succ_cons, List.drop_zero, sum_ok, sl_lst, sl_tup, sl_rl, part_t, part_f, if_true, if_false, ite_true, ite_false, reduceIte, Nat.reduceLeDiff, Nat.reduceSub, eq_self, and_self, and_true, true_and, h2, decide_false, h3, decide_true, em, mod_pos (b := 7) (by decide), eq_int, h4, l_taken_ok hb0]
    · refine ⟨tk b s, run_ret rfl ?_, tk_tk b s, tb s (by omega), fun _ => ts⟩
      show evSs [s_l_mix, s_l_taken] [] false c_l_one_number [.sh (.int b), .sh (.int c), .sh (.int k), .no, .no] = _
      rw [evSs_split ONE, e, RS.then_next]
      simp -implicitDefEqProofs only [c_l_one_number, evSs, evS, evE, evEs, evI, RS.of_ok, RS.of_exn, RS.ofL_ok, RS.ofL_exn, RS.then_next, RS.then_ret, RS.then_brk, RS.then_cnt, RS.then_exn, RS.ifB_t, RS.ifB_f, RS.caught_next, RS.caught_ret, RS.caught_exn, RS.suite_next, RS.suite_ret, pIsx, pIs, pIsN, lamR_enc_ok, lamR_enc_exn, Pf.toldTo, R.bind_ok, R.bind_exn, pBin, pCmp, pAdd, pSub, pNeg, pLt, pLe, pNot, pIx, pSeq, pInt, getE, getB, setOwR, Pf.putAt, Pf.popTo, Pf.scrTo, Pf.unpTo, pIsa, asgT, setAll, killAll, PX.isN, PX.isB, PXs.hasB, Bool.false_eq_true, Bool.or_false, Bool.or_self, List.getElem?_cons_zero, List.getElem?_cons_succ, List.set_cons_zero, List.set_cons_succ, List.length_cons, List.length_nil, List.getD_cons_zero, List.getD_cons_succ, Nat.reduceAdd, Nat.reduceLT, Nat.zero_lt_succ, Nat.zero_add, ite_self, Bool.false_or, Bool.true_or, iL_len, Int.cast_ofNat_Int, Bool.and_true, Bool.true_and, bi_len_lst, bi_len_tup, bi_len_rl, bi_list_lst, bi_list_tup, bi_list_rl, bi_tuple_lst, bi_tuple_tup, bi_tuple_rl, bi_int_int, bi_int_b, at_two, int_if, at3_0, at3_1, at3_2, at2_0, at2_1, List.take_succ_cons, List.take_zero, List.drop_succ_cons, List.drop_zero, sum_ok, sl_lst, sl_tup, sl_rl, part_t, part_f, if_true, if_false, ite_true, ite_false, reduceIte, Nat.reduceLeDiff, Nat.reduceSub, eq_self, and_self, and_true, true_and, h2, decide_false, h3, l_taken_ok hb0]
/-- the number that is drawn -/
def oneV (b c k : Int) : Int := match s_l_one_number [.int b, .int c, .int k] with
  | .ok (.int v) => v
  | _ => 0
theorem one_eq {b c k : Int} (hb0 : 0 ≤ b) (hb1 : b ≤ 997) (hc : bd 1048576 c) (h0 : 0 ≤ k) (h1 : k ≤ 40) : s_l_one_number [.int b, .int c, .int k] = .ok (.int (oneV b c k)) ∧ tk b (oneV b c k) = oneV b c k ∧ bd 31 (oneV b c k) ∧ (k < 15 → (oneV b c k).natAbs ≤ 5000) := by
  obtain ⟨v, e, h⟩ := l_one_number_ok hb0 hb1 hc h0 h1
  have : oneV b c k = v := by
    unfold oneV
    rw [e]
  rw [this]
  exact ⟨e, h⟩
/-- a row -/
structure Rg (M B : Nat) (b : Int) (r s : List Int) : Prop where
  b0 : 0 ≤ b
  b1 : b ≤ 997
  bn : b ≠ 1
  len : r.length = s.length
  le : s.length ≤ 12
  rr : ∀ x ∈ r, tk b x = x ∧ x.natAbs ≤ M
  ss : ∀ x ∈ s, tk b x = x ∧ bd B x
abbrev rowV (b : Int) (r s : List Int) : PV := .tup [.int b, .tup (iL r), .tup (iL s)]
theorem Rg.rb {M B : Nat} {b : Int} {r s : List Int} (h : Rg M B b r s) (hM : M ≤ 1000000) : ∀ x ∈ r, bd 70 x := fun x hx => by
  have := (h.rr x hx).2
  unfold bd
  omega
theorem Rg.sb {M B : Nat} {b : Int} {r s : List Int} (h : Rg M B b r s) (hM : M ≤ 1000000) (hB : 70 ≤ B) (k : Nat) : bd (B + 74 * k) (sq b r s k) :=
  sq_bd hB h.b0 (by have := h.b1; omega) (h.rb hM) (fun x hx => (h.ss x hx).2) (by have := h.len; have := h.le; omega) k
theorem Rg.red {M B : Nat} {b : Int} {r s : List Int} (h : Rg M B b r s) (k : Nat) : tk b (sq b r s k) = sq b r s k := sq_red (fun x hx => (h.ss x hx).1) k
theorem pAt_neg (xs : List Int) (k : Nat) (h : k < xs.length) : pAt (iL xs) (-1 - (k : Int)) = .ok (.int (cf xs (xs.length - 1 - k))) := by
  have e : L2.ixN (iL xs).length (-1 - (k : Int)) = some (xs.length - 1 - k) := by
    unfold L2.ixN
    rw [if_neg (by omega), iL_len, if_pos (by omega)]
    congr 1
    omega
  unfold pAt L2.atI
  rw [e, Option.bind_some, iL_get, List.getElem?_eq_getElem (by omega), cf_lt (by omega)]
  rfl
theorem l_places_ok {M B : Nat} {b : Int} {r s : List Int} (h : Rg M B b r s) (hM : M ≤ 1000000) (hB : 70 ≤ B) (hB2 : B ≤ 100000) (n : Nat) (hn : n ≤ 700) : s_l_places [rowV b r s, .int (n : Int)] = .ok (.lst (iL ((List.range n).map (sq b r s)))) := by
  have hL : LIM = 1000000 := rfl
  have hLo : LOOPS = 1000000000 := rfl
  have l1 := h.len
  have l2 := h.le
  refine run_ret rfl ?_
  show evSs [s_l_taken] [] false c_l_places [.sh (rowV b r s), .sh (.int (n : Int)), .no, .no, .no, .no, .no, .no] = _
  simp -implicitDefEqProofs only [c_l_places, evSs, evS, evE, evEs, evI, RS.of_ok, RS.of_exn, RS.ofL_ok, RS.ofL_exn, RS.then_next, RS.then_ret, RS.then_brk, RS.then_cnt, RS.then_exn, RS.ifB_t, RS.ifB_f, RS.caught_next, RS.caught_ret, RS.caught_exn, RS.suite_next, RS.suite_ret, pIsx, pIs, pIsN, lamR_enc_ok, lamR_enc_exn, Pf.toldTo, R.bind_ok, R.bind_exn, pBin, pCmp, pAdd, pSub, pNeg, pLt, pLe, pNot, pIx, pSeq, pInt, getE, getB, setOwR, Pf.putAt, Pf.popTo, Pf.scrTo, Pf.unpTo, pIsa, asgT, setAll, killAll, PX.isN, PX.isB, PXs.hasB, Bool.false_eq_true, Bool.or_false, Bool.or_self, List.getElem?_cons_zero, List.getElem?_cons_succ, List.set_cons_zero, List.set_cons_succ, List.length_cons, List.length_nil, List.getD_cons_zero, List.getD_cons_succ, Nat.reduceAdd, Nat.reduceLT, Nat.zero_lt_succ, Nat.zero_add, ite_self, Bool.false_or, Bool.true_or, iL_len, Int.cast_ofNat_Int, Bool.and_true, Bool.true_and, bi_len_lst, bi_len_tup, bi_len_rl, bi_list_lst, bi_list_tup, bi_list_rl, bi_tuple_lst, bi_tuple_tup, bi_tuple_rl, bi_int_int, bi_int_b, at_two, int_if, at3_0, at3_1, at3_2, at2_0, at2_1, List.take_succ_cons, List.take_zero, List.drop_succ_cons, List.drop_zero, sum_ok, sl_lst, sl_tup, sl_rl, part_t, part_f, if_true, if_false, ite_true, ite_false, reduceIte, Nat.reduceLeDiff, Nat.reduceSub, eq_self, and_self, and_true, true_and, rowV, cut_take, iL_take]
  have e0 : s.take n = (List.range (min n s.length)).map (sq b r s) := by
    apply cf_ext (by simp)
    intro k hk
    rw [List.length_take] at hk
    rw [cf_take, if_pos (by omega), cf_rng _ hk, sq_lt (by omega)]
  rw [e0]
  rw [whlL_go (n - min n s.length) (fun i => [.sh (.tup [.int b, .tup (iL r), .tup (iL s)]), .sh (.int (n : Int)), .ow (iL ((List.range (min n s.length + i)).map (sq b r s))), .sh (.int b), .sh (.tup (iL r)), .sh (.tup (iL s)), .no, .no]) (by omega) ?h0 ?h ?he]
  case h0 => rfl
  case h =>
    intro i hi
    have hlen : ((List.range (min n s.length + i)).map (sq b r s)).length = min n s.length + i := by simp
    refine ⟨?_, .inl ?_⟩
    · simp -implicitDefEqProofs only [evSs, evS, evE, evEs, evI, RS.of_ok, RS.of_exn, RS.ofL_ok, RS.ofL_exn, RS.then_next, RS.then_ret, RS.then_brk, RS.then_cnt, RS.then_exn, RS.ifB_t, RS.ifB_f, RS.caught_next, RS.caught_ret, RS.caught_exn, RS.suite_next, RS.suite_ret, pIsx, pIs, pIsN, lamR_enc_ok, lamR_enc_exn, Pf.toldTo, R.bind_ok, R.bind_exn, pBin, pCmp, pAdd, pSub, pNeg, pLt, pLe, pNot, pIx, pSeq, pInt, getE, getB, setOwR, Pf.putAt, Pf.popTo, Pf.scrTo, Pf.unpTo, pIsa, asgT, setAll, killAll, PX.isN, PX.isB, PXs.hasB, Bool.false_eq_true, Bool.or_false, Bool.or_self, List.getElem?_cons_zero, List.getElem?_cons_succ, List.set_cons_zero, List.set_cons_succ, List.length_cons, List.length_nil, List.getD_cons_zero, List.getD_cons_succ, Nat.reduceAdd, Nat.reduceLT, Nat.zero_lt_succ, Nat.zero_add, ite_self, Bool.false_or, Bool.true_or, iL_len, Int.cast_ofNat_Int, Bool.and_true, Bool.true_and, bi_len_lst, bi_len_tup, bi_len_rl, bi_list_lst, bi_list_tup, bi_list_rl, bi_tuple_lst, bi_tuple_tup, bi_tuple_rl, bi_int_int, bi_int_b, at_two, int_if, at3_0, at3_1, at3_2, at2_0, at2_1, List.take_succ_cons, List.take_zero, List.drop_succ_cons, List.drop_zero, sum_ok, sl_lst, sl_tup, sl_rl, part_t, part_f, if_true, if_false, ite_true, ite_false, reduceIte, Nat.reduceLeDiff, Nat.reduceSub, eq_self, and_self, and_true, true_and, hlen, show ((min n s.length + i : Nat) : Int) < (n : Int) by omega, decide_true]
    · simp -implicitDefEqProofs only [c_l_places_1, evSs, evS, evE, evEs, evI, RS.of_ok, RS.of_exn, RS.ofL_ok, RS.ofL_exn, RS.then_next, RS.then_ret, RS.then_brk, RS.then_cnt, RS.then_exn, RS.ifB_t, RS.ifB_f, RS.caught_next, RS.caught_ret, RS.caught_exn, RS.suite_next, RS.suite_ret, pIsx, pIs, pIsN, lamR_enc_ok, lamR_enc_exn, Pf.toldTo, R.bind_ok, R.bind_exn, pBin, pCmp, pAdd, pSub, pNeg, pLt, pLe, pNot, pIx, pSeq, pInt, getE, getB, setOwR, Pf.putAt, Pf.popTo, Pf.scrTo, Pf.unpTo, pIsa, asgT, setAll, killAll, PX.isN, PX.isB, PXs.hasB, Bool.false_eq_true, Bool.or_false, Bool.or_self, List.getElem?_cons_zero, List.getElem?_cons_succ, List.set_cons_zero, List.set_cons_succ, List.length_cons, List.length_nil, List.getD_cons_zero, List.getD_cons_succ, Nat.reduceAdd, Nat.reduceLT, Nat.zero_lt_succ, Nat.zero_add, ite_self, Bool.false_or, Bool.true_or, iL_len, Int.cast_ofNat_Int, Bool.and_true, Bool.true_and, bi_len_lst, bi_len_tup, bi_len_rl, bi_list_lst, bi_list_tup, bi_list_rl, bi_tuple_lst, bi_tuple_tup, bi_tuple_rl, bi_int_int, bi_int_b, at_two, int_if, at3_0, at3_1, at3_2, at2_0, at2_1, List.take_succ_cons, List.take_zero, List.drop_succ_cons, List.drop_zero, sum_ok, sl_lst, sl_tup, sl_rl, part_t, part_f, if_true, if_false, ite_true, ite_false, reduceIte, Nat.reduceLeDiff, Nat.reduceSub, eq_self, and_self, and_true, true_and, span_nat (show r.length ≤ LIM by omega), Int.toNat_natCast]
      rw [compL_rngA (fun k => cf r k * sq b r s (min n s.length + i - 1 - k)) r.length ?hc]
      case hc =>
        intro k hk
        refine ⟨_, rfl, rfl, ?_⟩
        simp -implicitDefEqProofs only [evSs, evS, evE, evEs, evI, RS.of_ok, RS.of_exn, RS.ofL_ok, RS.ofL_exn, RS.then_next, RS.then_ret, RS.then_brk, RS.then_cnt, RS.then_exn, RS.ifB_t, RS.ifB_f, RS.caught_next, RS.caught_ret, RS.caught_exn, RS.suite_next, RS.suite_ret, pIsx, pIs, pIsN, lamR_enc_ok, lamR_enc_exn, Pf.toldTo, R.bind_ok, R.bind_exn, pBin, pCmp, pAdd, pSub, pNeg, pLt, pLe, pNot, pIx, pSeq, pInt, getE, getB, setOwR, Pf.putAt, Pf.popTo, Pf.scrTo, Pf.unpTo, pIsa, asgT, setAll, killAll, PX.isN, PX.isB, PXs.hasB, Bool.false_eq_true, Bool.or_false, Bool.or_self, List.getElem?_cons_zero, List.getElem?_cons_succ, List.set_cons_zero, List.set_cons_succ, List.length_cons, List.length_nil, List.getD_cons_zero, List.getD_cons_succ, Nat.reduceAdd, Nat.reduceLT, Nat.zero_lt_succ, Nat.zero_add, ite_self, Bool.false_or, Bool.true_or, iL_len, Int.cast_ofNat_Int, Bool.and_true, Bool.true_and, bi_len_lst, bi_len_tup, bi_len_rl, bi_list_lst, bi_list_tup, bi_list_rl, bi_tuple_lst, bi_tuple_tup, bi_tuple_rl, bi_int_int, bi_int_b, at_two, int_if, at3_0, at3_1, at3_2, at2_0, at2_1, List.take_succ_cons, List.take_zero, List.drop_succ_cons, List.drop_zero, sum_ok, sl_lst, sl_tup, sl_rl, part_t, part_f, if_true, if_false, ite_true, ite_false, reduceIte, Nat.reduceLeDiff, Nat.reduceSub, eq_self, and_self, and_true, true_and, pAt_cfn r k hk]
        rw [pAt_neg _ k (by rw [hlen]; omega), hlen, cf_rng _ (by omega)]
        simp -implicitDefEqProofs only [evSs, evS, evE, evEs, evI, RS.of_ok, RS.of_exn, RS.ofL_ok, RS.ofL_exn, RS.then_next, RS.then_ret, RS.then_brk, RS.then_cnt, RS.then_exn, RS.ifB_t, RS.ifB_f, RS.caught_next, RS.caught_ret, RS.caught_exn, RS.suite_next, RS.suite_ret, pIsx, pIs, pIsN, lamR_enc_ok, lamR_enc_exn, Pf.toldTo, R.bind_ok, R.bind_exn, pBin, pCmp, pAdd, pSub, pNeg, pLt, pLe, pNot, pIx, pSeq, pInt, getE, getB, setOwR, Pf.putAt, Pf.popTo, Pf.scrTo, Pf.unpTo, pIsa, asgT, setAll, killAll, PX.isN, PX.isB, PXs.hasB, Bool.false_eq_true, Bool.or_false, Bool.or_self, List.getElem?_cons_zero, List.getElem?_cons_succ, List.set_cons_zero, List.set_cons_succ, List.length_cons, List.length_nil, List.getD_cons_zero, List.getD_cons_succ, Nat.reduceAdd, Nat.reduceLT, Nat.zero_lt_succ, Nat.zero_add, ite_self, Bool.false_or, Bool.true_or, iL_len, Int.cast_ofNat_Int, Bool.and_true, Bool.true_and, bi_len_lst, bi_len_tup, bi_len_rl, bi_list_lst, bi_list_tup, bi_list_rl, bi_tuple_lst, bi_tuple_tup, bi_tuple_rl, bi_int_int, bi_int_b, at_two, int_if, at3_0, at3_1, at3_2, at2_0, at2_1, List.take_succ_cons, List.take_zero, List.drop_succ_cons, List.drop_zero, sum_ok, sl_lst, sl_tup, sl_rl, part_t, part_f, if_true, if_false, ite_true, ite_false, reduceIte, Nat.reduceLeDiff, Nat.reduceSub, eq_self, and_self, and_true, true_and]
        rw [mul_bd (h.rb hM _ (cf_mem hk)) (h.sb hM hB _) (by decide) (by omega)]
      simp -implicitDefEqProofs only [evSs, evS, evE, evEs, evI, RS.of_ok, RS.of_exn, RS.ofL_ok, RS.ofL_exn, RS.then_next, RS.then_ret, RS.then_brk, RS.then_cnt, RS.then_exn, RS.ifB_t, RS.ifB_f, RS.caught_next, RS.caught_ret, RS.caught_exn, RS.suite_next, RS.suite_ret, pIsx, pIs, pIsN, lamR_enc_ok, lamR_enc_exn, Pf.toldTo, R.bind_ok, R.bind_exn, pBin, pCmp, pAdd, pSub, pNeg, pLt, pLe, pNot, pIx, pSeq, pInt, getE, getB, setOwR, Pf.putAt, Pf.popTo, Pf.scrTo, Pf.unpTo, pIsa, asgT, setAll, killAll, PX.isN, PX.isB, PXs.hasB, Bool.false_eq_true, Bool.or_false, Bool.or_self, List.getElem?_cons_zero, List.getElem?_cons_succ, List.set_cons_zero, List.set_cons_succ, List.length_cons, List.length_nil, List.getD_cons_zero, List.getD_cons_succ, Nat.reduceAdd, Nat.reduceLT, Nat.zero_lt_succ, Nat.zero_add, ite_self, Bool.false_or, Bool.true_or, iL_len, Int.cast_ofNat_Int, Bool.and_true, Bool.true_and, bi_len_lst, bi_len_tup, bi_len_rl, bi_list_lst, bi_list_tup, bi_list_rl, bi_tuple_lst, bi_tuple_tup, bi_tuple_rl, bi_int_int, bi_int_b, at_two, int_if, at3_0, at3_1, at3_2, at2_0, at2_1, List.take_succ_cons, List.take_zero, List.drop_succ_cons, List.drop_zero, sum_ok, sl_lst, sl_tup, sl_rl, part_t, part_f, if_true, if_false, ite_true, ite_false, reduceIte, Nat.reduceLeDiff, Nat.reduceSub, eq_self, and_self, and_true, true_and, rngL_len, show r.length ≤ LIM by omega, sm_map, l_taken_ok h.b0, hlen, show min n s.length + i ≤ LIM by omega]
      rw [← sq_ge (by omega) (by omega), rng_app, Nat.add_assoc]
  case he =>
    have hn2 : min n s.length + (n - min n s.length) = n := by omega
    simp -implicitDefEqProofs only [evSs, evS, evE, evEs, evI, RS.of_ok, RS.of_exn, RS.ofL_ok, RS.ofL_exn, RS.then_next, RS.then_ret, RS.then_brk, RS.then_cnt, RS.then_exn, RS.ifB_t, RS.ifB_f, RS.caught_next, RS.caught_ret, RS.caught_exn, RS.suite_next, RS.suite_ret, pIsx, pIs, pIsN, lamR_enc_ok, lamR_enc_exn, Pf.toldTo, R.bind_ok, R.bind_exn, pBin, pCmp, pAdd, pSub, pNeg, pLt, pLe, pNot, pIx, pSeq, pInt, getE, getB, setOwR, Pf.putAt, Pf.popTo, Pf.scrTo, Pf.unpTo, pIsa, asgT, setAll, killAll, PX.isN, PX.isB, PXs.hasB, Bool.false_eq_true, Bool.or_false, Bool.or_self, List.getElem?_cons_zero, List.getElem?_cons_succ, List.set_cons_zero, List.set_cons_succ, List.length_cons, List.length_nil, List.getD_cons_zero, List.getD_cons_succ, Nat.reduceAdd, Nat.reduceLT, Nat.zero_lt_succ, Nat.zero_add, ite_self, Bool.false_or, Bool.true_or, iL_len, Int.cast_ofNat_Int, Bool.and_true, Bool.true_and, bi_len_lst, bi_len_tup, bi_len_rl, bi_list_lst, bi_list_tup, bi_list_rl, bi_tuple_lst, bi_tuple_tup, bi_tuple_rl, bi_int_int, bi_int_b, at_two, int_if, at3_0, at3_1, at3_2, at2_0, at2_1, List.take_succ_cons, List.take_zero, List.drop_succ_cons, List.drop_zero, sum_ok, sl_lst, sl_tup, sl_rl, part_t, part_f, if_true, if_false, ite_true, ite_false, reduceIte, Nat.reduceLeDiff, Nat.reduceSub, eq_self, and_self, and_true, true_and, hn2, List.length_map, List.length_range, Int.lt_irrefl, decide_false]
  rw [show min n s.length + (n - min n s.length) = n by omega]
  simp -implicitDefEqProofs only [evSs, evS, evE, evEs, evI, RS.of_ok, RS.of_exn, RS.ofL_ok, RS.ofL_exn, RS.then_next, RS.then_ret, RS.then_brk, RS.then_cnt, RS.then_exn, RS.ifB_t, RS.ifB_f, RS.caught_next, RS.caught_ret, RS.caught_exn, RS.suite_next, RS.suite_ret, pIsx, pIs, pIsN, lamR_enc_ok, lamR_enc_exn, Pf.toldTo, R.bind_ok, R.bind_exn, pBin, pCmp, pAdd, pSub, pNeg, pLt, pLe, pNot, pIx, pSeq, pInt, getE, getB, setOwR, Pf.putAt, Pf.popTo, Pf.scrTo, Pf.unpTo, pIsa, asgT, setAll, killAll, PX.isN, PX.isB, PXs.hasB, Bool.false_eq_true, Bool.or_false, Bool.or_self, List.getElem?_cons_zero, List.getElem?_cons_succ, List.set_cons_zero, List.set_cons_succ, List.length_cons, List.length_nil, List.getD_cons_zero, List.getD_cons_succ, Nat.reduceAdd, Nat.reduceLT, Nat.zero_lt_succ, Nat.zero_add, ite_self, Bool.false_or, Bool.true_or, iL_len, Int.cast_ofNat_Int, Bool.and_true, Bool.true_and, bi_len_lst, bi_len_tup, bi_len_rl, bi_list_lst, bi_list_tup, bi_list_rl, bi_tuple_lst, bi_tuple_tup, bi_tuple_rl, bi_int_int, bi_int_b, at_two, int_if, at3_0, at3_1, at3_2, at2_0, at2_1, List.take_succ_cons, List.take_zero, List.drop_succ_cons, List.drop_zero, sum_ok, sl_lst, sl_tup, sl_rl, part_t, part_f, if_true, if_false, ite_true, ite_false, reduceIte, Nat.reduceLeDiff, Nat.reduceSub, eq_self, and_self, and_true, true_and]
/-- a longer rule -/
def mlG (c : Int) (r : List Int) (i t : Nat) : Int := (if t = 0 then c else 0) + (if t < i then cf r t else 0) - (if 1 ≤ t ∧ t ≤ i then c * cf r (t - 1) else 0)
def mlR (b c : Int) (r : List Int) : List Int := (List.range (r.length + 1)).map fun t => tk b (mlG c r r.length t)
def mlS (b : Int) (r s : List Int) : List Int := (List.range (r.length + 1)).map (sq b r s)
theorem mlG_step (c : Int) (r : List Int) (i t : Nat) : (if t = i + 1 then (if i + 1 = i then mlG c r i i + cf r i else mlG c r i (i + 1)) - c * cf r i else if t = i then mlG c r i i + cf r i else mlG c r i t) = mlG c r (i + 1) t := by
  unfold mlG
  by_cases h1 : t = i + 1
  · subst h1
    rw [Nat.add_sub_cancel]
    generalize c * cf r i = z
    repeat' split
    all_goals omega
  · by_cases h2 : t = i
    · subst h2
      generalize c * cf r (t - 1) = z
      repeat' split
      all_goals omega
    · generalize c * cf r (t - 1) = z
      repeat' split
      all_goals omega
theorem made_longer_ok {M B : Nat} {b c : Int} {r s : List Int} (h : Rg M B b r s) (hM : M ≤ 1000000) (hB : 70 ≤ B) (hB2 : B ≤ 100000) (bc : bd 20 c) : s_l_made_longer [rowV b r s, .int c] = .ok (rowV b (mlR b c r) (mlS b r s)) := by
  have hL : LIM = 1000000 := rfl
  have l1 := h.len
  have l2 := h.le
  have e1 : (r.length : Int) + 1 = ((r.length + 1 : Nat) : Int) := by omega
  have hp := l_places_ok h hM hB hB2 (r.length + 1) (by omega)
  unfold rowV at hp
  refine run_ret rfl ?_
  show evSs [s_l_places, s_l_taken] [] false c_l_made_longer [.sh (rowV b r s), .sh (.int c), .no, .no, .no, .no, .no, .no, .no] = _
  simp -implicitDefEqProofs only [c_l_made_longer, evSs, evS, evE, evEs, evI, RS.of_ok, RS.of_exn, RS.ofL_ok, RS.ofL_exn, RS.then_next, RS.then_ret, RS.then_brk, RS.then_cnt, RS.then_exn, RS.ifB_t, RS.ifB_f, RS.caught_next, RS.caught_ret, RS.caught_exn, RS.suite_next, RS.suite_ret, pIsx, pIs, pIsN, lamR_enc_ok, lamR_enc_exn, Pf.toldTo, R.bind_ok, R.bind_exn, pBin, pCmp, pAdd, pSub, pNeg, pLt, pLe, pNot, pIx, pSeq, pInt, getE, getB, setOwR, Pf.putAt, Pf.popTo, Pf.scrTo, Pf.unpTo, pIsa, asgT, setAll, killAll, PX.isN, PX.isB, PXs.hasB, Bool.false_eq_true, Bool.or_false, Bool.or_self, List.getElem?_cons_zero, List.getElem?_cons_succ, List.set_cons_zero, List.set_cons_succ, List.length_cons, List.length_nil, List.getD_cons_zero, List.getD_cons_succ, Nat.reduceAdd, Nat.reduceLT, Nat.zero_lt_succ, Nat.zero_add, ite_self, Bool.false_or, Bool.true_or, iL_len, Int.cast_ofNat_Int, Bool.and_true, Bool.true_and, bi_len_lst, bi_len_tup, bi_len_rl, bi_list_lst, bi_list_tup, bi_list_rl, bi_tuple_lst, bi_tuple_tup, bi_tuple_rl, bi_int_int, bi_int_b, at_two, int_if, at3_0, at3_1, at3_2, at2_0, at2_1, List.take_succ_cons, List.take_zero, List.drop_succ_cons, List.drop_zero, sum_ok, sl_lst, sl_tup, sl_rl, part_t, part_f, if_true, if_false, ite_true, ite_false, reduceIte, Nat.reduceLeDiff, Nat.reduceSub, eq_self, and_self, and_true, true_and, rowV, e1, hp]
  rw [mul_rep _ _ (by omega)]
  have e2 : PV.int c :: iL (List.replicate r.length 0) = iL ((List.range (r.length + 1)).map (mlG c r 0)) := by
    rw [← iL_cons]
    congr 1
    apply cf_ext (by simp)
    intro k hk
    have hk' : k < r.length + 1 := by simpa using hk
    rw [cf_rng _ hk']
    unfold mlG
    cases k with
    | zero => simp [cf_cons0]
    | succ k =>
      rw [cf_consS, cf_rep, ite_self, if_neg (by omega), if_neg (by omega), if_neg (by omega)]
      rfl
  simp -implicitDefEqProofs only [evSs, evS, evE, evEs, evI, RS.of_ok, RS.of_exn, RS.ofL_ok, RS.ofL_exn, RS.then_next, RS.then_ret, RS.then_brk, RS.then_cnt, RS.then_exn, RS.ifB_t, RS.ifB_f, RS.caught_next, RS.caught_ret, RS.caught_exn, RS.suite_next, RS.suite_ret, pIsx, pIs, pIsN, lamR_enc_ok, lamR_enc_exn, Pf.toldTo, R.bind_ok, R.bind_exn, pBin, pCmp, pAdd, pSub, pNeg, pLt, pLe, pNot, pIx, pSeq, pInt, getE, getB, setOwR, Pf.putAt, Pf.popTo, Pf.scrTo, Pf.unpTo, pIsa, asgT, setAll, killAll, PX.isN, PX.isB, PXs.hasB, Bool.false_eq_true, Bool.or_false, Bool.or_self, List.getElem?_cons_zero, List.getElem?_cons_succ, List.set_cons_zero, List.set_cons_succ, List.length_cons, List.length_nil, List.getD_cons_zero, List.getD_cons_succ, Nat.reduceAdd, Nat.reduceLT, Nat.zero_lt_succ, Nat.zero_add, ite_self, Bool.false_or, Bool.true_or, iL_len, Int.cast_ofNat_Int, Bool.and_true, Bool.true_and, bi_len_lst, bi_len_tup, bi_len_rl, bi_list_lst, bi_list_tup, bi_list_rl, bi_tuple_lst, bi_tuple_tup, bi_tuple_rl, bi_int_int, bi_int_b, at_two, int_if, at3_0, at3_1, at3_2, at2_0, at2_1, List.take_succ_cons, List.take_zero, List.drop_succ_cons, List.drop_zero, sum_ok, sl_lst, sl_tup, sl_rl, part_t, part_f, if_true, if_false, ite_true, ite_false, reduceIte, Nat.reduceLeDiff, Nat.reduceSub, eq_self, and_self, and_true, true_and, List.length_replicate, show 1 + r.length ≤ LIM by omega, List.cons_append, List.nil_append, e2, span_nat (show r.length ≤ LIM by omega), Int.toNat_natCast]
  have hf := forL_rng0 (asg := asgT [4] false) (body := evSs [s_l_places, s_l_taken] [] false c_l_made_longer_1) r.length (fun i => [.sh (.tup [.int b, .tup (iL r), .tup (iL s)]), .sh (.int c), .sh (.lst (iL ((List.range (r.length + 1)).map (sq b r s)))), .ow (iL ((List.range (r.length + 1)).map (mlG c r i))), .no, .sh (.int b), .sh (.tup (iL r)), .sh (.tup (iL s)), .no]) fun i hi => by
    refine ⟨_, rfl, .inl ?_⟩
    have ei : (i : Int) + 1 = ((i + 1 : Nat) : Int) := by omega
    simp -implicitDefEqProofs only [c_l_made_longer_1, evSs, evS, evE, evEs, evI, RS.of_ok, RS.of_exn, RS.ofL_ok, RS.ofL_exn, RS.then_next, RS.then_ret, RS.then_brk, RS.then_cnt, RS.then_exn, RS.ifB_t, RS.ifB_f, RS.caught_next, RS.caught_ret, RS.caught_exn, RS.suite_next, RS.suite_ret, pIsx, pIs, pIsN, lamR_enc_ok, lamR_enc_exn, Pf.toldTo, R.bind_ok, R.bind_exn, pBin, pCmp, pAdd, pSub, pNeg, pLt, pLe, pNot, pIx, pSeq, pInt, getE, getB, setOwR, Pf.putAt, Pf.popTo, Pf.scrTo, Pf.unpTo, pIsa, asgT, setAll, killAll, PX.isN, PX.isB, PXs.hasB, Bool.false_eq_true, Bool.or_false, Bool.or_self, List.getElem?_cons_zero, List.getElem?_cons_succ, List.set_cons_zero, List.set_cons_succ, List.length_cons, List.length_nil, List.getD_cons_zero, List.getD_cons_succ, Nat.reduceAdd, Nat.reduceLT, Nat.zero_lt_succ, Nat.zero_add, ite_self, Bool.false_or, Bool.true_or, iL_len, Int.cast_ofNat_Int, Bool.and_true, Bool.true_and, bi_len_lst, bi_len_tup, bi_len_rl, bi_list_lst, bi_list_tup, bi_list_rl, bi_tuple_lst, bi_tuple_tup, bi_tuple_rl, bi_int_int, bi_int_b, at_two, int_if, at3_0, at3_1, at3_2, at2_0, at2_1, List.take_succ_cons, List.take_zero, List.drop_succ_cons, List.drop_zero, sum_ok, sl_lst, sl_tup, sl_rl, part_t, part_f, if_true, if_false, ite_true, ite_false, reduceIte, Nat.reduceLeDiff, Nat.reduceSub, eq_self, and_self, and_true, true_and, pAt_cfn r i hi, ei]
    rw [pAt_cfn _ i (by simp; omega)]
    simp -implicitDefEqProofs only [evSs, evS, evE, evEs, evI, RS.of_ok, RS.of_exn, RS.ofL_ok, RS.ofL_exn, RS.then_next, RS.then_ret, RS.then_brk, RS.then_cnt, RS.then_exn, RS.ifB_t, RS.ifB_f, RS.caught_next, RS.caught_ret, RS.caught_exn, RS.suite_next, RS.suite_ret, pIsx, pIs, pIsN, lamR_enc_ok, lamR_enc_exn, Pf.toldTo, R.bind_ok, R.bind_exn, pBin, pCmp, pAdd, pSub, pNeg, pLt, pLe, pNot, pIx, pSeq, pInt, getE, getB, setOwR, Pf.putAt, Pf.popTo, Pf.scrTo, Pf.unpTo, pIsa, asgT, setAll, killAll, PX.isN, PX.isB, PXs.hasB, Bool.false_eq_true, Bool.or_false, Bool.or_self, List.getElem?_cons_zero, List.getElem?_cons_succ, List.set_cons_zero, List.set_cons_succ, List.length_cons, List.length_nil, List.getD_cons_zero, List.getD_cons_succ, Nat.reduceAdd, Nat.reduceLT, Nat.zero_lt_succ, Nat.zero_add, ite_self, Bool.false_or, Bool.true_or, iL_len, Int.cast_ofNat_Int, Bool.and_true, Bool.true_and, bi_len_lst, bi_len_tup, bi_len_rl, bi_list_lst, bi_list_tup, bi_list_rl, bi_tuple_lst, bi_tuple_tup, bi_tuple_rl, bi_int_int, bi_int_b, at_two, int_if, at3_0, at3_1, at3_2, at2_0, at2_1, List.take_succ_cons, List.take_zero, List.drop_succ_cons, List.drop_zero, sum_ok, sl_lst, sl_tup, sl_rl, part_t, part_f, if_true, if_false, ite_true, ite_false, reduceIte, Nat.reduceLeDiff, Nat.reduceSub, eq_self, and_self, and_true, true_and, iL_len, List.length_map, List.length_range]
    rw [ixN_nat _ _ (by omega)]
    simp -implicitDefEqProofs only [evSs, evS, evE, evEs, evI, RS.of_ok, RS.of_exn, RS.ofL_ok, RS.ofL_exn, RS.then_next, RS.then_ret, RS.then_brk, RS.then_cnt, RS.then_exn, RS.ifB_t, RS.ifB_f, RS.caught_next, RS.caught_ret, RS.caught_exn, RS.suite_next, RS.suite_ret, pIsx, pIs, pIsN, lamR_enc_ok, lamR_enc_exn, Pf.toldTo, R.bind_ok, R.bind_exn, pBin, pCmp, pAdd, pSub, pNeg, pLt, pLe, pNot, pIx, pSeq, pInt, getE, getB, setOwR, Pf.putAt, Pf.popTo, Pf.scrTo, Pf.unpTo, pIsa, asgT, setAll, killAll, PX.isN, PX.isB, PXs.hasB, Bool.false_eq_true, Bool.or_false, Bool.or_self, List.getElem?_cons_zero, List.getElem?_cons_succ, List.set_cons_zero, List.set_cons_succ, List.length_cons, List.length_nil, List.getD_cons_zero, List.getD_cons_succ, Nat.reduceAdd, Nat.reduceLT, Nat.zero_lt_succ, Nat.zero_add, ite_self, Bool.false_or, Bool.true_or, iL_len, Int.cast_ofNat_Int, Bool.and_true, Bool.true_and, bi_len_lst, bi_len_tup, bi_len_rl, bi_list_lst, bi_list_tup, bi_list_rl, bi_tuple_lst, bi_tuple_tup, bi_tuple_rl, bi_int_int, bi_int_b, at_two, int_if, at3_0, at3_1, at3_2, at2_0, at2_1, List.take_succ_cons, List.take_zero, List.drop_succ_cons, List.drop_zero, sum_ok, sl_lst, sl_tup, sl_rl, part_t, part_f, if_true, if_false, ite_true, ite_false, reduceIte, Nat.reduceLeDiff, Nat.reduceSub, eq_self, and_self, and_true, true_and, iL_set, rng_set, cf_rng _ (show i < r.length + 1 by omega), pAt_cfn r i hi, ei]
    rw [pAt_cfn _ (i + 1) (by simp; omega)]
    simp -implicitDefEqProofs only [evSs, evS, evE, evEs, evI, RS.of_ok, RS.of_exn, RS.ofL_ok, RS.ofL_exn, RS.then_next, RS.then_ret, RS.then_brk, RS.then_cnt, RS.then_exn, RS.ifB_t, RS.ifB_f, RS.caught_next, RS.caught_ret, RS.caught_exn, RS.suite_next, RS.suite_ret, pIsx, pIs, pIsN, lamR_enc_ok, lamR_enc_exn, Pf.toldTo, R.bind_ok, R.bind_exn, pBin, pCmp, pAdd, pSub, pNeg, pLt, pLe, pNot, pIx, pSeq, pInt, getE, getB, setOwR, Pf.putAt, Pf.popTo, Pf.scrTo, Pf.unpTo, pIsa, asgT, setAll, killAll, PX.isN, PX.isB, PXs.hasB, Bool.false_eq_true, Bool.or_false, Bool.or_self, List.getElem?_cons_zero, List.getElem?_cons_succ, List.set_cons_zero, List.set_cons_succ, List.length_cons, List.length_nil, List.getD_cons_zero, List.getD_cons_succ, Nat.reduceAdd, Nat.reduceLT, Nat.zero_lt_succ, Nat.zero_add, ite_self, Bool.false_or, Bool.true_or, iL_len, Int.cast_ofNat_Int, Bool.and_true, Bool.true_and, bi_len_lst, bi_len_tup, bi_len_rl, bi_list_lst, bi_list_tup, bi_list_rl, bi_tuple_lst, bi_tuple_tup, bi_tuple_rl, bi_int_int, bi_int_b, at_two, int_if, at3_0, at3_1, at3_2, at2_0, at2_1, List.take_succ_cons, List.take_zero, List.drop_succ_cons, List.drop_zero, sum_ok, sl_lst, sl_tup, sl_rl, part_t, part_f, if_true, if_false, ite_true, ite_false, reduceIte, Nat.reduceLeDiff, Nat.reduceSub, eq_self, and_self, and_true, true_and]
    rw [mul_bd bc (h.rb hM _ (cf_mem hi)) (by decide) (by decide)]
    simp -implicitDefEqProofs only [evSs, evS, evE, evEs, evI, RS.of_ok, RS.of_exn, RS.ofL_ok, RS.ofL_exn, RS.then_next, RS.then_ret, RS.then_brk, RS.then_cnt, RS.then_exn, RS.ifB_t, RS.ifB_f, RS.caught_next, RS.caught_ret, RS.caught_exn, RS.suite_next, RS.suite_ret, pIsx, pIs, pIsN, lamR_enc_ok, lamR_enc_exn, Pf.toldTo, R.bind_ok, R.bind_exn, pBin, pCmp, pAdd, pSub, pNeg, pLt, pLe, pNot, pIx, pSeq, pInt, getE, getB, setOwR, Pf.putAt, Pf.popTo, Pf.scrTo, Pf.unpTo, pIsa, asgT, setAll, killAll, PX.isN, PX.isB, PXs.hasB, Bool.false_eq_true, Bool.or_false, Bool.or_self, List.getElem?_cons_zero, List.getElem?_cons_succ, List.set_cons_zero, List.set_cons_succ, List.length_cons, List.length_nil, List.getD_cons_zero, List.getD_cons_succ, Nat.reduceAdd, Nat.reduceLT, Nat.zero_lt_succ, Nat.zero_add, ite_self, Bool.false_or, Bool.true_or, iL_len, Int.cast_ofNat_Int, Bool.and_true, Bool.true_and, bi_len_lst, bi_len_tup, bi_len_rl, bi_list_lst, bi_list_tup, bi_list_rl, bi_tuple_lst, bi_tuple_tup, bi_tuple_rl, bi_int_int, bi_int_b, at_two, int_if, at3_0, at3_1, at3_2, at2_0, at2_1, List.take_succ_cons, List.take_zero, List.drop_succ_cons, List.drop_zero, sum_ok, sl_lst, sl_tup, sl_rl, part_t, part_f, if_true, if_false, ite_true, ite_false, reduceIte, Nat.reduceLeDiff, Nat.reduceSub, eq_self, and_self, and_true, true_and, iL_len, List.length_map, List.length_range]
    rw [ixN_nat _ _ (by omega)]
    simp -implicitDefEqProofs only [evSs, evS, evE, evEs, evI, RS.of_ok, RS.of_exn, RS.ofL_ok, RS.ofL_exn, RS.then_next, RS.then_ret, RS.then_brk, RS.then_cnt, RS.then_exn, RS.ifB_t, RS.ifB_f, RS.caught_next, RS.caught_ret, RS.caught_exn, RS.suite_next, RS.suite_ret, pIsx, pIs, pIsN, lamR_enc_ok, lamR_enc_exn, Pf.toldTo, R.bind_ok, R.bind_exn, pBin, pCmp, pAdd, pSub, pNeg, pLt, pLe, pNot, pIx, pSeq, pInt, getE, getB, setOwR, Pf.putAt, Pf.popTo, Pf.scrTo, Pf.unpTo, pIsa, asgT, setAll, killAll, PX.isN, PX.isB, PXs.hasB, Bool.false_eq_true, Bool.or_false, Bool.or_self, List.getElem?_cons_zero, List.getElem?_cons_succ, List.set_cons_zero, List.set_cons_succ, List.length_cons, List.length_nil, List.getD_cons_zero, List.getD_cons_succ, Nat.reduceAdd, Nat.reduceLT, Nat.zero_lt_succ, Nat.zero_add, ite_self, Bool.false_or, Bool.true_or, iL_len, Int.cast_ofNat_Int, Bool.and_true, Bool.true_and, bi_len_lst, bi_len_tup, bi_len_rl, bi_list_lst, bi_list_tup, bi_list_rl, bi_tuple_lst, bi_tuple_tup, bi_tuple_rl, bi_int_int, bi_int_b, at_two, int_if, at3_0, at3_1, at3_2, at2_0, at2_1, List.take_succ_cons, List.take_zero, List.drop_succ_cons, List.drop_zero, sum_ok, sl_lst, sl_tup, sl_rl, part_t, part_f, if_true, if_false, ite_true, ite_false, reduceIte, Nat.reduceLeDiff, Nat.reduceSub, eq_self, and_self, and_true, true_and, iL_set, rng_set, cf_rng _ (show i + 1 < r.length + 1 by omega)]
    rw [rng_congr (f := fun k => if k = i + 1 then (if i + 1 = i then mlG c r i i + cf r i else mlG c r i (i + 1)) - c * cf r i else if k = i then mlG c r i i + cf r i else mlG c r i k) (g := mlG c r (i + 1))]
    intro t ht
    exact mlG_step c r i t
  rw [hf]
  simp -implicitDefEqProofs only [evSs, evS, evE, evEs, evI, RS.of_ok, RS.of_exn, RS.ofL_ok, RS.ofL_exn, RS.then_next, RS.then_ret, RS.then_brk, RS.then_cnt, RS.then_exn, RS.ifB_t, RS.ifB_f, RS.caught_next, RS.caught_ret, RS.caught_exn, RS.suite_next, RS.suite_ret, pIsx, pIs, pIsN, lamR_enc_ok, lamR_enc_exn, Pf.toldTo, R.bind_ok, R.bind_exn, pBin, pCmp, pAdd, pSub, pNeg, pLt, pLe, pNot, pIx, pSeq, pInt, getE, getB, setOwR, Pf.putAt, Pf.popTo, Pf.scrTo, Pf.unpTo, pIsa, asgT, setAll, killAll, PX.isN, PX.isB, PXs.hasB, Bool.false_eq_true, Bool.or_false, Bool.or_self, List.getElem?_cons_zero, List.getElem?_cons_succ, List.set_cons_zero, List.set_cons_succ, List.length_cons, List.length_nil, List.getD_cons_zero, List.getD_cons_succ, Nat.reduceAdd, Nat.reduceLT, Nat.zero_lt_succ, Nat.zero_add, ite_self, Bool.false_or, Bool.true_or, iL_len, Int.cast_ofNat_Int, Bool.and_true, Bool.true_and, bi_len_lst, bi_len_tup, bi_len_rl, bi_list_lst, bi_list_tup, bi_list_rl, bi_tuple_lst, bi_tuple_tup, bi_tuple_rl, bi_int_int, bi_int_b, at_two, int_if, at3_0, at3_1, at3_2, at2_0, at2_1, List.take_succ_cons, List.take_zero, List.drop_succ_cons, List.drop_zero, sum_ok, sl_lst, sl_tup, sl_rl, part_t, part_f, if_true, if_false, ite_true, ite_false, reduceIte, Nat.reduceLeDiff, Nat.reduceSub, eq_self, and_self, and_true, true_and]
  rw [compL_iL (tk b) ((List.range (r.length + 1)).map (mlG c r r.length)) ?hc]
  case hc =>
    intro x hx
    exact ⟨_, rfl, rfl, by simp -implicitDefEqProofs only [evSs, evS, evE, evEs, evI, RS.of_ok, RS.of_exn, RS.ofL_ok, RS.ofL_exn, RS.then_next, RS.then_ret, RS.then_brk, RS.then_cnt, RS.then_exn, RS.ifB_t, RS.ifB_f, RS.caught_next, RS.caught_ret, RS.caught_exn, RS.suite_next, RS.suite_ret, pIsx, pIs, pIsN, lamR_enc_ok, lamR_enc_exn, Pf.toldTo, R.bind_ok, R.bind_exn, pBin, pCmp, pAdd, pSub, pNeg, pLt, pLe, pNot, pIx, pSeq, pInt, getE, getB, setOwR, Pf.putAt, Pf.popTo, Pf.scrTo, Pf.unpTo, pIsa, asgT, setAll, killAll, PX.isN, PX.isB, PXs.hasB, Bool.false_eq_true, Bool.or_false, Bool.or_self, List.getElem?_cons_zero, List.getElem?_cons_succ, List.set_cons_zero, List.set_cons_succ, List.length_cons, List.length_nil, List.getD_cons_zero, List.getD_cons_succ, Nat.reduceAdd, Nat.reduceLT, Nat.zero_lt_succ, Nat.zero_add, ite_self, Bool.false_or, Bool.true_or, iL_len, Int.cast_ofNat_Int, Bool.and_true, Bool.true_and, bi_len_lst, bi_len_tup, bi_len_rl, bi_list_lst, bi_list_tup, bi_list_rl, bi_tuple_lst, bi_tuple_tup, bi_tuple_rl, bi_int_int, bi_int_b, at_two, int_if, at3_0, at3_1, at3_2, at2_0, at2_1, List.take_succ_cons, List.take_zero, List.drop_succ_cons, List.drop_zero, sum_ok, sl_lst, sl_tup, sl_rl, part_t, part_f, if_true, if_false, ite_true, ite_false, reduceIte, Nat.reduceLeDiff, Nat.reduceSub, eq_self, and_self, and_true, true_and, l_taken_ok h.b0]⟩
  simp -implicitDefEqProofs only [evSs, evS, evE, evEs, evI, RS.of_ok, RS.of_exn, RS.ofL_ok, RS.ofL_exn, RS.then_next, RS.then_ret, RS.then_brk, RS.then_cnt, RS.then_exn, RS.ifB_t, RS.ifB_f, RS.caught_next, RS.caught_ret, RS.caught_exn, RS.suite_next, RS.suite_ret, pIsx, pIs, pIsN, lamR_enc_ok, lamR_enc_exn, Pf.toldTo, R.bind_ok, R.bind_exn, pBin, pCmp, pAdd, pSub, pNeg, pLt, pLe, pNot, pIx, pSeq, pInt, getE, getB, setOwR, Pf.putAt, Pf.popTo, Pf.scrTo, Pf.unpTo, pIsa, asgT, setAll, killAll, PX.isN, PX.isB, PXs.hasB, Bool.false_eq_true, Bool.or_false, Bool.or_self, List.getElem?_cons_zero, List.getElem?_cons_succ, List.set_cons_zero, List.set_cons_succ, List.length_cons, List.length_nil, List.getD_cons_zero, List.getD_cons_succ, Nat.reduceAdd, Nat.reduceLT, Nat.zero_lt_succ, Nat.zero_add, ite_self, Bool.false_or, Bool.true_or, iL_len, Int.cast_ofNat_Int, Bool.and_true, Bool.true_and, bi_len_lst, bi_len_tup, bi_len_rl, bi_list_lst, bi_list_tup, bi_list_rl, bi_tuple_lst, bi_tuple_tup, bi_tuple_rl, bi_int_int, bi_int_b, at_two, int_if, at3_0, at3_1, at3_2, at2_0, at2_1, List.take_succ_cons, List.take_zero, List.drop_succ_cons, List.drop_zero, sum_ok, sl_lst, sl_tup, sl_rl, part_t, part_f, if_true, if_false, ite_true, ite_false, reduceIte, Nat.reduceLeDiff, Nat.reduceSub, eq_self, and_self, and_true, true_and, List.length_map, List.length_range, show r.length + 1 ≤ LIM by omega, List.map_map, Function.comp_def]
  rfl
theorem made_longer_Rg {M B : Nat} {b c : Int} {r s : List Int} (h : Rg M B b r s) (hM : M ≤ 1000000) (hM0 : 1000 ≤ M) (hB : 70 ≤ B) (hc : b = 0 → c.natAbs ≤ 2) (hl : r.length < 12) : Rg (3 * M + 2) (B + 1000) b (mlR b c r) (mlS b r s) := by
  have l1 := h.len
  refine ⟨h.b0, h.b1, h.bn, by simp [mlR, mlS], by simp [mlS]; omega, fun x hx => ?_, fun x hx => ?_⟩
  · obtain ⟨t, ht, rfl⟩ := List.mem_map.mp hx
    refine ⟨tk_tk b _, tk_le h.b0 h.b1 (by omega) fun hb => ?_⟩
    have hc := hc hb
    have hr : ∀ k, (cf r k).natAbs ≤ M := fun k => by
      by_cases hk : k < r.length
      · exact (h.rr _ (cf_mem hk)).2
      · rw [cf_ge (by omega)]
        simp
    have a1 := hr t
    have a2 := hr (t - 1)
    have a3 : (c * cf r (t - 1)).natAbs ≤ 2 * M := by
      rw [Int.natAbs_mul]
      exact Nat.mul_le_mul hc a2
    show (mlG c r r.length t).natAbs ≤ _
    unfold mlG
    split <;> split <;> split <;> omega
  · obtain ⟨k, hk, rfl⟩ := List.mem_map.mp hx
    have := List.mem_range.mp hk
    exact ⟨h.red k, bd_mono (h.sb hM hB k) (by omega)⟩
theorem Rg.mono {M M' B B' : Nat} {b : Int} {r s : List Int} (h : Rg M B b r s) (hM : M ≤ M') (hB : B ≤ B') : Rg M' B' b r s :=
  ⟨h.b0, h.b1, h.bn, h.len, h.le, fun x hx => ⟨(h.rr x hx).1, Nat.le_trans (h.rr x hx).2 hM⟩, fun x hx => ⟨(h.ss x hx).1, bd_mono (h.ss x hx).2 hB⟩⟩
def mlM : Nat → Nat
  | 0 => 5000
  | k + 1 => 3 * mlM k + 2
theorem mlM_ge : ∀ k, 5000 ≤ mlM k
  | 0 => Nat.le_refl _
  | k + 1 => by
    have := mlM_ge k
    show 5000 ≤ 3 * mlM k + 2
    omega
theorem mlM_le : ∀ k, k ≤ 3 → mlM k ≤ 140000 := by
  intro k hk
  have : k = 0 ∨ k = 1 ∨ k = 2 ∨ k = 3 := by omega
  rcases this with h | h | h | h <;> subst h <;> decide
theorem at8n (v : Int) : ∃ n : Nat, pAt [PV.int 0, PV.int 0, PV.int 1, PV.int 0, PV.int 2, PV.int 0, PV.int 0, PV.int 3] (v % 8) = .ok (.int (n : Int)) ∧ n ≤ 3 := by
  have h : v % 8 = 0 ∨ v % 8 = 1 ∨ v % 8 = 2 ∨ v % 8 = 3 ∨ v % 8 = 4 ∨ v % 8 = 5 ∨ v % 8 = 6 ∨ v % 8 = 7 := by omega
  rcases h with h | h | h | h | h | h | h | h <;> rw [h]
  · exact ⟨0, rfl, by decide⟩
  · exact ⟨0, rfl, by decide⟩
  · exact ⟨1, rfl, by decide⟩
  · exact ⟨0, rfl, by decide⟩
  · exact ⟨2, rfl, by decide⟩
  · exact ⟨0, rfl, by decide⟩
  · exact ⟨0, rfl, by decide⟩
  · exact ⟨3, rfl, by decide⟩
theorem l_drawn_row_ok (ns : List Int) (hz : ∀ z ∈ ns, PySem.Builtin.Int.intBits z ≤ 1048576) {b : Int} (hB : b ∈ BYS) (st most : Int) (h0 : 0 ≤ st) (h1 : st ≤ 100) (h2 : 0 ≤ most) (h3 : most ≤ 12) : ∃ r s, s_l_drawn_row [script ns, .int st, .int b, .int most] = .ok (rowV b r s) ∧ Rg 140000 3070 b r s := by
  have hL : LIM = 1000000 := rfl
  obtain ⟨b0, b1, bn⟩ := BYS_ok b hB
  obtain ⟨c, ec, bc⟩ := l_cell_ok ns hz st h0 (by omega)
  obtain ⟨d, ed, bd'⟩ := l_cell_ok ns hz (st + 1) (by omega) (by omega)
  obtain ⟨m2, em2, _, _⟩ := l_mix_ok c 2 (by decide) (by decide)
  obtain ⟨m3, em3, _, _⟩ := l_mix_ok c 3 (by decide) (by decide)
  obtain ⟨n, hn, hn1⟩ : ∃ n : Nat, m2 % (most + 1) = (n : Int) ∧ n ≤ 12 := by
    have := Int.emod_nonneg m2 (b := most + 1) (by omega)
    have := Int.emod_lt_of_pos m2 (b := most + 1) (by omega)
    exact ⟨(m2 % (most + 1)).toNat, by omega, by omega⟩
  obtain ⟨t, et, ht⟩ := at8n m3
  have one := fun (k : Int) h0 h1 => one_eq (k := k) b0 b1 bd' h0 h1
  have key := forL_ex (asg := asgT [9] false) (body := evSs [s_l_cell_at, s_l_mix, s_l_one_number, s_l_made_longer, s_l_taken] [] false c_l_drawn_row_1) (fun k ρ => ∃ r s, ρ = [.sh (script ns), .sh (.int st), .sh (.int b), .sh (.int most), .sh (.int c), .sh (.int (n : Int)), .sh (.int d), .sh (.tup (iL ((List.range n).map fun k : Nat => oneV b d (k : Int)))), .sh (rowV b r s), .no] ∧ Rg (mlM k) (70 + 1000 * k) b r s) (fun _ => False)
    (rngL 0 t) 0 _ ⟨(List.range n).map fun k : Nat => oneV b d (k : Int), (List.range n).map fun k : Nat => oneV b d (15 + (k : Int)), rfl, ?_⟩ ?_
  · rcases key with ⟨ρ, e, r, s, rfl, w⟩ | ⟨v, _, h⟩
    · rw [rngL_len, Nat.zero_add] at w
      refine ⟨r, s, run_ret rfl ?_, w.mono (mlM_le t ht) (by omega)⟩
      show evSs [s_l_cell_at, s_l_mix, s_l_one_number, s_l_made_longer, s_l_taken] [] false c_l_drawn_row [.sh (script ns), .sh (.int st), .sh (.int b), .sh (.int most), .no, .no, .no, .no, .no, .no] = _
      simp -implicitDefEqProofs only [c_l_drawn_row, evSs, evS, evE, evEs, evI, RS.of_ok, RS.of_exn, RS.ofL_ok, RS.ofL_exn, RS.then_next, RS.then_ret, RS.then_brk, RS.then_cnt, RS.then_exn, RS.ifB_t, RS.ifB_f, RS.caught_next, RS.caught_ret, RS.caught_exn, RS.suite_next, RS.suite_ret, pIsx, pIs, pIsN, lamR_enc_ok, lamR_enc_exn, Pf.toldTo, R.bind_ok, R.bind_exn, pBin, pCmp, pAdd, pSub, pNeg, pLt, pLe, pNot, pIx, pSeq, pInt, getE, getB, setOwR, Pf.putAt, Pf.popTo, Pf.scrTo, Pf.unpTo, pIsa, asgT, setAll, killAll, PX.isN, PX.isB, PXs.hasB, Bool.false_eq_true, Bool.or_false, Bool.or_self, List.getElem?_cons_zero, List.getElem?_cons_succ, List.set_cons_zero, List.set_cons_succ, List.length_cons, List.length_nil, List.getD_cons_zero, List.getD_cons_succ, Nat.reduceAdd, Nat.reduceLT, Nat.zero_lt_succ, Nat.zero_add, ite_self, Bool.false_or, Bool.true_or, iL_len, Int.cast_ofNat_Int, Bool.and_true, Bool.true_and, bi_len_lst, bi_len_tup, bi_len_rl, bi_list_lst, bi_list_tup, bi_list_rl, bi_tuple_lst, bi_tuple_tup, bi_tuple_rl, bi_int_int, bi_int_b, at_two, int_if, at3_0, at3_1, at3_2, at2_0, at2_1, List.take_succ_cons, List.take_zero, List.drop_succ_cons, List.drop_zero, sum_ok, sl_lst, sl_tup, sl_rl, part_t, part_f, if_true, if_false, ite_true, ite_false, reduceIte, Nat.reduceLeDiff, Nat.reduceSub, eq_self, and_self, and_true, true_and, ec, em2, mod_pos (show 0 < most + 1 by omega), hn, ed, span_nat (show n ≤ LIM by omega), Int.toNat_natCast]
      rw [compL_rngA (fun k : Nat => oneV b d (k : Int)) n ?hc]
      case hc =>
        intro k hk
        exact ⟨_, rfl, rfl, by simp -implicitDefEqProofs only [evSs, evS, evE, evEs, evI, RS.of_ok, RS.of_exn, RS.ofL_ok, RS.ofL_exn, RS.then_next, RS.then_ret, RS.then_brk, RS.then_cnt, RS.then_exn, RS.ifB_t, RS.ifB_f, RS.caught_next, RS.caught_ret, RS.caught_exn, RS.suite_next, RS.suite_ret, pIsx, pIs, pIsN, lamR_enc_ok, lamR_enc_exn, Pf.toldTo, R.bind_ok, R.bind_exn, pBin, pCmp, pAdd, pSub, pNeg, pLt, pLe, pNot, pIx, pSeq, pInt, getE, getB, setOwR, Pf.putAt, Pf.popTo, Pf.scrTo, Pf.unpTo, pIsa, asgT, setAll, killAll, PX.isN, PX.isB, PXs.hasB, Bool.false_eq_true, Bool.or_false, Bool.or_self, List.getElem?_cons_zero, List.getElem?_cons_succ, List.set_cons_zero, List.set_cons_succ, List.length_cons, List.length_nil, List.getD_cons_zero, List.getD_cons_succ, Nat.reduceAdd, Nat.reduceLT, Nat.zero_lt_succ, Nat.zero_add, ite_self, Bool.false_or, Bool.true_or, iL_len, Int.cast_ofNat_Int, Bool.and_true, Bool.true_and, bi_len_lst, bi_len_tup, bi_len_rl, bi_list_lst, bi_list_tup, bi_list_rl, bi_tuple_lst, bi_tuple_tup, bi_tuple_rl, bi_int_int, bi_int_b, at_two, int_if, at3_0, at3_1, at3_2, at2_0, at2_1, List.take_succ_cons, List.take_zero, List.drop_succ_cons, List.drop_zero, sum_ok, sl_lst, sl_tup, sl_rl, part_t, part_f, if_true, if_false, ite_true, ite_false, reduceIte, Nat.reduceLeDiff, Nat.reduceSub, eq_self, and_self, and_true, true_and, (one (k : Int) (by omega) (by omega)).1]⟩
      simp -implicitDefEqProofs only [evSs, evS, evE, evEs, evI, RS.of_ok, RS.of_exn, RS.ofL_ok, RS.ofL_exn, RS.then_next, RS.then_ret, RS.then_brk, RS.then_cnt, RS.then_exn, RS.ifB_t, RS.ifB_f, RS.caught_next, RS.caught_ret, RS.caught_exn, RS.suite_next, RS.suite_ret, pIsx, pIs, pIsN, lamR_enc_ok, lamR_enc_exn, Pf.toldTo, R.bind_ok, R.bind_exn, pBin, pCmp, pAdd, pSub, pNeg, pLt, pLe, pNot, pIx, pSeq, pInt, getE, getB, setOwR, Pf.putAt, Pf.popTo, Pf.scrTo, Pf.unpTo, pIsa, asgT, setAll, killAll, PX.isN, PX.isB, PXs.hasB, Bool.false_eq_true, Bool.or_false, Bool.or_self, List.getElem?_cons_zero, List.getElem?_cons_succ, List.set_cons_zero, List.set_cons_succ, List.length_cons, List.length_nil, List.getD_cons_zero, List.getD_cons_succ, Nat.reduceAdd, Nat.reduceLT, Nat.zero_lt_succ, Nat.zero_add, ite_self, Bool.false_or, Bool.true_or, iL_len, Int.cast_ofNat_Int, Bool.and_true, Bool.true_and, bi_len_lst, bi_len_tup, bi_len_rl, bi_list_lst, bi_list_tup, bi_list_rl, bi_tuple_lst, bi_tuple_tup, bi_tuple_rl, bi_int_int, bi_int_b, at_two, int_if, at3_0, at3_1, at3_2, at2_0, at2_1, List.take_succ_cons, List.take_zero, List.drop_succ_cons, List.drop_zero, sum_ok, sl_lst, sl_tup, sl_rl, part_t, part_f, if_true, if_false, ite_true, ite_false, reduceIte, Nat.reduceLeDiff, Nat.reduceSub, eq_self, and_self, and_true, true_and, rngL_len, show n ≤ LIM by omega, span_nat (show n ≤ LIM by omega), Int.toNat_natCast]
      rw [compL_rngA (fun k : Nat => oneV b d (15 + (k : Int))) n ?hc]
      case hc =>
        intro k hk
        exact ⟨_, rfl, rfl, by simp -implicitDefEqProofs only [evSs, evS, evE, evEs, evI, RS.of_ok, RS.of_exn, RS.ofL_ok, RS.ofL_exn, RS.then_next, RS.then_ret, RS.then_brk, RS.then_cnt, RS.then_exn, RS.ifB_t, RS.ifB_f, RS.caught_next, RS.caught_ret, RS.caught_exn, RS.suite_next, RS.suite_ret, pIsx, pIs, pIsN, lamR_enc_ok, lamR_enc_exn, Pf.toldTo, R.bind_ok, R.bind_exn, pBin, pCmp, pAdd, pSub, pNeg, pLt, pLe, pNot, pIx, pSeq, pInt, getE, getB, setOwR, Pf.putAt, Pf.popTo, Pf.scrTo, Pf.unpTo, pIsa, asgT, setAll, killAll, PX.isN, PX.isB, PXs.hasB, Bool.false_eq_true, Bool.or_false, Bool.or_self, List.getElem?_cons_zero, List.getElem?_cons_succ, List.set_cons_zero, List.set_cons_succ, List.length_cons, List.length_nil, List.getD_cons_zero, List.getD_cons_succ, Nat.reduceAdd, Nat.reduceLT, Nat.zero_lt_succ, Nat.zero_add, ite_self, Bool.false_or, Bool.true_or, iL_len, Int.cast_ofNat_Int, Bool.and_true, Bool.true_and, bi_len_lst, bi_len_tup, bi_len_rl, bi_list_lst, bi_list_tup, bi_list_rl, bi_tuple_lst, bi_tuple_tup, bi_tuple_rl, bi_int_int, bi_int_b, at_two, int_if, at3_0, at3_1, at3_2, at2_0, at2_1, List.take_succ_cons, List.take_zero, List.drop_succ_cons, List.drop_zero, sum_ok, sl_lst, sl_tup, sl_rl, part_t, part_f, if_true, if_false, ite_true, ite_false, reduceIte, Nat.reduceLeDiff, Nat.reduceSub, eq_self, and_self, and_true, true_and, (one (15 + (k : Int)) (by omega) (by omega)).1]⟩
      simp -implicitDefEqProofs only [evSs, evS, evE, evEs, evI, RS.of_ok, RS.of_exn, RS.ofL_ok, RS.ofL_exn, RS.then_next, RS.then_ret, RS.then_brk, RS.then_cnt, RS.then_exn, RS.ifB_t, RS.ifB_f, RS.caught_next, RS.caught_ret, RS.caught_exn, RS.suite_next, RS.suite_ret, pIsx, pIs, pIsN, lamR_enc_ok, lamR_enc_exn, Pf.toldTo, R.bind_ok, R.bind_exn, pBin, pCmp, pAdd, pSub, pNeg, pLt, pLe, pNot, pIx, pSeq, pInt, getE, getB, setOwR, Pf.putAt, Pf.popTo, Pf.scrTo, Pf.unpTo, pIsa, asgT, setAll, killAll, PX.isN, PX.isB, PXs.hasB, Bool.false_eq_true, Bool.or_false, Bool.or_self, List.getElem?_cons_zero, List.getElem?_cons_succ, List.set_cons_zero, List.set_cons_succ, List.length_cons, List.length_nil, List.getD_cons_zero, List.getD_cons_succ, Nat.reduceAdd, Nat.reduceLT, Nat.zero_lt_succ, Nat.zero_add, ite_self, Bool.false_or, Bool.true_or, iL_len, Int.cast_ofNat_Int, Bool.and_true, Bool.true_and, bi_len_lst, bi_len_tup, bi_len_rl, bi_list_lst, bi_list_tup, bi_list_rl, bi_tuple_lst, bi_tuple_tup, bi_tuple_rl, bi_int_int, bi_int_b, at_two, int_if, at3_0, at3_1, at3_2, at2_0, at2_1, List.take_succ_cons, List.take_zero, List.drop_succ_cons, List.drop_zero, sum_ok, sl_lst, sl_tup, sl_rl, part_t, part_f, if_true, if_false, ite_true, ite_false, reduceIte, Nat.reduceLeDiff, Nat.reduceSub, eq_self, and_self, and_true, true_and, rngL_len, show n ≤ LIM by omega, em3, mod_pos (b := 8) (by decide), et, span_nat (show t ≤ LIM by omega), Int.toNat_natCast]
      unfold rowV at e
      rw [e]
      simp -implicitDefEqProofs only [evSs, evS, evE, evEs, evI, RS.of_ok, RS.of_exn, RS.ofL_ok, RS.ofL_exn, RS.then_next, RS.then_ret, RS.then_brk, RS.then_cnt, RS.then_exn, RS.ifB_t, RS.ifB_f, RS.caught_next, RS.caught_ret, RS.caught_exn, RS.suite_next, RS.suite_ret, pIsx, pIs, pIsN, lamR_enc_ok, lamR_enc_exn, Pf.toldTo, R.bind_ok, R.bind_exn, pBin, pCmp, pAdd, pSub, pNeg, pLt, pLe, pNot, pIx, pSeq, pInt, getE, getB, setOwR, Pf.putAt, Pf.popTo, Pf.scrTo, Pf.unpTo, pIsa, asgT, setAll, killAll, PX.isN, PX.isB, PXs.hasB, Bool.false_eq_true, Bool.or_false, Bool.or_self, List.getElem?_cons_zero, List.getElem?_cons_succ, List.set_cons_zero, List.set_cons_succ, List.length_cons, List.length_nil, List.getD_cons_zero, List.getD_cons_succ, Nat.reduceAdd, Nat.reduceLT, Nat.zero_lt_succ, Nat.zero_add, ite_self, Bool.false_or, Bool.true_or, iL_len, Int.cast_ofNat_Int, Bool.and_true, Bool.true_and, bi_len_lst, bi_len_tup, bi_len_rl, bi_list_lst, bi_list_tup, bi_list_rl, bi_tuple_lst, bi_tuple_tup, bi_tuple_rl, bi_int_int, bi_int_b, at_two, int_if, at3_0, at3_1, at3_2, at2_0, at2_1, List.take_succ_cons, List.take_zero, List.drop_succ_cons, List.drop_zero, sum_ok, sl_lst, sl_tup, sl_rl, part_t, part_f, if_true, if_false, ite_true, ite_false, reduceIte, Nat.reduceLeDiff, Nat.reduceSub, eq_self, and_self, and_true, true_and, rowV]
    · exact h.elim
  · refine ⟨b0, b1, bn, by simp, by simp; omega, fun x hx => ?_, fun x hx => ?_⟩
    · obtain ⟨k, hk, rfl⟩ := List.mem_map.mp hx
      have hk := List.mem_range.mp hk
      have := one (k : Int) (by omega) (by omega)
      exact ⟨this.2.1, this.2.2.2 (by omega)⟩
    · obtain ⟨k, hk, rfl⟩ := List.mem_map.mp hx
      have hk := List.mem_range.mp hk
      have := one (15 + (k : Int)) (by omega) (by omega)
      exact ⟨this.2.1, bd_mono this.2.2.1 (by decide)⟩
  · rintro i x ρ hx ⟨r, s, rfl, w⟩
    obtain ⟨j, hj, rfl⟩ := mem_rng0 (List.mem_of_getElem? hx)
    have hi := (List.getElem?_eq_some_iff.mp hx).1
    rw [rngL_len] at hi
    obtain ⟨q, eq', q0, q1⟩ := l_mix_ok c (4 + (j : Int)) (by omega) (by omega)
    rw [Nat.zero_add] at w
    have hM := mlM_le i (by omega)
    have hM0 := mlM_ge i
    have l1 := w.len
    have l2 := w.le
    refine ⟨_, rfl, .inl ?_⟩
    by_cases hl : r.length < 12
    · have bq : bd 20 (tk b (q % 5 - 2)) := bd_tk b0 (by omega) (by decide) (by unfold bd; omega)
      have hm := made_longer_ok w (by omega) (by omega) (by omega) bq
      unfold rowV at hm
      refine ⟨_, .inl ?_, mlR b (tk b (q % 5 - 2)) r, mlS b r s, rfl, ?_⟩
      · simp -implicitDefEqProofs only [c_l_drawn_row_1, evSs, evS, evE, evEs, evI, RS.of_ok, RS.of_exn, RS.ofL_ok, RS.ofL_exn, RS.then_next, RS.then_ret, RS.then_brk, RS.then_cnt, RS.then_exn, RS.ifB_t, RS.ifB_f, RS.caught_next, RS.caught_ret, RS.caught_exn, RS.suite_next, RS.suite_ret, pIsx, pIs, pIsN, lamR_enc_ok, lamR_enc_exn, Pf.toldTo, R.bind_ok, R.bind_exn, pBin, pCmp, pAdd, pSub, pNeg, pLt, pLe, pNot, pIx, pSeq, pInt, getE, getB, setOwR, Pf.putAt, Pf.popTo, Pf.scrTo, Pf.unpTo, pIsa, asgT, setAll, killAll, PX.isN, PX.isB, PXs.hasB, Bool.false_eq_true, Bool.or_false, Bool.or_self, List.getElem?_cons_zero, List.getElem?_cons_succ, List.set_cons_zero, List.set_cons_succ, List.length_cons, List.length_nil, List.getD_cons_zero, List.getD_cons_succ, Nat.reduceAdd, Nat.reduceLT, Nat.zero_lt_succ, Nat.zero_add, ite_self, Bool.false_or, Bool.true_or, iL_len, Int.cast_ofNat_Int, Bool.and_true, Bool.true_and, bi_len_lst, bi_len_tup, bi_len_rl, bi_list_lst, bi_list_tup, bi_list_rl, bi_tuple_lst, bi_tuple_tup, bi_tuple_rl, bi_int_int, bi_int_b, at_two, int_if, at3_0, at3_1, at3_2, at2_0, at2_1, List.take_succ_cons, List.take_zero, List.drop_succ_cons, List.drop_zero, sum_ok, sl_lst, sl_tup, sl_rl, part_t, part_f, if_true, if_false, ite_true, ite_false, reduceIte, Nat.reduceLeDiff, Nat.reduceSub, eq_self, and_self, and_true, true_and, rowV, show (r.length : Int) < 12 by omega, decide_true, eq', mod_pos (b := 5) (by decide), l_taken_ok b0, hm]
      · have := made_longer_Rg (c := tk b (q % 5 - 2)) w (by omega) (by omega) (by omega) (fun hb => by rw [hb, tk0]; omega) hl
        rw [Nat.zero_add]
        exact this.mono (Nat.le_refl _) (by omega)
    · refine ⟨_, .inl ?_, r, s, rfl, w.mono ?_ (by omega)⟩
      · simp -implicitDefEqProofs only [c_l_drawn_row_1, evSs, evS, evE, evEs, evI, RS.of_ok, RS.of_exn, RS.ofL_ok, RS.ofL_exn, RS.then_next, RS.then_ret, RS.then_brk, RS.then_cnt, RS.then_exn, RS.ifB_t, RS.ifB_f, RS.caught_next, RS.caught_ret, RS.caught_exn, RS.suite_next, RS.suite_ret, pIsx, pIs, pIsN, lamR_enc_ok, lamR_enc_exn, Pf.toldTo, R.bind_ok, R.bind_exn, pBin, pCmp, pAdd, pSub, pNeg, pLt, pLe, pNot, pIx, pSeq, pInt, getE, getB, setOwR, Pf.putAt, Pf.popTo, Pf.scrTo, Pf.unpTo, pIsa, asgT, setAll, killAll, PX.isN, PX.isB, PXs.hasB, Bool.false_eq_true, Bool.or_false, Bool.or_self, List.getElem?_cons_zero, List.getElem?_cons_succ, List.set_cons_zero, List.set_cons_succ, List.length_cons, List.length_nil, List.getD_cons_zero, List.getD_cons_succ, Nat.reduceAdd, Nat.reduceLT, Nat.zero_lt_succ, Nat.zero_add, ite_self, Bool.false_or, Bool.true_or, iL_len, Int.cast_ofNat_Int, Bool.and_true, Bool.true_and, bi_len_lst, bi_len_tup, bi_len_rl, bi_list_lst, bi_list_tup, bi_list_rl, bi_tuple_lst, bi_tuple_tup, bi_tuple_rl, bi_int_int, bi_int_b, at_two, int_if, at3_0, at3_1, at3_2, at2_0, at2_1, List.take_succ_cons, List.take_zero, List.drop_succ_cons, List.drop_zero, sum_ok, sl_lst, sl_tup, sl_rl, part_t, part_f, if_true, if_false, ite_true, ite_false, reduceIte, Nat.reduceLeDiff, Nat.reduceSub, eq_self, and_self, and_true, true_and, rowV, show ¬ (r.length : Int) < 12 by omega, decide_false]
      · rw [Nat.zero_add]
        show mlM i ≤ 3 * mlM i + 2
        omega
theorem pAt_lastcf (xs : List Int) (h : 0 < xs.length) : pAt (iL xs) (-1) = .ok (.int (cf xs (xs.length - 1))) := pAt_neg xs 0 h
theorem times_x_eq {b : Int} (h0 : 0 ≤ b) (h1 : b ≠ 1) {r : List Int} {k n e : Nat} (hr : r.length = e + 1) (hk : k < r.length) : tk b ((if k = 0 then 0 else U b r (k - 1) n) + U b r e n * cf r (e - k)) = U b r k (n + 1) := by
  rw [Nat.add_comm n 1, ← JU h0 h1 k 1 n, hr, sm_succ]
  have a : sm e (fun j => U b r j n * U b r k (1 + j)) = if k = 0 then 0 else U b r (k - 1) n := by
    by_cases hk0 : k = 0
    · rw [if_pos hk0, sm_all0]
      intro i hi
      rw [U_lt (k := k) (n := 1 + i) (by omega), if_neg (by omega), Int.mul_zero]
    · rw [if_neg hk0, sm_one (k - 1) (by omega)]
      · rw [U_lt (k := k) (n := 1 + (k - 1)) (by omega), if_pos (by omega), Int.mul_one]
      · intro i hi hn
        rw [U_lt (k := k) (n := 1 + i) (by omega), if_neg (by omega), Int.mul_zero]
  have c : tk b (U b r e n * cf r (e - k)) = tk b (U b r e n * U b r k (1 + e)) := by
    refine tk_mulcr ?_ _
    rw [U_rec (show r.length ≤ 1 + e by omega), hr]
    congr 1
    rw [sm_one (e - k) (by omega)]
    · rw [U_lt (by omega), if_pos (by omega), Int.mul_one]
    · intro i hi hn
      rw [U_lt (by omega), if_neg (by omega), Int.mul_zero]
  rw [a, ← tk_add_r, c, tk_add_r]
theorem l_times_x_ok {a : PV} {b : Int} (h0 : 0 ≤ b) (h1 : b ≤ 997) (bn : b ≠ 1) {r s : List Int} (hl : r.length ≤ 12) (hr : ∀ x ∈ r, bd 70 x) (n : Nat) (hf : 0 < b ∨ n ≤ 1100) : s_l_times_x [a, rowV b r s, .lst (iL (VL b r n))] = .ok (.lst (iL (VL b r (n + 1)))) := by
  have hL : LIM = 1000000 := rfl
  have lv := VL_len b r n
  refine run_ret rfl ?_
  show evSs [s_l_taken] [] false c_l_times_x [.sh a, .sh (rowV b r s), .sh (.lst (iL (VL b r n))), .no, .no, .no, .no, .no] = _
  by_cases hz : r.length = 0
  · have z := List.eq_nil_of_length_eq_zero hz
    subst z
    simp -implicitDefEqProofs only [c_l_times_x, evSs, evS, evE, evEs, evI, RS.of_ok, RS.of_exn, RS.ofL_ok, RS.ofL_exn, RS.then_next, RS.then_ret, RS.then_brk, RS.then_cnt, RS.then_exn, RS.ifB_t, RS.ifB_f, RS.caught_next, RS.caught_ret, RS.caught_exn, RS.suite_next, RS.suite_ret, pIsx, pIs, pIsN, lamR_enc_ok, lamR_enc_exn, Pf.toldTo, R.bind_ok, R.bind_exn, pBin, pCmp, pAdd, pSub, pNeg, pLt, pLe, pNot, pIx, pSeq, pInt, getE, getB, setOwR, Pf.putAt, Pf.popTo, Pf.scrTo, Pf.unpTo, pIsa, asgT, setAll, killAll, PX.isN, PX.isB, PXs.hasB, Bool.false_eq_true, Bool.or_false, Bool.or_self, List.getElem?_cons_zero, List.getElem?_cons_succ, List.set_cons_zero, List.set_cons_succ, List.length_cons, List.length_nil, List.getD_cons_zero, List.getD_cons_succ, Nat.reduceAdd, Nat.reduceLT, Nat.zero_lt_succ, Nat.zero_add, ite_self, Bool.false_or, Bool.true_or, iL_len, Int.cast_ofNat_Int, Bool.and_true, Bool.true_and, bi_len_lst, bi_len_tup, bi_len_rl, bi_list_lst, bi_list_tup, bi_list_rl, bi_tuple_lst, bi_tuple_tup, bi_tuple_rl, bi_int_int, bi_int_b, at_two, int_if, at3_0, at3_1, at3_2, at2_0, at2_1, List.take_succ_cons, List.take_zero, List.drop_succ_cons, List.drop_zero, sum_ok, sl_lst, sl_tup, sl_rl, part_t, part_f, if_true, if_false, ite_true, ite_false, reduceIte, Nat.reduceLeDiff, Nat.reduceSub, eq_self, and_self, and_true, true_and, rowV, eq_lst0, show VL b [] n = [] from rfl, decide_true]
    rfl
  · obtain ⟨e, he⟩ : ∃ e, r.length = e + 1 := ⟨r.length - 1, by omega⟩
    have hne : ¬ VL b r n = [] := fun q => by
      rw [q] at lv
      simp at lv
      omega
    simp -implicitDefEqProofs only [c_l_times_x, evSs, evS, evE, evEs, evI, RS.of_ok, RS.of_exn, RS.ofL_ok, RS.ofL_exn, RS.then_next, RS.then_ret, RS.then_brk, RS.then_cnt, RS.then_exn, RS.ifB_t, RS.ifB_f, RS.caught_next, RS.caught_ret, RS.caught_exn, RS.suite_next, RS.suite_ret, pIsx, pIs, pIsN, lamR_enc_ok, lamR_enc_exn, Pf.toldTo, R.bind_ok, R.bind_exn, pBin, pCmp, pAdd, pSub, pNeg, pLt, pLe, pNot, pIx, pSeq, pInt, getE, getB, setOwR, Pf.putAt, Pf.popTo, Pf.scrTo, Pf.unpTo, pIsa, asgT, setAll, killAll, PX.isN, PX.isB, PXs.hasB, Bool.false_eq_true, Bool.or_false, Bool.or_self, List.getElem?_cons_zero, List.getElem?_cons_succ, List.set_cons_zero, List.set_cons_succ, List.length_cons, List.length_nil, List.getD_cons_zero, List.getD_cons_succ, Nat.reduceAdd, Nat.reduceLT, Nat.zero_lt_succ, Nat.zero_add, ite_self, Bool.false_or, Bool.true_or, iL_len, Int.cast_ofNat_Int, Bool.and_true, Bool.true_and, bi_len_lst, bi_len_tup, bi_len_rl, bi_list_lst, bi_list_tup, bi_list_rl, bi_tuple_lst, bi_tuple_tup, bi_tuple_rl, bi_int_int, bi_int_b, at_two, int_if, at3_0, at3_1, at3_2, at2_0, at2_1, List.take_succ_cons, List.take_zero, List.drop_succ_cons, List.drop_zero, sum_ok, sl_lst, sl_tup, sl_rl, part_t, part_f, if_true, if_false, ite_true, ite_false, reduceIte, Nat.reduceLeDiff, Nat.reduceSub, eq_self, and_self, and_true, true_and, rowV, eq_lst0, hne, decide_false, pAt_lastcf (VL b r n) (by omega), cut_last, iL_dropLast, List.length_dropLast, show 1 + ((VL b r n).length - 1) ≤ LIM by omega, List.cons_append, List.nil_append, span_nat (show r.length ≤ LIM by omega), Int.toNat_natCast]
    rw [show PV.int 0 :: iL (VL b r n).dropLast = iL (0 :: (VL b r n).dropLast) from rfl]
    rw [compL_rngA (fun k => U b r k (n + 1)) r.length ?hc]
    case hc =>
      intro k hk
      refine ⟨_, rfl, rfl, ?_⟩
      have e3 : cf (VL b r n) ((VL b r n).length - 1) = U b r e n := by
        rw [lv, he, Nat.add_sub_cancel]
        exact cf_rng _ (by omega)
      have e4 : cf (0 :: (VL b r n).dropLast) k = if k = 0 then 0 else U b r (k - 1) n := by
        cases k with
        | zero => rfl
        | succ k =>
          rw [cf_consS, if_neg (by omega), Nat.add_sub_cancel, List.dropLast_eq_take, cf_take, if_pos (by omega)]
          exact cf_rng _ (by omega)
      simp -implicitDefEqProofs only [evSs, evS, evE, evEs, evI, RS.of_ok, RS.of_exn, RS.ofL_ok, RS.ofL_exn, RS.then_next, RS.then_ret, RS.then_brk, RS.then_cnt, RS.then_exn, RS.ifB_t, RS.ifB_f, RS.caught_next, RS.caught_ret, RS.caught_exn, RS.suite_next, RS.suite_ret, pIsx, pIs, pIsN, lamR_enc_ok, lamR_enc_exn, Pf.toldTo, R.bind_ok, R.bind_exn, pBin, pCmp, pAdd, pSub, pNeg, pLt, pLe, pNot, pIx, pSeq, pInt, getE, getB, setOwR, Pf.putAt, Pf.popTo, Pf.scrTo, Pf.unpTo, pIsa, asgT, setAll, killAll, PX.isN, PX.isB, PXs.hasB, Bool.false_eq_true, Bool.or_false, Bool.or_self, List.getElem?_cons_zero, List.getElem?_cons_succ, List.set_cons_zero, List.set_cons_succ, List.length_cons, List.length_nil, List.getD_cons_zero, List.getD_cons_succ, Nat.reduceAdd, Nat.reduceLT, Nat.zero_lt_succ, Nat.zero_add, ite_self, Bool.false_or, Bool.true_or, iL_len, Int.cast_ofNat_Int, Bool.and_true, Bool.true_and, bi_len_lst, bi_len_tup, bi_len_rl, bi_list_lst, bi_list_tup, bi_list_rl, bi_tuple_lst, bi_tuple_tup, bi_tuple_rl, bi_int_int, bi_int_b, at_two, int_if, at3_0, at3_1, at3_2, at2_0, at2_1, List.take_succ_cons, List.take_zero, List.drop_succ_cons, List.drop_zero, sum_ok, sl_lst, sl_tup, sl_rl, part_t, part_f, if_true, if_false, ite_true, ite_false, reduceIte, Nat.reduceLeDiff, Nat.reduceSub, eq_self, and_self, and_true, true_and]
      rw [pAt_cfn (0 :: (VL b r n).dropLast) k (by simp; omega), pAt_at r (e - k) (by omega) (by omega), e3, e4]
      simp -implicitDefEqProofs only [evSs, evS, evE, evEs, evI, RS.of_ok, RS.of_exn, RS.ofL_ok, RS.ofL_exn, RS.then_next, RS.then_ret, RS.then_brk, RS.then_cnt, RS.then_exn, RS.ifB_t, RS.ifB_f, RS.caught_next, RS.caught_ret, RS.caught_exn, RS.suite_next, RS.suite_ret, pIsx, pIs, pIsN, lamR_enc_ok, lamR_enc_exn, Pf.toldTo, R.bind_ok, R.bind_exn, pBin, pCmp, pAdd, pSub, pNeg, pLt, pLe, pNot, pIx, pSeq, pInt, getE, getB, setOwR, Pf.putAt, Pf.popTo, Pf.scrTo, Pf.unpTo, pIsa, asgT, setAll, killAll, PX.isN, PX.isB, PXs.hasB, Bool.false_eq_true, Bool.or_false, Bool.or_self, List.getElem?_cons_zero, List.getElem?_cons_succ, List.set_cons_zero, List.set_cons_succ, List.length_cons, List.length_nil, List.getD_cons_zero, List.getD_cons_succ, Nat.reduceAdd, Nat.reduceLT, Nat.zero_lt_succ, Nat.zero_add, ite_self, Bool.false_or, Bool.true_or, iL_len, Int.cast_ofNat_Int, Bool.and_true, Bool.true_and, bi_len_lst, bi_len_tup, bi_len_rl, bi_list_lst, bi_list_tup, bi_list_rl, bi_tuple_lst, bi_tuple_tup, bi_tuple_rl, bi_int_int, bi_int_b, at_two, int_if, at3_0, at3_1, at3_2, at2_0, at2_1, List.take_succ_cons, List.take_zero, List.drop_succ_cons, List.drop_zero, sum_ok, sl_lst, sl_tup, sl_rl, part_t, part_f, if_true, if_false, ite_true, ite_false, reduceIte, Nat.reduceLeDiff, Nat.reduceSub, eq_self, and_self, and_true, true_and]
      rw [mul_bd (U_bd h0 h1 bn hl hr e n hf) (bd_cf hr _) (by decide) (by decide)]
      simp -implicitDefEqProofs only [evSs, evS, evE, evEs, evI, RS.of_ok, RS.of_exn, RS.ofL_ok, RS.ofL_exn, RS.then_next, RS.then_ret, RS.then_brk, RS.then_cnt, RS.then_exn, RS.ifB_t, RS.ifB_f, RS.caught_next, RS.caught_ret, RS.caught_exn, RS.suite_next, RS.suite_ret, pIsx, pIs, pIsN, lamR_enc_ok, lamR_enc_exn, Pf.toldTo, R.bind_ok, R.bind_exn, pBin, pCmp, pAdd, pSub, pNeg, pLt, pLe, pNot, pIx, pSeq, pInt, getE, getB, setOwR, Pf.putAt, Pf.popTo, Pf.scrTo, Pf.unpTo, pIsa, asgT, setAll, killAll, PX.isN, PX.isB, PXs.hasB, Bool.false_eq_true, Bool.or_false, Bool.or_self, List.getElem?_cons_zero, List.getElem?_cons_succ, List.set_cons_zero, List.set_cons_succ, List.length_cons, List.length_nil, List.getD_cons_zero, List.getD_cons_succ, Nat.reduceAdd, Nat.reduceLT, Nat.zero_lt_succ, Nat.zero_add, ite_self, Bool.false_or, Bool.true_or, iL_len, Int.cast_ofNat_Int, Bool.and_true, Bool.true_and, bi_len_lst, bi_len_tup, bi_len_rl, bi_list_lst, bi_list_tup, bi_list_rl, bi_tuple_lst, bi_tuple_tup, bi_tuple_rl, bi_int_int, bi_int_b, at_two, int_if, at3_0, at3_1, at3_2, at2_0, at2_1, List.take_succ_cons, List.take_zero, List.drop_succ_cons, List.drop_zero, sum_ok, sl_lst, sl_tup, sl_rl, part_t, part_f, if_true, if_false, ite_true, ite_false, reduceIte, Nat.reduceLeDiff, Nat.reduceSub, eq_self, and_self, and_true, true_and, l_taken_ok h0, times_x_eq h0 bn he hk]
    simp -implicitDefEqProofs only [evSs, evS, evE, evEs, evI, RS.of_ok, RS.of_exn, RS.ofL_ok, RS.ofL_exn, RS.then_next, RS.then_ret, RS.then_brk, RS.then_cnt, RS.then_exn, RS.ifB_t, RS.ifB_f, RS.caught_next, RS.caught_ret, RS.caught_exn, RS.suite_next, RS.suite_ret, pIsx, pIs, pIsN, lamR_enc_ok, lamR_enc_exn, Pf.toldTo, R.bind_ok, R.bind_exn, pBin, pCmp, pAdd, pSub, pNeg, pLt, pLe, pNot, pIx, pSeq, pInt, getE, getB, setOwR, Pf.putAt, Pf.popTo, Pf.scrTo, Pf.unpTo, pIsa, asgT, setAll, killAll, PX.isN, PX.isB, PXs.hasB, Bool.false_eq_true, Bool.or_false, Bool.or_self, List.getElem?_cons_zero, List.getElem?_cons_succ, List.set_cons_zero, List.set_cons_succ, List.length_cons, List.length_nil, List.getD_cons_zero, List.getD_cons_succ, Nat.reduceAdd, Nat.reduceLT, Nat.zero_lt_succ, Nat.zero_add, ite_self, Bool.false_or, Bool.true_or, iL_len, Int.cast_ofNat_Int, Bool.and_true, Bool.true_and, bi_len_lst, bi_len_tup, bi_len_rl, bi_list_lst, bi_list_tup, bi_list_rl, bi_tuple_lst, bi_tuple_tup, bi_tuple_rl, bi_int_int, bi_int_b, at_two, int_if, at3_0, at3_1, at3_2, at2_0, at2_1, List.take_succ_cons, List.take_zero, List.drop_succ_cons, List.drop_zero, sum_ok, sl_lst, sl_tup, sl_rl, part_t, part_f, if_true, if_false, ite_true, ite_false, reduceIte, Nat.reduceLeDiff, Nat.reduceSub, eq_self, and_self, and_true, true_and, rngL_len, show r.length ≤ LIM by omega]
    rfl
theorem l_step_ok {a : PV} {b : Int} (h0 : 0 ≤ b) (h1 : b ≤ 997) (bn : b ≠ 1) {r s : List Int} (hl : r.length ≤ 12) (hr : ∀ x ∈ r, bd 70 x) (n : Nat) (hf : n ≤ 1000) : s_l_step_by_step [a, rowV b r s, .int (n : Int)] = .ok (.lst (iL (VL b r n))) := by
  have hL : LIM = 1000000 := rfl
  refine run_ret rfl ?_
  show evSs [s_l_times_x] [] false c_l_step_by_step [.sh a, .sh (rowV b r s), .sh (.int (n : Int)), .no, .no, .no] = _
  have hloop : forL (asgT [5] false) (evSs [s_l_times_x] [] false c_l_step_by_step_1) (rngL 0 n) [.sh a, .sh (rowV b r s), .sh (.int (n : Int)), .sh (.int (r.length : Int)), .sh (.lst (iL (VL b r 0))), .no] = .next [.sh a, .sh (rowV b r s), .sh (.int (n : Int)), .sh (.int (r.length : Int)), .sh (.lst (iL (VL b r n))), .no] := by
    refine forL_rng0 n (fun i => [.sh a, .sh (rowV b r s), .sh (.int (n : Int)), .sh (.int (r.length : Int)), .sh (.lst (iL (VL b r i))), .no]) fun i hi => ?_
    have ht := l_times_x_ok (a := a) (s := s) h0 h1 bn hl hr i (.inr (by omega))
    unfold rowV at ht
    exact ⟨_, rfl, .inl (by simp -implicitDefEqProofs only [c_l_step_by_step_1, evSs, evS, evE, evEs, evI, RS.of_ok, RS.of_exn, RS.ofL_ok, RS.ofL_exn, RS.then_next, RS.then_ret, RS.then_brk, RS.then_cnt, RS.then_exn, RS.ifB_t, RS.ifB_f, RS.caught_next, RS.caught_ret, RS.caught_exn, RS.suite_next, RS.suite_ret, pIsx, pIs, pIsN, lamR_enc_ok, lamR_enc_exn, Pf.toldTo, R.bind_ok, R.bind_exn, pBin, pCmp, pAdd, pSub, pNeg, pLt, pLe, pNot, pIx, pSeq, pInt, getE, getB, setOwR, Pf.putAt, Pf.popTo, Pf.scrTo, Pf.unpTo, pIsa, asgT, setAll, killAll, PX.isN, PX.isB, PXs.hasB, Bool.false_eq_true, Bool.or_false, Bool.or_self, List.getElem?_cons_zero, List.getElem?_cons_succ, List.set_cons_zero, List.set_cons_succ, List.length_cons, List.length_nil, List.getD_cons_zero, List.getD_cons_succ, Nat.reduceAdd, Nat.reduceLT, Nat.zero_lt_succ, Nat.zero_add, ite_self, Bool.false_or, Bool.true_or, iL_len, Int.cast_ofNat_Int, Bool.and_true, Bool.true_and, bi_len_lst, bi_len_tup, bi_len_rl, bi_list_lst, bi_list_tup, bi_list_rl, bi_tuple_lst, bi_tuple_tup, bi_tuple_rl, bi_int_int, bi_int_b, at_two, int_if, at3_0, at3_1, at3_2, at2_0, at2_1, List.take_succ_cons, List.take_zero, List.drop_succ_cons, List.drop_zero, sum_ok, sl_lst, sl_tup, sl_rl, part_t, part_f, if_true, if_false, ite_true, ite_false, reduceIte, Nat.reduceLeDiff, Nat.reduceSub, eq_self, and_self, and_true, true_and, rowV, ht])⟩
  unfold rowV at hloop
  by_cases hz : r.length = 0
  · have e1 : pMul (.lst [.int 0]) (.int ((r.length : Int) - 1)) = .ok (.lst []) := by
      rw [hz]
      rfl
    have e2 : iL (VL b r 0) = [] := by
      rw [List.eq_nil_of_length_eq_zero (show (VL b r 0).length = 0 by rw [VL_len, hz])]
      rfl
    rw [e2] at hloop
    simp -implicitDefEqProofs only [c_l_step_by_step, evSs, evS, evE, evEs, evI, RS.of_ok, RS.of_exn, RS.ofL_ok, RS.ofL_exn, RS.then_next, RS.then_ret, RS.then_brk, RS.then_cnt, RS.then_exn, RS.ifB_t, RS.ifB_f, RS.caught_next, RS.caught_ret, RS.caught_exn, RS.suite_next, RS.suite_ret, pIsx, pIs, pIsN, lamR_enc_ok, lamR_enc_exn, Pf.toldTo, R.bind_ok, R.bind_exn, pBin, pCmp, pAdd, pSub, pNeg, pLt, pLe, pNot, pIx, pSeq, pInt, getE, getB, setOwR, Pf.putAt, Pf.popTo, Pf.scrTo, Pf.unpTo, pIsa, asgT, setAll, killAll, PX.isN, PX.isB, PXs.hasB, Bool.false_eq_true, Bool.or_false, Bool.or_self, List.getElem?_cons_zero, List.getElem?_cons_succ, List.set_cons_zero, List.set_cons_succ, List.length_cons, List.length_nil, List.getD_cons_zero, List.getD_cons_succ, Nat.reduceAdd, Nat.reduceLT, Nat.zero_lt_succ, Nat.zero_add, ite_self, Bool.false_or, Bool.true_or, iL_len, Int.cast_ofNat_Int, Bool.and_true, Bool.true_and, bi_len_lst, bi_len_tup, bi_len_rl, bi_list_lst, bi_list_tup, bi_list_rl, bi_tuple_lst, bi_tuple_tup, bi_tuple_rl, bi_int_int, bi_int_b, at_two, int_if, at3_0, at3_1, at3_2, at2_0, at2_1, List.take_succ_cons, List.take_zero, List.drop_succ_cons, List.drop_zero, sum_ok, sl_lst, sl_tup, sl_rl, part_t, part_f, if_true, if_false, ite_true, ite_false, reduceIte, Nat.reduceLeDiff, Nat.reduceSub, eq_self, and_self, and_true, true_and, rowV, e1, Nat.add_zero, show 1 ≤ LIM by omega, eq_int, decide_eq_true (show (r.length : Int) = 0 by omega), span_nat (show n ≤ LIM by omega), Int.toNat_natCast, hloop]
  · have e1 : (r.length : Int) - 1 = ((r.length - 1 : Nat) : Int) := by omega
    have e2 : PV.int 1 :: iL (List.replicate (r.length - 1) 0) = iL (VL b r 0) := by
      rw [← iL_cons]
      congr 1
      apply cf_ext (by simp [VL_len]; omega)
      intro k hk
      have hk' : k < r.length := by
        simp at hk
        omega
      rw [show cf (VL b r 0) k = U b r k 0 from cf_rng _ hk', U_lt (by omega)]
      cases k with
      | zero => rfl
      | succ k => rw [cf_consS, cf_rep, ite_self, if_neg (by omega)]
    simp -implicitDefEqProofs only [c_l_step_by_step, evSs, evS, evE, evEs, evI, RS.of_ok, RS.of_exn, RS.ofL_ok, RS.ofL_exn, RS.then_next, RS.then_ret, RS.then_brk, RS.then_cnt, RS.then_exn, RS.ifB_t, RS.ifB_f, RS.caught_next, RS.caught_ret, RS.caught_exn, RS.suite_next, RS.suite_ret, pIsx, pIs, pIsN, lamR_enc_ok, lamR_enc_exn, Pf.toldTo, R.bind_ok, R.bind_exn, pBin, pCmp, pAdd, pSub, pNeg, pLt, pLe, pNot, pIx, pSeq, pInt, getE, getB, setOwR, Pf.putAt, Pf.popTo, Pf.scrTo, Pf.unpTo, pIsa, asgT, setAll, killAll, PX.isN, PX.isB, PXs.hasB, Bool.false_eq_true, Bool.or_false, Bool.or_self, List.getElem?_cons_zero, List.getElem?_cons_succ, List.set_cons_zero, List.set_cons_succ, List.length_cons, List.length_nil, List.getD_cons_zero, List.getD_cons_succ, Nat.reduceAdd, Nat.reduceLT, Nat.zero_lt_succ, Nat.zero_add, ite_self, Bool.false_or, Bool.true_or, iL_len, Int.cast_ofNat_Int, Bool.and_true, Bool.true_and, bi_len_lst, bi_len_tup, bi_len_rl, bi_list_lst, bi_list_tup, bi_list_rl, bi_tuple_lst, bi_tuple_tup, bi_tuple_rl, bi_int_int, bi_int_b, at_two, int_if, at3_0, at3_1, at3_2, at2_0, at2_1, List.take_succ_cons, List.take_zero, List.drop_succ_cons, List.drop_zero, sum_ok, sl_lst, sl_tup, sl_rl, part_t, part_f, if_true, if_false, ite_true, ite_false, reduceIte, Nat.reduceLeDiff, Nat.reduceSub, eq_self, and_self, and_true, true_and, rowV, e1]
    rw [mul_rep _ _ (by omega)]
    simp -implicitDefEqProofs only [evSs, evS, evE, evEs, evI, RS.of_ok, RS.of_exn, RS.ofL_ok, RS.ofL_exn, RS.then_next, RS.then_ret, RS.then_brk, RS.then_cnt, RS.then_exn, RS.ifB_t, RS.ifB_f, RS.caught_next, RS.caught_ret, RS.caught_exn, RS.suite_next, RS.suite_ret, pIsx, pIs, pIsN, lamR_enc_ok, lamR_enc_exn, Pf.toldTo, R.bind_ok, R.bind_exn, pBin, pCmp, pAdd, pSub, pNeg, pLt, pLe, pNot, pIx, pSeq, pInt, getE, getB, setOwR, Pf.putAt, Pf.popTo, Pf.scrTo, Pf.unpTo, pIsa, asgT, setAll, killAll, PX.isN, PX.isB, PXs.hasB, Bool.false_eq_true, Bool.or_false, Bool.or_self, List.getElem?_cons_zero, List.getElem?_cons_succ, List.set_cons_zero, List.set_cons_succ, List.length_cons, List.length_nil, List.getD_cons_zero, List.getD_cons_succ, Nat.reduceAdd, Nat.reduceLT, Nat.zero_lt_succ, Nat.zero_add, ite_self, Bool.false_or, Bool.true_or, iL_len, Int.cast_ofNat_Int, Bool.and_true, Bool.true_and, bi_len_lst, bi_len_tup, bi_len_rl, bi_list_lst, bi_list_tup, bi_list_rl, bi_tuple_lst, bi_tuple_tup, bi_tuple_rl, bi_int_int, bi_int_b, at_two, int_if, at3_0, at3_1, at3_2, at2_0, at2_1, List.take_succ_cons, List.take_zero, List.drop_succ_cons, List.drop_zero, sum_ok, sl_lst, sl_tup, sl_rl, part_t, part_f, if_true, if_false, ite_true, ite_false, reduceIte, Nat.reduceLeDiff, Nat.reduceSub, eq_self, and_self, and_true, true_and, List.length_replicate, show 1 + (r.length - 1) ≤ LIM by omega, eq_int, show ¬ (r.length : Int) = 0 by omega, decide_false, List.cons_append, List.nil_append, e2, span_nat (show n ≤ LIM by omega), Int.toNat_natCast, hloop]
theorem l_rolled_ok {a : PV} {b : Int} (ha : a = .int b) (h0 : 0 ≤ b) (h1 : b ≤ 997) (bn : b ≠ 1) {r s : List Int} (hl : r.length ≤ 12) (hr : ∀ x ∈ r, bd 70 x) (n m : Nat) (fn : 0 < b ∨ n ≤ 1000) (fm : 0 < b ∨ m ≤ 1000) : s_l_rolled_rests [a, rowV b r s, .lst (iL (VL b r n)), .lst (iL (VL b r m))] = .ok (.lst (iL (VL b r (m + n)))) := by
  subst ha
  have hL : LIM = 1000000 := rfl
  have ln := VL_len b r n
  have lm := VL_len b r m
  refine run_ret rfl ?_
  show evSs [s_l_taken, s_l_times_x] [] false c_l_rolled_rests [.sh (.int b), .sh (rowV b r s), .sh (.lst (iL (VL b r n))), .sh (.lst (iL (VL b r m))), .no, .no, .no, .no] = _
  simp -implicitDefEqProofs only [c_l_rolled_rests, evSs, evS, evE, evEs, evI, RS.of_ok, RS.of_exn, RS.ofL_ok, RS.ofL_exn, RS.then_next, RS.then_ret, RS.then_brk, RS.then_cnt, RS.then_exn, RS.ifB_t, RS.ifB_f, RS.caught_next, RS.caught_ret, RS.caught_exn, RS.suite_next, RS.suite_ret, pIsx, pIs, pIsN, lamR_enc_ok, lamR_enc_exn, Pf.toldTo, R.bind_ok, R.bind_exn, pBin, pCmp, pAdd, pSub, pNeg, pLt, pLe, pNot, pIx, pSeq, pInt, getE, getB, setOwR, Pf.putAt, Pf.popTo, Pf.scrTo, Pf.unpTo, pIsa, asgT, setAll, killAll, PX.isN, PX.isB, PXs.hasB, Bool.false_eq_true, Bool.or_false, Bool.or_self, List.getElem?_cons_zero, List.getElem?_cons_succ, List.set_cons_zero, List.set_cons_succ, List.length_cons, List.length_nil, List.getD_cons_zero, List.getD_cons_succ, Nat.reduceAdd, Nat.reduceLT, Nat.zero_lt_succ, Nat.zero_add, ite_self, Bool.false_or, Bool.true_or, iL_len, Int.cast_ofNat_Int, Bool.and_true, Bool.true_and, bi_len_lst, bi_len_tup, bi_len_rl, bi_list_lst, bi_list_tup, bi_list_rl, bi_tuple_lst, bi_tuple_tup, bi_tuple_rl, bi_int_int, bi_int_b, at_two, int_if, at3_0, at3_1, at3_2, at2_0, at2_1, List.take_succ_cons, List.take_zero, List.drop_succ_cons, List.drop_zero, sum_ok, sl_lst, sl_tup, sl_rl, part_t, part_f, if_true, if_false, ite_true, ite_false, reduceIte, Nat.reduceLeDiff, Nat.reduceSub, eq_self, and_self, and_true, true_and, rowV]
  rw [mul_rep _ _ (by omega)]
  simp -implicitDefEqProofs only [evSs, evS, evE, evEs, evI, RS.of_ok, RS.of_exn, RS.ofL_ok, RS.ofL_exn, RS.then_next, RS.then_ret, RS.then_brk, RS.then_cnt, RS.then_exn, RS.ifB_t, RS.ifB_f, RS.caught_next, RS.caught_ret, RS.caught_exn, RS.suite_next, RS.suite_ret, pIsx, pIs, pIsN, lamR_enc_ok, lamR_enc_exn, Pf.toldTo, R.bind_ok, R.bind_exn, pBin, pCmp, pAdd, pSub, pNeg, pLt, pLe, pNot, pIx, pSeq, pInt, getE, getB, setOwR, Pf.putAt, Pf.popTo, Pf.scrTo, Pf.unpTo, pIsa, asgT, setAll, killAll, PX.isN, PX.isB, PXs.hasB, Bool.false_eq_true, Bool.or_false, Bool.or_self, List.getElem?_cons_zero, List.getElem?_cons_succ, List.set_cons_zero, List.set_cons_succ, List.length_cons, List.length_nil, List.getD_cons_zero, List.getD_cons_succ, Nat.reduceAdd, Nat.reduceLT, Nat.zero_lt_succ, Nat.zero_add, ite_self, Bool.false_or, Bool.true_or, iL_len, Int.cast_ofNat_Int, Bool.and_true, Bool.true_and, bi_len_lst, bi_len_tup, bi_len_rl, bi_list_lst, bi_list_tup, bi_list_rl, bi_tuple_lst, bi_tuple_tup, bi_tuple_rl, bi_int_int, bi_int_b, at_two, int_if, at3_0, at3_1, at3_2, at2_0, at2_1, List.take_succ_cons, List.take_zero, List.drop_succ_cons, List.drop_zero, sum_ok, sl_lst, sl_tup, sl_rl, part_t, part_f, if_true, if_false, ite_true, ite_false, reduceIte, Nat.reduceLeDiff, Nat.reduceSub, eq_self, and_self, and_true, true_and]
  rw [forL_iLg (VL b r n) (fun i => [.sh (.int b), .sh (.tup [.int b, .tup (iL r), .tup (iL s)]), .sh (.lst (iL (VL b r n))), .sh (.lst (iL (VL b r m))), .sh (.lst (iL ((List.range r.length).map fun k => tk b (sm i fun j => U b r j n * U b r k (m + j))))), .sh (.lst (iL (VL b r (m + i)))), .no, .no]) _ ?h0 ?h]
  case h0 =>
    simp only [sm_zero, tk_zero, ln, rep_rng, Nat.add_zero]
  case h =>
    intro i hi
    have hi' : i < r.length := by omega
    have ht := l_times_x_ok (a := .int b) (s := s) h0 h1 bn hl hr (m + i) (fm.imp id fun _ => by omega)
    unfold rowV at ht
    refine ⟨_, rfl, .inl ?_⟩
    simp -implicitDefEqProofs only [c_l_rolled_rests_1, evSs, evS, evE, evEs, evI, RS.of_ok, RS.of_exn, RS.ofL_ok, RS.ofL_exn, RS.then_next, RS.then_ret, RS.then_brk, RS.then_cnt, RS.then_exn, RS.ifB_t, RS.ifB_f, RS.caught_next, RS.caught_ret, RS.caught_exn, RS.suite_next, RS.suite_ret, pIsx, pIs, pIsN, lamR_enc_ok, lamR_enc_exn, Pf.toldTo, R.bind_ok, R.bind_exn, pBin, pCmp, pAdd, pSub, pNeg, pLt, pLe, pNot, pIx, pSeq, pInt, getE, getB, setOwR, Pf.putAt, Pf.popTo, Pf.scrTo, Pf.unpTo, pIsa, asgT, setAll, killAll, PX.isN, PX.isB, PXs.hasB, Bool.false_eq_true, Bool.or_false, Bool.or_self, List.getElem?_cons_zero, List.getElem?_cons_succ, List.set_cons_zero, List.set_cons_succ, List.length_cons, List.length_nil, List.getD_cons_zero, List.getD_cons_succ, Nat.reduceAdd, Nat.reduceLT, Nat.zero_lt_succ, Nat.zero_add, ite_self, Bool.false_or, Bool.true_or, iL_len, Int.cast_ofNat_Int, Bool.and_true, Bool.true_and, bi_len_lst, bi_len_tup, bi_len_rl, bi_list_lst, bi_list_tup, bi_list_rl, bi_tuple_lst, bi_tuple_tup, bi_tuple_rl, bi_int_int, bi_int_b, at_two, int_if, at3_0, at3_1, at3_2, at2_0, at2_1, List.take_succ_cons, List.take_zero, List.drop_succ_cons, List.drop_zero, sum_ok, sl_lst, sl_tup, sl_rl, part_t, part_f, if_true, if_false, ite_true, ite_false, reduceIte, Nat.reduceLeDiff, Nat.reduceSub, eq_self, and_self, and_true, true_and, ln, span_nat (show r.length ≤ LIM by omega), Int.toNat_natCast]
    rw [compL_rngA (fun k => tk b (sm (i + 1) fun j => U b r j n * U b r k (m + j))) r.length ?hc]
    case hc =>
      intro k hk
      refine ⟨_, rfl, rfl, ?_⟩
      simp -implicitDefEqProofs only [evSs, evS, evE, evEs, evI, RS.of_ok, RS.of_exn, RS.ofL_ok, RS.ofL_exn, RS.then_next, RS.then_ret, RS.then_brk, RS.then_cnt, RS.then_exn, RS.ifB_t, RS.ifB_f, RS.caught_next, RS.caught_ret, RS.caught_exn, RS.suite_next, RS.suite_ret, pIsx, pIs, pIsN, lamR_enc_ok, lamR_enc_exn, Pf.toldTo, R.bind_ok, R.bind_exn, pBin, pCmp, pAdd, pSub, pNeg, pLt, pLe, pNot, pIx, pSeq, pInt, getE, getB, setOwR, Pf.putAt, Pf.popTo, Pf.scrTo, Pf.unpTo, pIsa, asgT, setAll, killAll, PX.isN, PX.isB, PXs.hasB, Bool.false_eq_true, Bool.or_false, Bool.or_self, List.getElem?_cons_zero, List.getElem?_cons_succ, List.set_cons_zero, List.set_cons_succ, List.length_cons, List.length_nil, List.getD_cons_zero, List.getD_cons_succ, Nat.reduceAdd, Nat.reduceLT, Nat.zero_lt_succ, Nat.zero_add, ite_self, Bool.false_or, Bool.true_or, iL_len, Int.cast_ofNat_Int, Bool.and_true, Bool.true_and, bi_len_lst, bi_len_tup, bi_len_rl, bi_list_lst, bi_list_tup, bi_list_rl, bi_tuple_lst, bi_tuple_tup, bi_tuple_rl, bi_int_int, bi_int_b, at_two, int_if, at3_0, at3_1, at3_2, at2_0, at2_1, List.take_succ_cons, List.take_zero, List.drop_succ_cons, List.drop_zero, sum_ok, sl_lst, sl_tup, sl_rl, part_t, part_f, if_true, if_false, ite_true, ite_false, reduceIte, Nat.reduceLeDiff, Nat.reduceSub, eq_self, and_self, and_true, true_and]
      rw [pAt_cfn _ k (by simp; omega), pAt_cfn _ k (by rw [VL_len]; omega), cf_rng _ hk, show cf (VL b r (m + i)) k = U b r k (m + i) from cf_rng _ hk, show cf (VL b r n) i = U b r i n from cf_rng _ hi']
      simp -implicitDefEqProofs only [evSs, evS, evE, evEs, evI, RS.of_ok, RS.of_exn, RS.ofL_ok, RS.ofL_exn, RS.then_next, RS.then_ret, RS.then_brk, RS.then_cnt, RS.then_exn, RS.ifB_t, RS.ifB_f, RS.caught_next, RS.caught_ret, RS.caught_exn, RS.suite_next, RS.suite_ret, pIsx, pIs, pIsN, lamR_enc_ok, lamR_enc_exn, Pf.toldTo, R.bind_ok, R.bind_exn, pBin, pCmp, pAdd, pSub, pNeg, pLt, pLe, pNot, pIx, pSeq, pInt, getE, getB, setOwR, Pf.putAt, Pf.popTo, Pf.scrTo, Pf.unpTo, pIsa, asgT, setAll, killAll, PX.isN, PX.isB, PXs.hasB, Bool.false_eq_true, Bool.or_false, Bool.or_self, List.getElem?_cons_zero, List.getElem?_cons_succ, List.set_cons_zero, List.set_cons_succ, List.length_cons, List.length_nil, List.getD_cons_zero, List.getD_cons_succ, Nat.reduceAdd, Nat.reduceLT, Nat.zero_lt_succ, Nat.zero_add, ite_self, Bool.false_or, Bool.true_or, iL_len, Int.cast_ofNat_Int, Bool.and_true, Bool.true_and, bi_len_lst, bi_len_tup, bi_len_rl, bi_list_lst, bi_list_tup, bi_list_rl, bi_tuple_lst, bi_tuple_tup, bi_tuple_rl, bi_int_int, bi_int_b, at_two, int_if, at3_0, at3_1, at3_2, at2_0, at2_1, List.take_succ_cons, List.take_zero, List.drop_succ_cons, List.drop_zero, sum_ok, sl_lst, sl_tup, sl_rl, part_t, part_f, if_true, if_false, ite_true, ite_false, reduceIte, Nat.reduceLeDiff, Nat.reduceSub, eq_self, and_self, and_true, true_and]
      rw [mul_bd (U_bd h0 h1 bn hl hr i n (fn.imp id fun _ => by omega)) (U_bd h0 h1 bn hl hr k (m + i) (fm.imp id fun _ => by omega)) (by decide) (by decide)]
      simp -implicitDefEqProofs only [evSs, evS, evE, evEs, evI, RS.of_ok, RS.of_exn, RS.ofL_ok, RS.ofL_exn, RS.then_next, RS.then_ret, RS.then_brk, RS.then_cnt, RS.then_exn, RS.ifB_t, RS.ifB_f, RS.caught_next, RS.caught_ret, RS.caught_exn, RS.suite_next, RS.suite_ret, pIsx, pIs, pIsN, lamR_enc_ok, lamR_enc_exn, Pf.toldTo, R.bind_ok, R.bind_exn, pBin, pCmp, pAdd, pSub, pNeg, pLt, pLe, pNot, pIx, pSeq, pInt, getE, getB, setOwR, Pf.putAt, Pf.popTo, Pf.scrTo, Pf.unpTo, pIsa, asgT, setAll, killAll, PX.isN, PX.isB, PXs.hasB, Bool.false_eq_true, Bool.or_false, Bool.or_self, List.getElem?_cons_zero, List.getElem?_cons_succ, List.set_cons_zero, List.set_cons_succ, List.length_cons, List.length_nil, List.getD_cons_zero, List.getD_cons_succ, Nat.reduceAdd, Nat.reduceLT, Nat.zero_lt_succ, Nat.zero_add, ite_self, Bool.false_or, Bool.true_or, iL_len, Int.cast_ofNat_Int, Bool.and_true, Bool.true_and, bi_len_lst, bi_len_tup, bi_len_rl, bi_list_lst, bi_list_tup, bi_list_rl, bi_tuple_lst, bi_tuple_tup, bi_tuple_rl, bi_int_int, bi_int_b, at_two, int_if, at3_0, at3_1, at3_2, at2_0, at2_1, List.take_succ_cons, List.take_zero, List.drop_succ_cons, List.drop_zero, sum_ok, sl_lst, sl_tup, sl_rl, part_t, part_f, if_true, if_false, ite_true, ite_false, reduceIte, Nat.reduceLeDiff, Nat.reduceSub, eq_self, and_self, and_true, true_and, l_taken_ok h0, tk_add_l, sm_succ]
    simp -implicitDefEqProofs only [evSs, evS, evE, evEs, evI, RS.of_ok, RS.of_exn, RS.ofL_ok, RS.ofL_exn, RS.then_next, RS.then_ret, RS.then_brk, RS.then_cnt, RS.then_exn, RS.ifB_t, RS.ifB_f, RS.caught_next, RS.caught_ret, RS.caught_exn, RS.suite_next, RS.suite_ret, pIsx, pIs, pIsN, lamR_enc_ok, lamR_enc_exn, Pf.toldTo, R.bind_ok, R.bind_exn, pBin, pCmp, pAdd, pSub, pNeg, pLt, pLe, pNot, pIx, pSeq, pInt, getE, getB, setOwR, Pf.putAt, Pf.popTo, Pf.scrTo, Pf.unpTo, pIsa, asgT, setAll, killAll, PX.isN, PX.isB, PXs.hasB, Bool.false_eq_true, Bool.or_false, Bool.or_self, List.getElem?_cons_zero, List.getElem?_cons_succ, List.set_cons_zero, List.set_cons_succ, List.length_cons, List.length_nil, List.getD_cons_zero, List.getD_cons_succ, Nat.reduceAdd, Nat.reduceLT, Nat.zero_lt_succ, Nat.zero_add, ite_self, Bool.false_or, Bool.true_or, iL_len, Int.cast_ofNat_Int, Bool.and_true, Bool.true_and, bi_len_lst, bi_len_tup, bi_len_rl, bi_list_lst, bi_list_tup, bi_list_rl, bi_tuple_lst, bi_tuple_tup, bi_tuple_rl, bi_int_int, bi_int_b, at_two, int_if, at3_0, at3_1, at3_2, at2_0, at2_1, List.take_succ_cons, List.take_zero, List.drop_succ_cons, List.drop_zero, sum_ok, sl_lst, sl_tup, sl_rl, part_t, part_f, if_true, if_false, ite_true, ite_false, reduceIte, Nat.reduceLeDiff, Nat.reduceSub, eq_self, and_self, and_true, true_and, rngL_len, show r.length ≤ LIM by omega, ht, Nat.add_assoc]
  simp -implicitDefEqProofs only [evSs, evS, evE, evEs, evI, RS.of_ok, RS.of_exn, RS.ofL_ok, RS.ofL_exn, RS.then_next, RS.then_ret, RS.then_brk, RS.then_cnt, RS.then_exn, RS.ifB_t, RS.ifB_f, RS.caught_next, RS.caught_ret, RS.caught_exn, RS.suite_next, RS.suite_ret, pIsx, pIs, pIsN, lamR_enc_ok, lamR_enc_exn, Pf.toldTo, R.bind_ok, R.bind_exn, pBin, pCmp, pAdd, pSub, pNeg, pLt, pLe, pNot, pIx, pSeq, pInt, getE, getB, setOwR, Pf.putAt, Pf.popTo, Pf.scrTo, Pf.unpTo, pIsa, asgT, setAll, killAll, PX.isN, PX.isB, PXs.hasB, Bool.false_eq_true, Bool.or_false, Bool.or_self, List.getElem?_cons_zero, List.getElem?_cons_succ, List.set_cons_zero, List.set_cons_succ, List.length_cons, List.length_nil, List.getD_cons_zero, List.getD_cons_succ, Nat.reduceAdd, Nat.reduceLT, Nat.zero_lt_succ, Nat.zero_add, ite_self, Bool.false_or, Bool.true_or, iL_len, Int.cast_ofNat_Int, Bool.and_true, Bool.true_and, bi_len_lst, bi_len_tup, bi_len_rl, bi_list_lst, bi_list_tup, bi_list_rl, bi_tuple_lst, bi_tuple_tup, bi_tuple_rl, bi_int_int, bi_int_b, at_two, int_if, at3_0, at3_1, at3_2, at2_0, at2_1, List.take_succ_cons, List.take_zero, List.drop_succ_cons, List.drop_zero, sum_ok, sl_lst, sl_tup, sl_rl, part_t, part_f, if_true, if_false, ite_true, ite_false, reduceIte, Nat.reduceLeDiff, Nat.reduceSub, eq_self, and_self, and_true, true_and, ln]
  have e : ((List.range r.length).map fun k => tk b (sm r.length fun j => U b r j n * U b r k (m + j))) = VL b r (m + n) := rng_congr fun k hk => JU h0 bn k m n
  rw [e]
theorem two_pow_lt {N : Nat} (hN : N < 2 ^ 300) : ∃ t, N < 2 ^ t ∧ t ≤ 300 ∧ ∀ i, i < t → 2 ^ i ≤ N := by
  by_cases z : N = 0
  · exact ⟨0, by omega, by omega, fun i hi => by omega⟩
  · refine ⟨N.log2 + 1, Nat.lt_log2_self, (Nat.log2_lt z).mpr hN, fun i hi => ?_⟩
    exact Nat.le_trans (Nat.pow_le_pow_right (by decide) (show i ≤ N.log2 by omega)) (Nat.log2_self_le z)
theorem l_rest_far_ok {b : Int} (h0 : 0 ≤ b) (h1 : b ≤ 997) (bn : b ≠ 1) {r s : List Int} (hl : r.length ≤ 12) (hr : ∀ x ∈ r, bd 70 x) (N : Nat) (hN : N < 2 ^ 300) (hf : 0 < b ∨ N ≤ 450) : s_l_rest_far [.int b, rowV b r s, .int (N : Int)] = .ok (.lst (iL (VL b r N))) := by
  have hLo : LOOPS = 1000000000 := rfl
  obtain ⟨t, ht, hT, hlo⟩ := two_pow_lt hN
  have s0 := l_step_ok (a := .int b) (s := s) h0 h1 bn hl hr 0 (by decide)
  have s1 := l_step_ok (a := .int b) (s := s) h0 h1 bn hl hr 1 (by decide)
  refine run_ret rfl ?_
  show evSs [s_l_step_by_step, s_l_rolled_rests] [] false c_l_rest_far [.sh (.int b), .sh (rowV b r s), .sh (.int (N : Int)), .no, .no] = _
  unfold rowV at s0 s1
  have s0 : s_l_step_by_step [.int b, .tup [.int b, .tup (iL r), .tup (iL s)], .int 0] = .ok (.lst (iL (VL b r 0))) := s0
  have s1 : s_l_step_by_step [.int b, .tup [.int b, .tup (iL r), .tup (iL s)], .int 1] = .ok (.lst (iL (VL b r 1))) := s1
  simp -implicitDefEqProofs only [c_l_rest_far, evSs, evS, evE, evEs, evI, RS.of_ok, RS.of_exn, RS.ofL_ok, RS.ofL_exn, RS.then_next, RS.then_ret, RS.then_brk, RS.then_cnt, RS.then_exn, RS.ifB_t, RS.ifB_f, RS.caught_next, RS.caught_ret, RS.caught_exn, RS.suite_next, RS.suite_ret, pIsx, pIs, pIsN, lamR_enc_ok, lamR_enc_exn, Pf.toldTo, R.bind_ok, R.bind_exn, pBin, pCmp, pAdd, pSub, pNeg, pLt, pLe, pNot, pIx, pSeq, pInt, getE, getB, setOwR, Pf.putAt, Pf.popTo, Pf.scrTo, Pf.unpTo, pIsa, asgT, setAll, killAll, PX.isN, PX.isB, PXs.hasB, Bool.false_eq_true, Bool.or_false, Bool.or_self, List.getElem?_cons_zero, List.getElem?_cons_succ, List.set_cons_zero, List.set_cons_succ, List.length_cons, List.length_nil, List.getD_cons_zero, List.getD_cons_succ, Nat.reduceAdd, Nat.reduceLT, Nat.zero_lt_succ, Nat.zero_add, ite_self, Bool.false_or, Bool.true_or, iL_len, Int.cast_ofNat_Int, Bool.and_true, Bool.true_and, bi_len_lst, bi_len_tup, bi_len_rl, bi_list_lst, bi_list_tup, bi_list_rl, bi_tuple_lst, bi_tuple_tup, bi_tuple_rl, bi_int_int, bi_int_b, at_two, int_if, at3_0, at3_1, at3_2, at2_0, at2_1, List.take_succ_cons, List.take_zero, List.drop_succ_cons, List.drop_zero, sum_ok, sl_lst, sl_tup, sl_rl, part_t, part_f, if_true, if_false, ite_true, ite_false, reduceIte, Nat.reduceLeDiff, Nat.reduceSub, eq_self, and_self, and_true, true_and, rowV, s0, s1]
  rw [whlL_go t (fun i => [.sh (.int b), .sh (.tup [.int b, .tup (iL r), .tup (iL s)]), .sh (.int ((N / 2 ^ i : Nat) : Int)), .sh (.lst (iL (VL b r (N % 2 ^ i)))), .sh (.lst (iL (VL b r (2 ^ i))))]) (by omega) ?h0 ?h ?he]
  case h0 => simp only [Nat.pow_zero, Nat.div_one, Nat.mod_one]
  case h =>
    intro i hi
    have hp := hlo i hi
    have hpos : 0 < N / 2 ^ i := Nat.div_pos hp (Nat.two_pow_pos i)
    have hmod : N % 2 ^ i < 2 ^ i := Nat.mod_lt _ (Nat.two_pow_pos i)
    have e2 : N / 2 ^ (i + 1) = N / 2 ^ i / 2 := by rw [Nat.pow_succ, Nat.div_div_eq_div_mul]
    have e3 : N % 2 ^ (i + 1) = N % 2 ^ i + 2 ^ i * (N / 2 ^ i % 2) := by rw [Nat.pow_succ, Nat.mod_mul]
    have a1 := l_rolled_ok (a := .int b) (s := s) rfl h0 h1 bn hl hr (N % 2 ^ i) (2 ^ i) (hf.imp id fun _ => by omega) (hf.imp id fun _ => by omega)
    have b1 := l_rolled_ok (a := .int b) (s := s) rfl h0 h1 bn hl hr (2 ^ i) (2 ^ i) (hf.imp id fun _ => by omega) (hf.imp id fun _ => by omega)
    have e4 : 2 ^ i + 2 ^ i = 2 ^ (i + 1) := by rw [Nat.pow_succ]; omega
    rw [e4] at b1
    unfold rowV at a1 b1
    refine ⟨?_, .inl ?_⟩
    · simp -implicitDefEqProofs only [evSs, evS, evE, evEs, evI, RS.of_ok, RS.of_exn, RS.ofL_ok, RS.ofL_exn, RS.then_next, RS.then_ret, RS.then_brk, RS.then_cnt, RS.then_exn, RS.ifB_t, RS.ifB_f, RS.caught_next, RS.caught_ret, RS.caught_exn, RS.suite_next, RS.suite_ret, pIsx, pIs, pIsN, lamR_enc_ok, lamR_enc_exn, Pf.toldTo, R.bind_ok, R.bind_exn, pBin, pCmp, pAdd, pSub, pNeg, pLt, pLe, pNot, pIx, pSeq, pInt, getE, getB, setOwR, Pf.putAt, Pf.popTo, Pf.scrTo, Pf.unpTo, pIsa, asgT, setAll, killAll, PX.isN, PX.isB, PXs.hasB, Bool.false_eq_true, Bool.or_false, Bool.or_self, List.getElem?_cons_zero, List.getElem?_cons_succ, List.set_cons_zero, List.set_cons_succ, List.length_cons, List.length_nil, List.getD_cons_zero, List.getD_cons_succ, Nat.reduceAdd, Nat.reduceLT, Nat.zero_lt_succ, Nat.zero_add, ite_self, Bool.false_or, Bool.true_or, iL_len, Int.cast_ofNat_Int, Bool.and_true, Bool.true_and, bi_len_lst, bi_len_tup, bi_len_rl, bi_list_lst, bi_list_tup, bi_list_rl, bi_tuple_lst, bi_tuple_tup, bi_tuple_rl, bi_int_int, bi_int_b, at_two, int_if, at3_0, at3_1, at3_2, at2_0, at2_1, List.take_succ_cons, List.take_zero, List.drop_succ_cons, List.drop_zero, sum_ok, sl_lst, sl_tup, sl_rl, part_t, part_f, if_true, if_false, ite_true, ite_false, reduceIte, Nat.reduceLeDiff, Nat.reduceSub, eq_self, and_self, and_true, true_and, show (0 : Int) < ((N / 2 ^ i : Nat) : Int) by omega, decide_true]
    · have d2 : ((N / 2 ^ i : Nat) : Int) / 2 = ((N / 2 ^ (i + 1) : Nat) : Int) := by rw [e2]; omega
      have m2 : (((N / 2 ^ i : Nat) : Int) % 2 = 1 ∧ N / 2 ^ i % 2 = 1) ∨ (¬ ((N / 2 ^ i : Nat) : Int) % 2 = 1 ∧ N / 2 ^ i % 2 = 0) := by omega
      rcases m2 with ⟨m2, m3⟩ | ⟨m2, m3⟩
      · rw [m3, Nat.mul_one] at e3
        rw [show 2 ^ i + N % 2 ^ i = N % 2 ^ (i + 1) by omega] at a1
        simp -implicitDefEqProofs only [c_l_rest_far_1, evSs, evS, evE, evEs, evI, RS.of_ok, RS.of_exn, RS.ofL_ok, RS.ofL_exn, RS.then_next, RS.then_ret, RS.then_brk, RS.then_cnt, RS.then_exn, RS.ifB_t, RS.ifB_f, RS.caught_next, RS.caught_ret, RS.caught_exn, RS.suite_next, RS.suite_ret, pIsx, pIs, pIsN, lamR_enc_ok, lamR_enc_exn, Pf.toldTo, R.bind_ok, R.bind_exn, pBin, pCmp, pAdd, pSub, pNeg, pLt, pLe, pNot, pIx, pSeq, pInt, getE, getB, setOwR, Pf.putAt, Pf.popTo, Pf.scrTo, Pf.unpTo, pIsa, asgT, setAll, killAll, PX.isN, PX.isB, PXs.hasB, Bool.false_eq_true, Bool.or_false, Bool.or_self, List.getElem?_cons_zero, List.getElem?_cons_succ, List.set_cons_zero, List.set_cons_succ, List.length_cons, List.length_nil, List.getD_cons_zero, List.getD_cons_succ, Nat.reduceAdd, Nat.reduceLT, Nat.zero_lt_succ, Nat.zero_add, ite_self, Bool.false_or, Bool.true_or, iL_len, Int.cast_ofNat_Int, Bool.and_true, Bool.true_and, bi_len_lst, bi_len_tup, bi_len_rl, bi_list_lst, bi_list_tup, bi_list_rl, bi_tuple_lst, bi_tuple_tup, bi_tuple_rl, bi_int_int, bi_int_b, at_two, int_if, at3_0, at3_1, at3_2, at2_0, at2_1, List.take_succ_cons, List.take_zero, List.drop_succ_cons, List.drop_zero, sum_ok, sl_lst, sl_tup, sl_rl, part_t, part_f, if_true, if_false, ite_true, ite_false, reduceIte, Nat.reduceLeDiff, Nat.reduceSub, eq_self, and_self, and_true, true_and, mod_pos (b := 2) (by decide), eq_int, m2, decide_true, a1, b1, fdiv_pos (b := 2) (by decide) (by decide), d2]
      · rw [m3, Nat.mul_zero] at e3
        have e3 : N % 2 ^ (i + 1) = N % 2 ^ i := e3
        simp -implicitDefEqProofs only [c_l_rest_far_1, evSs, evS, evE, evEs, evI, RS.of_ok, RS.of_exn, RS.ofL_ok, RS.ofL_exn, RS.then_next, RS.then_ret, RS.then_brk, RS.then_cnt, RS.then_exn, RS.ifB_t, RS.ifB_f, RS.caught_next, RS.caught_ret, RS.caught_exn, RS.suite_next, RS.suite_ret, pIsx, pIs, pIsN, lamR_enc_ok, lamR_enc_exn, Pf.toldTo, R.bind_ok, R.bind_exn, pBin, pCmp, pAdd, pSub, pNeg, pLt, pLe, pNot, pIx, pSeq, pInt, getE, getB, setOwR, Pf.putAt, Pf.popTo, Pf.scrTo, Pf.unpTo, pIsa, asgT, setAll, killAll, PX.isN, PX.isB, PXs.hasB, Bool.false_eq_true, Bool.or_false, Bool.or_self, List.getElem?_cons_zero, List.getElem?_cons_succ, List.set_cons_zero, List.set_cons_succ, List.length_cons, List.length_nil, List.getD_cons_zero, List.getD_cons_succ, Nat.reduceAdd, Nat.reduceLT, Nat.zero_lt_succ, Nat.zero_add, ite_self, Bool.false_or, Bool.true_or, iL_len, Int.cast_ofNat_Int, Bool.and_true, Bool.true_and, bi_len_lst, bi_len_tup, bi_len_rl, bi_list_lst, bi_list_tup, bi_list_rl, bi_tuple_lst, bi_tuple_tup, bi_tuple_rl, bi_int_int, bi_int_b, at_two, int_if, at3_0, at3_1, at3_2, at2_0, at2_1, List.take_succ_cons, List.take_zero, List.drop_succ_cons, List.drop_zero, sum_ok, sl_lst, sl_tup, sl_rl, part_t, part_f, if_true, if_false, ite_true, ite_false, reduceIte, Nat.reduceLeDiff, Nat.reduceSub, eq_self, and_self, and_true, true_and, mod_pos (b := 2) (by decide), eq_int, m2, decide_false, b1, fdiv_pos (b := 2) (by decide) (by decide), d2, e3]
  case he => simp -implicitDefEqProofs only [evSs, evS, evE, evEs, evI, RS.of_ok, RS.of_exn, RS.ofL_ok, RS.ofL_exn, RS.then_next, RS.then_ret, RS.then_brk, RS.then_cnt, RS.then_exn, RS.ifB_t, RS.ifB_f, RS.caught_next, RS.caught_ret, RS.caught_exn, RS.suite_next, RS.suite_ret, pIsx, pIs, pIsN, lamR_enc_ok, lamR_enc_exn, Pf.toldTo, R.bind_ok, R.bind_exn, pBin, pCmp, pAdd, pSub, pNeg, pLt, pLe, pNot, pIx, pSeq, pInt, getE, getB, setOwR, Pf.putAt, Pf.popTo, Pf.scrTo, Pf.unpTo, pIsa, asgT, setAll, killAll, PX.isN, PX.isB, PXs.hasB, Bool.false_eq_true, Bool.or_false, Bool.or_self, List.getElem?_cons_zero, List.getElem?_cons_succ, List.set_cons_zero, List.set_cons_succ, List.length_cons, List.length_nil, List.getD_cons_zero, List.getD_cons_succ, Nat.reduceAdd, Nat.reduceLT, Nat.zero_lt_succ, Nat.zero_add, ite_self, Bool.false_or, Bool.true_or, iL_len, Int.cast_ofNat_Int, Bool.and_true, Bool.true_and, bi_len_lst, bi_len_tup, bi_len_rl, bi_list_lst, bi_list_tup, bi_list_rl, bi_tuple_lst, bi_tuple_tup, bi_tuple_rl, bi_int_int, bi_int_b, at_two, int_if, at3_0, at3_1, at3_2, at2_0, at2_1, List.take_succ_cons, List.take_zero, List.drop_succ_cons, List.drop_zero, sum_ok, sl_lst, sl_tup, sl_rl, part_t, part_f, if_true, if_false, ite_true, ite_false, reduceIte, Nat.reduceLeDiff, Nat.reduceSub, eq_self, and_self, and_true, true_and, Nat.div_eq_of_lt ht, show ((0 : Nat) : Int) = 0 from rfl, Int.lt_irrefl, decide_false]
  simp -implicitDefEqProofs only [evSs, evS, evE, evEs, evI, RS.of_ok, RS.of_exn, RS.ofL_ok, RS.ofL_exn, RS.then_next, RS.then_ret, RS.then_brk, RS.then_cnt, RS.then_exn, RS.ifB_t, RS.ifB_f, RS.caught_next, RS.caught_ret, RS.caught_exn, RS.suite_next, RS.suite_ret, pIsx, pIs, pIsN, lamR_enc_ok, lamR_enc_exn, Pf.toldTo, R.bind_ok, R.bind_exn, pBin, pCmp, pAdd, pSub, pNeg, pLt, pLe, pNot, pIx, pSeq, pInt, getE, getB, setOwR, Pf.putAt, Pf.popTo, Pf.scrTo, Pf.unpTo, pIsa, asgT, setAll, killAll, PX.isN, PX.isB, PXs.hasB, Bool.false_eq_true, Bool.or_false, Bool.or_self, List.getElem?_cons_zero, List.getElem?_cons_succ, List.set_cons_zero, List.set_cons_succ, List.length_cons, List.length_nil, List.getD_cons_zero, List.getD_cons_succ, Nat.reduceAdd, Nat.reduceLT, Nat.zero_lt_succ, Nat.zero_add, ite_self, Bool.false_or, Bool.true_or, iL_len, Int.cast_ofNat_Int, Bool.and_true, Bool.true_and, bi_len_lst, bi_len_tup, bi_len_rl, bi_list_lst, bi_list_tup, bi_list_rl, bi_tuple_lst, bi_tuple_tup, bi_tuple_rl, bi_int_int, bi_int_b, at_two, int_if, at3_0, at3_1, at3_2, at2_0, at2_1, List.take_succ_cons, List.take_zero, List.drop_succ_cons, List.drop_zero, sum_ok, sl_lst, sl_tup, sl_rl, part_t, part_f, if_true, if_false, ite_true, ite_false, reduceIte, Nat.reduceLeDiff, Nat.reduceSub, eq_self, and_self, and_true, true_and, Nat.mod_eq_of_lt ht]
theorem compL_enum {el co : Env → R PV} {asg : PV → Option Env} (f : Nat → Int) (xs : List Int) (h : ∀ k, k < xs.length → ∃ ρ, asg (.tup [.int (k : Int), .int (cf xs k)]) = some ρ ∧ co ρ = .ok (.bl true) ∧ el ρ = .ok (.int (f k))) :
    compL el co asg (pEnum (iL xs)) = .ok (iL ((List.range xs.length).map f)) := by
  rw [pEnum_iL]
  have := compL_all (el := el) (co := co) (asg := asg) (fun k : Nat => PV.tup [.int (k : Int), .int (xs.getD k 0)]) (fun k => .int (f k)) (List.range xs.length) (fun k hk => h k (List.mem_range.mp hk))
  rw [this]
  unfold iL
  rw [List.map_map]
  rfl
theorem pEnum_len (xs : List Int) : (pEnum (iL xs)).length = xs.length := by
  rw [pEnum_iL]
  simp
theorem first_places_ok {M B : Nat} {b : Int} {r s : List Int} (h : Rg M B b r s) (hM : M ≤ 1000000) (hB : 70 ≤ B) (hB2 : B ≤ 100000) (n : Nat) (hn : n ≤ 700) : s_first_places [rowV b r s, .int (n : Int)] = .ok (.lst (iL ((List.range n).map (sq b r s)))) := by
  have hL : LIM = 1000000 := rfl
  have hLo : LOOPS = 1000000000 := rfl
  have l1 := h.len
  have l2 := h.le
  refine run_ret rfl ?_
  show evSs [s_taken] [] false c_first_places [.sh (rowV b r s), .sh (.int (n : Int)), .no, .no, .no, .no, .no, .no, .no] = _
  simp -implicitDefEqProofs only [c_first_places, evSs, evS, evE, evEs, evI, RS.of_ok, RS.of_exn, RS.ofL_ok, RS.ofL_exn, RS.then_next, RS.then_ret, RS.then_brk, RS.then_cnt, RS.then_exn, RS.ifB_t, RS.ifB_f, RS.caught_next, RS.caught_ret, RS.caught_exn, RS.suite_next, RS.suite_ret, pIsx, pIs, pIsN, lamR_enc_ok, lamR_enc_exn, Pf.toldTo, R.bind_ok, R.bind_exn, pBin, pCmp, pAdd, pSub, pNeg, pLt, pLe, pNot, pIx, pSeq, pInt, getE, getB, setOwR, Pf.putAt, Pf.popTo, Pf.scrTo, Pf.unpTo, pIsa, asgT, setAll, killAll, PX.isN, PX.isB, PXs.hasB, Bool.false_eq_true, Bool.or_false, Bool.or_self, List.getElem?_cons_zero, List.getElem?_cons_succ, List.set_cons_zero, List.set_cons_succ, List.length_cons, List.length_nil, List.getD_cons_zero, List.getD_cons_succ, Nat.reduceAdd, Nat.reduceLT, Nat.zero_lt_succ, Nat.zero_add, ite_self, Bool.false_or, Bool.true_or, iL_len, Int.cast_ofNat_Int, Bool.and_true, Bool.true_and, bi_len_lst, bi_len_tup, bi_len_rl, bi_list_lst, bi_list_tup, bi_list_rl, bi_tuple_lst, bi_tuple_tup, bi_tuple_rl, bi_int_int, bi_int_b, at_two, int_if, at3_0, at3_1, at3_2, at2_0, at2_1, List.take_succ_cons, List.take_zero, List.drop_succ_cons, List.drop_zero, sum_ok, sl_lst, sl_tup, sl_rl, part_t, part_f, if_true, if_false, ite_true, ite_false, reduceIte, Nat.reduceLeDiff, Nat.reduceSub, eq_self, and_self, and_true, true_and, rowV, cut_take, iL_take]
  have e0 : s.take n = (List.range (min n s.length)).map (sq b r s) := by
    apply cf_ext (by simp)
    intro k hk
    rw [List.length_take] at hk
    rw [cf_take, if_pos (by omega), cf_rng _ hk, sq_lt (by omega)]
  rw [e0]
  rw [whlL_go (n - min n s.length) (fun i => [.sh (.tup [.int b, .tup (iL r), .tup (iL s)]), .sh (.int (n : Int)), .ow (iL ((List.range (min n s.length + i)).map (sq b r s))), .sh (.int b), .sh (.tup (iL r)), .sh (.tup (iL s)), .no, .no, .no]) (by omega) ?h0 ?h ?he]
  case h0 => rfl
  case h =>
    intro i hi
    have hlen : ((List.range (min n s.length + i)).map (sq b r s)).length = min n s.length + i := by simp
    refine ⟨?_, .inl ?_⟩
    · simp -implicitDefEqProofs only [evSs, evS, evE, evEs, evI, RS.of_ok, RS.of_exn, RS.ofL_ok, RS.ofL_exn, RS.then_next, RS.then_ret, RS.then_brk, RS.then_cnt, RS.then_exn, RS.ifB_t, RS.ifB_f, RS.caught_next, RS.caught_ret, RS.caught_exn, RS.suite_next, RS.suite_ret, pIsx, pIs, pIsN, lamR_enc_ok, lamR_enc_exn, Pf.toldTo, R.bind_ok, R.bind_exn, pBin, pCmp, pAdd, pSub, pNeg, pLt, pLe, pNot, pIx, pSeq, pInt, getE, getB, setOwR, Pf.putAt, Pf.popTo, Pf.scrTo, Pf.unpTo, pIsa, asgT, setAll, killAll, PX.isN, PX.isB, PXs.hasB, Bool.false_eq_true, Bool.or_false, Bool.or_self, List.getElem?_cons_zero, List.getElem?_cons_succ, List.set_cons_zero, List.set_cons_succ, List.length_cons, List.length_nil, List.getD_cons_zero, List.getD_cons_succ, Nat.reduceAdd, Nat.reduceLT, Nat.zero_lt_succ, Nat.zero_add, ite_self, Bool.false_or, Bool.true_or, iL_len, Int.cast_ofNat_Int, Bool.and_true, Bool.true_and, bi_len_lst, bi_len_tup, bi_len_rl, bi_list_lst, bi_list_tup, bi_list_rl, bi_tuple_lst, bi_tuple_tup, bi_tuple_rl, bi_int_int, bi_int_b, at_two, int_if, at3_0, at3_1, at3_2, at2_0, at2_1, List.take_succ_cons, List.take_zero, List.drop_succ_cons, List.drop_zero, sum_ok, sl_lst, sl_tup, sl_rl, part_t, part_f, if_true, if_false, ite_true, ite_false, reduceIte, Nat.reduceLeDiff, Nat.reduceSub, eq_self, and_self, and_true, true_and, hlen, show ((min n s.length + i : Nat) : Int) < (n : Int) by omega, decide_true]
    · have hf := forL_enum (asg := asgT [7, 8] true) (body := evSs [s_taken] [] false c_first_places_1) r (fun k => [.sh (.tup [.int b, .tup (iL r), .tup (iL s)]), .sh (.int (n : Int)), .ow (iL ((List.range (min n s.length + i)).map (sq b r s))), .sh (.int b), .sh (.tup (iL r)), .sh (.tup (iL s)), .sh (.int (sm k fun k => cf r k * sq b r s (min n s.length + i - 1 - k))), .no, .no]) fun k hk => by
        refine ⟨_, rfl, .inl ?_⟩
        simp -implicitDefEqProofs only [c_first_places_1, evSs, evS, evE, evEs, evI, RS.of_ok, RS.of_exn, RS.ofL_ok, RS.ofL_exn, RS.then_next, RS.then_ret, RS.then_brk, RS.then_cnt, RS.then_exn, RS.ifB_t, RS.ifB_f, RS.caught_next, RS.caught_ret, RS.caught_exn, RS.suite_next, RS.suite_ret, pIsx, pIs, pIsN, lamR_enc_ok, lamR_enc_exn, Pf.toldTo, R.bind_ok, R.bind_exn, pBin, pCmp, pAdd, pSub, pNeg, pLt, pLe, pNot, pIx, pSeq, pInt, getE, getB, setOwR, Pf.putAt, Pf.popTo, Pf.scrTo, Pf.unpTo, pIsa, asgT, setAll, killAll, PX.isN, PX.isB, PXs.hasB, Bool.false_eq_true, Bool.or_false, Bool.or_self, List.getElem?_cons_zero, List.getElem?_cons_succ, List.set_cons_zero, List.set_cons_succ, List.length_cons, List.length_nil, List.getD_cons_zero, List.getD_cons_succ, Nat.reduceAdd, Nat.reduceLT, Nat.zero_lt_succ, Nat.zero_add, ite_self, Bool.false_or, Bool.true_or, iL_len, Int.cast_ofNat_Int, Bool.and_true, Bool.true_and, bi_len_lst, bi_len_tup, bi_len_rl, bi_list_lst, bi_list_tup, bi_list_rl, bi_tuple_lst, bi_tuple_tup, bi_tuple_rl, bi_int_int, bi_int_b, at_two, int_if, at3_0, at3_1, at3_2, at2_0, at2_1, List.take_succ_cons, List.take_zero, List.drop_succ_cons, List.drop_zero, sum_ok, sl_lst, sl_tup, sl_rl, part_t, part_f, if_true, if_false, ite_true, ite_false, reduceIte, Nat.reduceLeDiff, Nat.reduceSub, eq_self, and_self, and_true, true_and]
        rw [pAt_neg _ k (by rw [hlen]; omega), hlen, cf_rng _ (by omega)]
        simp -implicitDefEqProofs only [evSs, evS, evE, evEs, evI, RS.of_ok, RS.of_exn, RS.ofL_ok, RS.ofL_exn, RS.then_next, RS.then_ret, RS.then_brk, RS.then_cnt, RS.then_exn, RS.ifB_t, RS.ifB_f, RS.caught_next, RS.caught_ret, RS.caught_exn, RS.suite_next, RS.suite_ret, pIsx, pIs, pIsN, lamR_enc_ok, lamR_enc_exn, Pf.toldTo, R.bind_ok, R.bind_exn, pBin, pCmp, pAdd, pSub, pNeg, pLt, pLe, pNot, pIx, pSeq, pInt, getE, getB, setOwR, Pf.putAt, Pf.popTo, Pf.scrTo, Pf.unpTo, pIsa, asgT, setAll, killAll, PX.isN, PX.isB, PXs.hasB, Bool.false_eq_true, Bool.or_false, Bool.or_self, List.getElem?_cons_zero, List.getElem?_cons_succ, List.set_cons_zero, List.set_cons_succ, List.length_cons, List.length_nil, List.getD_cons_zero, List.getD_cons_succ, Nat.reduceAdd, Nat.reduceLT, Nat.zero_lt_succ, Nat.zero_add, ite_self, Bool.false_or, Bool.true_or, iL_len, Int.cast_ofNat_Int, Bool.and_true, Bool.true_and, bi_len_lst, bi_len_tup, bi_len_rl, bi_list_lst, bi_list_tup, bi_list_rl, bi_tuple_lst, bi_tuple_tup, bi_tuple_rl, bi_int_int, bi_int_b, at_two, int_if, at3_0, at3_1, at3_2, at2_0, at2_1, List.take_succ_cons, List.take_zero, List.drop_succ_cons, List.drop_zero, sum_ok, sl_lst, sl_tup, sl_rl, part_t, part_f, if_true, if_false, ite_true, ite_false, reduceIte, Nat.reduceLeDiff, Nat.reduceSub, eq_self, and_self, and_true, true_and]
        rw [mul_bd (h.rb hM _ (cf_mem hk)) (h.sb hM hB _) (by decide) (by omega)]
        simp -implicitDefEqProofs only [evSs, evS, evE, evEs, evI, RS.of_ok, RS.of_exn, RS.ofL_ok, RS.ofL_exn, RS.then_next, RS.then_ret, RS.then_brk, RS.then_cnt, RS.then_exn, RS.ifB_t, RS.ifB_f, RS.caught_next, RS.caught_ret, RS.caught_exn, RS.suite_next, RS.suite_ret, pIsx, pIs, pIsN, lamR_enc_ok, lamR_enc_exn, Pf.toldTo, R.bind_ok, R.bind_exn, pBin, pCmp, pAdd, pSub, pNeg, pLt, pLe, pNot, pIx, pSeq, pInt, getE, getB, setOwR, Pf.putAt, Pf.popTo, Pf.scrTo, Pf.unpTo, pIsa, asgT, setAll, killAll, PX.isN, PX.isB, PXs.hasB, Bool.false_eq_true, Bool.or_false, Bool.or_self, List.getElem?_cons_zero, List.getElem?_cons_succ, List.set_cons_zero, List.set_cons_succ, List.length_cons, List.length_nil, List.getD_cons_zero, List.getD_cons_succ, Nat.reduceAdd, Nat.reduceLT, Nat.zero_lt_succ, Nat.zero_add, ite_self, Bool.false_or, Bool.true_or, iL_len, Int.cast_ofNat_Int, Bool.and_true, Bool.true_and, bi_len_lst, bi_len_tup, bi_len_rl, bi_list_lst, bi_list_tup, bi_list_rl, bi_tuple_lst, bi_tuple_tup, bi_tuple_rl, bi_int_int, bi_int_b, at_two, int_if, at3_0, at3_1, at3_2, at2_0, at2_1, List.take_succ_cons, List.take_zero, List.drop_succ_cons, List.drop_zero, sum_ok, sl_lst, sl_tup, sl_rl, part_t, part_f, if_true, if_false, ite_true, ite_false, reduceIte, Nat.reduceLeDiff, Nat.reduceSub, eq_self, and_self, and_true, true_and, sm_succ]
      simp only [sm_zero] at hf
      simp -implicitDefEqProofs only [c_first_places_2, evSs, evS, evE, evEs, evI, RS.of_ok, RS.of_exn, RS.ofL_ok, RS.ofL_exn, RS.then_next, RS.then_ret, RS.then_brk, RS.then_cnt, RS.then_exn, RS.ifB_t, RS.ifB_f, RS.caught_next, RS.caught_ret, RS.caught_exn, RS.suite_next, RS.suite_ret, pIsx, pIs, pIsN, lamR_enc_ok, lamR_enc_exn, Pf.toldTo, R.bind_ok, R.bind_exn, pBin, pCmp, pAdd, pSub, pNeg, pLt, pLe, pNot, pIx, pSeq, pInt, getE, getB, setOwR, Pf.putAt, Pf.popTo, Pf.scrTo, Pf.unpTo, pIsa, asgT, setAll, killAll, PX.isN, PX.isB, PXs.hasB, Bool.false_eq_true, Bool.or_false, Bool.or_self, List.getElem?_cons_zero, List.getElem?_cons_succ, List.set_cons_zero, List.set_cons_succ, List.length_cons, List.length_nil, List.getD_cons_zero, List.getD_cons_succ, Nat.reduceAdd, Nat.reduceLT, Nat.zero_lt_succ, Nat.zero_add, ite_self, Bool.false_or, Bool.true_or, iL_len, Int.cast_ofNat_Int, Bool.and_true, Bool.true_and, bi_len_lst, bi_len_tup, bi_len_rl, bi_list_lst, bi_list_tup, bi_list_rl, bi_tuple_lst, bi_tuple_tup, bi_tuple_rl, bi_int_int, bi_int_b, at_two, int_if, at3_0, at3_1, at3_2, at2_0, at2_1, List.take_succ_cons, List.take_zero, List.drop_succ_cons, List.drop_zero, sum_ok, sl_lst, sl_tup, sl_rl, part_t, part_f, if_true, if_false, ite_true, ite_false, reduceIte, Nat.reduceLeDiff, Nat.reduceSub, eq_self, and_self, and_true, true_and, hf, taken_ok h.b0, hlen, show min n s.length + i ≤ LIM by omega]
      rw [← sq_ge (by omega) (by omega), rng_app, Nat.add_assoc]
  case he =>
    have hn2 : min n s.length + (n - min n s.length) = n := by omega
    simp -implicitDefEqProofs only [evSs, evS, evE, evEs, evI, RS.of_ok, RS.of_exn, RS.ofL_ok, RS.ofL_exn, RS.then_next, RS.then_ret, RS.then_brk, RS.then_cnt, RS.then_exn, RS.ifB_t, RS.ifB_f, RS.caught_next, RS.caught_ret, RS.caught_exn, RS.suite_next, RS.suite_ret, pIsx, pIs, pIsN, lamR_enc_ok, lamR_enc_exn, Pf.toldTo, R.bind_ok, R.bind_exn, pBin, pCmp, pAdd, pSub, pNeg, pLt, pLe, pNot, pIx, pSeq, pInt, getE, getB, setOwR, Pf.putAt, Pf.popTo, Pf.scrTo, Pf.unpTo, pIsa, asgT, setAll, killAll, PX.isN, PX.isB, PXs.hasB, Bool.false_eq_true, Bool.or_false, Bool.or_self, List.getElem?_cons_zero, List.getElem?_cons_succ, List.set_cons_zero, List.set_cons_succ, List.length_cons, List.length_nil, List.getD_cons_zero, List.getD_cons_succ, Nat.reduceAdd, Nat.reduceLT, Nat.zero_lt_succ, Nat.zero_add, ite_self, Bool.false_or, Bool.true_or, iL_len, Int.cast_ofNat_Int, Bool.and_true, Bool.true_and, bi_len_lst, bi_len_tup, bi_len_rl, bi_list_lst, bi_list_tup, bi_list_rl, bi_tuple_lst, bi_tuple_tup, bi_tuple_rl, bi_int_int, bi_int_b, at_two, int_if, at3_0, at3_1, at3_2, at2_0, at2_1, List.take_succ_cons, List.take_zero, List.drop_succ_cons, List.drop_zero, sum_ok, sl_lst, sl_tup, sl_rl, part_t, part_f, if_true, if_false, ite_true, ite_false, reduceIte, Nat.reduceLeDiff, Nat.reduceSub, eq_self, and_self, and_true, true_and, hn2, List.length_map, List.length_range, Int.lt_irrefl, decide_false]
  rw [show min n s.length + (n - min n s.length) = n by omega]
  simp -implicitDefEqProofs only [evSs, evS, evE, evEs, evI, RS.of_ok, RS.of_exn, RS.ofL_ok, RS.ofL_exn, RS.then_next, RS.then_ret, RS.then_brk, RS.then_cnt, RS.then_exn, RS.ifB_t, RS.ifB_f, RS.caught_next, RS.caught_ret, RS.caught_exn, RS.suite_next, RS.suite_ret, pIsx, pIs, pIsN, lamR_enc_ok, lamR_enc_exn, Pf.toldTo, R.bind_ok, R.bind_exn, pBin, pCmp, pAdd, pSub, pNeg, pLt, pLe, pNot, pIx, pSeq, pInt, getE, getB, setOwR, Pf.putAt, Pf.popTo, Pf.scrTo, Pf.unpTo, pIsa, asgT, setAll, killAll, PX.isN, PX.isB, PXs.hasB, Bool.false_eq_true, Bool.or_false, Bool.or_self, List.getElem?_cons_zero, List.getElem?_cons_succ, List.set_cons_zero, List.set_cons_succ, List.length_cons, List.length_nil, List.getD_cons_zero, List.getD_cons_succ, Nat.reduceAdd, Nat.reduceLT, Nat.zero_lt_succ, Nat.zero_add, ite_self, Bool.false_or, Bool.true_or, iL_len, Int.cast_ofNat_Int, Bool.and_true, Bool.true_and, bi_len_lst, bi_len_tup, bi_len_rl, bi_list_lst, bi_list_tup, bi_list_rl, bi_tuple_lst, bi_tuple_tup, bi_tuple_rl, bi_int_int, bi_int_b, at_two, int_if, at3_0, at3_1, at3_2, at2_0, at2_1, List.take_succ_cons, List.take_zero, List.drop_succ_cons, List.drop_zero, sum_ok, sl_lst, sl_tup, sl_rl, part_t, part_f, if_true, if_false, ite_true, ite_false, reduceIte, Nat.reduceLeDiff, Nat.reduceSub, eq_self, and_self, and_true, true_and]
theorem told_by_ok {M B : Nat} {b : Int} {r s : List Int} (h : Rg M B b r s) (hM : M ≤ 1000000) (hB : 70 ≤ B) (hB2 : B ≤ 100000) (N m : Nat) (hf : 0 < b ∨ N ≤ 1100) (hm : m ≤ 500) : s_told_by [rowV b r s, .tup (iL (VL b r N)), .int (m : Int)] = .ok (.int (sq b r s (m + N))) := by
  have hL : LIM = 1000000 := rfl
  have l1 := h.len
  have l2 := h.le
  have hp := first_places_ok h hM hB hB2 (m + r.length) (by omega)
  unfold rowV at hp
  refine run_ret rfl ?_
  show evSs [s_first_places, s_taken] [] false c_told_by [.sh (rowV b r s), .sh (.tup (iL (VL b r N))), .sh (.int (m : Int)), .no, .no, .no] = _
  simp -implicitDefEqProofs only [c_told_by, evSs, evS, evE, evEs, evI, RS.of_ok, RS.of_exn, RS.ofL_ok, RS.ofL_exn, RS.then_next, RS.then_ret, RS.then_brk, RS.then_cnt, RS.then_exn, RS.ifB_t, RS.ifB_f, RS.caught_next, RS.caught_ret, RS.caught_exn, RS.suite_next, RS.suite_ret, pIsx, pIs, pIsN, lamR_enc_ok, lamR_enc_exn, Pf.toldTo, R.bind_ok, R.bind_exn, pBin, pCmp, pAdd, pSub, pNeg, pLt, pLe, pNot, pIx, pSeq, pInt, getE, getB, setOwR, Pf.putAt, Pf.popTo, Pf.scrTo, Pf.unpTo, pIsa, asgT, setAll, killAll, PX.isN, PX.isB, PXs.hasB, Bool.false_eq_true, Bool.or_false, Bool.or_self, List.getElem?_cons_zero, List.getElem?_cons_succ, List.set_cons_zero, List.set_cons_succ, List.length_cons, List.length_nil, List.getD_cons_zero, List.getD_cons_succ, Nat.reduceAdd, Nat.reduceLT, Nat.zero_lt_succ, Nat.zero_add, ite_self, Bool.false_or, Bool.true_or, iL_len, Int.cast_ofNat_Int, Bool.and_true, Bool.true_and, bi_len_lst, bi_len_tup, bi_len_rl, bi_list_lst, bi_list_tup, bi_list_rl, bi_tuple_lst, bi_tuple_tup, bi_tuple_rl, bi_int_int, bi_int_b, at_two, int_if, at3_0, at3_1, at3_2, at2_0, at2_1, List.take_succ_cons, List.take_zero, List.drop_succ_cons, List.drop_zero, sum_ok, sl_lst, sl_tup, sl_rl, part_t, part_f, if_true, if_false, ite_true, ite_false, reduceIte, Nat.reduceLeDiff, Nat.reduceSub, eq_self, and_self, and_true, true_and, rowV, VL_len, ← Int.natCast_add, hp]
  rw [compL_enum (fun k => U b r k N * sq b r s (m + k)) (VL b r N) ?hc]
  case hc =>
    intro k hk
    rw [VL_len] at hk
    refine ⟨_, rfl, rfl, ?_⟩
    simp -implicitDefEqProofs only [evSs, evS, evE, evEs, evI, RS.of_ok, RS.of_exn, RS.ofL_ok, RS.ofL_exn, RS.then_next, RS.then_ret, RS.then_brk, RS.then_cnt, RS.then_exn, RS.ifB_t, RS.ifB_f, RS.caught_next, RS.caught_ret, RS.caught_exn, RS.suite_next, RS.suite_ret, pIsx, pIs, pIsN, lamR_enc_ok, lamR_enc_exn, Pf.toldTo, R.bind_ok, R.bind_exn, pBin, pCmp, pAdd, pSub, pNeg, pLt, pLe, pNot, pIx, pSeq, pInt, getE, getB, setOwR, Pf.putAt, Pf.popTo, Pf.scrTo, Pf.unpTo, pIsa, asgT, setAll, killAll, PX.isN, PX.isB, PXs.hasB, Bool.false_eq_true, Bool.or_false, Bool.or_self, List.getElem?_cons_zero, List.getElem?_cons_succ, List.set_cons_zero, List.set_cons_succ, List.length_cons, List.length_nil, List.getD_cons_zero, List.getD_cons_succ, Nat.reduceAdd, Nat.reduceLT, Nat.zero_lt_succ, Nat.zero_add, ite_self, Bool.false_or, Bool.true_or, iL_len, Int.cast_ofNat_Int, Bool.and_true, Bool.true_and, bi_len_lst, bi_len_tup, bi_len_rl, bi_list_lst, bi_list_tup, bi_list_rl, bi_tuple_lst, bi_tuple_tup, bi_tuple_rl, bi_int_int, bi_int_b, at_two, int_if, at3_0, at3_1, at3_2, at2_0, at2_1, List.take_succ_cons, List.take_zero, List.drop_succ_cons, List.drop_zero, sum_ok, sl_lst, sl_tup, sl_rl, part_t, part_f, if_true, if_false, ite_true, ite_false, reduceIte, Nat.reduceLeDiff, Nat.reduceSub, eq_self, and_self, and_true, true_and, ← Int.natCast_add]
    rw [pAt_cfn _ (m + k) (by simp; omega), cf_rng _ (by omega), show cf (VL b r N) k = U b r k N from cf_rng _ hk]
    simp -implicitDefEqProofs only [evSs, evS, evE, evEs, evI, RS.of_ok, RS.of_exn, RS.ofL_ok, RS.ofL_exn, RS.then_next, RS.then_ret, RS.then_brk, RS.then_cnt, RS.then_exn, RS.ifB_t, RS.ifB_f, RS.caught_next, RS.caught_ret, RS.caught_exn, RS.suite_next, RS.suite_ret, pIsx, pIs, pIsN, lamR_enc_ok, lamR_enc_exn, Pf.toldTo, R.bind_ok, R.bind_exn, pBin, pCmp, pAdd, pSub, pNeg, pLt, pLe, pNot, pIx, pSeq, pInt, getE, getB, setOwR, Pf.putAt, Pf.popTo, Pf.scrTo, Pf.unpTo, pIsa, asgT, setAll, killAll, PX.isN, PX.isB, PXs.hasB, Bool.false_eq_true, Bool.or_false, Bool.or_self, List.getElem?_cons_zero, List.getElem?_cons_succ, List.set_cons_zero, List.set_cons_succ, List.length_cons, List.length_nil, List.getD_cons_zero, List.getD_cons_succ, Nat.reduceAdd, Nat.reduceLT, Nat.zero_lt_succ, Nat.zero_add, ite_self, Bool.false_or, Bool.true_or, iL_len, Int.cast_ofNat_Int, Bool.and_true, Bool.true_and, bi_len_lst, bi_len_tup, bi_len_rl, bi_list_lst, bi_list_tup, bi_list_rl, bi_tuple_lst, bi_tuple_tup, bi_tuple_rl, bi_int_int, bi_int_b, at_two, int_if, at3_0, at3_1, at3_2, at2_0, at2_1, List.take_succ_cons, List.take_zero, List.drop_succ_cons, List.drop_zero, sum_ok, sl_lst, sl_tup, sl_rl, part_t, part_f, if_true, if_false, ite_true, ite_false, reduceIte, Nat.reduceLeDiff, Nat.reduceSub, eq_self, and_self, and_true, true_and]
    rw [mul_bd (U_bd h.b0 h.b1 h.bn (by omega) (h.rb hM) k N hf) (h.sb hM hB _) (by decide) (by omega)]
  simp -implicitDefEqProofs only [evSs, evS, evE, evEs, evI, RS.of_ok, RS.of_exn, RS.ofL_ok, RS.ofL_exn, RS.then_next, RS.then_ret, RS.then_brk, RS.then_cnt, RS.then_exn, RS.ifB_t, RS.ifB_f, RS.caught_next, RS.caught_ret, RS.caught_exn, RS.suite_next, RS.suite_ret, pIsx, pIs, pIsN, lamR_enc_ok, lamR_enc_exn, Pf.toldTo, R.bind_ok, R.bind_exn, pBin, pCmp, pAdd, pSub, pNeg, pLt, pLe, pNot, pIx, pSeq, pInt, getE, getB, setOwR, Pf.putAt, Pf.popTo, Pf.scrTo, Pf.unpTo, pIsa, asgT, setAll, killAll, PX.isN, PX.isB, PXs.hasB, Bool.false_eq_true, Bool.or_false, Bool.or_self, List.getElem?_cons_zero, List.getElem?_cons_succ, List.set_cons_zero, List.set_cons_succ, List.length_cons, List.length_nil, List.getD_cons_zero, List.getD_cons_succ, Nat.reduceAdd, Nat.reduceLT, Nat.zero_lt_succ, Nat.zero_add, ite_self, Bool.false_or, Bool.true_or, iL_len, Int.cast_ofNat_Int, Bool.and_true, Bool.true_and, bi_len_lst, bi_len_tup, bi_len_rl, bi_list_lst, bi_list_tup, bi_list_rl, bi_tuple_lst, bi_tuple_tup, bi_tuple_rl, bi_int_int, bi_int_b, at_two, int_if, at3_0, at3_1, at3_2, at2_0, at2_1, List.take_succ_cons, List.take_zero, List.drop_succ_cons, List.drop_zero, sum_ok, sl_lst, sl_tup, sl_rl, part_t, part_f, if_true, if_false, ite_true, ite_false, reduceIte, Nat.reduceLeDiff, Nat.reduceSub, eq_self, and_self, and_true, true_and, pEnum_len, VL_len, show r.length ≤ LIM by omega, sm_map, taken_ok h.b0, J h.len m N, h.red]
theorem place_at_ok {M B : Nat} {b : Int} {r s : List Int} (h : Rg M B b r s) (hM : M ≤ 1000000) (hB : 70 ≤ B) (hB2 : B ≤ 100000) (N : Nat) (hN : N < 2 ^ 300) (hf : ¬ b = 0 ∨ N ≤ 400) : s_place_at [rowV b r s, .int (N : Int)] = .ok (.int (sq b r s N)) := by
  have l1 := h.len
  have l2 := h.le
  have b0 := h.b0
  have hj := jump_ok (s := s) h.b0 h.b1 h.bn (show r.length ≤ 12 by omega) (h.rb hM) N hN hf
  have ht := told_by_ok h hM hB hB2 N 0 (hf.imp (fun q => by omega) (fun q => by omega)) (by decide)
  have ht : s_told_by [rowV b r s, .tup (iL (VL b r N)), .int 0] = .ok (.int (sq b r s N)) := by
    rw [Nat.zero_add] at ht
    exact ht
  refine run_ret rfl ?_
  show evSs [s_told_by, s_jump] [] false c_place_at [.sh (rowV b r s), .sh (.int (N : Int))] = _
  unfold rowV at ht
  simp -implicitDefEqProofs only [c_place_at, evSs, evS, evE, evEs, evI, RS.of_ok, RS.of_exn, RS.ofL_ok, RS.ofL_exn, RS.then_next, RS.then_ret, RS.then_brk, RS.then_cnt, RS.then_exn, RS.ifB_t, RS.ifB_f, RS.caught_next, RS.caught_ret, RS.caught_exn, RS.suite_next, RS.suite_ret, pIsx, pIs, pIsN, lamR_enc_ok, lamR_enc_exn, Pf.toldTo, R.bind_ok, R.bind_exn, pBin, pCmp, pAdd, pSub, pNeg, pLt, pLe, pNot, pIx, pSeq, pInt, getE, getB, setOwR, Pf.putAt, Pf.popTo, Pf.scrTo, Pf.unpTo, pIsa, asgT, setAll, killAll, PX.isN, PX.isB, PXs.hasB, Bool.false_eq_true, Bool.or_false, Bool.or_self, List.getElem?_cons_zero, List.getElem?_cons_succ, List.set_cons_zero, List.set_cons_succ, List.length_cons, List.length_nil, List.getD_cons_zero, List.getD_cons_succ, Nat.reduceAdd, Nat.reduceLT, Nat.zero_lt_succ, Nat.zero_add, ite_self, Bool.false_or, Bool.true_or, iL_len, Int.cast_ofNat_Int, Bool.and_true, Bool.true_and, bi_len_lst, bi_len_tup, bi_len_rl, bi_list_lst, bi_list_tup, bi_list_rl, bi_tuple_lst, bi_tuple_tup, bi_tuple_rl, bi_int_int, bi_int_b, at_two, int_if, at3_0, at3_1, at3_2, at2_0, at2_1, List.take_succ_cons, List.take_zero, List.drop_succ_cons, List.drop_zero, sum_ok, sl_lst, sl_tup, sl_rl, part_t, part_f, if_true, if_false, ite_true, ite_false, reduceIte, Nat.reduceLeDiff, Nat.reduceSub, eq_self, and_self, and_true, true_and, rowV, hj, ht]
theorem cut_mid (xs : List PV) (i k : Nat) (h : i + k ≤ xs.length) : pCut xs (some (i : Int)) (some ((i : Int) + (k : Int))) = (xs.drop i).take k := by
  unfold pCut
  rw [show (i : Int) + (k : Int) = ((i + k : Nat) : Int) by omega, HT.sIx_nat, HT.sIx_nat, Nat.min_eq_left (by omega), Nat.min_eq_left (by omega), show i + k - i = k by omega]
theorem mid_rng (f : Nat → Int) (K n k : Nat) (h : n + k ≤ K) : (((List.range K).map f).drop n).take k = (List.range k).map fun i => f (n + i) := by
  apply cf_ext (by simp; omega)
  intro i hi
  have hi : i < k := by simp at hi; omega
  rw [cf_take, if_pos hi, cf_drop, cf_rng _ (by omega), cf_rng _ hi]
/-! ### rows from a place on -/
def sW (b : Int) (r s : List Int) (N : Nat) : List Int := (List.range r.length).map fun m => sq b r s (N + m)
theorem sW_len (b : Int) (r s : List Int) (N : Nat) : (sW b r s N).length = r.length := by simp [sW]
theorem sW_seq {b : Int} {r s : List Int} (hl : r.length = s.length) (N n : Nat) : sq b r (sW b r s N) n = sq b r s (N + n) :=
  sq_from N hl (by simp [hl]) (fun k hk => cf_rng _ (by omega)) n
theorem Rg.onw {M B : Nat} {b : Int} {r s : List Int} (h : Rg M B b r s) (hM : M ≤ 1000000) (hB : 70 ≤ B) (N : Nat) (hf : ¬ b = 0 ∨ N ≤ 420) : Rg M (B + 32560) b r (sW b r s N) := by
  refine ⟨h.b0, h.b1, h.bn, by rw [sW_len], by rw [sW_len, h.len]; exact h.le, h.rr, fun x hx => ?_⟩
  obtain ⟨m, hm, rfl⟩ := List.mem_map.mp hx
  have hm := List.mem_range.mp hm
  have l1 := h.len
  have l2 := h.le
  refine ⟨h.red _, ?_⟩
  rcases hf with hf | hf
  · have b0 := h.b0
    have b1 := h.b1
    have e0 := tk_nonneg (show 0 < b by omega) (sq b r s (N + m))
    have e1 := tk_lt (show 0 < b by omega) (sq b r s (N + m))
    rw [h.red] at e0 e1
    exact bd_mono (n := 10) (by unfold bd; omega) (by omega)
  · exact bd_mono (h.sb hM hB _) (by omega)
theorem onward_ok {M B : Nat} {b : Int} {r s : List Int} (h : Rg M B b r s) (hM : M ≤ 1000000) (hB : 70 ≤ B) (hB2 : B ≤ 100000) (N : Nat) (hN : N < 2 ^ 300) (hf : ¬ b = 0 ∨ N ≤ 400) : s_onward [rowV b r s, .int (N : Int)] = .ok (rowV b r (sW b r s N)) := by
  have hL : LIM = 1000000 := rfl
  have l1 := h.len
  have l2 := h.le
  have b0 := h.b0
  have hj := jump_ok (s := s) h.b0 h.b1 h.bn (show r.length ≤ 12 by omega) (h.rb hM) N hN hf
  refine run_ret rfl ?_
  show evSs [s_jump, s_told_by] [] false c_onward [.sh (rowV b r s), .sh (.int (N : Int)), .no, .no] = _
  simp -implicitDefEqProofs only [c_onward, evSs, evS, evE, evEs, evI, RS.of_ok, RS.of_exn, RS.ofL_ok, RS.ofL_exn, RS.then_next, RS.then_ret, RS.then_brk, RS.then_cnt, RS.then_exn, RS.ifB_t, RS.ifB_f, RS.caught_next, RS.caught_ret, RS.caught_exn, RS.suite_next, RS.suite_ret, pIsx, pIs, pIsN, lamR_enc_ok, lamR_enc_exn, Pf.toldTo, R.bind_ok, R.bind_exn, pBin, pCmp, pAdd, pSub, pNeg, pLt, pLe, pNot, pIx, pSeq, pInt, getE, getB, setOwR, Pf.putAt, Pf.popTo, Pf.scrTo, Pf.unpTo, pIsa, asgT, setAll, killAll, PX.isN, PX.isB, PXs.hasB, Bool.false_eq_true, Bool.or_false, Bool.or_self, List.getElem?_cons_zero, List.getElem?_cons_succ, List.set_cons_zero, List.set_cons_succ, List.length_cons, List.length_nil, List.getD_cons_zero, List.getD_cons_succ, Nat.reduceAdd, Nat.reduceLT, Nat.zero_lt_succ, Nat.zero_add, ite_self, Bool.false_or, Bool.true_or, iL_len, Int.cast_ofNat_Int, Bool.and_true, Bool.true_and, bi_len_lst, bi_len_tup, bi_len_rl, bi_list_lst, bi_list_tup, bi_list_rl, bi_tuple_lst, bi_tuple_tup, bi_tuple_rl, bi_int_int, bi_int_b, at_two, int_if, at3_0, at3_1, at3_2, at2_0, at2_1, List.take_succ_cons, List.take_zero, List.drop_succ_cons, List.drop_zero, sum_ok, sl_lst, sl_tup, sl_rl, part_t, part_f, if_true, if_false, ite_true, ite_false, reduceIte, Nat.reduceLeDiff, Nat.reduceSub, eq_self, and_self, and_true, true_and, rowV, hj, iL_len, span_nat (show r.length ≤ LIM by omega), Int.toNat_natCast]
  rw [compL_rngA (fun m => sq b r s (N + m)) r.length ?hc]
  case hc =>
    intro m hm
    have ht := told_by_ok h hM hB hB2 N m (hf.imp (fun q => by omega) (fun q => by omega)) (by omega)
    rw [Nat.add_comm] at ht
    unfold rowV at ht
    exact ⟨_, rfl, rfl, by simp -implicitDefEqProofs only [evSs, evS, evE, evEs, evI, RS.of_ok, RS.of_exn, RS.ofL_ok, RS.ofL_exn, RS.then_next, RS.then_ret, RS.then_brk, RS.then_cnt, RS.then_exn, RS.ifB_t, RS.ifB_f, RS.caught_next, RS.caught_ret, RS.caught_exn, RS.suite_next, RS.suite_ret, pIsx, pIs, pIsN, lamR_enc_ok, lamR_enc_exn, Pf.toldTo, R.bind_ok, R.bind_exn, pBin, pCmp, pAdd, pSub, pNeg, pLt, pLe, pNot, pIx, pSeq, pInt, getE, getB, setOwR, Pf.putAt, Pf.popTo, Pf.scrTo, Pf.unpTo, pIsa, asgT, setAll, killAll, PX.isN, PX.isB, PXs.hasB, Bool.false_eq_true, Bool.or_false, Bool.or_self, List.getElem?_cons_zero, List.getElem?_cons_succ, List.set_cons_zero, List.set_cons_succ, List.length_cons, List.length_nil, List.getD_cons_zero, List.getD_cons_succ, Nat.reduceAdd, Nat.reduceLT, Nat.zero_lt_succ, Nat.zero_add, ite_self, Bool.false_or, Bool.true_or, iL_len, Int.cast_ofNat_Int, Bool.and_true, Bool.true_and, bi_len_lst, bi_len_tup, bi_len_rl, bi_list_lst, bi_list_tup, bi_list_rl, bi_tuple_lst, bi_tuple_tup, bi_tuple_rl, bi_int_int, bi_int_b, at_two, int_if, at3_0, at3_1, at3_2, at2_0, at2_1, List.take_succ_cons, List.take_zero, List.drop_succ_cons, List.drop_zero, sum_ok, sl_lst, sl_tup, sl_rl, part_t, part_f, if_true, if_false, ite_true, ite_false, reduceIte, Nat.reduceLeDiff, Nat.reduceSub, eq_self, and_self, and_true, true_and, ht]⟩
  simp -implicitDefEqProofs only [evSs, evS, evE, evEs, evI, RS.of_ok, RS.of_exn, RS.ofL_ok, RS.ofL_exn, RS.then_next, RS.then_ret, RS.then_brk, RS.then_cnt, RS.then_exn, RS.ifB_t, RS.ifB_f, RS.caught_next, RS.caught_ret, RS.caught_exn, RS.suite_next, RS.suite_ret, pIsx, pIs, pIsN, lamR_enc_ok, lamR_enc_exn, Pf.toldTo, R.bind_ok, R.bind_exn, pBin, pCmp, pAdd, pSub, pNeg, pLt, pLe, pNot, pIx, pSeq, pInt, getE, getB, setOwR, Pf.putAt, Pf.popTo, Pf.scrTo, Pf.unpTo, pIsa, asgT, setAll, killAll, PX.isN, PX.isB, PXs.hasB, Bool.false_eq_true, Bool.or_false, Bool.or_self, List.getElem?_cons_zero, List.getElem?_cons_succ, List.set_cons_zero, List.set_cons_succ, List.length_cons, List.length_nil, List.getD_cons_zero, List.getD_cons_succ, Nat.reduceAdd, Nat.reduceLT, Nat.zero_lt_succ, Nat.zero_add, ite_self, Bool.false_or, Bool.true_or, iL_len, Int.cast_ofNat_Int, Bool.and_true, Bool.true_and, bi_len_lst, bi_len_tup, bi_len_rl, bi_list_lst, bi_list_tup, bi_list_rl, bi_tuple_lst, bi_tuple_tup, bi_tuple_rl, bi_int_int, bi_int_b, at_two, int_if, at3_0, at3_1, at3_2, at2_0, at2_1, List.take_succ_cons, List.take_zero, List.drop_succ_cons, List.drop_zero, sum_ok, sl_lst, sl_tup, sl_rl, part_t, part_f, if_true, if_false, ite_true, ite_false, reduceIte, Nat.reduceLeDiff, Nat.reduceSub, eq_self, and_self, and_true, true_and, rngL_len, show r.length ≤ LIM by omega]
  rfl
theorem ask_far_exn {b : Int} {r s : List Int} (N : Int) (hf : N < 0 ∨ b = 0 ∧ 400 < N) : s_ask_far [.tup [.int b, .tup (iL r), .tup (iL s)], .int N] = .exn 4 := by
  refine run_exn rfl (ρ := [.sh (.tup [.int b, .tup (iL r), .tup (iL s)]), .sh (.int N)]) ?_
  show evSs [] [cn_FARTHEST] false c_ask_far [.sh (.tup [.int b, .tup (iL r), .tup (iL s)]), .sh (.int N)] = _
  by_cases h : N < 0
  · simp -implicitDefEqProofs only [c_ask_far, cn_FARTHEST, evSs, evS, evE, evEs, evI, RS.of_ok, RS.of_exn, RS.ofL_ok, RS.ofL_exn, RS.then_next, RS.then_ret, RS.then_brk, RS.then_cnt, RS.then_exn, RS.ifB_t, RS.ifB_f, RS.caught_next, RS.caught_ret, RS.caught_exn, RS.suite_next, RS.suite_ret, pIsx, pIs, pIsN, lamR_enc_ok, lamR_enc_exn, Pf.toldTo, R.bind_ok, R.bind_exn, pBin, pCmp, pAdd, pSub, pNeg, pLt, pLe, pNot, pIx, pSeq, pInt, getE, getB, setOwR, Pf.putAt, Pf.popTo, Pf.scrTo, Pf.unpTo, pIsa, asgT, setAll, killAll, PX.isN, PX.isB, PXs.hasB, Bool.false_eq_true, Bool.or_false, Bool.or_self, List.getElem?_cons_zero, List.getElem?_cons_succ, List.set_cons_zero, List.set_cons_succ, List.length_cons, List.length_nil, List.getD_cons_zero, List.getD_cons_succ, Nat.reduceAdd, Nat.reduceLT, Nat.zero_lt_succ, Nat.zero_add, ite_self, Bool.false_or, Bool.true_or, iL_len, Int.cast_ofNat_Int, Bool.and_true, Bool.true_and, bi_len_lst, bi_len_tup, bi_len_rl, bi_list_lst, bi_list_tup, bi_list_rl, bi_tuple_lst, bi_tuple_tup, bi_tuple_rl, bi_int_int, bi_int_b, at_two, int_if, at3_0, at3_1, at3_2, at2_0, at2_1, List.take_succ_cons, List.take_zero, List.drop_succ_cons, List.drop_zero, sum_ok, sl_lst, sl_tup, sl_rl, part_t, part_f, if_true, if_false, ite_true, ite_false, reduceIte, Nat.reduceLeDiff, Nat.reduceSub, eq_self, and_self, and_true, true_and, h, decide_true]
  · have h2 := hf.resolve_left h
    simp -implicitDefEqProofs only [c_ask_far, cn_FARTHEST, evSs, evS, evE, evEs, evI, RS.of_ok, RS.of_exn, RS.ofL_ok, RS.ofL_exn, RS.then_next, RS.then_ret, RS.then_brk, RS.then_cnt, RS.then_exn, RS.ifB_t, RS.ifB_f, RS.caught_next, RS.caught_ret, RS.caught_exn, RS.suite_next, RS.suite_ret, pIsx, pIs, pIsN, lamR_enc_ok, lamR_enc_exn, Pf.toldTo, R.bind_ok, R.bind_exn, pBin, pCmp, pAdd, pSub, pNeg, pLt, pLe, pNot, pIx, pSeq, pInt, getE, getB, setOwR, Pf.putAt, Pf.popTo, Pf.scrTo, Pf.unpTo, pIsa, asgT, setAll, killAll, PX.isN, PX.isB, PXs.hasB, Bool.false_eq_true, Bool.or_false, Bool.or_self, List.getElem?_cons_zero, List.getElem?_cons_succ, List.set_cons_zero, List.set_cons_succ, List.length_cons, List.length_nil, List.getD_cons_zero, List.getD_cons_succ, Nat.reduceAdd, Nat.reduceLT, Nat.zero_lt_succ, Nat.zero_add, ite_self, Bool.false_or, Bool.true_or, iL_len, Int.cast_ofNat_Int, Bool.and_true, Bool.true_and, bi_len_lst, bi_len_tup, bi_len_rl, bi_list_lst, bi_list_tup, bi_list_rl, bi_tuple_lst, bi_tuple_tup, bi_tuple_rl, bi_int_int, bi_int_b, at_two, int_if, at3_0, at3_1, at3_2, at2_0, at2_1, List.take_succ_cons, List.take_zero, List.drop_succ_cons, List.drop_zero, sum_ok, sl_lst, sl_tup, sl_rl, part_t, part_f, if_true, if_false, ite_true, ite_false, reduceIte, Nat.reduceLeDiff, Nat.reduceSub, eq_self, and_self, and_true, true_and, h, decide_false, eq_int, h2.1, decide_true, gt_iff_lt, h2.2]
theorem jump_exn {b : Int} {r s : List Int} (N : Int) (hf : N < 0 ∨ b = 0 ∧ 400 < N) : s_jump [.tup [.int b, .tup (iL r), .tup (iL s)], .int N] = .exn 4 := by
  refine run_exn rfl (ρ := [.sh (.tup [.int b, .tup (iL r), .tup (iL s)]), .sh (.int N), .no]) ?_
  show evSs [s_ask_far, s_power_left, s_of_rule] [] false c_jump [.sh (.tup [.int b, .tup (iL r), .tup (iL s)]), .sh (.int N), .no] = _
  simp -implicitDefEqProofs only [c_jump, evSs, evS, evE, evEs, evI, RS.of_ok, RS.of_exn, RS.ofL_ok, RS.ofL_exn, RS.then_next, RS.then_ret, RS.then_brk, RS.then_cnt, RS.then_exn, RS.ifB_t, RS.ifB_f, RS.caught_next, RS.caught_ret, RS.caught_exn, RS.suite_next, RS.suite_ret, pIsx, pIs, pIsN, lamR_enc_ok, lamR_enc_exn, Pf.toldTo, R.bind_ok, R.bind_exn, pBin, pCmp, pAdd, pSub, pNeg, pLt, pLe, pNot, pIx, pSeq, pInt, getE, getB, setOwR, Pf.putAt, Pf.popTo, Pf.scrTo, Pf.unpTo, pIsa, asgT, setAll, killAll, PX.isN, PX.isB, PXs.hasB, Bool.false_eq_true, Bool.or_false, Bool.or_self, List.getElem?_cons_zero, List.getElem?_cons_succ, List.set_cons_zero, List.set_cons_succ, List.length_cons, List.length_nil, List.getD_cons_zero, List.getD_cons_succ, Nat.reduceAdd, Nat.reduceLT, Nat.zero_lt_succ, Nat.zero_add, ite_self, Bool.false_or, Bool.true_or, iL_len, Int.cast_ofNat_Int, Bool.and_true, Bool.true_and, bi_len_lst, bi_len_tup, bi_len_rl, bi_list_lst, bi_list_tup, bi_list_rl, bi_tuple_lst, bi_tuple_tup, bi_tuple_rl, bi_int_int, bi_int_b, at_two, int_if, at3_0, at3_1, at3_2, at2_0, at2_1, List.take_succ_cons, List.take_zero, List.drop_succ_cons, List.drop_zero, sum_ok, sl_lst, sl_tup, sl_rl, part_t, part_f, if_true, if_false, ite_true, ite_false, reduceIte, Nat.reduceLeDiff, Nat.reduceSub, eq_self, and_self, and_true, true_and, ask_far_exn N hf]
theorem onward_exn {b : Int} {r s : List Int} (N : Int) (hf : N < 0 ∨ b = 0 ∧ 400 < N) : s_onward [.tup [.int b, .tup (iL r), .tup (iL s)], .int N] = .exn 4 := by
  refine run_exn rfl (ρ := [.sh (.tup [.int b, .tup (iL r), .tup (iL s)]), .sh (.int N), .no, .no]) ?_
  show evSs [s_jump, s_told_by] [] false c_onward [.sh (.tup [.int b, .tup (iL r), .tup (iL s)]), .sh (.int N), .no, .no] = _
  simp -implicitDefEqProofs only [c_onward, evSs, evS, evE, evEs, evI, RS.of_ok, RS.of_exn, RS.ofL_ok, RS.ofL_exn, RS.then_next, RS.then_ret, RS.then_brk, RS.then_cnt, RS.then_exn, RS.ifB_t, RS.ifB_f, RS.caught_next, RS.caught_ret, RS.caught_exn, RS.suite_next, RS.suite_ret, pIsx, pIs, pIsN, lamR_enc_ok, lamR_enc_exn, Pf.toldTo, R.bind_ok, R.bind_exn, pBin, pCmp, pAdd, pSub, pNeg, pLt, pLe, pNot, pIx, pSeq, pInt, getE, getB, setOwR, Pf.putAt, Pf.popTo, Pf.scrTo, Pf.unpTo, pIsa, asgT, setAll, killAll, PX.isN, PX.isB, PXs.hasB, Bool.false_eq_true, Bool.or_false, Bool.or_self, List.getElem?_cons_zero, List.getElem?_cons_succ, List.set_cons_zero, List.set_cons_succ, List.length_cons, List.length_nil, List.getD_cons_zero, List.getD_cons_succ, Nat.reduceAdd, Nat.reduceLT, Nat.zero_lt_succ, Nat.zero_add, ite_self, Bool.false_or, Bool.true_or, iL_len, Int.cast_ofNat_Int, Bool.and_true, Bool.true_and, bi_len_lst, bi_len_tup, bi_len_rl, bi_list_lst, bi_list_tup, bi_list_rl, bi_tuple_lst, bi_tuple_tup, bi_tuple_rl, bi_int_int, bi_int_b, at_two, int_if, at3_0, at3_1, at3_2, at2_0, at2_1, List.take_succ_cons, List.take_zero, List.drop_succ_cons, List.drop_zero, sum_ok, sl_lst, sl_tup, sl_rl, part_t, part_f, if_true, if_false, ite_true, ite_false, reduceIte, Nat.reduceLeDiff, Nat.reduceSub, eq_self, and_self, and_true, true_and, jump_exn N hf]
theorem place_at_exn {b : Int} {r s : List Int} (N : Int) (hf : N < 0 ∨ b = 0 ∧ 400 < N) : s_place_at [.tup [.int b, .tup (iL r), .tup (iL s)], .int N] = .exn 4 := by
  refine run_exn rfl (ρ := [.sh (.tup [.int b, .tup (iL r), .tup (iL s)]), .sh (.int N)]) ?_
  show evSs [s_told_by, s_jump] [] false c_place_at [.sh (.tup [.int b, .tup (iL r), .tup (iL s)]), .sh (.int N)] = _
  simp -implicitDefEqProofs only [c_place_at, evSs, evS, evE, evEs, evI, RS.of_ok, RS.of_exn, RS.ofL_ok, RS.ofL_exn, RS.then_next, RS.then_ret, RS.then_brk, RS.then_cnt, RS.then_exn, RS.ifB_t, RS.ifB_f, RS.caught_next, RS.caught_ret, RS.caught_exn, RS.suite_next, RS.suite_ret, pIsx, pIs, pIsN, lamR_enc_ok, lamR_enc_exn, Pf.toldTo, R.bind_ok, R.bind_exn, pBin, pCmp, pAdd, pSub, pNeg, pLt, pLe, pNot, pIx, pSeq, pInt, getE, getB, setOwR, Pf.putAt, Pf.popTo, Pf.scrTo, Pf.unpTo, pIsa, asgT, setAll, killAll, PX.isN, PX.isB, PXs.hasB, Bool.false_eq_true, Bool.or_false, Bool.or_self, List.getElem?_cons_zero, List.getElem?_cons_succ, List.set_cons_zero, List.set_cons_succ, List.length_cons, List.length_nil, List.getD_cons_zero, List.getD_cons_succ, Nat.reduceAdd, Nat.reduceLT, Nat.zero_lt_succ, Nat.zero_add, ite_self, Bool.false_or, Bool.true_or, iL_len, Int.cast_ofNat_Int, Bool.and_true, Bool.true_and, bi_len_lst, bi_len_tup, bi_len_rl, bi_list_lst, bi_list_tup, bi_list_rl, bi_tuple_lst, bi_tuple_tup, bi_tuple_rl, bi_int_int, bi_int_b, at_two, int_if, at3_0, at3_1, at3_2, at2_0, at2_1, List.take_succ_cons, List.take_zero, List.drop_succ_cons, List.drop_zero, sum_ok, sl_lst, sl_tup, sl_rl, part_t, part_f, if_true, if_false, ite_true, ite_false, reduceIte, Nat.reduceLeDiff, Nat.reduceSub, eq_self, and_self, and_true, true_and, jump_exn N hf]
theorem dat_row (b : Int) (r s : List Int) : dat 8 (rowV b r s) = true := by
  show ([PV.int b, .tup (iL r), .tup (iL s)].all (dat 7)) = true
  rw [List.all_cons, List.all_cons, List.all_cons, dat_tupI 6, dat_tupI 6]
  rfl
theorem ne_row (b : Int) (r s r' s' : List Int) : pNe (rowV b r s) (rowV b r' s') = .ok (.bl (!(decide (r = r') && decide (s = s')))) := by
  unfold pNe
  rw [dat_row, dat_row]
  show R.ok (PV.bl (!pyEqs [.int b, .tup (iL r), .tup (iL s)] [.int b, .tup (iL r'), .tup (iL s')])) = _
  have e : pyEqs [.int b, .tup (iL r), .tup (iL s)] [.int b, .tup (iL r'), .tup (iL s')] = (b == b && (pyEqs (iL r) (iL r') && (pyEqs (iL s) (iL s') && true))) := rfl
  rw [e, pyEqs_iL, pyEqs_iL]
  simp
theorem eq_row (b : Int) (r s r' s' : List Int) : pEq (rowV b r s) (rowV b r' s') = .ok (.bl (decide (r = r') && decide (s = s'))) := by
  unfold pEq
  rw [dat_row, dat_row]
  show R.ok (PV.bl (pyEqs [.int b, .tup (iL r), .tup (iL s)] [.int b, .tup (iL r'), .tup (iL s')])) = _
  have e : pyEqs [.int b, .tup (iL r), .tup (iL s)] [.int b, .tup (iL r'), .tup (iL s')] = (b == b && (pyEqs (iL r) (iL r') && (pyEqs (iL s) (iL s') && true))) := rfl
  rw [e, pyEqs_iL, pyEqs_iL]
  simp
theorem refused_far : s_l_refused (.exn 4) = .ok (.bl true) := by
  show (match evSs [(fun _ => .exn 4 : Sem1)] [] false c_l_refused [.fn, .no, .no] with
    | .ret v => R.ok v
    | .next _ => .ok .non
    | _ => .bad) = _
  rfl
theorem all_refused_ok {b : Int} {r s : List Int} (N : Int) (hf : N < 0 ∨ b = 0 ∧ 400 < N) : s_l_all_refused [rowV b r s, .int N] = .ok (.bl true) := by
  refine run_ret rfl ?_
  show evSs [s_jump, s_onward, s_place_at, encL s_l_refused] [] false c_l_all_refused [.sh (rowV b r s), .sh (.int N)] = _
  simp -implicitDefEqProofs only [c_l_all_refused, evSs, evS, evE, evEs, evI, RS.of_ok, RS.of_exn, RS.ofL_ok, RS.ofL_exn, RS.then_next, RS.then_ret, RS.then_brk, RS.then_cnt, RS.then_exn, RS.ifB_t, RS.ifB_f, RS.caught_next, RS.caught_ret, RS.caught_exn, RS.suite_next, RS.suite_ret, pIsx, pIs, pIsN, lamR_enc_ok, lamR_enc_exn, Pf.toldTo, R.bind_ok, R.bind_exn, pBin, pCmp, pAdd, pSub, pNeg, pLt, pLe, pNot, pIx, pSeq, pInt, getE, getB, setOwR, Pf.putAt, Pf.popTo, Pf.scrTo, Pf.unpTo, pIsa, asgT, setAll, killAll, PX.isN, PX.isB, PXs.hasB, Bool.false_eq_true, Bool.or_false, Bool.or_self, List.getElem?_cons_zero, List.getElem?_cons_succ, List.set_cons_zero, List.set_cons_succ, List.length_cons, List.length_nil, List.getD_cons_zero, List.getD_cons_succ, Nat.reduceAdd, Nat.reduceLT, Nat.zero_lt_succ, Nat.zero_add, ite_self, Bool.false_or, Bool.true_or, iL_len, Int.cast_ofNat_Int, Bool.and_true, Bool.true_and, bi_len_lst, bi_len_tup, bi_len_rl, bi_list_lst, bi_list_tup, bi_list_rl, bi_tuple_lst, bi_tuple_tup, bi_tuple_rl, bi_int_int, bi_int_b, at_two, int_if, at3_0, at3_1, at3_2, at2_0, at2_1, List.take_succ_cons, List.take_zero, List.drop_succ_cons, List.drop_zero, sum_ok, sl_lst, sl_tup, sl_rl, part_t, part_f, if_true, if_false, ite_true, ite_false, reduceIte, Nat.reduceLeDiff, Nat.reduceSub, eq_self, and_self, and_true, true_and, rowV, jump_exn N hf, onward_exn N hf, place_at_exn N hf, refused_far, Bool.not_true]
theorem l_is_row_ok (b : Int) (r s : List Int) (h : s.length ≤ 1000) : s_l_is_row [rowV b r s, rowV b r s] = .ok (.bl true) := by
  have hL : LIM = 1000000 := rfl
  have hf : s.filter (fun _ => false) = [] := by simp
  have nn := ne_same (a := rowV b r s) rfl (dat_row ..)
  unfold rowV at nn
  refine run_ret rfl ?_
  show evSs [] [] false c_l_is_row [.sh (rowV b r s), .sh (rowV b r s), .no] = _
  simp -implicitDefEqProofs only [c_l_is_row, evSs, evS, evE, evEs, evI, RS.of_ok, RS.of_exn, RS.ofL_ok, RS.ofL_exn, RS.then_next, RS.then_ret, RS.then_brk, RS.then_cnt, RS.then_exn, RS.ifB_t, RS.ifB_f, RS.caught_next, RS.caught_ret, RS.caught_exn, RS.suite_next, RS.suite_ret, pIsx, pIs, pIsN, lamR_enc_ok, lamR_enc_exn, Pf.toldTo, R.bind_ok, R.bind_exn, pBin, pCmp, pAdd, pSub, pNeg, pLt, pLe, pNot, pIx, pSeq, pInt, getE, getB, setOwR, Pf.putAt, Pf.popTo, Pf.scrTo, Pf.unpTo, pIsa, asgT, setAll, killAll, PX.isN, PX.isB, PXs.hasB, Bool.false_eq_true, Bool.or_false, Bool.or_self, List.getElem?_cons_zero, List.getElem?_cons_succ, List.set_cons_zero, List.set_cons_succ, List.length_cons, List.length_nil, List.getD_cons_zero, List.getD_cons_succ, Nat.reduceAdd, Nat.reduceLT, Nat.zero_lt_succ, Nat.zero_add, ite_self, Bool.false_or, Bool.true_or, iL_len, Int.cast_ofNat_Int, Bool.and_true, Bool.true_and, bi_len_lst, bi_len_tup, bi_len_rl, bi_list_lst, bi_list_tup, bi_list_rl, bi_tuple_lst, bi_tuple_tup, bi_tuple_rl, bi_int_int, bi_int_b, at_two, int_if, at3_0, at3_1, at3_2, at2_0, at2_1, List.take_succ_cons, List.take_zero, List.drop_succ_cons, List.drop_zero, sum_ok, sl_lst, sl_tup, sl_rl, part_t, part_f, if_true, if_false, ite_true, ite_false, reduceIte, Nat.reduceLeDiff, Nat.reduceSub, eq_self, and_self, and_true, true_and, rowV, Bool.not_true, nn]
  rw [show iL s = s.map PV.int from rfl, compL_inj PV.int (fun _ => false) (fun x => .int x) s (fun x hx => ⟨_, rfl, by simp -implicitDefEqProofs only [evSs, evS, evE, evEs, evI, RS.of_ok, RS.of_exn, RS.ofL_ok, RS.ofL_exn, RS.then_next, RS.then_ret, RS.then_brk, RS.then_cnt, RS.then_exn, RS.ifB_t, RS.ifB_f, RS.caught_next, RS.caught_ret, RS.caught_exn, RS.suite_next, RS.suite_ret, pIsx, pIs, pIsN, lamR_enc_ok, lamR_enc_exn, Pf.toldTo, R.bind_ok, R.bind_exn, pBin, pCmp, pAdd, pSub, pNeg, pLt, pLe, pNot, pIx, pSeq, pInt, getE, getB, setOwR, Pf.putAt, Pf.popTo, Pf.scrTo, Pf.unpTo, pIsa, asgT, setAll, killAll, PX.isN, PX.isB, PXs.hasB, Bool.false_eq_true, Bool.or_false, Bool.or_self, List.getElem?_cons_zero, List.getElem?_cons_succ, List.set_cons_zero, List.set_cons_succ, List.length_cons, List.length_nil, List.getD_cons_zero, List.getD_cons_succ, Nat.reduceAdd, Nat.reduceLT, Nat.zero_lt_succ, Nat.zero_add, ite_self, Bool.false_or, Bool.true_or, iL_len, Int.cast_ofNat_Int, Bool.and_true, Bool.true_and, bi_len_lst, bi_len_tup, bi_len_rl, bi_list_lst, bi_list_tup, bi_list_rl, bi_tuple_lst, bi_tuple_tup, bi_tuple_rl, bi_int_int, bi_int_b, at_two, int_if, at3_0, at3_1, at3_2, at2_0, at2_1, List.take_succ_cons, List.take_zero, List.drop_succ_cons, List.drop_zero, sum_ok, sl_lst, sl_tup, sl_rl, part_t, part_f, if_true, if_false, ite_true, ite_false, reduceIte, Nat.reduceLeDiff, Nat.reduceSub, eq_self, and_self, and_true, true_and], fun h => by cases h⟩)]
  simp -implicitDefEqProofs only [evSs, evS, evE, evEs, evI, RS.of_ok, RS.of_exn, RS.ofL_ok, RS.ofL_exn, RS.then_next, RS.then_ret, RS.then_brk, RS.then_cnt, RS.then_exn, RS.ifB_t, RS.ifB_f, RS.caught_next, RS.caught_ret, RS.caught_exn, RS.suite_next, RS.suite_ret, pIsx, pIs, pIsN, lamR_enc_ok, lamR_enc_exn, Pf.toldTo, R.bind_ok, R.bind_exn, pBin, pCmp, pAdd, pSub, pNeg, pLt, pLe, pNot, pIx, pSeq, pInt, getE, getB, setOwR, Pf.putAt, Pf.popTo, Pf.scrTo, Pf.unpTo, pIsa, asgT, setAll, killAll, PX.isN, PX.isB, PXs.hasB, Bool.false_eq_true, Bool.or_false, Bool.or_self, List.getElem?_cons_zero, List.getElem?_cons_succ, List.set_cons_zero, List.set_cons_succ, List.length_cons, List.length_nil, List.getD_cons_zero, List.getD_cons_succ, Nat.reduceAdd, Nat.reduceLT, Nat.zero_lt_succ, Nat.zero_add, ite_self, Bool.false_or, Bool.true_or, iL_len, Int.cast_ofNat_Int, Bool.and_true, Bool.true_and, bi_len_lst, bi_len_tup, bi_len_rl, bi_list_lst, bi_list_tup, bi_list_rl, bi_tuple_lst, bi_tuple_tup, bi_tuple_rl, bi_int_int, bi_int_b, at_two, int_if, at3_0, at3_1, at3_2, at2_0, at2_1, List.take_succ_cons, List.take_zero, List.drop_succ_cons, List.drop_zero, sum_ok, sl_lst, sl_tup, sl_rl, part_t, part_f, if_true, if_false, ite_true, ite_false, reduceIte, Nat.reduceLeDiff, Nat.reduceSub, eq_self, and_self, and_true, true_and, hf, List.map_nil, List.length_map, show s.length ≤ LIM by omega]
  rfl
abbrev FS : List Sem1 := [s_l_drawn_by, s_l_cell_at, s_l_drawn_row, s_l_places, s_l_mix, s_onward, s_l_is_row, s_l_rest_far, s_l_taken, s_l_all_refused]
theorem law_true (ns : List Int) (hl : ns.length ≤ 63) (hz : ∀ z ∈ ns, PySem.Builtin.Int.intBits z ≤ 1048576) : s_law [script ns] = .ok (.bl true) := by
  have hL : LIM = 1000000 := rfl
  obtain ⟨c0, e0, _⟩ := l_cell_ok ns hz 0 (by decide) (by decide)
  obtain ⟨c3, e3, bc3⟩ := l_cell_ok ns hz 3 (by decide) (by decide)
  obtain ⟨b, eb, hb⟩ := l_drawn_by_ok c0
  obtain ⟨b0, b1, bn⟩ := BYS_ok b hb
  obtain ⟨r, s, er, w⟩ := l_drawn_row_ok ns hz hb 1 12 (by decide) (by decide) (by decide) (by decide)
  obtain ⟨m1, em1, m10, m11⟩ := l_mix_ok c3 1 (by decide) (by decide)
  have l1 := w.len
  have l2 := w.le
  have hr := w.rb (by decide)
  have hp : s_l_places [rowV b r s, .int 420] = .ok (.lst (iL ((List.range 420).map (sq b r s)))) := l_places_ok w (by decide) (by decide) (by decide) 420 (by decide)
  obtain ⟨n1, hn1, q1⟩ : ∃ n : Nat, m1 % 401 = (n : Int) ∧ n ≤ 400 := ⟨(m1 % 401).toNat, by omega, by omega⟩
  obtain ⟨W, hW⟩ : ∃ W, W = (List.range 420).map (sq b r s) := ⟨_, rfl⟩
  rw [← hW] at hp
  have lW : W.length = 420 := by rw [hW]; simp
  have one : ∀ n : Nat, n ≤ 400 → evSs FS [] false c_law_1 [.sh (script ns), .sh (.int b), .sh (rowV b r s), .sh (.int c3), .sh (.int (r.length : Int)), .sh (.lst (iL W)), .sh (.int (n : Int)), .no, .no, .no, .no, .no, .no] = .next [.sh (script ns), .sh (.int b), .sh (rowV b r s), .sh (.int c3), .sh (.int (r.length : Int)), .sh (.lst (iL W)), .no, .no, .no, .no, .no, .no, .no] := by
    intro n hn
    have ho := onward_ok w (by decide) (by decide) (by decide) n (Nat.lt_of_lt_of_le (m := 512) (by omega) (by decide)) (.inr hn)
    have hw := w.onw (by decide) (by decide) n (.inr (by omega))
    have hq : s_l_places [rowV b r (sW b r s n), .int 15] = .ok (.lst (iL ((List.range 15).map (sq b r (sW b r s n))))) := l_places_ok hw (by decide) (by decide) (by decide) 15 (by decide)
    have hi := l_is_row_ok b r (sW b r s n) (by rw [sW_len]; omega)
    have c1 := cut_mid (iL W) n r.length (by rw [iL_len, lW]; omega)
    have c2 : pCut (iL W) (some (n : Int)) (some ((n : Int) + 15)) = _ := cut_mid (iL W) n 15 (by rw [iL_len, lW]; omega)
    rw [iL_drop, iL_take, hW, mid_rng _ _ _ _ (by omega), ← hW] at c1 c2
    have c1 : pCut (iL W) (some (n : Int)) (some ((n : Int) + (r.length : Int))) = iL (sW b r s n) := c1
    rw [show (List.range 15).map (fun i => sq b r s (n + i)) = (List.range 15).map (sq b r (sW b r s n)) from rng_congr fun i _ => (sW_seq l1 n i).symm] at c2
    unfold rowV at ho hq hi
    simp -implicitDefEqProofs only [c_law_1, evSs, evS, evE, evEs, evI, RS.of_ok, RS.of_exn, RS.ofL_ok, RS.ofL_exn, RS.then_next, RS.then_ret, RS.then_brk, RS.then_cnt, RS.then_exn, RS.ifB_t, RS.ifB_f, RS.caught_next, RS.caught_ret, RS.caught_exn, RS.suite_next, RS.suite_ret, pIsx, pIs, pIsN, lamR_enc_ok, lamR_enc_exn, Pf.toldTo, R.bind_ok, R.bind_exn, pBin, pCmp, pAdd, pSub, pNeg, pLt, pLe, pNot, pIx, pSeq, pInt, getE, getB, setOwR, Pf.putAt, Pf.popTo, Pf.scrTo, Pf.unpTo, pIsa, asgT, setAll, killAll, PX.isN, PX.isB, PXs.hasB, Bool.false_eq_true, Bool.or_false, Bool.or_self, List.getElem?_cons_zero, List.getElem?_cons_succ, List.set_cons_zero, List.set_cons_succ, List.length_cons, List.length_nil, List.getD_cons_zero, List.getD_cons_succ, Nat.reduceAdd, Nat.reduceLT, Nat.zero_lt_succ, Nat.zero_add, ite_self, Bool.false_or, Bool.true_or, iL_len, Int.cast_ofNat_Int, Bool.and_true, Bool.true_and, bi_len_lst, bi_len_tup, bi_len_rl, bi_list_lst, bi_list_tup, bi_list_rl, bi_tuple_lst, bi_tuple_tup, bi_tuple_rl, bi_int_int, bi_int_b, at_two, int_if, at3_0, at3_1, at3_2, at2_0, at2_1, List.take_succ_cons, List.take_zero, List.drop_succ_cons, List.drop_zero, sum_ok, sl_lst, sl_tup, sl_rl, part_t, part_f, if_true, if_false, ite_true, ite_false, reduceIte, Nat.reduceLeDiff, Nat.reduceSub, eq_self, and_self, and_true, true_and, rowV, ho, c1, hi, Bool.not_true, hq, c2, ne_lst, decide_true]
  have seg : evSs FS [] false (c_law.take 8) [.sh (script ns), .no, .no, .no, .no, .no, .no, .no, .no, .no, .no, .no, .no] = .next [.sh (script ns), .sh (.int b), .sh (rowV b r s), .sh (.int c3), .sh (.int (r.length : Int)), .sh (.lst (iL W)), .no, .no, .no, .no, .no, .no, .no] := by
    unfold rowV at er hp
    simp -implicitDefEqProofs only [c_law, evSs, evS, evE, evEs, evI, RS.of_ok, RS.of_exn, RS.ofL_ok, RS.ofL_exn, RS.then_next, RS.then_ret, RS.then_brk, RS.then_cnt, RS.then_exn, RS.ifB_t, RS.ifB_f, RS.caught_next, RS.caught_ret, RS.caught_exn, RS.suite_next, RS.suite_ret, pIsx, pIs, pIsN, lamR_enc_ok, lamR_enc_exn, Pf.toldTo, R.bind_ok, R.bind_exn, pBin, pCmp, pAdd, pSub, pNeg, pLt, pLe, pNot, pIx, pSeq, pInt, getE, getB, setOwR, Pf.putAt, Pf.popTo, Pf.scrTo, Pf.unpTo, pIsa, asgT, setAll, killAll, PX.isN, PX.isB, PXs.hasB, Bool.false_eq_true, Bool.or_false, Bool.or_self, List.getElem?_cons_zero, List.getElem?_cons_succ, List.set_cons_zero, List.set_cons_succ, List.length_cons, List.length_nil, List.getD_cons_zero, List.getD_cons_succ, Nat.reduceAdd, Nat.reduceLT, Nat.zero_lt_succ, Nat.zero_add, ite_self, Bool.false_or, Bool.true_or, iL_len, Int.cast_ofNat_Int, Bool.and_true, Bool.true_and, bi_len_lst, bi_len_tup, bi_len_rl, bi_list_lst, bi_list_tup, bi_list_rl, bi_tuple_lst, bi_tuple_tup, bi_tuple_rl, bi_int_int, bi_int_b, at_two, int_if, at3_0, at3_1, at3_2, at2_0, at2_1, List.take_succ_cons, List.take_zero, List.drop_succ_cons, List.drop_zero, sum_ok, sl_lst, sl_tup, sl_rl, part_t, part_f, if_true, if_false, ite_true, ite_false, reduceIte, Nat.reduceLeDiff, Nat.reduceSub, eq_self, and_self, and_true, true_and, e0, eb, er, e3, hp, iL_len, em1, mod_pos (b := 401) (by decide), hn1]
    rw [forL_const _ _ ?hc]
    case hc =>
      intro x hx
      obtain ⟨n, hn, rfl⟩ : ∃ n : Nat, n ≤ 400 ∧ x = .int (n : Int) := by
        rcases List.mem_cons.mp hx with rfl | hx
        · exact ⟨0, by decide, rfl⟩
        · rcases List.mem_cons.mp hx with rfl | hx
          · exact ⟨n1, q1, rfl⟩
          · rw [List.mem_singleton.mp hx]
            exact ⟨400, by decide, rfl⟩
      exact ⟨_, rfl, .inl (one n hn)⟩
    simp -implicitDefEqProofs only [evSs, evS, evE, evEs, evI, RS.of_ok, RS.of_exn, RS.ofL_ok, RS.ofL_exn, RS.then_next, RS.then_ret, RS.then_brk, RS.then_cnt, RS.then_exn, RS.ifB_t, RS.ifB_f, RS.caught_next, RS.caught_ret, RS.caught_exn, RS.suite_next, RS.suite_ret, pIsx, pIs, pIsN, lamR_enc_ok, lamR_enc_exn, Pf.toldTo, R.bind_ok, R.bind_exn, pBin, pCmp, pAdd, pSub, pNeg, pLt, pLe, pNot, pIx, pSeq, pInt, getE, getB, setOwR, Pf.putAt, Pf.popTo, Pf.scrTo, Pf.unpTo, pIsa, asgT, setAll, killAll, PX.isN, PX.isB, PXs.hasB, Bool.false_eq_true, Bool.or_false, Bool.or_self, List.getElem?_cons_zero, List.getElem?_cons_succ, List.set_cons_zero, List.set_cons_succ, List.length_cons, List.length_nil, List.getD_cons_zero, List.getD_cons_succ, Nat.reduceAdd, Nat.reduceLT, Nat.zero_lt_succ, Nat.zero_add, ite_self, Bool.false_or, Bool.true_or, iL_len, Int.cast_ofNat_Int, Bool.and_true, Bool.true_and, bi_len_lst, bi_len_tup, bi_len_rl, bi_list_lst, bi_list_tup, bi_list_rl, bi_tuple_lst, bi_tuple_tup, bi_tuple_rl, bi_int_int, bi_int_b, at_two, int_if, at3_0, at3_1, at3_2, at2_0, at2_1, List.take_succ_cons, List.take_zero, List.drop_succ_cons, List.drop_zero, sum_ok, sl_lst, sl_tup, sl_rl, part_t, part_f, if_true, if_false, ite_true, ite_false, reduceIte, Nat.reduceLeDiff, Nat.reduceSub, eq_self, and_self, and_true, true_and]
  have p1 : pPow (.int 982451653) (.int 7) = .ok (.int (982451653 ^ (7 : Int).toNat)) := pow_ok (by decide) (by decide) (by decide)
  have p2 : pPow (.int 10) (.int 59) = .ok (.int (10 ^ 59)) := by
    rw [pow_ok (by decide) (by decide) (by decide)]
    rfl
  have p3 : pMul (.int (c3 + 3)) (.int (982451653 ^ (7 : Int).toNat)) = .ok (.int ((c3 + 3) * 982451653 ^ (7 : Int).toNat)) := mul_bd (n := 1048577) (m := 210) (bd_add (n := 1048576) bc3 (bd_mono (n := 2) (by unfold bd; decide) (by decide))) (bd_pow (n := 30) (by unfold bd; decide) 7 (by decide)) (by decide) (by decide)
  have v0 := Int.emod_nonneg ((c3 + 3) * 982451653 ^ (7 : Int).toNat) (b := 10 ^ 59) (by decide)
  have v1 := Int.emod_lt_of_pos ((c3 + 3) * 982451653 ^ (7 : Int).toNat) (b := 10 ^ 59) (by decide)
  obtain ⟨N, hN⟩ := Int.eq_ofNat_of_zero_le v0
  have hN : ((c3 + 3) * 982451653 ^ (7 : Int).toNat) % 10 ^ 59 = (N : Int) := hN
  have hN2 : N < 2 ^ 300 := by
    rw [hN] at v1
    have e : ((10 : Int) ^ 59) = ((10 ^ 59 : Nat) : Int) := by decide
    rw [e] at v1
    exact Nat.lt_trans (Int.ofNat_lt.mp v1) (by decide)
  have seg2 : evSs FS [] false ((c_law.drop 8).take 5) [.sh (script ns), .sh (.int b), .sh (rowV b r s), .sh (.int c3), .sh (.int (r.length : Int)), .sh (.lst (iL W)), .no, .no, .no, .no, .no, .no, .no] = .next [.sh (script ns), .sh (.int b), .sh (rowV b r s), .sh (.int c3), .sh (.int (r.length : Int)), .sh (.lst (iL W)), .no, .sh (.int (N : Int)), .no, .no, .no, .no, .no] := by
    by_cases h1 : 0 < b
    · have hf := l_rest_far_ok (s := s) b0 b1 bn (show r.length ≤ 12 by omega) hr N hN2 (.inl h1)
      have ho := onward_ok w (by decide) (by decide) (by decide) N hN2 (.inl (by omega))
      have hi := l_is_row_ok b r (sW b r s N) (by rw [sW_len]; omega)
      have key := forL_rng0 (asg := asgT [11] false) (body := evSs FS [] false c_law_2) r.length (fun i => [.sh (script ns), .sh (.int b), .sh (rowV b r s), .sh (.int c3), .sh (.int (r.length : Int)), .sh (.lst (iL W)), .no, .sh (.int (N : Int)), .no, .ow (iL ((List.range i).map fun m => sq b r s (N + m))), .sh (.lst (iL (VL b r N))), .no, .no]) fun i hi => by
        refine ⟨_, rfl, .inl ?_⟩
        simp -implicitDefEqProofs only [c_law_2, evSs, evS, evE, evEs, evI, RS.of_ok, RS.of_exn, RS.ofL_ok, RS.ofL_exn, RS.then_next, RS.then_ret, RS.then_brk, RS.then_cnt, RS.then_exn, RS.ifB_t, RS.ifB_f, RS.caught_next, RS.caught_ret, RS.caught_exn, RS.suite_next, RS.suite_ret, pIsx, pIs, pIsN, lamR_enc_ok, lamR_enc_exn, Pf.toldTo, R.bind_ok, R.bind_exn, pBin, pCmp, pAdd, pSub, pNeg, pLt, pLe, pNot, pIx, pSeq, pInt, getE, getB, setOwR, Pf.putAt, Pf.popTo, Pf.scrTo, Pf.unpTo, pIsa, asgT, setAll, killAll, PX.isN, PX.isB, PXs.hasB, Bool.false_eq_true, Bool.or_false, Bool.or_self, List.getElem?_cons_zero, List.getElem?_cons_succ, List.set_cons_zero, List.set_cons_succ, List.length_cons, List.length_nil, List.getD_cons_zero, List.getD_cons_succ, Nat.reduceAdd, Nat.reduceLT, Nat.zero_lt_succ, Nat.zero_add, ite_self, Bool.false_or, Bool.true_or, iL_len, Int.cast_ofNat_Int, Bool.and_true, Bool.true_and, bi_len_lst, bi_len_tup, bi_len_rl, bi_list_lst, bi_list_tup, bi_list_rl, bi_tuple_lst, bi_tuple_tup, bi_tuple_rl, bi_int_int, bi_int_b, at_two, int_if, at3_0, at3_1, at3_2, at2_0, at2_1, List.take_succ_cons, List.take_zero, List.drop_succ_cons, List.drop_zero, sum_ok, sl_lst, sl_tup, sl_rl, part_t, part_f, if_true, if_false, ite_true, ite_false, reduceIte, Nat.reduceLeDiff, Nat.reduceSub, eq_self, and_self, and_true, true_and, span_nat (show r.length ≤ LIM by omega), Int.toNat_natCast]
        rw [compL_rngA (fun k => U b r k N * sq b r s (i + k)) r.length ?hc]
        case hc =>
          intro k hk
          refine ⟨_, rfl, rfl, ?_⟩
          simp -implicitDefEqProofs only [evSs, evS, evE, evEs, evI, RS.of_ok, RS.of_exn, RS.ofL_ok, RS.ofL_exn, RS.then_next, RS.then_ret, RS.then_brk, RS.then_cnt, RS.then_exn, RS.ifB_t, RS.ifB_f, RS.caught_next, RS.caught_ret, RS.caught_exn, RS.suite_next, RS.suite_ret, pIsx, pIs, pIsN, lamR_enc_ok, lamR_enc_exn, Pf.toldTo, R.bind_ok, R.bind_exn, pBin, pCmp, pAdd, pSub, pNeg, pLt, pLe, pNot, pIx, pSeq, pInt, getE, getB, setOwR, Pf.putAt, Pf.popTo, Pf.scrTo, Pf.unpTo, pIsa, asgT, setAll, killAll, PX.isN, PX.isB, PXs.hasB, Bool.false_eq_true, Bool.or_false, Bool.or_self, List.getElem?_cons_zero, List.getElem?_cons_succ, List.set_cons_zero, List.set_cons_succ, List.length_cons, List.length_nil, List.getD_cons_zero, List.getD_cons_succ, Nat.reduceAdd, Nat.reduceLT, Nat.zero_lt_succ, Nat.zero_add, ite_self, Bool.false_or, Bool.true_or, iL_len, Int.cast_ofNat_Int, Bool.and_true, Bool.true_and, bi_len_lst, bi_len_tup, bi_len_rl, bi_list_lst, bi_list_tup, bi_list_rl, bi_tuple_lst, bi_tuple_tup, bi_tuple_rl, bi_int_int, bi_int_b, at_two, int_if, at3_0, at3_1, at3_2, at2_0, at2_1, List.take_succ_cons, List.take_zero, List.drop_succ_cons, List.drop_zero, sum_ok, sl_lst, sl_tup, sl_rl, part_t, part_f, if_true, if_false, ite_true, ite_false, reduceIte, Nat.reduceLeDiff, Nat.reduceSub, eq_self, and_self, and_true, true_and, ← Int.natCast_add]
          rw [pAt_cfn _ k (by rw [VL_len]; omega), pAt_cfn _ (i + k) (by rw [lW]; omega), show cf (VL b r N) k = U b r k N from cf_rng _ hk, hW, cf_rng _ (by omega)]
          simp -implicitDefEqProofs only [evSs, evS, evE, evEs, evI, RS.of_ok, RS.of_exn, RS.ofL_ok, RS.ofL_exn, RS.then_next, RS.then_ret, RS.then_brk, RS.then_cnt, RS.then_exn, RS.ifB_t, RS.ifB_f, RS.caught_next, RS.caught_ret, RS.caught_exn, RS.suite_next, RS.suite_ret, pIsx, pIs, pIsN, lamR_enc_ok, lamR_enc_exn, Pf.toldTo, R.bind_ok, R.bind_exn, pBin, pCmp, pAdd, pSub, pNeg, pLt, pLe, pNot, pIx, pSeq, pInt, getE, getB, setOwR, Pf.putAt, Pf.popTo, Pf.scrTo, Pf.unpTo, pIsa, asgT, setAll, killAll, PX.isN, PX.isB, PXs.hasB, Bool.false_eq_true, Bool.or_false, Bool.or_self, List.getElem?_cons_zero, List.getElem?_cons_succ, List.set_cons_zero, List.set_cons_succ, List.length_cons, List.length_nil, List.getD_cons_zero, List.getD_cons_succ, Nat.reduceAdd, Nat.reduceLT, Nat.zero_lt_succ, Nat.zero_add, ite_self, Bool.false_or, Bool.true_or, iL_len, Int.cast_ofNat_Int, Bool.and_true, Bool.true_and, bi_len_lst, bi_len_tup, bi_len_rl, bi_list_lst, bi_list_tup, bi_list_rl, bi_tuple_lst, bi_tuple_tup, bi_tuple_rl, bi_int_int, bi_int_b, at_two, int_if, at3_0, at3_1, at3_2, at2_0, at2_1, List.take_succ_cons, List.take_zero, List.drop_succ_cons, List.drop_zero, sum_ok, sl_lst, sl_tup, sl_rl, part_t, part_f, if_true, if_false, ite_true, ite_false, reduceIte, Nat.reduceLeDiff, Nat.reduceSub, eq_self, and_self, and_true, true_and]
          rw [mul_bd (U_bd w.b0 w.b1 w.bn (by omega) hr k N (.inl h1)) (w.sb (by decide) (by decide) _) (by decide) (by omega)]
        simp -implicitDefEqProofs only [evSs, evS, evE, evEs, evI, RS.of_ok, RS.of_exn, RS.ofL_ok, RS.ofL_exn, RS.then_next, RS.then_ret, RS.then_brk, RS.then_cnt, RS.then_exn, RS.ifB_t, RS.ifB_f, RS.caught_next, RS.caught_ret, RS.caught_exn, RS.suite_next, RS.suite_ret, pIsx, pIs, pIsN, lamR_enc_ok, lamR_enc_exn, Pf.toldTo, R.bind_ok, R.bind_exn, pBin, pCmp, pAdd, pSub, pNeg, pLt, pLe, pNot, pIx, pSeq, pInt, getE, getB, setOwR, Pf.putAt, Pf.popTo, Pf.scrTo, Pf.unpTo, pIsa, asgT, setAll, killAll, PX.isN, PX.isB, PXs.hasB, Bool.false_eq_true, Bool.or_false, Bool.or_self, List.getElem?_cons_zero, List.getElem?_cons_succ, List.set_cons_zero, List.set_cons_succ, List.length_cons, List.length_nil, List.getD_cons_zero, List.getD_cons_succ, Nat.reduceAdd, Nat.reduceLT, Nat.zero_lt_succ, Nat.zero_add, ite_self, Bool.false_or, Bool.true_or, iL_len, Int.cast_ofNat_Int, Bool.and_true, Bool.true_and, bi_len_lst, bi_len_tup, bi_len_rl, bi_list_lst, bi_list_tup, bi_list_rl, bi_tuple_lst, bi_tuple_tup, bi_tuple_rl, bi_int_int, bi_int_b, at_two, int_if, at3_0, at3_1, at3_2, at2_0, at2_1, List.take_succ_cons, List.take_zero, List.drop_succ_cons, List.drop_zero, sum_ok, sl_lst, sl_tup, sl_rl, part_t, part_f, if_true, if_false, ite_true, ite_false, reduceIte, Nat.reduceLeDiff, Nat.reduceSub, eq_self, and_self, and_true, true_and, rngL_len, show r.length ≤ LIM by omega, sm_map, l_taken_ok b0, J (b := b) (r := r) (s := s) l1 i N, w.red, List.length_map, List.length_range, show i ≤ LIM by omega]
        rw [Nat.add_comm i N, rng_app (fun m => sq b r s (N + m)) i]
      have key : forL (asgT [11] false) (evSs FS [] false c_law_2) (rngL 0 r.length) [.sh (script ns), .sh (.int b), .sh (rowV b r s), .sh (.int c3), .sh (.int (r.length : Int)), .sh (.lst (iL W)), .no, .sh (.int (N : Int)), .no, .ow [], .sh (.lst (iL (VL b r N))), .no, .no] = _ := key
      have e9 : ((List.range r.length).map fun m => sq b r s (N + m)) = sW b r s N := rfl
      rw [e9] at key
      unfold rowV at hf ho hi key
      simp -implicitDefEqProofs only [c_law, evSs, evS, evE, evEs, evI, RS.of_ok, RS.of_exn, RS.ofL_ok, RS.ofL_exn, RS.then_next, RS.then_ret, RS.then_brk, RS.then_cnt, RS.then_exn, RS.ifB_t, RS.ifB_f, RS.caught_next, RS.caught_ret, RS.caught_exn, RS.suite_next, RS.suite_ret, pIsx, pIs, pIsN, lamR_enc_ok, lamR_enc_exn, Pf.toldTo, R.bind_ok, R.bind_exn, pBin, pCmp, pAdd, pSub, pNeg, pLt, pLe, pNot, pIx, pSeq, pInt, getE, getB, setOwR, Pf.putAt, Pf.popTo, Pf.scrTo, Pf.unpTo, pIsa, asgT, setAll, killAll, PX.isN, PX.isB, PXs.hasB, Bool.false_eq_true, Bool.or_false, Bool.or_self, List.getElem?_cons_zero, List.getElem?_cons_succ, List.set_cons_zero, List.set_cons_succ, List.length_cons, List.length_nil, List.getD_cons_zero, List.getD_cons_succ, Nat.reduceAdd, Nat.reduceLT, Nat.zero_lt_succ, Nat.zero_add, ite_self, Bool.false_or, Bool.true_or, iL_len, Int.cast_ofNat_Int, Bool.and_true, Bool.true_and, bi_len_lst, bi_len_tup, bi_len_rl, bi_list_lst, bi_list_tup, bi_list_rl, bi_tuple_lst, bi_tuple_tup, bi_tuple_rl, bi_int_int, bi_int_b, at_two, int_if, at3_0, at3_1, at3_2, at2_0, at2_1, List.take_succ_cons, List.take_zero, List.drop_succ_cons, List.drop_zero, sum_ok, sl_lst, sl_tup, sl_rl, part_t, part_f, if_true, if_false, ite_true, ite_false, reduceIte, Nat.reduceLeDiff, Nat.reduceSub, eq_self, and_self, and_true, true_and, h1, decide_true, p1, p2, p3, mod_pos (b := 10 ^ 59) (by decide), hN, rowV, hf, span_nat (show r.length ≤ LIM by omega), Int.toNat_natCast, key, ho, hi, Bool.not_true]

    · have r1 := all_refused_ok (b := b) (r := r) (s := s) 401 (.inr ⟨by omega, by decide⟩)
      have r2 := all_refused_ok (b := b) (r := r) (s := s) (401 + (N : Int)) (.inr ⟨by omega, by omega⟩)
      unfold rowV at r1 r2
      simp -implicitDefEqProofs only [c_law, evSs, evS, evE, evEs, evI, RS.of_ok, RS.of_exn, RS.ofL_ok, RS.ofL_exn, RS.then_next, RS.then_ret, RS.then_brk, RS.then_cnt, RS.then_exn, RS.ifB_t, RS.ifB_f, RS.caught_next, RS.caught_ret, RS.caught_exn, RS.suite_next, RS.suite_ret, pIsx, pIs, pIsN, lamR_enc_ok, lamR_enc_exn, Pf.toldTo, R.bind_ok, R.bind_exn, pBin, pCmp, pAdd, pSub, pNeg, pLt, pLe, pNot, pIx, pSeq, pInt, getE, getB, setOwR, Pf.putAt, Pf.popTo, Pf.scrTo, Pf.unpTo, pIsa, asgT, setAll, killAll, PX.isN, PX.isB, PXs.hasB, Bool.false_eq_true, Bool.or_false, Bool.or_self, List.getElem?_cons_zero, List.getElem?_cons_succ, List.set_cons_zero, List.set_cons_succ, List.length_cons, List.length_nil, List.getD_cons_zero, List.getD_cons_succ, Nat.reduceAdd, Nat.reduceLT, Nat.zero_lt_succ, Nat.zero_add, ite_self, Bool.false_or, Bool.true_or, iL_len, Int.cast_ofNat_Int, Bool.and_true, Bool.true_and, bi_len_lst, bi_len_tup, bi_len_rl, bi_list_lst, bi_list_tup, bi_list_rl, bi_tuple_lst, bi_tuple_tup, bi_tuple_rl, bi_int_int, bi_int_b, at_two, int_if, at3_0, at3_1, at3_2, at2_0, at2_1, List.take_succ_cons, List.take_zero, List.drop_succ_cons, List.drop_zero, sum_ok, sl_lst, sl_tup, sl_rl, part_t, part_f, if_true, if_false, ite_true, ite_false, reduceIte, Nat.reduceLeDiff, Nat.reduceSub, eq_self, and_self, and_true, true_and, h1, decide_false, p1, p2, p3, mod_pos (b := 10 ^ 59) (by decide), hN, rowV, r1, r2, Bool.not_true]


  have r1 := all_refused_ok (b := b) (r := r) (s := s) (-1) (.inl (by decide))
  have r2 := all_refused_ok (b := b) (r := r) (s := s) (-1 - (N : Int)) (.inl (by omega))
  unfold rowV at r1 r2
  refine run_ret rfl ?_
  show evSs FS [] false c_law [.sh (script ns), .no, .no, .no, .no, .no, .no, .no, .no, .no, .no, .no, .no] = _
  rw [evSs_split 8, seg, RS.then_next, evSs_split 5, seg2, RS.then_next]
  simp -implicitDefEqProofs only [c_law, List.drop_succ_cons, List.drop_zero, evSs, evS, evE, evEs, evI, RS.of_ok, RS.of_exn, RS.ofL_ok, RS.ofL_exn, RS.then_next, RS.then_ret, RS.then_brk, RS.then_cnt, RS.then_exn, RS.ifB_t, RS.ifB_f, RS.caught_next, RS.caught_ret, RS.caught_exn, RS.suite_next, RS.suite_ret, pIsx, pIs, pIsN, lamR_enc_ok, lamR_enc_exn, Pf.toldTo, R.bind_ok, R.bind_exn, pBin, pCmp, pAdd, pSub, pNeg, pLt, pLe, pNot, pIx, pSeq, pInt, getE, getB, setOwR, Pf.putAt, Pf.popTo, Pf.scrTo, Pf.unpTo, pIsa, asgT, setAll, killAll, PX.isN, PX.isB, PXs.hasB, Bool.false_eq_true, Bool.or_false, Bool.or_self, List.getElem?_cons_zero, List.getElem?_cons_succ, List.set_cons_zero, List.set_cons_succ, List.length_cons, List.length_nil, List.getD_cons_zero, List.getD_cons_succ, Nat.reduceAdd, Nat.reduceLT, Nat.zero_lt_succ, Nat.zero_add, ite_self, Bool.false_or, Bool.true_or, iL_len, Int.cast_ofNat_Int, Bool.and_true, Bool.true_and, bi_len_lst, bi_len_tup, bi_len_rl, bi_list_lst, bi_list_tup, bi_list_rl, bi_tuple_lst, bi_tuple_tup, bi_tuple_rl, bi_int_int, bi_int_b, at_two, int_if, at3_0, at3_1, at3_2, at2_0, at2_1, List.take_succ_cons, List.take_zero, List.drop_succ_cons, List.drop_zero, sum_ok, sl_lst, sl_tup, sl_rl, part_t, part_f, if_true, if_false, ite_true, ite_false, reduceIte, Nat.reduceLeDiff, Nat.reduceSub, eq_self, and_self, and_true, true_and, rowV, pNeg, r1, r2]
end Lw

set_option Elab.async false
set_option linter.all false
set_option maxRecDepth 100000
set_option autoImplicit false
set_option maxHeartbeats 4000000
namespace Lw
open PySem PySem.Spec L2 Pf PyProof.Rows
def top (i : Nat) : Stmt := PySem.Challenge.pw_nextbyrule_k39_rows_from_a_place_on.main.body.getD i (.Pass ⟨0, 0, 0, 0⟩)
def ec : Ec := ⟨[(("RuleError" : Str), 0), (("NoNumber" : Str), 1), (("NoBy" : Str), 2), (("NoText" : Str), 3), (("TooFar" : Str), 4), (("TooLong" : Str), 5), (("TooBig" : Str), 6), (("NoRow" : Str), 7), (("NoName" : Str), 8)], [4], [(4, some 4), (4, some 2), (4, some 8), (4, some 1), (4, some 7), (4, some 3), (4, some 6), (4, some 5), (4, none)], [some 4, some 2, some 8, some 1, some 7, some 3, some 6, some 5, none]⟩
abbrev t_l_mix : Stmt := top 29
def n_l_mix : Nm := ⟨[("_law_cell" : Str), ("_law_k" : Str), ("_law_number" : Str)], [], [], [], ec, false, [], [], none, false⟩
theorem sc_l_mix : FnScope n_l_mix.N [("_law_cell" : Str), ("_law_k" : Str)] (defScope t_l_mix) := ⟨rfl, rfl, rfl, by decide +kernel, rfl, by decide +kernel, by decide +kernel⟩
theorem ck_l_mix : mSs n_l_mix false (defScope t_l_mix) (defScope t_l_mix) c_l_mix (defBody t_l_mix) = true := by decide +kernel
theorem db_l_mix : (n_l_mix.N.all (fun x => !(x == ("__debug__" : Str)) && !(x == ("__classdict__" : Str))) && decide (([("_law_cell" : Str), ("_law_k" : Str)] : List Str).length ≤ n_l_mix.N.length) && !(("_law_mix" : Str) == ("__debug__" : Str))) = true := by decide +kernel
abbrev t_l_drawn_by : Stmt := top 30
def n_l_drawn_by : Nm := ⟨[("_law_cell" : Str)], [(("_law_mix" : Str), false)], [], [], ec, false, [], [], none, false⟩
theorem sc_l_drawn_by : FnScope n_l_drawn_by.N [("_law_cell" : Str)] (defScope t_l_drawn_by) := ⟨rfl, rfl, rfl, by decide +kernel, rfl, by decide +kernel, by decide +kernel⟩
theorem ck_l_drawn_by : mSs n_l_drawn_by false (defScope t_l_drawn_by) (defScope t_l_drawn_by) c_l_drawn_by (defBody t_l_drawn_by) = true := by decide +kernel
theorem db_l_drawn_by : (n_l_drawn_by.N.all (fun x => !(x == ("__debug__" : Str)) && !(x == ("__classdict__" : Str))) && decide (([("_law_cell" : Str)] : List Str).length ≤ n_l_drawn_by.N.length) && !(("_law_drawn_by" : Str) == ("__debug__" : Str))) = true := by decide +kernel
abbrev t_l_cell_at : Stmt := top 28
def n_l_cell_at : Nm := ⟨[("_law_script" : Str), ("_law_k" : Str)], [], [("len" : Str)], [], ec, false, [], [], none, false⟩
theorem sc_l_cell_at : FnScope n_l_cell_at.N [("_law_script" : Str), ("_law_k" : Str)] (defScope t_l_cell_at) := ⟨rfl, rfl, rfl, by decide +kernel, rfl, by decide +kernel, by decide +kernel⟩
theorem ck_l_cell_at : mSs n_l_cell_at false (defScope t_l_cell_at) (defScope t_l_cell_at) c_l_cell_at (defBody t_l_cell_at) = true := by decide +kernel
theorem db_l_cell_at : (n_l_cell_at.N.all (fun x => !(x == ("__debug__" : Str)) && !(x == ("__classdict__" : Str))) && decide (([("_law_script" : Str), ("_law_k" : Str)] : List Str).length ≤ n_l_cell_at.N.length) && !(("_law_cell_at" : Str) == ("__debug__" : Str))) = true := by decide +kernel
abbrev t_l_taken : Stmt := top 31
def n_l_taken : Nm := ⟨[("_law_by" : Str), ("_law_number" : Str)], [], [], [], ec, false, [], [], none, false⟩
theorem sc_l_taken : FnScope n_l_taken.N [("_law_by" : Str), ("_law_number" : Str)] (defScope t_l_taken) := ⟨rfl, rfl, rfl, by decide +kernel, rfl, by decide +kernel, by decide +kernel⟩
theorem ck_l_taken : mSs n_l_taken false (defScope t_l_taken) (defScope t_l_taken) c_l_taken (defBody t_l_taken) = true := by decide +kernel
theorem db_l_taken : (n_l_taken.N.all (fun x => !(x == ("__debug__" : Str)) && !(x == ("__classdict__" : Str))) && decide (([("_law_by" : Str), ("_law_number" : Str)] : List Str).length ≤ n_l_taken.N.length) && !(("_law_taken" : Str) == ("__debug__" : Str))) = true := by decide +kernel
abbrev t_l_one_number : Stmt := top 32
def n_l_one_number : Nm := ⟨[("_law_by" : Str), ("_law_cell" : Str), ("_law_k" : Str), ("_law_far" : Str), ("_law_small" : Str)], [(("_law_mix" : Str), false), (("_law_taken" : Str), false)], [("int" : Str)], [], ec, false, [], [], none, false⟩
theorem sc_l_one_number : FnScope n_l_one_number.N [("_law_by" : Str), ("_law_cell" : Str), ("_law_k" : Str)] (defScope t_l_one_number) := ⟨rfl, rfl, rfl, by decide +kernel, rfl, by decide +kernel, by decide +kernel⟩
theorem ck_l_one_number : mSs n_l_one_number false (defScope t_l_one_number) (defScope t_l_one_number) c_l_one_number (defBody t_l_one_number) = true := by decide +kernel
theorem db_l_one_number : (n_l_one_number.N.all (fun x => !(x == ("__debug__" : Str)) && !(x == ("__classdict__" : Str))) && decide (([("_law_by" : Str), ("_law_cell" : Str), ("_law_k" : Str)] : List Str).length ≤ n_l_one_number.N.length) && !(("_law_one_number" : Str) == ("__debug__" : Str))) = true := by decide +kernel
abbrev t_l_places : Stmt := top 35
def n_l_places : Nm := ⟨[("_law_row" : Str), ("_law_count" : Str), ("_law_found" : Str), ("_law_by" : Str), ("_law_rule" : Str), ("_law_starts" : Str), ("_law_total" : Str), ("_law_k" : Str)], [(("_law_taken" : Str), false)], [("list" : Str), ("len" : Str), ("sum" : Str), ("range" : Str)], [], ec, false, [], [], none, false⟩
theorem sc_l_places : FnScope n_l_places.N [("_law_row" : Str), ("_law_count" : Str)] (defScope t_l_places) := ⟨rfl, rfl, rfl, by decide +kernel, rfl, by decide +kernel, by decide +kernel⟩
theorem ck_l_places : mSs n_l_places false (defScope t_l_places) (defScope t_l_places) c_l_places (defBody t_l_places) = true := by decide +kernel
theorem db_l_places : (n_l_places.N.all (fun x => !(x == ("__debug__" : Str)) && !(x == ("__classdict__" : Str))) && decide (([("_law_row" : Str), ("_law_count" : Str)] : List Str).length ≤ n_l_places.N.length) && !(("_law_places" : Str) == ("__debug__" : Str))) = true := by decide +kernel
abbrev t_l_made_longer : Stmt := top 33
def n_l_made_longer : Nm := ⟨[("_law_row" : Str), ("_law_number" : Str), ("_law_some" : Str), ("_law_longer" : Str), ("_law_k" : Str), ("_law_by" : Str), ("_law_rule" : Str), ("_law_starts" : Str), ("_law_one" : Str)], [(("_law_places" : Str), false), (("_law_taken" : Str), false)], [("len" : Str), ("range" : Str), ("tuple" : Str)], [], ec, false, [], [], none, false⟩
theorem sc_l_made_longer : FnScope n_l_made_longer.N [("_law_row" : Str), ("_law_number" : Str)] (defScope t_l_made_longer) := ⟨rfl, rfl, rfl, by decide +kernel, rfl, by decide +kernel, by decide +kernel⟩
theorem ck_l_made_longer : mSs n_l_made_longer false (defScope t_l_made_longer) (defScope t_l_made_longer) c_l_made_longer (defBody t_l_made_longer) = true := by decide +kernel
theorem db_l_made_longer : (n_l_made_longer.N.all (fun x => !(x == ("__debug__" : Str)) && !(x == ("__classdict__" : Str))) && decide (([("_law_row" : Str), ("_law_number" : Str)] : List Str).length ≤ n_l_made_longer.N.length) && !(("_law_made_longer" : Str) == ("__debug__" : Str))) = true := by decide +kernel
abbrev t_l_drawn_row : Stmt := top 34
def n_l_drawn_row : Nm := ⟨[("_law_script" : Str), ("_law_start" : Str), ("_law_by" : Str), ("_law_most" : Str), ("_law_cell" : Str), ("_law_size" : Str), ("_law_mine" : Str), ("_law_rule" : Str), ("_law_row" : Str), ("_law_k" : Str)], [(("_law_cell_at" : Str), false), (("_law_mix" : Str), false), (("_law_one_number" : Str), false), (("_law_made_longer" : Str), false), (("_law_taken" : Str), false)], [("tuple" : Str), ("range" : Str), ("len" : Str)], [], ec, false, [], [], none, false⟩
theorem sc_l_drawn_row : FnScope n_l_drawn_row.N [("_law_script" : Str), ("_law_start" : Str), ("_law_by" : Str), ("_law_most" : Str)] (defScope t_l_drawn_row) := ⟨rfl, rfl, rfl, by decide +kernel, rfl, by decide +kernel, by decide +kernel⟩
theorem ck_l_drawn_row : mSs n_l_drawn_row false (defScope t_l_drawn_row) (defScope t_l_drawn_row) c_l_drawn_row (defBody t_l_drawn_row) = true := by decide +kernel
theorem db_l_drawn_row : (n_l_drawn_row.N.all (fun x => !(x == ("__debug__" : Str)) && !(x == ("__classdict__" : Str))) && decide (([("_law_script" : Str), ("_law_start" : Str), ("_law_by" : Str), ("_law_most" : Str)] : List Str).length ≤ n_l_drawn_row.N.length) && !(("_law_drawn_row" : Str) == ("__debug__" : Str))) = true := by decide +kernel
abbrev t_ask_far : Stmt := top 21
def n_ask_far : Nm := ⟨[("row" : Str), ("n" : Str)], [], [], [("FARTHEST" : Str)], ec, false, [], [], none, false⟩
theorem sc_ask_far : FnScope n_ask_far.N [("row" : Str), ("n" : Str)] (defScope t_ask_far) := ⟨rfl, rfl, rfl, by decide +kernel, rfl, by decide +kernel, by decide +kernel⟩
theorem ck_ask_far : mSs n_ask_far false (defScope t_ask_far) (defScope t_ask_far) c_ask_far (defBody t_ask_far) = true := by decide +kernel
theorem db_ask_far : (n_ask_far.N.all (fun x => !(x == ("__debug__" : Str)) && !(x == ("__classdict__" : Str))) && decide (([("row" : Str), ("n" : Str)] : List Str).length ≤ n_ask_far.N.length) && !(("ask_far" : Str) == ("__debug__" : Str))) = true := by decide +kernel
abbrev t_taken : Stmt := top 11
def n_taken : Nm := ⟨[("by" : Str), ("number" : Str)], [], [], [], ec, false, [], [], none, false⟩
theorem sc_taken : FnScope n_taken.N [("by" : Str), ("number" : Str)] (defScope t_taken) := ⟨rfl, rfl, rfl, by decide +kernel, rfl, by decide +kernel, by decide +kernel⟩
theorem ck_taken : mSs n_taken false (defScope t_taken) (defScope t_taken) c_taken (defBody t_taken) = true := by decide +kernel
theorem db_taken : (n_taken.N.all (fun x => !(x == ("__debug__" : Str)) && !(x == ("__classdict__" : Str))) && decide (([("by" : Str), ("number" : Str)] : List Str).length ≤ n_taken.N.length) && !(("taken" : Str) == ("__debug__" : Str))) = true := by decide +kernel
abbrev t_trimmed : Stmt := top 15
def n_trimmed : Nm := ⟨[("by" : Str), ("numbers" : Str), ("found" : Str), ("number" : Str)], [(("taken" : Str), false)], [("tuple" : Str)], [], ec, false, [], [], none, false⟩
theorem sc_trimmed : FnScope n_trimmed.N [("by" : Str), ("numbers" : Str)] (defScope t_trimmed) := ⟨rfl, rfl, rfl, by decide +kernel, rfl, by decide +kernel, by decide +kernel⟩
theorem ck_trimmed : mSs n_trimmed false (defScope t_trimmed) (defScope t_trimmed) c_trimmed (defBody t_trimmed) = true := by decide +kernel
theorem db_trimmed : (n_trimmed.N.all (fun x => !(x == ("__debug__" : Str)) && !(x == ("__classdict__" : Str))) && decide (([("by" : Str), ("numbers" : Str)] : List Str).length ≤ n_trimmed.N.length) && !(("trimmed" : Str) == ("__debug__" : Str))) = true := by decide +kernel
abbrev t_divided : Stmt := top 17
def n_divided : Nm := ⟨[("by" : Str), ("one" : Str), ("other" : Str), ("left" : Str), ("often" : Str), ("k" : Str), ("j" : Str), ("number" : Str)], [(("taken" : Str), false), (("trimmed" : Str), false)], [("list" : Str), ("len" : Str), ("range" : Str), ("enumerate" : Str)], [], ec, false, [], [], none, false⟩
theorem sc_divided : FnScope n_divided.N [("by" : Str), ("one" : Str), ("other" : Str)] (defScope t_divided) := ⟨rfl, rfl, rfl, by decide +kernel, rfl, by decide +kernel, by decide +kernel⟩
theorem ck_divided : mSs n_divided false (defScope t_divided) (defScope t_divided) c_divided (defBody t_divided) = true := by decide +kernel
theorem db_divided : (n_divided.N.all (fun x => !(x == ("__debug__" : Str)) && !(x == ("__classdict__" : Str))) && decide (([("by" : Str), ("one" : Str), ("other" : Str)] : List Str).length ≤ n_divided.N.length) && !(("divided" : Str) == ("__debug__" : Str))) = true := by decide +kernel
abbrev t_times : Stmt := top 16
def n_times : Nm := ⟨[("by" : Str), ("one" : Str), ("other" : Str), ("found" : Str), ("k" : Str), ("number" : Str), ("j" : Str), ("factor" : Str)], [(("trimmed" : Str), false)], [("len" : Str), ("enumerate" : Str)], [], ec, false, [], [], none, false⟩
theorem sc_times : FnScope n_times.N [("by" : Str), ("one" : Str), ("other" : Str)] (defScope t_times) := ⟨rfl, rfl, rfl, by decide +kernel, rfl, by decide +kernel, by decide +kernel⟩
theorem ck_times : mSs n_times false (defScope t_times) (defScope t_times) c_times (defBody t_times) = true := by decide +kernel
theorem db_times : (n_times.N.all (fun x => !(x == ("__debug__" : Str)) && !(x == ("__classdict__" : Str))) && decide (([("by" : Str), ("one" : Str), ("other" : Str)] : List Str).length ≤ n_times.N.length) && !(("times" : Str) == ("__debug__" : Str))) = true := by decide +kernel
abbrev t_power_left : Stmt := top 22
def n_power_left : Nm := ⟨[("by" : Str), ("n" : Str), ("poly" : Str), ("found" : Str), ("square" : Str)], [(("divided" : Str), false), (("times" : Str), false)], [], [], ec, false, [], [], none, false⟩
theorem sc_power_left : FnScope n_power_left.N [("by" : Str), ("n" : Str), ("poly" : Str)] (defScope t_power_left) := ⟨rfl, rfl, rfl, by decide +kernel, rfl, by decide +kernel, by decide +kernel⟩
theorem ck_power_left : mSs n_power_left false (defScope t_power_left) (defScope t_power_left) c_power_left (defBody t_power_left) = true := by decide +kernel
theorem db_power_left : (n_power_left.N.all (fun x => !(x == ("__debug__" : Str)) && !(x == ("__classdict__" : Str))) && decide (([("by" : Str), ("n" : Str), ("poly" : Str)] : List Str).length ≤ n_power_left.N.length) && !(("power_left" : Str) == ("__debug__" : Str))) = true := by decide +kernel
abbrev t_of_rule : Stmt := top 18
def n_of_rule : Nm := ⟨[("by" : Str), ("rule" : Str), ("number" : Str)], [(("taken" : Str), false)], [("tuple" : Str), ("reversed" : Str)], [], ec, false, [], [], none, false⟩
theorem sc_of_rule : FnScope n_of_rule.N [("by" : Str), ("rule" : Str)] (defScope t_of_rule) := ⟨rfl, rfl, rfl, by decide +kernel, rfl, by decide +kernel, by decide +kernel⟩
theorem ck_of_rule : mSs n_of_rule false (defScope t_of_rule) (defScope t_of_rule) c_of_rule (defBody t_of_rule) = true := by decide +kernel
theorem db_of_rule : (n_of_rule.N.all (fun x => !(x == ("__debug__" : Str)) && !(x == ("__classdict__" : Str))) && decide (([("by" : Str), ("rule" : Str)] : List Str).length ≤ n_of_rule.N.length) && !(("of_rule" : Str) == ("__debug__" : Str))) = true := by decide +kernel
abbrev t_jump : Stmt := top 23
def n_jump : Nm := ⟨[("row" : Str), ("n" : Str), ("left" : Str)], [(("ask_far" : Str), false), (("power_left" : Str), false), (("of_rule" : Str), false)], [("tuple" : Str), ("list" : Str), ("len" : Str)], [], ec, false, [], [], none, false⟩
theorem sc_jump : FnScope n_jump.N [("row" : Str), ("n" : Str)] (defScope t_jump) := ⟨rfl, rfl, rfl, by decide +kernel, rfl, by decide +kernel, by decide +kernel⟩
theorem ck_jump : mSs n_jump false (defScope t_jump) (defScope t_jump) c_jump (defBody t_jump) = true := by decide +kernel
theorem db_jump : (n_jump.N.all (fun x => !(x == ("__debug__" : Str)) && !(x == ("__classdict__" : Str))) && decide (([("row" : Str), ("n" : Str)] : List Str).length ≤ n_jump.N.length) && !(("jump" : Str) == ("__debug__" : Str))) = true := by decide +kernel
abbrev t_first_places : Stmt := top 13
def n_first_places : Nm := ⟨[("row" : Str), ("count" : Str), ("found" : Str), ("by" : Str), ("rule" : Str), ("starts" : Str), ("total" : Str), ("k" : Str), ("number" : Str)], [(("taken" : Str), false)], [("list" : Str), ("len" : Str), ("enumerate" : Str)], [], ec, false, [], [], none, false⟩
theorem sc_first_places : FnScope n_first_places.N [("row" : Str), ("count" : Str)] (defScope t_first_places) := ⟨rfl, rfl, rfl, by decide +kernel, rfl, by decide +kernel, by decide +kernel⟩
theorem ck_first_places : mSs n_first_places false (defScope t_first_places) (defScope t_first_places) c_first_places (defBody t_first_places) = true := by decide +kernel
theorem db_first_places : (n_first_places.N.all (fun x => !(x == ("__debug__" : Str)) && !(x == ("__classdict__" : Str))) && decide (([("row" : Str), ("count" : Str)] : List Str).length ≤ n_first_places.N.length) && !(("first_places" : Str) == ("__debug__" : Str))) = true := by decide +kernel
abbrev t_told_by : Stmt := top 24
def n_told_by : Nm := ⟨[("row" : Str), ("numbers" : Str), ("m" : Str), ("some" : Str), ("k" : Str), ("number" : Str)], [(("first_places" : Str), false), (("taken" : Str), false)], [("len" : Str), ("sum" : Str), ("enumerate" : Str)], [], ec, false, [], [], none, false⟩
theorem sc_told_by : FnScope n_told_by.N [("row" : Str), ("numbers" : Str), ("m" : Str)] (defScope t_told_by) := ⟨rfl, rfl, rfl, by decide +kernel, rfl, by decide +kernel, by decide +kernel⟩
theorem ck_told_by : mSs n_told_by false (defScope t_told_by) (defScope t_told_by) c_told_by (defBody t_told_by) = true := by decide +kernel
theorem db_told_by : (n_told_by.N.all (fun x => !(x == ("__debug__" : Str)) && !(x == ("__classdict__" : Str))) && decide (([("row" : Str), ("numbers" : Str), ("m" : Str)] : List Str).length ≤ n_told_by.N.length) && !(("told_by" : Str) == ("__debug__" : Str))) = true := by decide +kernel
abbrev t_onward : Stmt := top 26
def n_onward : Nm := ⟨[("row" : Str), ("n" : Str), ("numbers" : Str), ("m" : Str)], [(("jump" : Str), false), (("told_by" : Str), false)], [("tuple" : Str), ("range" : Str), ("len" : Str)], [], ec, false, [], [], none, false⟩
theorem sc_onward : FnScope n_onward.N [("row" : Str), ("n" : Str)] (defScope t_onward) := ⟨rfl, rfl, rfl, by decide +kernel, rfl, by decide +kernel, by decide +kernel⟩
theorem ck_onward : mSs n_onward false (defScope t_onward) (defScope t_onward) c_onward (defBody t_onward) = true := by decide +kernel
theorem db_onward : (n_onward.N.all (fun x => !(x == ("__debug__" : Str)) && !(x == ("__classdict__" : Str))) && decide (([("row" : Str), ("n" : Str)] : List Str).length ≤ n_onward.N.length) && !(("onward" : Str) == ("__debug__" : Str))) = true := by decide +kernel
abbrev t_l_times_x : Stmt := top 36
def n_l_times_x : Nm := ⟨[("_law_by" : Str), ("_law_row" : Str), ("_law_rest" : Str), ("_law_top" : Str), ("_law_found" : Str), ("_law_rule" : Str), ("_law_starts" : Str), ("_law_k" : Str)], [(("_law_taken" : Str), false)], [("range" : Str), ("len" : Str)], [], ec, false, [], [], none, false⟩
theorem sc_l_times_x : FnScope n_l_times_x.N [("_law_by" : Str), ("_law_row" : Str), ("_law_rest" : Str)] (defScope t_l_times_x) := ⟨rfl, rfl, rfl, by decide +kernel, rfl, by decide +kernel, by decide +kernel⟩
theorem ck_l_times_x : mSs n_l_times_x false (defScope t_l_times_x) (defScope t_l_times_x) c_l_times_x (defBody t_l_times_x) = true := by decide +kernel
theorem db_l_times_x : (n_l_times_x.N.all (fun x => !(x == ("__debug__" : Str)) && !(x == ("__classdict__" : Str))) && decide (([("_law_by" : Str), ("_law_row" : Str), ("_law_rest" : Str)] : List Str).length ≤ n_l_times_x.N.length) && !(("_law_times_x" : Str) == ("__debug__" : Str))) = true := by decide +kernel
abbrev t_l_step_by_step : Stmt := top 37
def n_l_step_by_step : Nm := ⟨[("_law_by" : Str), ("_law_row" : Str), ("_law_n" : Str), ("_law_size" : Str), ("_law_rest" : Str), ("_law_k" : Str)], [(("_law_times_x" : Str), false)], [("len" : Str), ("range" : Str)], [], ec, false, [], [], none, false⟩
theorem sc_l_step_by_step : FnScope n_l_step_by_step.N [("_law_by" : Str), ("_law_row" : Str), ("_law_n" : Str)] (defScope t_l_step_by_step) := ⟨rfl, rfl, rfl, by decide +kernel, rfl, by decide +kernel, by decide +kernel⟩
theorem ck_l_step_by_step : mSs n_l_step_by_step false (defScope t_l_step_by_step) (defScope t_l_step_by_step) c_l_step_by_step (defBody t_l_step_by_step) = true := by decide +kernel
theorem db_l_step_by_step : (n_l_step_by_step.N.all (fun x => !(x == ("__debug__" : Str)) && !(x == ("__classdict__" : Str))) && decide (([("_law_by" : Str), ("_law_row" : Str), ("_law_n" : Str)] : List Str).length ≤ n_l_step_by_step.N.length) && !(("_law_step_by_step" : Str) == ("__debug__" : Str))) = true := by decide +kernel
abbrev t_l_rolled_rests : Stmt := top 38
def n_l_rolled_rests : Nm := ⟨[("_law_by" : Str), ("_law_row" : Str), ("_law_one" : Str), ("_law_other" : Str), ("_law_total" : Str), ("_law_part" : Str), ("_law_number" : Str), ("_law_k" : Str)], [(("_law_taken" : Str), false), (("_law_times_x" : Str), false)], [("len" : Str), ("list" : Str), ("range" : Str)], [], ec, false, [], [], none, false⟩
theorem sc_l_rolled_rests : FnScope n_l_rolled_rests.N [("_law_by" : Str), ("_law_row" : Str), ("_law_one" : Str), ("_law_other" : Str)] (defScope t_l_rolled_rests) := ⟨rfl, rfl, rfl, by decide +kernel, rfl, by decide +kernel, by decide +kernel⟩
theorem ck_l_rolled_rests : mSs n_l_rolled_rests false (defScope t_l_rolled_rests) (defScope t_l_rolled_rests) c_l_rolled_rests (defBody t_l_rolled_rests) = true := by decide +kernel
theorem db_l_rolled_rests : (n_l_rolled_rests.N.all (fun x => !(x == ("__debug__" : Str)) && !(x == ("__classdict__" : Str))) && decide (([("_law_by" : Str), ("_law_row" : Str), ("_law_one" : Str), ("_law_other" : Str)] : List Str).length ≤ n_l_rolled_rests.N.length) && !(("_law_rolled_rests" : Str) == ("__debug__" : Str))) = true := by decide +kernel
abbrev t_l_rest_far : Stmt := top 39
def n_l_rest_far : Nm := ⟨[("_law_by" : Str), ("_law_row" : Str), ("_law_n" : Str), ("_law_found" : Str), ("_law_square" : Str)], [(("_law_step_by_step" : Str), false), (("_law_rolled_rests" : Str), false)], [], [], ec, false, [], [], none, false⟩
theorem sc_l_rest_far : FnScope n_l_rest_far.N [("_law_by" : Str), ("_law_row" : Str), ("_law_n" : Str)] (defScope t_l_rest_far) := ⟨rfl, rfl, rfl, by decide +kernel, rfl, by decide +kernel, by decide +kernel⟩
theorem ck_l_rest_far : mSs n_l_rest_far false (defScope t_l_rest_far) (defScope t_l_rest_far) c_l_rest_far (defBody t_l_rest_far) = true := by decide +kernel
theorem db_l_rest_far : (n_l_rest_far.N.all (fun x => !(x == ("__debug__" : Str)) && !(x == ("__classdict__" : Str))) && decide (([("_law_by" : Str), ("_law_row" : Str), ("_law_n" : Str)] : List Str).length ≤ n_l_rest_far.N.length) && !(("_law_rest_far" : Str) == ("__debug__" : Str))) = true := by decide +kernel
abbrev t_l_refused : Stmt := top 40
def n_l_refused : Nm := ⟨[("_law_told" : Str), ("_law_kept" : Str), ("e" : Str)], [], [("isinstance" : Str), ("ValueError" : Str)], [], ec, false, [], [], (some ("_law_told" : Str)), false⟩
theorem sc_l_refused : FnScope n_l_refused.N [("_law_told" : Str)] (defScope t_l_refused) := ⟨rfl, rfl, rfl, by decide +kernel, rfl, by decide +kernel, by decide +kernel⟩
theorem ck_l_refused : mSs n_l_refused false (defScope t_l_refused) (defScope t_l_refused) c_l_refused (defBody t_l_refused) = true := by decide +kernel
theorem db_l_refused : (n_l_refused.N.all (fun x => !(x == ("__debug__" : Str)) && !(x == ("__classdict__" : Str))) && !(("_law_refused" : Str) == ("__debug__" : Str))) = true := by decide +kernel
abbrev t_place_at : Stmt := top 25
def n_place_at : Nm := ⟨[("row" : Str), ("n" : Str)], [(("told_by" : Str), false), (("jump" : Str), false)], [], [], ec, false, [], [], none, false⟩
theorem sc_place_at : FnScope n_place_at.N [("row" : Str), ("n" : Str)] (defScope t_place_at) := ⟨rfl, rfl, rfl, by decide +kernel, rfl, by decide +kernel, by decide +kernel⟩
theorem ck_place_at : mSs n_place_at false (defScope t_place_at) (defScope t_place_at) c_place_at (defBody t_place_at) = true := by decide +kernel
theorem db_place_at : (n_place_at.N.all (fun x => !(x == ("__debug__" : Str)) && !(x == ("__classdict__" : Str))) && decide (([("row" : Str), ("n" : Str)] : List Str).length ≤ n_place_at.N.length) && !(("place_at" : Str) == ("__debug__" : Str))) = true := by decide +kernel
abbrev t_l_all_refused : Stmt := top 41
def n_l_all_refused : Nm := ⟨[("_law_row" : Str), ("_law_n" : Str)], [(("jump" : Str), false), (("onward" : Str), false), (("place_at" : Str), false)], [], [], ec, false, [], [("_law_refused" : Str)], none, true⟩
theorem sc_l_all_refused : FnScope n_l_all_refused.N [("_law_row" : Str), ("_law_n" : Str)] (defScope t_l_all_refused) := ⟨rfl, rfl, rfl, by decide +kernel, rfl, by decide +kernel, by decide +kernel⟩
theorem ck_l_all_refused : mSs n_l_all_refused false (defScope t_l_all_refused) (defScope t_l_all_refused) c_l_all_refused (defBody t_l_all_refused) = true := by decide +kernel
theorem db_l_all_refused : (n_l_all_refused.N.all (fun x => !(x == ("__debug__" : Str)) && !(x == ("__classdict__" : Str))) && decide (([("_law_row" : Str), ("_law_n" : Str)] : List Str).length ≤ n_l_all_refused.N.length) && !(("_law_all_refused" : Str) == ("__debug__" : Str))) = true := by decide +kernel
abbrev t_l_is_row : Stmt := top 42
def n_l_is_row : Nm := ⟨[("_law_found" : Str), ("_law_due" : Str), ("_law_one" : Str)], [], [("isinstance" : Str), ("tuple" : Str), ("bool" : Str)], [], ec, false, [], [], none, false⟩
theorem sc_l_is_row : FnScope n_l_is_row.N [("_law_found" : Str), ("_law_due" : Str)] (defScope t_l_is_row) := ⟨rfl, rfl, rfl, by decide +kernel, rfl, by decide +kernel, by decide +kernel⟩
theorem ck_l_is_row : mSs n_l_is_row false (defScope t_l_is_row) (defScope t_l_is_row) c_l_is_row (defBody t_l_is_row) = true := by decide +kernel
theorem db_l_is_row : (n_l_is_row.N.all (fun x => !(x == ("__debug__" : Str)) && !(x == ("__classdict__" : Str))) && decide (([("_law_found" : Str), ("_law_due" : Str)] : List Str).length ≤ n_l_is_row.N.length) && !(("_law_is_row" : Str) == ("__debug__" : Str))) = true := by decide +kernel
abbrev t_law : Stmt := top 43
def n_law : Nm := ⟨[("_law_script" : Str), ("_law_by" : Str), ("_law_row" : Str), ("_law_cell" : Str), ("_law_size" : Str), ("_law_whole" : Str), ("_law_n" : Str), ("_law_far" : Str), ("_law_found" : Str), ("_law_due" : Str), ("_law_rest" : Str), ("_law_m" : Str), ("_law_k" : Str)], [(("_law_drawn_by" : Str), false), (("_law_cell_at" : Str), false), (("_law_drawn_row" : Str), false), (("_law_places" : Str), false), (("_law_mix" : Str), false), (("onward" : Str), false), (("_law_is_row" : Str), false), (("_law_rest_far" : Str), false), (("_law_taken" : Str), false), (("_law_all_refused" : Str), false)], [("len" : Str), ("tuple" : Str), ("range" : Str), ("sum" : Str)], [], ec, false, [], [], none, false⟩
theorem sc_law : FnScope n_law.N [("_law_script" : Str)] (defScope t_law) := ⟨rfl, rfl, rfl, by decide +kernel, rfl, by decide +kernel, by decide +kernel⟩
theorem ck_law : mSs n_law false (defScope t_law) (defScope t_law) c_law (defBody t_law) = true := by decide +kernel
theorem db_law : (n_law.N.all (fun x => !(x == ("__debug__" : Str)) && !(x == ("__classdict__" : Str))) && decide (([("_law_script" : Str)] : List Str).length ≤ n_law.N.length) && !(("law" : Str) == ("__debug__" : Str))) = true := by decide +kernel
theorem all_mk {P : Program} {w : World} {K : PySem.W.Frag} {h : Heap} {mg : Str → Option Value} {fa : Addr} (X : K.In h) (G : h.Ns mainGlobals mg) (hfa : mg "law" = some (.ref fa))
    (d_l_mix : DefIs K ("_law_mix" : Str) t_l_mix)
    (d_l_drawn_by : DefIs K ("_law_drawn_by" : Str) t_l_drawn_by)
    (d_l_cell_at : DefIs K ("_law_cell_at" : Str) t_l_cell_at)
    (d_l_taken : DefIs K ("_law_taken" : Str) t_l_taken)
    (d_l_one_number : DefIs K ("_law_one_number" : Str) t_l_one_number)
    (d_l_places : DefIs K ("_law_places" : Str) t_l_places)
    (d_l_made_longer : DefIs K ("_law_made_longer" : Str) t_l_made_longer)
    (d_l_drawn_row : DefIs K ("_law_drawn_row" : Str) t_l_drawn_row)
    (d_ask_far : DefIs K ("ask_far" : Str) t_ask_far)
    (d_taken : DefIs K ("taken" : Str) t_taken)
    (d_trimmed : DefIs K ("trimmed" : Str) t_trimmed)
    (d_divided : DefIs K ("divided" : Str) t_divided)
    (d_times : DefIs K ("times" : Str) t_times)
    (d_power_left : DefIs K ("power_left" : Str) t_power_left)
    (d_of_rule : DefIs K ("of_rule" : Str) t_of_rule)
    (d_jump : DefIs K ("jump" : Str) t_jump)
    (d_first_places : DefIs K ("first_places" : Str) t_first_places)
    (d_told_by : DefIs K ("told_by" : Str) t_told_by)
    (d_onward : DefIs K ("onward" : Str) t_onward)
    (d_l_times_x : DefIs K ("_law_times_x" : Str) t_l_times_x)
    (d_l_step_by_step : DefIs K ("_law_step_by_step" : Str) t_l_step_by_step)
    (d_l_rolled_rests : DefIs K ("_law_rolled_rests" : Str) t_l_rolled_rests)
    (d_l_rest_far : DefIs K ("_law_rest_far" : Str) t_l_rest_far)
    (d_l_refused : DefIs K ("_law_refused" : Str) t_l_refused)
    (d_place_at : DefIs K ("place_at" : Str) t_place_at)
    (d_l_all_refused : DefIs K ("_law_all_refused" : Str) t_l_all_refused)
    (d_l_is_row : DefIs K ("_law_is_row" : Str) t_l_is_row)
    (d_law : DefIs K ("law" : Str) t_law)
    (z_len : PySem.W.nsIn K mainGlobals ("len" : Str) = some none)
    (z_int : PySem.W.nsIn K mainGlobals ("int" : Str) = some none)
    (z_list : PySem.W.nsIn K mainGlobals ("list" : Str) = some none)
    (z_sum : PySem.W.nsIn K mainGlobals ("sum" : Str) = some none)
    (z_range : PySem.W.nsIn K mainGlobals ("range" : Str) = some none)
    (z_tuple : PySem.W.nsIn K mainGlobals ("tuple" : Str) = some none)
    (z_enumerate : PySem.W.nsIn K mainGlobals ("enumerate" : Str) = some none)
    (z_reversed : PySem.W.nsIn K mainGlobals ("reversed" : Str) = some none)
    (z_isinstance : PySem.W.nsIn K mainGlobals ("isinstance" : Str) = some none)
    (z_ValueError : PySem.W.nsIn K mainGlobals ("ValueError" : Str) = some none)
    (z_bool : PySem.W.nsIn K mainGlobals ("bool" : Str) = some none)
    {y_FARTHEST : _} (q_FARTHEST : PySem.W.nsIn K mainGlobals ("FARTHEST" : Str) = some (some (.int (400) y_FARTHEST)))
    {C_RuleError : Addr} (g_RuleError : PySem.W.nsIn K mainGlobals ("RuleError" : Str) = some (some (.ref C_RuleError))) (kp_RuleError : PySem.W.keepIn K (.ref C_RuleError) = true) (sb_RuleError : PySem.W.subIn K (.ref C_RuleError) (.type "BaseException") = some true) (ty_RuleError : PySem.W.typeIn K (.ref C_RuleError) = some (.type "type"))
    (xx_RuleError : PySem.W.excIn K C_RuleError [.type "ValueError", .type "Exception", .type "BaseException", .type "object"] "ValueError.__new__" = true)
    {C_NoNumber : Addr} (g_NoNumber : PySem.W.nsIn K mainGlobals ("NoNumber" : Str) = some (some (.ref C_NoNumber))) (kp_NoNumber : PySem.W.keepIn K (.ref C_NoNumber) = true) (sb_NoNumber : PySem.W.subIn K (.ref C_NoNumber) (.type "BaseException") = some true) (ty_NoNumber : PySem.W.typeIn K (.ref C_NoNumber) = some (.type "type"))
    (xx_NoNumber : PySem.W.excIn K C_NoNumber [.type "ValueError", .type "Exception", .type "BaseException", .type "object"] "ValueError.__new__" = true)
    {C_NoBy : Addr} (g_NoBy : PySem.W.nsIn K mainGlobals ("NoBy" : Str) = some (some (.ref C_NoBy))) (kp_NoBy : PySem.W.keepIn K (.ref C_NoBy) = true) (sb_NoBy : PySem.W.subIn K (.ref C_NoBy) (.type "BaseException") = some true) (ty_NoBy : PySem.W.typeIn K (.ref C_NoBy) = some (.type "type"))
    (xx_NoBy : PySem.W.excIn K C_NoBy [.type "ValueError", .type "Exception", .type "BaseException", .type "object"] "ValueError.__new__" = true)
    {C_NoText : Addr} (g_NoText : PySem.W.nsIn K mainGlobals ("NoText" : Str) = some (some (.ref C_NoText))) (kp_NoText : PySem.W.keepIn K (.ref C_NoText) = true) (sb_NoText : PySem.W.subIn K (.ref C_NoText) (.type "BaseException") = some true) (ty_NoText : PySem.W.typeIn K (.ref C_NoText) = some (.type "type"))
    (xx_NoText : PySem.W.excIn K C_NoText [.type "ValueError", .type "Exception", .type "BaseException", .type "object"] "ValueError.__new__" = true)
    {C_TooFar : Addr} (g_TooFar : PySem.W.nsIn K mainGlobals ("TooFar" : Str) = some (some (.ref C_TooFar))) (kp_TooFar : PySem.W.keepIn K (.ref C_TooFar) = true) (sb_TooFar : PySem.W.subIn K (.ref C_TooFar) (.type "BaseException") = some true) (ty_TooFar : PySem.W.typeIn K (.ref C_TooFar) = some (.type "type"))
    (xx_TooFar : PySem.W.excIn K C_TooFar [.type "ValueError", .type "Exception", .type "BaseException", .type "object"] "ValueError.__new__" = true)
    {C_TooLong : Addr} (g_TooLong : PySem.W.nsIn K mainGlobals ("TooLong" : Str) = some (some (.ref C_TooLong))) (kp_TooLong : PySem.W.keepIn K (.ref C_TooLong) = true) (sb_TooLong : PySem.W.subIn K (.ref C_TooLong) (.type "BaseException") = some true) (ty_TooLong : PySem.W.typeIn K (.ref C_TooLong) = some (.type "type"))
    (xx_TooLong : PySem.W.excIn K C_TooLong [.type "ValueError", .type "Exception", .type "BaseException", .type "object"] "ValueError.__new__" = true)
    {C_TooBig : Addr} (g_TooBig : PySem.W.nsIn K mainGlobals ("TooBig" : Str) = some (some (.ref C_TooBig))) (kp_TooBig : PySem.W.keepIn K (.ref C_TooBig) = true) (sb_TooBig : PySem.W.subIn K (.ref C_TooBig) (.type "BaseException") = some true) (ty_TooBig : PySem.W.typeIn K (.ref C_TooBig) = some (.type "type"))
    (xx_TooBig : PySem.W.excIn K C_TooBig [.type "ValueError", .type "Exception", .type "BaseException", .type "object"] "ValueError.__new__" = true)
    {C_NoRow : Addr} (g_NoRow : PySem.W.nsIn K mainGlobals ("NoRow" : Str) = some (some (.ref C_NoRow))) (kp_NoRow : PySem.W.keepIn K (.ref C_NoRow) = true) (sb_NoRow : PySem.W.subIn K (.ref C_NoRow) (.type "BaseException") = some true) (ty_NoRow : PySem.W.typeIn K (.ref C_NoRow) = some (.type "type"))
    (xx_NoRow : PySem.W.excIn K C_NoRow [.type "ValueError", .type "Exception", .type "BaseException", .type "object"] "ValueError.__new__" = true)
    {C_NoName : Addr} (g_NoName : PySem.W.nsIn K mainGlobals ("NoName" : Str) = some (some (.ref C_NoName))) (kp_NoName : PySem.W.keepIn K (.ref C_NoName) = true) (sb_NoName : PySem.W.subIn K (.ref C_NoName) (.type "BaseException") = some true) (ty_NoName : PySem.W.typeIn K (.ref C_NoName) = some (.type "type"))
    (xx_NoName : PySem.W.excIn K C_NoName [.type "ValueError", .type "Exception", .type "BaseException", .type "object"] "ValueError.__new__" = true)
    (hg_TooFar : PySem.W.findIn K (.ref C_TooFar) "__getattribute__" = some (some (.builtin "BaseException.__getattribute__")))
    (hk_TooFar : PySem.W.findIn K (.ref C_TooFar) "__getattr__" = some none)
    (hd_TooFar : PySem.W.hasDictIn K C_TooFar = true)
    (ha_TooFar : PySem.W.findIn K (.ref C_TooFar) "__class__" = some (some (.builtin "object.__class__")))
    (hm_TooFar : PySem.W.mroIn K C_TooFar (.type "object") = some true)
    (em_TooFar : PySem.W.exmOne K (.ref C_TooFar) (.ref C_RuleError) = some true)
    (hn_ : PySem.W.specialIn K (.builtin "object.__class__") "__get__" = some (some (.builtin "getset_descriptor.__get__"))) (ht_ : PySem.W.takesIn K (.builtin "object.__class__") = some true)
    (kt_TooFar_TooFar : PySem.W.kitOne K (.ref C_TooFar) (.ref C_TooFar) = some true)
    (kt_TooFar_NoBy : PySem.W.kitOne K (.ref C_TooFar) (.ref C_NoBy) = some false)
    (kt_TooFar_NoName : PySem.W.kitOne K (.ref C_TooFar) (.ref C_NoName) = some false)
    (kt_TooFar_NoNumber : PySem.W.kitOne K (.ref C_TooFar) (.ref C_NoNumber) = some false)
    (kt_TooFar_NoRow : PySem.W.kitOne K (.ref C_TooFar) (.ref C_NoRow) = some false)
    (kt_TooFar_NoText : PySem.W.kitOne K (.ref C_TooFar) (.ref C_NoText) = some false)
    (kt_TooFar_TooBig : PySem.W.kitOne K (.ref C_TooFar) (.ref C_TooBig) = some false)
    (kt_TooFar_TooLong : PySem.W.kitOne K (.ref C_TooFar) (.ref C_TooLong) = some false)
    (kt_TooFar_VE : PySem.W.kitOne K (.ref C_TooFar) (.type "ValueError") = some true)
    (kn_TooFar : PySem.W.kitOne K (.type "NoneType") (.ref C_TooFar) = some false)
    (kn_NoBy : PySem.W.kitOne K (.type "NoneType") (.ref C_NoBy) = some false)
    (kn_NoName : PySem.W.kitOne K (.type "NoneType") (.ref C_NoName) = some false)
    (kn_NoNumber : PySem.W.kitOne K (.type "NoneType") (.ref C_NoNumber) = some false)
    (kn_NoRow : PySem.W.kitOne K (.type "NoneType") (.ref C_NoRow) = some false)
    (kn_NoText : PySem.W.kitOne K (.type "NoneType") (.ref C_NoText) = some false)
    (kn_TooBig : PySem.W.kitOne K (.type "NoneType") (.ref C_TooBig) = some false)
    (kn_TooLong : PySem.W.kitOne K (.type "NoneType") (.ref C_TooLong) = some false)
    (kn_VE : PySem.W.kitOne K (.type "NoneType") (.type "ValueError") = some false)
    {cq_l_all_refused pq_l_all_refused : Addr} (td_l_all_refused : TabK K ("_law_all_refused" : Str) cq_l_all_refused pq_l_all_refused) (nl_l_all_refused : K.lookup pq_l_all_refused = none)
    : ∃ cs : List (Str × Addr × Addr), (∀ p ∈ cs, p.1 ∈ ([("_law_all_refused" : Str)] : List Str) ∧ TabD K mg p.1 p.2.1 p.2.2 ∧ K.lookup p.2.2 = none) ∧ LawOkT cs K P w mg fa ("_law_script" : Str) 10 s_law := by
  replace td_l_all_refused := td_l_all_refused.to X G
  obtain ⟨f_l_mix, e_l_mix, a_l_mix, F_l_mix⟩ := d_l_mix
  replace a_l_mix := PySem.W.mg_of X G a_l_mix
  obtain ⟨f_l_drawn_by, e_l_drawn_by, a_l_drawn_by, F_l_drawn_by⟩ := d_l_drawn_by
  replace a_l_drawn_by := PySem.W.mg_of X G a_l_drawn_by
  obtain ⟨f_l_cell_at, e_l_cell_at, a_l_cell_at, F_l_cell_at⟩ := d_l_cell_at
  replace a_l_cell_at := PySem.W.mg_of X G a_l_cell_at
  obtain ⟨f_l_taken, e_l_taken, a_l_taken, F_l_taken⟩ := d_l_taken
  replace a_l_taken := PySem.W.mg_of X G a_l_taken
  obtain ⟨f_l_one_number, e_l_one_number, a_l_one_number, F_l_one_number⟩ := d_l_one_number
  replace a_l_one_number := PySem.W.mg_of X G a_l_one_number
  obtain ⟨f_l_places, e_l_places, a_l_places, F_l_places⟩ := d_l_places
  replace a_l_places := PySem.W.mg_of X G a_l_places
  obtain ⟨f_l_made_longer, e_l_made_longer, a_l_made_longer, F_l_made_longer⟩ := d_l_made_longer
  replace a_l_made_longer := PySem.W.mg_of X G a_l_made_longer
  obtain ⟨f_l_drawn_row, e_l_drawn_row, a_l_drawn_row, F_l_drawn_row⟩ := d_l_drawn_row
  replace a_l_drawn_row := PySem.W.mg_of X G a_l_drawn_row
  obtain ⟨f_ask_far, e_ask_far, a_ask_far, F_ask_far⟩ := d_ask_far
  replace a_ask_far := PySem.W.mg_of X G a_ask_far
  obtain ⟨f_taken, e_taken, a_taken, F_taken⟩ := d_taken
  replace a_taken := PySem.W.mg_of X G a_taken
  obtain ⟨f_trimmed, e_trimmed, a_trimmed, F_trimmed⟩ := d_trimmed
  replace a_trimmed := PySem.W.mg_of X G a_trimmed
  obtain ⟨f_divided, e_divided, a_divided, F_divided⟩ := d_divided
  replace a_divided := PySem.W.mg_of X G a_divided
  obtain ⟨f_times, e_times, a_times, F_times⟩ := d_times
  replace a_times := PySem.W.mg_of X G a_times
  obtain ⟨f_power_left, e_power_left, a_power_left, F_power_left⟩ := d_power_left
  replace a_power_left := PySem.W.mg_of X G a_power_left
  obtain ⟨f_of_rule, e_of_rule, a_of_rule, F_of_rule⟩ := d_of_rule
  replace a_of_rule := PySem.W.mg_of X G a_of_rule
  obtain ⟨f_jump, e_jump, a_jump, F_jump⟩ := d_jump
  replace a_jump := PySem.W.mg_of X G a_jump
  obtain ⟨f_first_places, e_first_places, a_first_places, F_first_places⟩ := d_first_places
  replace a_first_places := PySem.W.mg_of X G a_first_places
  obtain ⟨f_told_by, e_told_by, a_told_by, F_told_by⟩ := d_told_by
  replace a_told_by := PySem.W.mg_of X G a_told_by
  obtain ⟨f_onward, e_onward, a_onward, F_onward⟩ := d_onward
  replace a_onward := PySem.W.mg_of X G a_onward
  obtain ⟨f_l_times_x, e_l_times_x, a_l_times_x, F_l_times_x⟩ := d_l_times_x
  replace a_l_times_x := PySem.W.mg_of X G a_l_times_x
  obtain ⟨f_l_step_by_step, e_l_step_by_step, a_l_step_by_step, F_l_step_by_step⟩ := d_l_step_by_step
  replace a_l_step_by_step := PySem.W.mg_of X G a_l_step_by_step
  obtain ⟨f_l_rolled_rests, e_l_rolled_rests, a_l_rolled_rests, F_l_rolled_rests⟩ := d_l_rolled_rests
  replace a_l_rolled_rests := PySem.W.mg_of X G a_l_rolled_rests
  obtain ⟨f_l_rest_far, e_l_rest_far, a_l_rest_far, F_l_rest_far⟩ := d_l_rest_far
  replace a_l_rest_far := PySem.W.mg_of X G a_l_rest_far
  obtain ⟨f_l_refused, e_l_refused, a_l_refused, F_l_refused⟩ := d_l_refused
  replace a_l_refused := PySem.W.mg_of X G a_l_refused
  obtain ⟨f_place_at, e_place_at, a_place_at, F_place_at⟩ := d_place_at
  replace a_place_at := PySem.W.mg_of X G a_place_at
  obtain ⟨f_l_all_refused, e_l_all_refused, a_l_all_refused, F_l_all_refused⟩ := d_l_all_refused
  replace a_l_all_refused := PySem.W.mg_of X G a_l_all_refused
  obtain ⟨f_l_is_row, e_l_is_row, a_l_is_row, F_l_is_row⟩ := d_l_is_row
  replace a_l_is_row := PySem.W.mg_of X G a_l_is_row
  obtain ⟨f_law, e_law, a_law, F_law⟩ := d_law
  have a_lawq := hfa.symm.trans (PySem.W.mg_of X G a_law)
  cases a_lawq
  replace z_len := PySem.W.mg_none_of X G z_len
  replace z_int := PySem.W.mg_none_of X G z_int
  replace z_list := PySem.W.mg_none_of X G z_list
  replace z_sum := PySem.W.mg_none_of X G z_sum
  replace z_range := PySem.W.mg_none_of X G z_range
  replace z_tuple := PySem.W.mg_none_of X G z_tuple
  replace z_enumerate := PySem.W.mg_none_of X G z_enumerate
  replace z_reversed := PySem.W.mg_none_of X G z_reversed
  replace z_isinstance := PySem.W.mg_none_of X G z_isinstance
  replace z_ValueError := PySem.W.mg_none_of X G z_ValueError
  replace z_bool := PySem.W.mg_none_of X G z_bool
  replace q_FARTHEST := PySem.W.mg_of X G q_FARTHEST
  have n_TooFar := g_TooFar
  have E_RuleError : ExG K mg ("RuleError" : Str) C_RuleError := ⟨by decide +kernel, PySem.W.mg_of X G g_RuleError, kp_RuleError, xx_RuleError, sb_RuleError, ty_RuleError⟩
  have E_NoNumber : ExG K mg ("NoNumber" : Str) C_NoNumber := ⟨by decide +kernel, PySem.W.mg_of X G g_NoNumber, kp_NoNumber, xx_NoNumber, sb_NoNumber, ty_NoNumber⟩
  have E_NoBy : ExG K mg ("NoBy" : Str) C_NoBy := ⟨by decide +kernel, PySem.W.mg_of X G g_NoBy, kp_NoBy, xx_NoBy, sb_NoBy, ty_NoBy⟩
  have E_NoText : ExG K mg ("NoText" : Str) C_NoText := ⟨by decide +kernel, PySem.W.mg_of X G g_NoText, kp_NoText, xx_NoText, sb_NoText, ty_NoText⟩
  have E_TooFar : ExG K mg ("TooFar" : Str) C_TooFar := ⟨by decide +kernel, PySem.W.mg_of X G g_TooFar, kp_TooFar, xx_TooFar, sb_TooFar, ty_TooFar⟩
  have E_TooLong : ExG K mg ("TooLong" : Str) C_TooLong := ⟨by decide +kernel, PySem.W.mg_of X G g_TooLong, kp_TooLong, xx_TooLong, sb_TooLong, ty_TooLong⟩
  have E_TooBig : ExG K mg ("TooBig" : Str) C_TooBig := ⟨by decide +kernel, PySem.W.mg_of X G g_TooBig, kp_TooBig, xx_TooBig, sb_TooBig, ty_TooBig⟩
  have E_NoRow : ExG K mg ("NoRow" : Str) C_NoRow := ⟨by decide +kernel, PySem.W.mg_of X G g_NoRow, kp_NoRow, xx_NoRow, sb_NoRow, ty_NoRow⟩
  have E_NoName : ExG K mg ("NoName" : Str) C_NoName := ⟨by decide +kernel, PySem.W.mg_of X G g_NoName, kp_NoName, xx_NoName, sb_NoName, ty_NoName⟩
  have E_ec : EcOk K mg (fun c => ([C_RuleError, C_NoNumber, C_NoBy, C_NoText, C_TooFar, C_TooLong, C_TooBig, C_NoRow, C_NoName] : List Addr).getD c 0) ec := by
    refine ⟨?_, ?_, ?_, ?_, ?_, ?_⟩
    · intro c hc
      have hc : c ∈ ([(("RuleError" : Str), 0), (("NoNumber" : Str), 1), (("NoBy" : Str), 2), (("NoText" : Str), 3), (("TooFar" : Str), 4), (("TooLong" : Str), 5), (("TooBig" : Str), 6), (("NoRow" : Str), 7), (("NoName" : Str), 8)] : List (Str × Nat)) := hc
      simp only [List.mem_cons, List.not_mem_nil, or_false] at hc
      rcases hc with rfl | rfl | rfl | rfl | rfl | rfl | rfl | rfl | rfl
      · exact E_RuleError
      · exact E_NoNumber
      · exact E_NoBy
      · exact E_NoText
      · exact E_TooFar
      · exact E_TooLong
      · exact E_TooBig
      · exact E_NoRow
      · exact E_NoName
    · intro c hc
      have hc : c ∈ ([4] : List Nat) := hc
      simp only [List.mem_cons, List.not_mem_nil, or_false] at hc
      rcases hc with rfl
      · exact n_TooFar
    · intro c hc
      have hc : c ∈ ([4] : List Nat) := hc
      simp only [List.mem_cons, List.not_mem_nil, or_false] at hc
      rcases hc with rfl
      · exact (⟨hg_TooFar, hk_TooFar, sb_TooFar, hd_TooFar, ha_TooFar, hn_, ht_, hm_TooFar⟩ : ExcC K C_TooFar)
    · intro c hc
      have hc : c ∈ ([(4, some 4), (4, some 2), (4, some 8), (4, some 1), (4, some 7), (4, some 3), (4, some 6), (4, some 5), (4, none)] : List (Nat × Option Nat)) := hc
      simp only [List.mem_cons, List.not_mem_nil, or_false] at hc
      rcases hc with rfl | rfl | rfl | rfl | rfl | rfl | rfl | rfl | rfl
      · exact kt_TooFar_TooFar
      · exact kt_TooFar_NoBy
      · exact kt_TooFar_NoName
      · exact kt_TooFar_NoNumber
      · exact kt_TooFar_NoRow
      · exact kt_TooFar_NoText
      · exact kt_TooFar_TooBig
      · exact kt_TooFar_TooLong
      · exact kt_TooFar_VE
    · intro c hc
      have hc : c ∈ ([some 4, some 2, some 8, some 1, some 7, some 3, some 6, some 5, none] : List (Option Nat)) := hc
      simp only [List.mem_cons, List.not_mem_nil, or_false] at hc
      rcases hc with rfl | rfl | rfl | rfl | rfl | rfl | rfl | rfl | rfl
      · exact kn_TooFar
      · exact kn_NoBy
      · exact kn_NoName
      · exact kn_NoNumber
      · exact kn_NoRow
      · exact kn_NoText
      · exact kn_TooBig
      · exact kn_TooLong
      · exact kn_VE
    · intro c hc
      have hc : c ∈ ([4] : List Nat) := hc
      simp only [List.mem_cons, List.not_mem_nil, or_false] at hc
      rcases hc with rfl
      · exact em_TooFar
  refine ⟨[(("_law_all_refused" : Str), cq_l_all_refused, pq_l_all_refused)], fun p hp => ?_, ?_⟩
  · simp only [List.mem_cons, List.not_mem_nil, or_false] at hp
    rcases hp with rfl
    · exact ⟨by simp, td_l_all_refused, nl_l_all_refused⟩
  letI : Tbc := tabT [(("_law_all_refused" : Str), cq_l_all_refused, pq_l_all_refused)]
  refine ⟨e_law, binds_law F_law fun _ _ _ _ _ _ _ => rfl, fun base KB GB hTB => ?_⟩
  clear X G KB GB
  have A_l_mix : Fn.At P w K mg base (fun c => ([C_RuleError, C_NoNumber, C_NoBy, C_NoText, C_TooFar, C_TooLong, C_TooBig, C_NoRow, C_NoName] : List Addr).getD c 0) 1 ⟨("_law_mix" : Str), [("_law_cell" : Str), ("_law_k" : Str)], f_l_mix, e_l_mix, s_l_mix, false⟩ := def_ok (nm := n_l_mix) (ps := [("_law_cell" : Str), ("_law_k" : Str)]) (body := c_l_mix) (fr := false) (fd := e_l_mix) [] [] [] a_l_mix F_l_mix sc_l_mix at_nil ato_nil bl_nil E_ec rfl cn_nil rfl rfl rfl ⟨rfl, rfl, rfl⟩ db_l_mix ck_l_mix (F_l_mix.binds (ps := [("_law_cell" : Str), ("_law_k" : Str)]) fun _ _ _ _ _ _ us hl => match us, hl with | [_, _], _ => rfl)
  have A_l_drawn_by : Fn.At P w K mg base (fun c => ([C_RuleError, C_NoNumber, C_NoBy, C_NoText, C_TooFar, C_TooLong, C_TooBig, C_NoRow, C_NoName] : List Addr).getD c 0) 2 ⟨("_law_drawn_by" : Str), [("_law_cell" : Str)], f_l_drawn_by, e_l_drawn_by, s_l_drawn_by, false⟩ := def_ok (nm := n_l_drawn_by) (ps := [("_law_cell" : Str)]) (body := c_l_drawn_by) (fr := false) (fd := e_l_drawn_by) [⟨("_law_mix" : Str), [("_law_cell" : Str), ("_law_k" : Str)], f_l_mix, e_l_mix, s_l_mix, false⟩] [] [] a_l_drawn_by F_l_drawn_by sc_l_drawn_by (at_cons A_l_mix (by decide) at_nil) ato_nil bl_nil E_ec rfl cn_nil rfl rfl rfl ⟨rfl, rfl, rfl⟩ db_l_drawn_by ck_l_drawn_by (F_l_drawn_by.binds (ps := [("_law_cell" : Str)]) fun _ _ _ _ _ _ us hl => match us, hl with | [_], _ => rfl)
  have A_l_cell_at : Fn.At P w K mg base (fun c => ([C_RuleError, C_NoNumber, C_NoBy, C_NoText, C_TooFar, C_TooLong, C_TooBig, C_NoRow, C_NoName] : List Addr).getD c 0) 1 ⟨("_law_cell_at" : Str), [("_law_script" : Str), ("_law_k" : Str)], f_l_cell_at, e_l_cell_at, s_l_cell_at, false⟩ := def_ok (nm := n_l_cell_at) (ps := [("_law_script" : Str), ("_law_k" : Str)]) (body := c_l_cell_at) (fr := false) (fd := e_l_cell_at) [] [] [] a_l_cell_at F_l_cell_at sc_l_cell_at at_nil ato_nil (bl_cons z_len bl_nil) E_ec rfl cn_nil rfl rfl rfl ⟨rfl, rfl, rfl⟩ db_l_cell_at ck_l_cell_at (F_l_cell_at.binds (ps := [("_law_script" : Str), ("_law_k" : Str)]) fun _ _ _ _ _ _ us hl => match us, hl with | [_, _], _ => rfl)
  have A_l_taken : Fn.At P w K mg base (fun c => ([C_RuleError, C_NoNumber, C_NoBy, C_NoText, C_TooFar, C_TooLong, C_TooBig, C_NoRow, C_NoName] : List Addr).getD c 0) 1 ⟨("_law_taken" : Str), [("_law_by" : Str), ("_law_number" : Str)], f_l_taken, e_l_taken, s_l_taken, false⟩ := def_ok (nm := n_l_taken) (ps := [("_law_by" : Str), ("_law_number" : Str)]) (body := c_l_taken) (fr := false) (fd := e_l_taken) [] [] [] a_l_taken F_l_taken sc_l_taken at_nil ato_nil bl_nil E_ec rfl cn_nil rfl rfl rfl ⟨rfl, rfl, rfl⟩ db_l_taken ck_l_taken (F_l_taken.binds (ps := [("_law_by" : Str), ("_law_number" : Str)]) fun _ _ _ _ _ _ us hl => match us, hl with | [_, _], _ => rfl)
  have A_l_one_number : Fn.At P w K mg base (fun c => ([C_RuleError, C_NoNumber, C_NoBy, C_NoText, C_TooFar, C_TooLong, C_TooBig, C_NoRow, C_NoName] : List Addr).getD c 0) 2 ⟨("_law_one_number" : Str), [("_law_by" : Str), ("_law_cell" : Str), ("_law_k" : Str)], f_l_one_number, e_l_one_number, s_l_one_number, false⟩ := def_ok (nm := n_l_one_number) (ps := [("_law_by" : Str), ("_law_cell" : Str), ("_law_k" : Str)]) (body := c_l_one_number) (fr := false) (fd := e_l_one_number) [⟨("_law_mix" : Str), [("_law_cell" : Str), ("_law_k" : Str)], f_l_mix, e_l_mix, s_l_mix, false⟩, ⟨("_law_taken" : Str), [("_law_by" : Str), ("_law_number" : Str)], f_l_taken, e_l_taken, s_l_taken, false⟩] [] [] a_l_one_number F_l_one_number sc_l_one_number (at_cons A_l_mix (by decide) (at_cons A_l_taken (by decide) at_nil)) ato_nil (bl_cons z_int bl_nil) E_ec rfl cn_nil rfl rfl rfl ⟨rfl, rfl, rfl⟩ db_l_one_number ck_l_one_number (F_l_one_number.binds (ps := [("_law_by" : Str), ("_law_cell" : Str), ("_law_k" : Str)]) fun _ _ _ _ _ _ us hl => match us, hl with | [_, _, _], _ => rfl)
  have A_l_places : Fn.At P w K mg base (fun c => ([C_RuleError, C_NoNumber, C_NoBy, C_NoText, C_TooFar, C_TooLong, C_TooBig, C_NoRow, C_NoName] : List Addr).getD c 0) 2 ⟨("_law_places" : Str), [("_law_row" : Str), ("_law_count" : Str)], f_l_places, e_l_places, s_l_places, false⟩ := def_ok (nm := n_l_places) (ps := [("_law_row" : Str), ("_law_count" : Str)]) (body := c_l_places) (fr := false) (fd := e_l_places) [⟨("_law_taken" : Str), [("_law_by" : Str), ("_law_number" : Str)], f_l_taken, e_l_taken, s_l_taken, false⟩] [] [] a_l_places F_l_places sc_l_places (at_cons A_l_taken (by decide) at_nil) ato_nil (bl_cons z_list (bl_cons z_len (bl_cons z_sum (bl_cons z_range bl_nil)))) E_ec rfl cn_nil rfl rfl rfl ⟨rfl, rfl, rfl⟩ db_l_places ck_l_places (F_l_places.binds (ps := [("_law_row" : Str), ("_law_count" : Str)]) fun _ _ _ _ _ _ us hl => match us, hl with | [_, _], _ => rfl)
  have A_l_made_longer : Fn.At P w K mg base (fun c => ([C_RuleError, C_NoNumber, C_NoBy, C_NoText, C_TooFar, C_TooLong, C_TooBig, C_NoRow, C_NoName] : List Addr).getD c 0) 3 ⟨("_law_made_longer" : Str), [("_law_row" : Str), ("_law_number" : Str)], f_l_made_longer, e_l_made_longer, s_l_made_longer, false⟩ := def_ok (nm := n_l_made_longer) (ps := [("_law_row" : Str), ("_law_number" : Str)]) (body := c_l_made_longer) (fr := false) (fd := e_l_made_longer) [⟨("_law_places" : Str), [("_law_row" : Str), ("_law_count" : Str)], f_l_places, e_l_places, s_l_places, false⟩, ⟨("_law_taken" : Str), [("_law_by" : Str), ("_law_number" : Str)], f_l_taken, e_l_taken, s_l_taken, false⟩] [] [] a_l_made_longer F_l_made_longer sc_l_made_longer (at_cons A_l_places (by decide) (at_cons A_l_taken (by decide) at_nil)) ato_nil (bl_cons z_len (bl_cons z_range (bl_cons z_tuple bl_nil))) E_ec rfl cn_nil rfl rfl rfl ⟨rfl, rfl, rfl⟩ db_l_made_longer ck_l_made_longer (F_l_made_longer.binds (ps := [("_law_row" : Str), ("_law_number" : Str)]) fun _ _ _ _ _ _ us hl => match us, hl with | [_, _], _ => rfl)
  have A_l_drawn_row : Fn.At P w K mg base (fun c => ([C_RuleError, C_NoNumber, C_NoBy, C_NoText, C_TooFar, C_TooLong, C_TooBig, C_NoRow, C_NoName] : List Addr).getD c 0) 4 ⟨("_law_drawn_row" : Str), [("_law_script" : Str), ("_law_start" : Str), ("_law_by" : Str), ("_law_most" : Str)], f_l_drawn_row, e_l_drawn_row, s_l_drawn_row, false⟩ := def_ok (nm := n_l_drawn_row) (ps := [("_law_script" : Str), ("_law_start" : Str), ("_law_by" : Str), ("_law_most" : Str)]) (body := c_l_drawn_row) (fr := false) (fd := e_l_drawn_row) [⟨("_law_cell_at" : Str), [("_law_script" : Str), ("_law_k" : Str)], f_l_cell_at, e_l_cell_at, s_l_cell_at, false⟩, ⟨("_law_mix" : Str), [("_law_cell" : Str), ("_law_k" : Str)], f_l_mix, e_l_mix, s_l_mix, false⟩, ⟨("_law_one_number" : Str), [("_law_by" : Str), ("_law_cell" : Str), ("_law_k" : Str)], f_l_one_number, e_l_one_number, s_l_one_number, false⟩, ⟨("_law_made_longer" : Str), [("_law_row" : Str), ("_law_number" : Str)], f_l_made_longer, e_l_made_longer, s_l_made_longer, false⟩, ⟨("_law_taken" : Str), [("_law_by" : Str), ("_law_number" : Str)], f_l_taken, e_l_taken, s_l_taken, false⟩] [] [] a_l_drawn_row F_l_drawn_row sc_l_drawn_row (at_cons A_l_cell_at (by decide) (at_cons A_l_mix (by decide) (at_cons A_l_one_number (by decide) (at_cons A_l_made_longer (by decide) (at_cons A_l_taken (by decide) at_nil))))) ato_nil (bl_cons z_tuple (bl_cons z_range (bl_cons z_len bl_nil))) E_ec rfl cn_nil rfl rfl rfl ⟨rfl, rfl, rfl⟩ db_l_drawn_row ck_l_drawn_row (F_l_drawn_row.binds (ps := [("_law_script" : Str), ("_law_start" : Str), ("_law_by" : Str), ("_law_most" : Str)]) fun _ _ _ _ _ _ us hl => match us, hl with | [_, _, _, _], _ => rfl)
  have A_ask_far : Fn.At P w K mg base (fun c => ([C_RuleError, C_NoNumber, C_NoBy, C_NoText, C_TooFar, C_TooLong, C_TooBig, C_NoRow, C_NoName] : List Addr).getD c 0) 1 ⟨("ask_far" : Str), [("row" : Str), ("n" : Str)], f_ask_far, e_ask_far, s_ask_far, false⟩ := def_ok (nm := n_ask_far) (ps := [("row" : Str), ("n" : Str)]) (body := c_ask_far) (fr := false) (fd := e_ask_far) [] [] [(("FARTHEST" : Str), cn_FARTHEST)] a_ask_far F_ask_far sc_ask_far at_nil ato_nil bl_nil E_ec rfl (cn_cons (p := (("FARTHEST" : Str), cn_FARTHEST)) ⟨by decide +kernel, V.int (400), _, q_FARTHEST, ⟨_, rfl⟩, fun _ => rep_int.mpr rfl⟩ cn_nil) rfl rfl rfl ⟨rfl, rfl, rfl⟩ db_ask_far ck_ask_far (F_ask_far.binds (ps := [("row" : Str), ("n" : Str)]) fun _ _ _ _ _ _ us hl => match us, hl with | [_, _], _ => rfl)
  have A_taken : Fn.At P w K mg base (fun c => ([C_RuleError, C_NoNumber, C_NoBy, C_NoText, C_TooFar, C_TooLong, C_TooBig, C_NoRow, C_NoName] : List Addr).getD c 0) 1 ⟨("taken" : Str), [("by" : Str), ("number" : Str)], f_taken, e_taken, s_taken, false⟩ := def_ok (nm := n_taken) (ps := [("by" : Str), ("number" : Str)]) (body := c_taken) (fr := false) (fd := e_taken) [] [] [] a_taken F_taken sc_taken at_nil ato_nil bl_nil E_ec rfl cn_nil rfl rfl rfl ⟨rfl, rfl, rfl⟩ db_taken ck_taken (F_taken.binds (ps := [("by" : Str), ("number" : Str)]) fun _ _ _ _ _ _ us hl => match us, hl with | [_, _], _ => rfl)
  have A_trimmed : Fn.At P w K mg base (fun c => ([C_RuleError, C_NoNumber, C_NoBy, C_NoText, C_TooFar, C_TooLong, C_TooBig, C_NoRow, C_NoName] : List Addr).getD c 0) 2 ⟨("trimmed" : Str), [("by" : Str), ("numbers" : Str)], f_trimmed, e_trimmed, s_trimmed, false⟩ := def_ok (nm := n_trimmed) (ps := [("by" : Str), ("numbers" : Str)]) (body := c_trimmed) (fr := false) (fd := e_trimmed) [⟨("taken" : Str), [("by" : Str), ("number" : Str)], f_taken, e_taken, s_taken, false⟩] [] [] a_trimmed F_trimmed sc_trimmed (at_cons A_taken (by decide) at_nil) ato_nil (bl_cons z_tuple bl_nil) E_ec rfl cn_nil rfl rfl rfl ⟨rfl, rfl, rfl⟩ db_trimmed ck_trimmed (F_trimmed.binds (ps := [("by" : Str), ("numbers" : Str)]) fun _ _ _ _ _ _ us hl => match us, hl with | [_, _], _ => rfl)
  have A_divided : Fn.At P w K mg base (fun c => ([C_RuleError, C_NoNumber, C_NoBy, C_NoText, C_TooFar, C_TooLong, C_TooBig, C_NoRow, C_NoName] : List Addr).getD c 0) 3 ⟨("divided" : Str), [("by" : Str), ("one" : Str), ("other" : Str)], f_divided, e_divided, s_divided, false⟩ := def_ok (nm := n_divided) (ps := [("by" : Str), ("one" : Str), ("other" : Str)]) (body := c_divided) (fr := false) (fd := e_divided) [⟨("taken" : Str), [("by" : Str), ("number" : Str)], f_taken, e_taken, s_taken, false⟩, ⟨("trimmed" : Str), [("by" : Str), ("numbers" : Str)], f_trimmed, e_trimmed, s_trimmed, false⟩] [] [] a_divided F_divided sc_divided (at_cons A_taken (by decide) (at_cons A_trimmed (by decide) at_nil)) ato_nil (bl_cons z_list (bl_cons z_len (bl_cons z_range (bl_cons z_enumerate bl_nil)))) E_ec rfl cn_nil rfl rfl rfl ⟨rfl, rfl, rfl⟩ db_divided ck_divided (F_divided.binds (ps := [("by" : Str), ("one" : Str), ("other" : Str)]) fun _ _ _ _ _ _ us hl => match us, hl with | [_, _, _], _ => rfl)
  have A_times : Fn.At P w K mg base (fun c => ([C_RuleError, C_NoNumber, C_NoBy, C_NoText, C_TooFar, C_TooLong, C_TooBig, C_NoRow, C_NoName] : List Addr).getD c 0) 3 ⟨("times" : Str), [("by" : Str), ("one" : Str), ("other" : Str)], f_times, e_times, s_times, false⟩ := def_ok (nm := n_times) (ps := [("by" : Str), ("one" : Str), ("other" : Str)]) (body := c_times) (fr := false) (fd := e_times) [⟨("trimmed" : Str), [("by" : Str), ("numbers" : Str)], f_trimmed, e_trimmed, s_trimmed, false⟩] [] [] a_times F_times sc_times (at_cons A_trimmed (by decide) at_nil) ato_nil (bl_cons z_len (bl_cons z_enumerate bl_nil)) E_ec rfl cn_nil rfl rfl rfl ⟨rfl, rfl, rfl⟩ db_times ck_times (F_times.binds (ps := [("by" : Str), ("one" : Str), ("other" : Str)]) fun _ _ _ _ _ _ us hl => match us, hl with | [_, _, _], _ => rfl)
  have A_power_left : Fn.At P w K mg base (fun c => ([C_RuleError, C_NoNumber, C_NoBy, C_NoText, C_TooFar, C_TooLong, C_TooBig, C_NoRow, C_NoName] : List Addr).getD c 0) 4 ⟨("power_left" : Str), [("by" : Str), ("n" : Str), ("poly" : Str)], f_power_left, e_power_left, s_power_left, false⟩ := def_ok (nm := n_power_left) (ps := [("by" : Str), ("n" : Str), ("poly" : Str)]) (body := c_power_left) (fr := false) (fd := e_power_left) [⟨("divided" : Str), [("by" : Str), ("one" : Str), ("other" : Str)], f_divided, e_divided, s_divided, false⟩, ⟨("times" : Str), [("by" : Str), ("one" : Str), ("other" : Str)], f_times, e_times, s_times, false⟩] [] [] a_power_left F_power_left sc_power_left (at_cons A_divided (by decide) (at_cons A_times (by decide) at_nil)) ato_nil bl_nil E_ec rfl cn_nil rfl rfl rfl ⟨rfl, rfl, rfl⟩ db_power_left ck_power_left (F_power_left.binds (ps := [("by" : Str), ("n" : Str), ("poly" : Str)]) fun _ _ _ _ _ _ us hl => match us, hl with | [_, _, _], _ => rfl)
  have A_of_rule : Fn.At P w K mg base (fun c => ([C_RuleError, C_NoNumber, C_NoBy, C_NoText, C_TooFar, C_TooLong, C_TooBig, C_NoRow, C_NoName] : List Addr).getD c 0) 2 ⟨("of_rule" : Str), [("by" : Str), ("rule" : Str)], f_of_rule, e_of_rule, s_of_rule, false⟩ := def_ok (nm := n_of_rule) (ps := [("by" : Str), ("rule" : Str)]) (body := c_of_rule) (fr := false) (fd := e_of_rule) [⟨("taken" : Str), [("by" : Str), ("number" : Str)], f_taken, e_taken, s_taken, false⟩] [] [] a_of_rule F_of_rule sc_of_rule (at_cons A_taken (by decide) at_nil) ato_nil (bl_cons z_tuple (bl_cons z_reversed bl_nil)) E_ec rfl cn_nil rfl rfl rfl ⟨rfl, rfl, rfl⟩ db_of_rule ck_of_rule (F_of_rule.binds (ps := [("by" : Str), ("rule" : Str)]) fun _ _ _ _ _ _ us hl => match us, hl with | [_, _], _ => rfl)
  have A_jump : Fn.At P w K mg base (fun c => ([C_RuleError, C_NoNumber, C_NoBy, C_NoText, C_TooFar, C_TooLong, C_TooBig, C_NoRow, C_NoName] : List Addr).getD c 0) 5 ⟨("jump" : Str), [("row" : Str), ("n" : Str)], f_jump, e_jump, s_jump, false⟩ := def_ok (nm := n_jump) (ps := [("row" : Str), ("n" : Str)]) (body := c_jump) (fr := false) (fd := e_jump) [⟨("ask_far" : Str), [("row" : Str), ("n" : Str)], f_ask_far, e_ask_far, s_ask_far, false⟩, ⟨("power_left" : Str), [("by" : Str), ("n" : Str), ("poly" : Str)], f_power_left, e_power_left, s_power_left, false⟩, ⟨("of_rule" : Str), [("by" : Str), ("rule" : Str)], f_of_rule, e_of_rule, s_of_rule, false⟩] [] [] a_jump F_jump sc_jump (at_cons A_ask_far (by decide) (at_cons A_power_left (by decide) (at_cons A_of_rule (by decide) at_nil))) ato_nil (bl_cons z_tuple (bl_cons z_list (bl_cons z_len bl_nil))) E_ec rfl cn_nil rfl rfl rfl ⟨rfl, rfl, rfl⟩ db_jump ck_jump (F_jump.binds (ps := [("row" : Str), ("n" : Str)]) fun _ _ _ _ _ _ us hl => match us, hl with | [_, _], _ => rfl)
  have A_first_places : Fn.At P w K mg base (fun c => ([C_RuleError, C_NoNumber, C_NoBy, C_NoText, C_TooFar, C_TooLong, C_TooBig, C_NoRow, C_NoName] : List Addr).getD c 0) 2 ⟨("first_places" : Str), [("row" : Str), ("count" : Str)], f_first_places, e_first_places, s_first_places, false⟩ := def_ok (nm := n_first_places) (ps := [("row" : Str), ("count" : Str)]) (body := c_first_places) (fr := false) (fd := e_first_places) [⟨("taken" : Str), [("by" : Str), ("number" : Str)], f_taken, e_taken, s_taken, false⟩] [] [] a_first_places F_first_places sc_first_places (at_cons A_taken (by decide) at_nil) ato_nil (bl_cons z_list (bl_cons z_len (bl_cons z_enumerate bl_nil))) E_ec rfl cn_nil rfl rfl rfl ⟨rfl, rfl, rfl⟩ db_first_places ck_first_places (F_first_places.binds (ps := [("row" : Str), ("count" : Str)]) fun _ _ _ _ _ _ us hl => match us, hl with | [_, _], _ => rfl)
  have A_told_by : Fn.At P w K mg base (fun c => ([C_RuleError, C_NoNumber, C_NoBy, C_NoText, C_TooFar, C_TooLong, C_TooBig, C_NoRow, C_NoName] : List Addr).getD c 0) 3 ⟨("told_by" : Str), [("row" : Str), ("numbers" : Str), ("m" : Str)], f_told_by, e_told_by, s_told_by, false⟩ := def_ok (nm := n_told_by) (ps := [("row" : Str), ("numbers" : Str), ("m" : Str)]) (body := c_told_by) (fr := false) (fd := e_told_by) [⟨("first_places" : Str), [("row" : Str), ("count" : Str)], f_first_places, e_first_places, s_first_places, false⟩, ⟨("taken" : Str), [("by" : Str), ("number" : Str)], f_taken, e_taken, s_taken, false⟩] [] [] a_told_by F_told_by sc_told_by (at_cons A_first_places (by decide) (at_cons A_taken (by decide) at_nil)) ato_nil (bl_cons z_len (bl_cons z_sum (bl_cons z_enumerate bl_nil))) E_ec rfl cn_nil rfl rfl rfl ⟨rfl, rfl, rfl⟩ db_told_by ck_told_by (F_told_by.binds (ps := [("row" : Str), ("numbers" : Str), ("m" : Str)]) fun _ _ _ _ _ _ us hl => match us, hl with | [_, _, _], _ => rfl)
  have A_onward : Fn.At P w K mg base (fun c => ([C_RuleError, C_NoNumber, C_NoBy, C_NoText, C_TooFar, C_TooLong, C_TooBig, C_NoRow, C_NoName] : List Addr).getD c 0) 6 ⟨("onward" : Str), [("row" : Str), ("n" : Str)], f_onward, e_onward, s_onward, false⟩ := def_ok (nm := n_onward) (ps := [("row" : Str), ("n" : Str)]) (body := c_onward) (fr := false) (fd := e_onward) [⟨("jump" : Str), [("row" : Str), ("n" : Str)], f_jump, e_jump, s_jump, false⟩, ⟨("told_by" : Str), [("row" : Str), ("numbers" : Str), ("m" : Str)], f_told_by, e_told_by, s_told_by, false⟩] [] [] a_onward F_onward sc_onward (at_cons A_jump (by decide) (at_cons A_told_by (by decide) at_nil)) ato_nil (bl_cons z_tuple (bl_cons z_range (bl_cons z_len bl_nil))) E_ec rfl cn_nil rfl rfl rfl ⟨rfl, rfl, rfl⟩ db_onward ck_onward (F_onward.binds (ps := [("row" : Str), ("n" : Str)]) fun _ _ _ _ _ _ us hl => match us, hl with | [_, _], _ => rfl)
  have A_l_times_x : Fn.At P w K mg base (fun c => ([C_RuleError, C_NoNumber, C_NoBy, C_NoText, C_TooFar, C_TooLong, C_TooBig, C_NoRow, C_NoName] : List Addr).getD c 0) 2 ⟨("_law_times_x" : Str), [("_law_by" : Str), ("_law_row" : Str), ("_law_rest" : Str)], f_l_times_x, e_l_times_x, s_l_times_x, false⟩ := def_ok (nm := n_l_times_x) (ps := [("_law_by" : Str), ("_law_row" : Str), ("_law_rest" : Str)]) (body := c_l_times_x) (fr := false) (fd := e_l_times_x) [⟨("_law_taken" : Str), [("_law_by" : Str), ("_law_number" : Str)], f_l_taken, e_l_taken, s_l_taken, false⟩] [] [] a_l_times_x F_l_times_x sc_l_times_x (at_cons A_l_taken (by decide) at_nil) ato_nil (bl_cons z_range (bl_cons z_len bl_nil)) E_ec rfl cn_nil rfl rfl rfl ⟨rfl, rfl, rfl⟩ db_l_times_x ck_l_times_x (F_l_times_x.binds (ps := [("_law_by" : Str), ("_law_row" : Str), ("_law_rest" : Str)]) fun _ _ _ _ _ _ us hl => match us, hl with | [_, _, _], _ => rfl)
  have A_l_step_by_step : Fn.At P w K mg base (fun c => ([C_RuleError, C_NoNumber, C_NoBy, C_NoText, C_TooFar, C_TooLong, C_TooBig, C_NoRow, C_NoName] : List Addr).getD c 0) 3 ⟨("_law_step_by_step" : Str), [("_law_by" : Str), ("_law_row" : Str), ("_law_n" : Str)], f_l_step_by_step, e_l_step_by_step, s_l_step_by_step, false⟩ := def_ok (nm := n_l_step_by_step) (ps := [("_law_by" : Str), ("_law_row" : Str), ("_law_n" : Str)]) (body := c_l_step_by_step) (fr := false) (fd := e_l_step_by_step) [⟨("_law_times_x" : Str), [("_law_by" : Str), ("_law_row" : Str), ("_law_rest" : Str)], f_l_times_x, e_l_times_x, s_l_times_x, false⟩] [] [] a_l_step_by_step F_l_step_by_step sc_l_step_by_step (at_cons A_l_times_x (by decide) at_nil) ato_nil (bl_cons z_len (bl_cons z_range bl_nil)) E_ec rfl cn_nil rfl rfl rfl ⟨rfl, rfl, rfl⟩ db_l_step_by_step ck_l_step_by_step (F_l_step_by_step.binds (ps := [("_law_by" : Str), ("_law_row" : Str), ("_law_n" : Str)]) fun _ _ _ _ _ _ us hl => match us, hl with | [_, _, _], _ => rfl)
  have A_l_rolled_rests : Fn.At P w K mg base (fun c => ([C_RuleError, C_NoNumber, C_NoBy, C_NoText, C_TooFar, C_TooLong, C_TooBig, C_NoRow, C_NoName] : List Addr).getD c 0) 3 ⟨("_law_rolled_rests" : Str), [("_law_by" : Str), ("_law_row" : Str), ("_law_one" : Str), ("_law_other" : Str)], f_l_rolled_rests, e_l_rolled_rests, s_l_rolled_rests, false⟩ := def_ok (nm := n_l_rolled_rests) (ps := [("_law_by" : Str), ("_law_row" : Str), ("_law_one" : Str), ("_law_other" : Str)]) (body := c_l_rolled_rests) (fr := false) (fd := e_l_rolled_rests) [⟨("_law_taken" : Str), [("_law_by" : Str), ("_law_number" : Str)], f_l_taken, e_l_taken, s_l_taken, false⟩, ⟨("_law_times_x" : Str), [("_law_by" : Str), ("_law_row" : Str), ("_law_rest" : Str)], f_l_times_x, e_l_times_x, s_l_times_x, false⟩] [] [] a_l_rolled_rests F_l_rolled_rests sc_l_rolled_rests (at_cons A_l_taken (by decide) (at_cons A_l_times_x (by decide) at_nil)) ato_nil (bl_cons z_len (bl_cons z_list (bl_cons z_range bl_nil))) E_ec rfl cn_nil rfl rfl rfl ⟨rfl, rfl, rfl⟩ db_l_rolled_rests ck_l_rolled_rests (F_l_rolled_rests.binds (ps := [("_law_by" : Str), ("_law_row" : Str), ("_law_one" : Str), ("_law_other" : Str)]) fun _ _ _ _ _ _ us hl => match us, hl with | [_, _, _, _], _ => rfl)
  have A_l_rest_far : Fn.At P w K mg base (fun c => ([C_RuleError, C_NoNumber, C_NoBy, C_NoText, C_TooFar, C_TooLong, C_TooBig, C_NoRow, C_NoName] : List Addr).getD c 0) 4 ⟨("_law_rest_far" : Str), [("_law_by" : Str), ("_law_row" : Str), ("_law_n" : Str)], f_l_rest_far, e_l_rest_far, s_l_rest_far, false⟩ := def_ok (nm := n_l_rest_far) (ps := [("_law_by" : Str), ("_law_row" : Str), ("_law_n" : Str)]) (body := c_l_rest_far) (fr := false) (fd := e_l_rest_far) [⟨("_law_step_by_step" : Str), [("_law_by" : Str), ("_law_row" : Str), ("_law_n" : Str)], f_l_step_by_step, e_l_step_by_step, s_l_step_by_step, false⟩, ⟨("_law_rolled_rests" : Str), [("_law_by" : Str), ("_law_row" : Str), ("_law_one" : Str), ("_law_other" : Str)], f_l_rolled_rests, e_l_rolled_rests, s_l_rolled_rests, false⟩] [] [] a_l_rest_far F_l_rest_far sc_l_rest_far (at_cons A_l_step_by_step (by decide) (at_cons A_l_rolled_rests (by decide) at_nil)) ato_nil bl_nil E_ec rfl cn_nil rfl rfl rfl ⟨rfl, rfl, rfl⟩ db_l_rest_far ck_l_rest_far (F_l_rest_far.binds (ps := [("_law_by" : Str), ("_law_row" : Str), ("_law_n" : Str)]) fun _ _ _ _ _ _ us hl => match us, hl with | [_, _, _], _ => rfl)
  have A_l_refused : ∀ k, FnL.Ok (fun c => ([C_RuleError, C_NoNumber, C_NoBy, C_NoText, C_TooFar, C_TooLong, C_TooBig, C_NoRow, C_NoName] : List Addr).getD c 0) P w K mg base k ⟨("_law_refused" : Str), f_l_refused, s_l_refused⟩ := fun k => fn_okL (nm := n_l_refused) (body := c_l_refused) [] a_l_refused F_l_refused sc_l_refused (bl_cons z_isinstance (bl_cons z_ValueError bl_nil)) E_ec cn_nil ⟨rfl, rfl, rfl, rfl, rfl, rfl⟩ rfl db_l_refused rfl (by decide +kernel) ck_l_refused (F_l_refused.binds (ps := [("_law_told" : Str)]) fun _ _ _ _ _ _ us hl => match us, hl with | [_], _ => rfl)
  have A_place_at : Fn.At P w K mg base (fun c => ([C_RuleError, C_NoNumber, C_NoBy, C_NoText, C_TooFar, C_TooLong, C_TooBig, C_NoRow, C_NoName] : List Addr).getD c 0) 6 ⟨("place_at" : Str), [("row" : Str), ("n" : Str)], f_place_at, e_place_at, s_place_at, false⟩ := def_ok (nm := n_place_at) (ps := [("row" : Str), ("n" : Str)]) (body := c_place_at) (fr := false) (fd := e_place_at) [⟨("told_by" : Str), [("row" : Str), ("numbers" : Str), ("m" : Str)], f_told_by, e_told_by, s_told_by, false⟩, ⟨("jump" : Str), [("row" : Str), ("n" : Str)], f_jump, e_jump, s_jump, false⟩] [] [] a_place_at F_place_at sc_place_at (at_cons A_told_by (by decide) (at_cons A_jump (by decide) at_nil)) ato_nil bl_nil E_ec rfl cn_nil rfl rfl rfl ⟨rfl, rfl, rfl⟩ db_place_at ck_place_at (F_place_at.binds (ps := [("row" : Str), ("n" : Str)]) fun _ _ _ _ _ _ us hl => match us, hl with | [_, _], _ => rfl)
  have U_l_all_refused : ∀ p ∈ Tbc.T, p.1 = pq_l_all_refused → p.2 = ("_law_all_refused" : Str) ++ ".<locals>." ++ "<lambda>" := fun p hp he => by
      have hp : p ∈ ([(pq_l_all_refused, ("_law_all_refused" : Str) ++ ".<locals>." ++ "<lambda>")] : List (Addr × Str)) := hp
      simp only [List.mem_cons, List.not_mem_nil, or_false] at hp
      rcases hp with rfl
      · rfl
  have A_l_all_refused : Fn.At P w K mg base (fun c => ([C_RuleError, C_NoNumber, C_NoBy, C_NoText, C_TooFar, C_TooLong, C_TooBig, C_NoRow, C_NoName] : List Addr).getD c 0) 9 ⟨("_law_all_refused" : Str), [("_law_row" : Str), ("_law_n" : Str)], f_l_all_refused, e_l_all_refused, s_l_all_refused, false⟩ := def_okM (nm := n_l_all_refused) (ps := [("_law_row" : Str), ("_law_n" : Str)]) (body := c_l_all_refused) (fr := false) (fd := e_l_all_refused) [⟨("jump" : Str), [("row" : Str), ("n" : Str)], f_jump, e_jump, s_jump, false⟩, ⟨("onward" : Str), [("row" : Str), ("n" : Str)], f_onward, e_onward, s_onward, false⟩, ⟨("place_at" : Str), [("row" : Str), ("n" : Str)], f_place_at, e_place_at, s_place_at, false⟩] [] [⟨("_law_refused" : Str), f_l_refused, s_l_refused⟩] [] a_l_all_refused F_l_all_refused sc_l_all_refused (at_cons A_jump (by decide) (at_cons A_onward (by decide) (at_cons A_place_at (by decide) at_nil))) ato_nil (fnl_cons (A_l_refused _) fnl_nil) bl_nil E_ec rfl cn_nil rfl rfl rfl ⟨rfl, rfl, rfl⟩ db_l_all_refused ck_l_all_refused (F_l_all_refused.binds (ps := [("_law_row" : Str), ("_law_n" : Str)]) fun _ _ _ _ _ _ us hl => match us, hl with | [_, _], _ => rfl) (td_l_all_refused.code a_l_all_refused F_l_all_refused) (hTB (("_law_all_refused" : Str), cq_l_all_refused, pq_l_all_refused) (by simp)) (List.mem_map.mpr ⟨(("_law_all_refused" : Str), cq_l_all_refused, pq_l_all_refused), by simp, rfl⟩) U_l_all_refused
  have A_l_is_row : Fn.At P w K mg base (fun c => ([C_RuleError, C_NoNumber, C_NoBy, C_NoText, C_TooFar, C_TooLong, C_TooBig, C_NoRow, C_NoName] : List Addr).getD c 0) 1 ⟨("_law_is_row" : Str), [("_law_found" : Str), ("_law_due" : Str)], f_l_is_row, e_l_is_row, s_l_is_row, false⟩ := def_ok (nm := n_l_is_row) (ps := [("_law_found" : Str), ("_law_due" : Str)]) (body := c_l_is_row) (fr := false) (fd := e_l_is_row) [] [] [] a_l_is_row F_l_is_row sc_l_is_row at_nil ato_nil (bl_cons z_isinstance (bl_cons z_tuple (bl_cons z_bool bl_nil))) E_ec rfl cn_nil rfl rfl rfl ⟨rfl, rfl, rfl⟩ db_l_is_row ck_l_is_row (F_l_is_row.binds (ps := [("_law_found" : Str), ("_law_due" : Str)]) fun _ _ _ _ _ _ us hl => match us, hl with | [_, _], _ => rfl)
  have A_law : Fn.At P w K mg base (fun c => ([C_RuleError, C_NoNumber, C_NoBy, C_NoText, C_TooFar, C_TooLong, C_TooBig, C_NoRow, C_NoName] : List Addr).getD c 0) 10 ⟨"law", [("_law_script" : Str)], fa, e_law, s_law, false⟩ := def_ok (nm := n_law) (ps := [("_law_script" : Str)]) (body := c_law) (fr := false) (fd := e_law) [⟨("_law_drawn_by" : Str), [("_law_cell" : Str)], f_l_drawn_by, e_l_drawn_by, s_l_drawn_by, false⟩, ⟨("_law_cell_at" : Str), [("_law_script" : Str), ("_law_k" : Str)], f_l_cell_at, e_l_cell_at, s_l_cell_at, false⟩, ⟨("_law_drawn_row" : Str), [("_law_script" : Str), ("_law_start" : Str), ("_law_by" : Str), ("_law_most" : Str)], f_l_drawn_row, e_l_drawn_row, s_l_drawn_row, false⟩, ⟨("_law_places" : Str), [("_law_row" : Str), ("_law_count" : Str)], f_l_places, e_l_places, s_l_places, false⟩, ⟨("_law_mix" : Str), [("_law_cell" : Str), ("_law_k" : Str)], f_l_mix, e_l_mix, s_l_mix, false⟩, ⟨("onward" : Str), [("row" : Str), ("n" : Str)], f_onward, e_onward, s_onward, false⟩, ⟨("_law_is_row" : Str), [("_law_found" : Str), ("_law_due" : Str)], f_l_is_row, e_l_is_row, s_l_is_row, false⟩, ⟨("_law_rest_far" : Str), [("_law_by" : Str), ("_law_row" : Str), ("_law_n" : Str)], f_l_rest_far, e_l_rest_far, s_l_rest_far, false⟩, ⟨("_law_taken" : Str), [("_law_by" : Str), ("_law_number" : Str)], f_l_taken, e_l_taken, s_l_taken, false⟩, ⟨("_law_all_refused" : Str), [("_law_row" : Str), ("_law_n" : Str)], f_l_all_refused, e_l_all_refused, s_l_all_refused, false⟩] [] [] hfa F_law sc_law (at_cons A_l_drawn_by (by decide) (at_cons A_l_cell_at (by decide) (at_cons A_l_drawn_row (by decide) (at_cons A_l_places (by decide) (at_cons A_l_mix (by decide) (at_cons A_onward (by decide) (at_cons A_l_is_row (by decide) (at_cons A_l_rest_far (by decide) (at_cons A_l_taken (by decide) (at_cons A_l_all_refused (by decide) at_nil)))))))))) ato_nil (bl_cons z_len (bl_cons z_tuple (bl_cons z_range (bl_cons z_sum bl_nil)))) E_ec rfl cn_nil rfl rfl rfl ⟨rfl, rfl, rfl⟩ db_law ck_law (F_law.binds (ps := [("_law_script" : Str)]) fun _ _ _ _ _ _ us hl => match us, hl with | [_], _ => rfl)
  exact ⟨_, A_law.ok⟩
end Lw
open PySem PySem.W PyProof.Rows in
set_option maxRecDepth 100000 in
set_option maxHeartbeats 0 in
theorem PySem.Challenge.cw_nextbyrule_k39_rows_from_a_place_on_holds : PySem.Challenge.rw_nextbyrule_k39_rows_from_a_place_on.Holds := by
  w_on; o_law; k_head; (case hw => w_witness2)
  k_fill
  refine Pf.walkT (l := PySem.Challenge.rw_nextbyrule_k39_rows_from_a_place_on) (x := ("_law_script" : Str)) (k := 10) (sem := Lw.s_law) [("_law_all_refused" : Str)] (by decide +kernel) rfl rfl ⟨rfl, by decide, by decide⟩ Lw.law_true (fun w h Y => PySem.W.km_in_of Y) ?F
  case F =>
    intro w mg fa h KX G hmg
    refine' Lw.all_mk KX G hmg ?d_l_mix ?d_l_drawn_by ?d_l_cell_at ?d_l_taken ?d_l_one_number ?d_l_places ?d_l_made_longer ?d_l_drawn_row ?d_ask_far ?d_taken ?d_trimmed ?d_divided ?d_times ?d_power_left ?d_of_rule ?d_jump ?d_first_places ?d_told_by ?d_onward ?d_l_times_x ?d_l_step_by_step ?d_l_rolled_rests ?d_l_rest_far ?d_l_refused ?d_place_at ?d_l_all_refused ?d_l_is_row ?d_law ?z_len ?z_int ?z_list ?z_sum ?z_range ?z_tuple ?z_enumerate ?z_reversed ?z_isinstance ?z_ValueError ?z_bool ?q_FARTHEST ?g_RuleError ?kp_RuleError ?sb_RuleError ?ty_RuleError ?xx_RuleError ?g_NoNumber ?kp_NoNumber ?sb_NoNumber ?ty_NoNumber ?xx_NoNumber ?g_NoBy ?kp_NoBy ?sb_NoBy ?ty_NoBy ?xx_NoBy ?g_NoText ?kp_NoText ?sb_NoText ?ty_NoText ?xx_NoText ?g_TooFar ?kp_TooFar ?sb_TooFar ?ty_TooFar ?xx_TooFar ?g_TooLong ?kp_TooLong ?sb_TooLong ?ty_TooLong ?xx_TooLong ?g_TooBig ?kp_TooBig ?sb_TooBig ?ty_TooBig ?xx_TooBig ?g_NoRow ?kp_NoRow ?sb_NoRow ?ty_NoRow ?xx_NoRow ?g_NoName ?kp_NoName ?sb_NoName ?ty_NoName ?xx_NoName ?hg_TooFar ?hk_TooFar ?hd_TooFar ?ha_TooFar ?hm_TooFar ?em_TooFar ?hn_ ?ht_ ?kt_TooFar_TooFar ?kt_TooFar_NoBy ?kt_TooFar_NoName ?kt_TooFar_NoNumber ?kt_TooFar_NoRow ?kt_TooFar_NoText ?kt_TooFar_TooBig ?kt_TooFar_TooLong ?kt_TooFar_VE ?kn_TooFar ?kn_NoBy ?kn_NoName ?kn_NoNumber ?kn_NoRow ?kn_NoText ?kn_TooBig ?kn_TooLong ?kn_VE ?td_l_all_refused ?nl_l_all_refused
    (case d_l_mix => (refine' Pf.DefIs.mk ?a ?l ?c ?k; (case a => k_is); (case l => k_is); (case c => k_is); (case k => k_is)))
    (case d_l_drawn_by => (refine' Pf.DefIs.mk ?a ?l ?c ?k; (case a => k_is); (case l => k_is); (case c => k_is); (case k => k_is)))
    (case d_l_cell_at => (refine' Pf.DefIs.mk ?a ?l ?c ?k; (case a => k_is); (case l => k_is); (case c => k_is); (case k => k_is)))
    (case d_l_taken => (refine' Pf.DefIs.mk ?a ?l ?c ?k; (case a => k_is); (case l => k_is); (case c => k_is); (case k => k_is)))
    (case d_l_one_number => (refine' Pf.DefIs.mk ?a ?l ?c ?k; (case a => k_is); (case l => k_is); (case c => k_is); (case k => k_is)))
    (case d_l_places => (refine' Pf.DefIs.mk ?a ?l ?c ?k; (case a => k_is); (case l => k_is); (case c => k_is); (case k => k_is)))
    (case d_l_made_longer => (refine' Pf.DefIs.mk ?a ?l ?c ?k; (case a => k_is); (case l => k_is); (case c => k_is); (case k => k_is)))
    (case d_l_drawn_row => (refine' Pf.DefIs.mk ?a ?l ?c ?k; (case a => k_is); (case l => k_is); (case c => k_is); (case k => k_is)))
    (case d_ask_far => (refine' Pf.DefIs.mk ?a ?l ?c ?k; (case a => k_is); (case l => k_is); (case c => k_is); (case k => k_is)))
    (case d_taken => (refine' Pf.DefIs.mk ?a ?l ?c ?k; (case a => k_is); (case l => k_is); (case c => k_is); (case k => k_is)))
    (case d_trimmed => (refine' Pf.DefIs.mk ?a ?l ?c ?k; (case a => k_is); (case l => k_is); (case c => k_is); (case k => k_is)))
    (case d_divided => (refine' Pf.DefIs.mk ?a ?l ?c ?k; (case a => k_is); (case l => k_is); (case c => k_is); (case k => k_is)))
    (case d_times => (refine' Pf.DefIs.mk ?a ?l ?c ?k; (case a => k_is); (case l => k_is); (case c => k_is); (case k => k_is)))
    (case d_power_left => (refine' Pf.DefIs.mk ?a ?l ?c ?k; (case a => k_is); (case l => k_is); (case c => k_is); (case k => k_is)))
    (case d_of_rule => (refine' Pf.DefIs.mk ?a ?l ?c ?k; (case a => k_is); (case l => k_is); (case c => k_is); (case k => k_is)))
    (case d_jump => (refine' Pf.DefIs.mk ?a ?l ?c ?k; (case a => k_is); (case l => k_is); (case c => k_is); (case k => k_is)))
    (case d_first_places => (refine' Pf.DefIs.mk ?a ?l ?c ?k; (case a => k_is); (case l => k_is); (case c => k_is); (case k => k_is)))
    (case d_told_by => (refine' Pf.DefIs.mk ?a ?l ?c ?k; (case a => k_is); (case l => k_is); (case c => k_is); (case k => k_is)))
    (case d_onward => (refine' Pf.DefIs.mk ?a ?l ?c ?k; (case a => k_is); (case l => k_is); (case c => k_is); (case k => k_is)))
    (case d_l_times_x => (refine' Pf.DefIs.mk ?a ?l ?c ?k; (case a => k_is); (case l => k_is); (case c => k_is); (case k => k_is)))
    (case d_l_step_by_step => (refine' Pf.DefIs.mk ?a ?l ?c ?k; (case a => k_is); (case l => k_is); (case c => k_is); (case k => k_is)))
    (case d_l_rolled_rests => (refine' Pf.DefIs.mk ?a ?l ?c ?k; (case a => k_is); (case l => k_is); (case c => k_is); (case k => k_is)))
    (case d_l_rest_far => (refine' Pf.DefIs.mk ?a ?l ?c ?k; (case a => k_is); (case l => k_is); (case c => k_is); (case k => k_is)))
    (case d_l_refused => (refine' Pf.DefIs.mk ?a ?l ?c ?k; (case a => k_is); (case l => k_is); (case c => k_is); (case k => k_is)))
    (case d_place_at => (refine' Pf.DefIs.mk ?a ?l ?c ?k; (case a => k_is); (case l => k_is); (case c => k_is); (case k => k_is)))
    (case d_l_all_refused => (refine' Pf.DefIs.mk ?a ?l ?c ?k; (case a => k_is); (case l => k_is); (case c => k_is); (case k => k_is)))
    (case d_l_is_row => (refine' Pf.DefIs.mk ?a ?l ?c ?k; (case a => k_is); (case l => k_is); (case c => k_is); (case k => k_is)))
    (case d_law => (refine' Pf.DefIs.mk ?a ?l ?c ?k; (case a => k_is); (case l => k_is); (case c => k_is); (case k => k_is)))
    (case z_len => k_is)
    (case z_int => k_is)
    (case z_list => k_is)
    (case z_sum => k_is)
    (case z_range => k_is)
    (case z_tuple => k_is)
    (case z_enumerate => k_is)
    (case z_reversed => k_is)
    (case z_isinstance => k_is)
    (case z_ValueError => k_is)
    (case z_bool => k_is)
    (case q_FARTHEST => k_is)
    (case g_RuleError => k_is)
    (case kp_RuleError => k_is)
    (case sb_RuleError => k_is)
    (case ty_RuleError => k_is)
    (case xx_RuleError => k_exc)
    (case g_NoNumber => k_is)
    (case kp_NoNumber => k_is)
    (case sb_NoNumber => k_is)
    (case ty_NoNumber => k_is)
    (case xx_NoNumber => k_exc)
    (case g_NoBy => k_is)
    (case kp_NoBy => k_is)
    (case sb_NoBy => k_is)
    (case ty_NoBy => k_is)
    (case xx_NoBy => k_exc)
    (case g_NoText => k_is)
    (case kp_NoText => k_is)
    (case sb_NoText => k_is)
    (case ty_NoText => k_is)
    (case xx_NoText => k_exc)
    (case g_TooFar => k_is)
    (case kp_TooFar => k_is)
    (case sb_TooFar => k_is)
    (case ty_TooFar => k_is)
    (case xx_TooFar => k_exc)
    (case g_TooLong => k_is)
    (case kp_TooLong => k_is)
    (case sb_TooLong => k_is)
    (case ty_TooLong => k_is)
    (case xx_TooLong => k_exc)
    (case g_TooBig => k_is)
    (case kp_TooBig => k_is)
    (case sb_TooBig => k_is)
    (case ty_TooBig => k_is)
    (case xx_TooBig => k_exc)
    (case g_NoRow => k_is)
    (case kp_NoRow => k_is)
    (case sb_NoRow => k_is)
    (case ty_NoRow => k_is)
    (case xx_NoRow => k_exc)
    (case g_NoName => k_is)
    (case kp_NoName => k_is)
    (case sb_NoName => k_is)
    (case ty_NoName => k_is)
    (case xx_NoName => k_exc)
    (case hg_TooFar => k_is)
    (case hk_TooFar => k_is)
    (case hd_TooFar => k_is)
    (case ha_TooFar => k_is)
    (case hm_TooFar => k_is)
    (case em_TooFar => first | k_is | rfl | decide +kernel)
    (case hn_ => k_is)
    (case ht_ => k_is)
    (case kt_TooFar_TooFar => first | k_is | rfl | decide +kernel)
    (case kt_TooFar_NoBy => first | k_is | rfl | decide +kernel)
    (case kt_TooFar_NoName => first | k_is | rfl | decide +kernel)
    (case kt_TooFar_NoNumber => first | k_is | rfl | decide +kernel)
    (case kt_TooFar_NoRow => first | k_is | rfl | decide +kernel)
    (case kt_TooFar_NoText => first | k_is | rfl | decide +kernel)
    (case kt_TooFar_TooBig => first | k_is | rfl | decide +kernel)
    (case kt_TooFar_TooLong => first | k_is | rfl | decide +kernel)
    (case kt_TooFar_VE => first | k_is | rfl | decide +kernel)
    (case kn_TooFar => first | k_is | rfl | decide +kernel)
    (case kn_NoBy => first | k_is | rfl | decide +kernel)
    (case kn_NoName => first | k_is | rfl | decide +kernel)
    (case kn_NoNumber => first | k_is | rfl | decide +kernel)
    (case kn_NoRow => first | k_is | rfl | decide +kernel)
    (case kn_NoText => first | k_is | rfl | decide +kernel)
    (case kn_TooBig => first | k_is | rfl | decide +kernel)
    (case kn_TooLong => first | k_is | rfl | decide +kernel)
    (case kn_VE => first | k_is | rfl | decide +kernel)
    (case td_l_all_refused => (refine' Pf.TabK.mk Lw.t_l_all_refused ?ta ?tl ?te ?tc ?tp; (case ta => k_is); (case tl => k_is); (case te => rfl); (case tc => k_is); (case tp => rfl)))
    (case nl_l_all_refused => first | k_is | rfl | decide +kernel)

