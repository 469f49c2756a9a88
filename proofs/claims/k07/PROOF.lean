import PyProof.Rows.All
import Wide.All
import OpenK.AllK
import Wide.FinOn
import KE.KIsAll
import KE.KTryMore
import HandS.Base
import HandS.Call
import HandS.Exc
import HandS.ExcIs
import HandS.ExcValue
import HandS.IsInst
import HandS.ForExc
import HandS.Comp
import HandS.Dict
import HandS.Iter
import HandS.Walk
import HandS.Text
import HandS.Wide
import HandS.TupAny
import HandS.Lambda
import HandS.EndOwn
import HandS.Deep
import HandS.DictComp
import HandS.SortInts
import HandS.TupMul
import HandS.Conv
import KE.KDictZip
import HandS.TupLe
import HandS.Zip
import HandS.Rev
import HandS.SetFor
import HandS.TupLen
import KE.GoesComp
import HandS.ExcOwn
import HandS.ReplaceLit
import HandS.EndBits
import HandS.EndTab
import PySem.Challenge.RW_nextbyrule_k07_rows_shown
set_option Elab.async false
set_option linter.all false
set_option maxRecDepth 100000
set_option autoImplicit false
set_option maxHeartbeats 4000000
/-! PfV: a caught exception is tracked as a value; isinstance of it -/
namespace Pf
open PySem PySem.Spec PyProof.Rows L2

/-- a caught exception of the class C, at a -/
def ExQ (C a : Addr) : HO := .ext fun h => ∃ (o : Obj) (fs : Array Value), h.get? a = some o ∧ Zc (.ref C) none o ∧ o.data = .fields fs
theorem exq_ok {P : Program} {w : World} {H : Hp} {h : Heap} {a C : Addr} {o : Obj} {fs : Array Value} (e : h.get? a = some o) (z : Zc (.ref C) none o) (d : o.data = .fields fs) : ObjOk P w H h a (ExQ C a) :=
  ⟨⟨o, fs, e, z, d⟩, ⟨o, e⟩, fun _ _ ⟨o', v, q, r⟩ k => ⟨o', v, k o' q, r⟩⟩
section
variable {X : Cx}
theorem isx_kit {pins : List (Addr × Obj)} {σ : L2.St} {H : Hp} {s : Shared} {a C : Addr} (I : Inv X pins σ H s) (h : H a = some (ExQ C a)) (E : ExcC X.K C) : ∃ P : Heap → Prop, PySem.W.KitX X.K (.ref a) (.ref C) P ∧ P s.heap := by
  obtain ⟨⟨o, fs, e, z, d⟩, _⟩ := (show ObjOk X.prog X.w H s.heap a (ExQ C a) from I.hok a _ h)
  refine ⟨fun g => PySem.W.InstAt g a o C none, PySem.W.handS_kitx_exc E.hg E.hk E.hs E.hd E.ha E.hn E.ht E.hm, ?_⟩
  obtain ⟨oc, od, dt, sl⟩ := o
  obtain ⟨z1, z2⟩ := z
  dsimp only at z1 z2 d
  subst z1 z2 d
  exact ⟨e, rfl, rfl, trivial⟩
/-- isinstance(e, c) -/
theorem call_isX1 : CallR X (.builtin "isinstance") (fun xs H Q => ∃ (a C : Addr) (c : V) (cv : Value) (b : Bool), xs = [.ref a, c] ∧ H a = some (ExQ C a) ∧ ExcC X.K C ∧ ClsV c cv ∧ PySem.W.kitOne X.K (.ref C) cv = some b ∧ Q (.bl b) H) := by
  intro pins s σ H xs us Q I r h
  obtain ⟨a, C, c, cv, b, rfl, ha, E, hc, e, q⟩ := h
  obtain ⟨u1, u2, rfl, r1, r2⟩ := vals2 r
  have e2 := hc.eq r2
  subst e2
  cases (show u1 = Value.ref a from r1)
  obtain ⟨P, Z, p⟩ := isx_kit I ha E
  exact PySem.W.kia_one Z I.kIn p e (fun z => nomatch z) fun tk => ⟨.bl b, H, I.tok tk, rfl, q⟩
/-- isinstance(e, (c, d, ..)) -/
theorem call_isXT : CallR X (.builtin "isinstance") (fun xs H Q => ∃ (a C tp : Addr) (cs : List V) (cvs : List Value) (b : Bool), xs = [.ref a, .ref tp] ∧ H a = some (ExQ C a) ∧ ExcC X.K C ∧ H tp = some (.tup cs) ∧ Paired ClsV cs cvs ∧ PySem.W.kitAny X.K (.ref C) cvs = some b ∧ Q (.bl b) H) := by
  intro pins s σ H xs us Q I r h
  obtain ⟨a, C, tp, cs, cvs, b, rfl, ha, E, hT, hc, e, q⟩ := h
  obtain ⟨u1, u2, rfl, r1, r2⟩ := vals2 r
  cases (show u1 = Value.ref a from r1)
  cases (show u2 = Value.ref tp from r2)
  obtain ⟨P, Z, p⟩ := isx_kit I ha E
  obtain ⟨_, its, rv, o, h1, h2, n, h3⟩ := (show ObjOk X.prog X.w H s.heap tp (.tup cs) from I.hok tp _ hT)
  have e3 := ClsV.all hc rv
  subst e3
  obtain ⟨oc, od, dt, sl⟩ := o
  dsimp only at h2 h3
  subst h2 h3
  exact PySem.W.kia_tup Z I.kIn p h1 e (fun z => nomatch z) fun tk => ⟨.bl b, H, I.tok tk, rfl, q⟩
end

/-! ### try: what is caught is kept -/
/-- what the clause wishes: the exception is its own, and stands in the slot -/
def wKeep (K : PySem.W.Frag) (c : Value) (i : Nat) (ts : TS) (D : Ends) : WX := fun cls d σ H =>
  ∃ C : Addr, cls = .ref C ∧ d = none ∧ PySem.W.exmOne K cls c = some true ∧
    ∀ a, H a = none → ts { nx := fun τ G => D.nx (τ.set i none) G, rt := D.rt, bk := fun τ G => D.bk (τ.set i none) G, ct := fun τ G => D.ct (τ.set i none) G } (σ.set i (some (.ref a))) (upd H a (ExQ C a))
section
variable {X : Cx} {pins : List (Addr × Obj)} {σ : L2.St} {H : Hp} {s sI : Shared}
/-- what lies in the heap but isn't tracked, and is new to us, is tracked from here on -/
theorem keep_inv {B : Heap} {h : Heap} {a C : Addr} {o : Obj} {fs : Array Value} (J : Inv X pins σ H sI) (nb : ∀ b o, sI.heap.get? b = some o → b ∉ frs X.stack → B.get? b = some o) (st : B.StaysIn h) (na : B.get? a = none) (up : sI.heap.UpToSlots h) (os : s.os = sI.os) (ag : AllBare s.gens) (hn : H a = none)
    (e : h.get? a = some o) (z : Zc (.ref C) none o) (d : o.data = .fields fs) : Inv X pins σ (upd H a (ExQ C a)) { s with heap := h } := by
  obtain ⟨G, g1, g2⟩ := restrict h fun b => decide (b ≠ a)
  have ga : G.get? a = none := g2 a (decide_eq_false fun q => q rfl)
  have gk : ∀ b u, b ≠ a → h.get? b = some u → G.get? b = some u := fun b u hb q => by rw [g1 b (decide_eq_true hb), q]
  have gs : ∀ b u, G.get? b = some u → h.get? b = some u := fun b u q => by
    by_cases hb : b = a
    · subst hb
      rw [ga] at q
      cases q
    · rw [← g1 b (decide_eq_true hb), q]
  have JG : Inv X pins σ H { s with heap := G } := by
    refine J.landed nb (fun b u q => gk b u (fun hb => ?_) (st b u q)) (fun b u q nf => ?_) os ag
    · subst hb
      rw [na] at q
      cases q
    · obtain ⟨sl, q2⟩ := up b u q nf
      refine ⟨sl, gk b _ (fun hb => ?_) q2⟩
      subst hb
      rw [e] at q2
      cases q2
      exact nf fs d
  exact JG.laidN (t' := s.toks) gs ga hn (exq_ok e z d)
theorem suite_inv (I : Inv X pins σ H s) (a : Addr) : Inv (X.suite a (X.pn ++ pins)) [] σ H s :=
  ⟨I.ok.suite _ _, I.os, I.bare, I.base, I.loc, I.cell, I.free, I.freeC, fun p hp => I.pin p (by rwa [List.append_nil] at hp), I.hok, I.len⟩
theorem unsuite_inv {a : Addr} {pn' : List (Addr × Obj)} (I : Inv (X.suite a (X.pn ++ pins)) pn' σ H s) (ok : X.Ok) : Inv X pins σ H s :=
  ⟨ok, I.os, I.bare, I.base, I.loc, I.cell, I.free, I.freeC, fun p hp => I.pin p (List.mem_append_left _ hp), I.hok, I.len⟩
end
section
variable {X : Cx} {x n : Str} {c : Value} {i : Nat} {body suite : List Stmt} {b₀ : Stmt} {np pos pos' : Pos} {tb : WX → TS} {ts : TS}
theorem ps_try_keep (hstk : X.stack = X.env :: X.outer) (hfm : X.env.frame = some X.env.locals) (hN : X.N.Nodup) (hi : X.N[i]? = some n) (hln : X.env.kindOf n = some .local) (hc : Names X x c)
    (hb : ∀ (W : WX) (pn : List (Addr × Obj)) (xe : Value → Shared → Prop), Takes (X.tr pn xe) W → PassesOwn (model X.prog X.w) X.A X.env xe → PSs (X.tr pn xe) body (tb W))
    (hsu : ∀ (a : Addr) (pn : List (Addr × Obj)), PSs (X.suite a pn) (b₀ :: suite) ts) :
    L2.PS X (.Try body [.ExceptHandler (some (.Name x np)) (some n) (b₀ :: suite) pos'] [] [] pos) (fun D σ H => tb (wKeep X.K c i ts D) D σ H) := by
  refine ⟨fun pins s σ H D I h => ?_⟩
  have ok := I.ok
  have hfr : X.A.frames = some (X.env :: X.outer) := by
    rw [ok.frames, hstk]
  have hloc : Loc X.env.scope n := .inl hln
  have run := (hb (wKeep X.K c i ts D) (X.pn ++ pins) (fun e t1 => wpAny (model X.prog X.w) X.A (noteFrame e X.env) (fun _ t2 => wpAny (model X.prog X.w) X.A (setFlight e none)
    (fun _ t3 => wpAny (model X.prog X.w) X.A (handleBy e X.env [.ExceptHandler (some (.Name x np)) (some n) (b₀ :: suite) pos']) (SP X pins D) X.xe t3) X.xe t2) X.xe t1) ?_ PassesOwn.looking).run [] s σ H D (I.toTry _) h
  · refine wpAny_Try_except (wpAny_mono run (fun f t hsp => ?_) fun _ _ q => q)
    cases f with
    | next =>
      obtain ⟨τ, G, J, q⟩ := hsp
      exact wpAny_execs_nil ⟨τ, G, J.ofTry ok, q⟩
    | brk =>
      obtain ⟨τ, G, J, q⟩ := hsp
      exact ⟨τ, G, J.ofTry ok, q⟩
    | cont =>
      obtain ⟨τ, G, J, q⟩ := hsp
      exact ⟨τ, G, J.ofTry ok, q⟩
    | ret u =>
      obtain ⟨v, τ, G, J, r, q⟩ := hsp
      exact ⟨v, τ, G, J.ofTry ok, r, q⟩
  · rintro u t ⟨a, B, sI, qs, τ, G, cls, d, rfl, J0, nb, up, sky, na, os, ag, C, rfl, rfl, hex, hgo⟩
    have J : Inv X pins τ G sI := J0.ofTry ok
    have sky2 : Sky B (X.env :: X.outer) a (Zc (.ref C) none) X.env.locals t.heap := by
      rw [← hstk]
      exact sky
    show wpAny (model X.prog X.w) X.A (noteFrame (.ref a) X.env) _ _ _
    refine Sky.land Zc.steady hfr hfm sky2 fun g1 fl1 up1 => ?_
    obtain ⟨o1, f1, e1, z1, d1⟩ := fl1.there
    have K1 := keep_inv (s := t) J nb fl1.1 fl1.2.1 (up.trans up1) os ag na e1 z1 d1
    have S1 := suite_inv K1 a
    have LT : PySem.W.Looks (model X.prog X.w) g1 (typeOf (.ref a)) (.ref C) := fun A Q E s k q => wpAny_typeOf_ref (k _ _ e1) (by
      rw [z1.1]
      exact q)
    have LM := PySem.W.exm_one (M := model X.prog X.w) K1.kIn LT hex
    refine wpAny_handleBy_cons (codeAny_handlers_test ?_) (by intro q; cases q)
    have test : ∀ {Q : Value → Shared → Prop} {E : Value → Shared → Prop}, Q c { t with heap := g1 } → wpAny (model X.prog X.w) (X.A.mark (some (.ref a))) (eval (.Name x np) X.env) Q E { t with heap := g1 } := by
      intro Q E q
      obtain ⟨hg, hd, hm | ⟨hm, hv, hne⟩⟩ := hc
      · exact ld_glob (X := X.suite a (X.pn ++ pins)) S1 hg hm q hd
      · exact ld_blt (X := X.suite a (X.pn ++ pins)) S1 hg hm hv q hne hd
    refine test (LM.here (codeAny_handlers_suite_as ?_))
    refine HandSPX.lands_againZ fl1 fun g2 fl2 up2 => ?_
    obtain ⟨o2, f2, e2, z2, d2⟩ := fl2.there
    have K2 := keep_inv (s := t) J nb fl2.1 fl2.2.1 ((up.trans up1).trans up2) os ag na e2 z2 d2
    have S2 := suite_inv K2 a
    refine store_ok (X := X.suite a (X.pn ++ pins)) (v := .ref a) S2 hN hi hloc rfl (fun t5 S5 => ?_) (.inr hln)
    refine wpAny_mono ((hsu a (X.pn ++ pins)).run [] t5 _ _ _ S5 (hgo a na)) (fun f t6 hsp => ?_) fun _ _ q => False.elim q
    have fin : ∀ {τ6 : L2.St} {G6 : Hp} {Q : Shared → Prop}, Inv (X.suite a (X.pn ++ pins)) [] τ6 G6 t6 → (∀ t7, Inv X pins (τ6.set i none) G6 t7 → Q t7) →
        wpAny (model X.prog X.w) X.A (do bindName X.env n .none; unbindBehindTheSuite X.env n pos') (fun _ t7 => Q t7) X.xe t6 := fun {τ6 G6 Q} S6 hq => gone_ok (unsuite_inv S6 ok) hN hi hln hq
    cases f with
    | next =>
      obtain ⟨τ6, G6, S6, q6⟩ := hsp
      exact fin S6 fun t7 J7 => ⟨_, _, J7, q6⟩
    | brk =>
      obtain ⟨τ6, G6, S6, q6⟩ := hsp
      exact fin S6 fun t7 J7 => ⟨_, _, J7, q6⟩
    | cont =>
      obtain ⟨τ6, G6, S6, q6⟩ := hsp
      exact fin S6 fun t7 J7 => ⟨_, _, J7, q6⟩
    | ret u =>
      obtain ⟨v6, τ6, G6, S6, r6, q6⟩ := hsp
      exact fin S6 fun t7 J7 => ⟨_, _, _, J7, r6, q6⟩
end
end Pf

set_option Elab.async false
set_option linter.all false
set_option maxRecDepth 100000
set_option autoImplicit false
/-! Pf1: plain values, how the abstract heap holds them, what a def's frame owns -/
namespace Pf
open PySem PySem.Spec PyProof.Rows L2

/-- a plain value: lists are values -/
inductive PV where
  | non | bl (b : Bool) | int (i : Int) | str (s : Str)
  | lst (xs : List PV) | tup (xs : List PV)
  /-- a list that is only read -/
  | rl (xs : List PV)
  | dk (ks : List Key) (vs : List PV)
  | exc (c : Nat)

inductive R (α : Type) where
  | ok (a : α) | exn (c : Nat) | bad

def R.bind {α β : Type} : R α → (α → R β) → R β
  | .ok a, f => f a
  | .exn c, _ => .exn c
  | .bad, _ => .bad
@[simp] theorem R.bind_ok {α β : Type} (a : α) (f : α → R β) : (R.ok a).bind f = f a := rfl
@[simp] theorem R.bind_exn {α β : Type} (c : Nat) (f : α → R β) : (R.exn c : R α).bind f = .exn c := rfl
@[simp] theorem R.bind_bad {α β : Type} (f : α → R β) : (R.bad : R α).bind f = .bad := rfl

/-! ### held -/
/-- the program's own classes of errors -/
def exNm (c : Nat) : Str := (["RuleError", "NoNumber", "NoBy", "NoText", "TooFar", "TooLong", "TooBig", "NoRow", "NoName"] : List Str).getD c ""
def clsIs (K : PySem.W.Frag) (c : Nat) (C : Addr) : Prop := PySem.W.nsIn K mainGlobals (exNm c) = some (some (.ref C))
mutual
def Rep (K : PySem.W.Frag) (G : Hp) : PV → V → Prop
  | .non, v => v = .non
  | .bl b, v => v = .bl b
  | .int i, v => v = .int i
  | .str s, v => v = .str s
  | .lst xs, v => ∃ a vs, v = .ref a ∧ G a = some (.lst vs) ∧ Reps K G xs vs
  | .tup xs, v => ∃ a vs, v = .ref a ∧ G a = some (.tup vs) ∧ Reps K G xs vs
  | .rl xs, v => ∃ a vs, v = .ref a ∧ SqL K G a vs ∧ Reps K G xs vs
  | .dk ks xs, v => ∃ a kvs, v = .ref a ∧ G a = some (.dK kvs) ∧ kvs.map (·.1) = ks ∧ Reps K G xs (kvs.map (·.2))
  | .exc c, v => ∃ a C, v = .ref a ∧ clsIs K c C ∧ G a = some (ExQ C a)
def Reps (K : PySem.W.Frag) (G : Hp) : List PV → List V → Prop
  | [], vs => vs = []
  | x :: xs, vs => ∃ v r, vs = v :: r ∧ Rep K G x v ∧ Reps K G xs r
end

theorem same_seqT {K : PySem.W.Frag} {H H' : Hp} {a : Addr} {xs : List V} (e : Same H H') (h : SqT K H a xs) : SqT K H' a xs := by
  rcases h with (h | ⟨o, h⟩) | h
  · exact .inl (.inl (e _ _ h))
  · exact .inl (.inr ⟨o, e _ _ h⟩)
  · exact .inr h

mutual
theorem Rep.mono {K : PySem.W.Frag} {G G' : Hp} (s : Same G G') : ∀ {x : PV} {v : V}, Rep K G x v → Rep K G' x v
  | .non, _, h => by simpa [Rep] using h
  | .bl _, _, h => by simpa [Rep] using h
  | .int _, _, h => by simpa [Rep] using h
  | .str _, _, h => by simpa [Rep] using h
  | .lst xs, v, h => by
    simp only [Rep] at h ⊢
    obtain ⟨a, vs, e, g, r⟩ := h
    exact ⟨a, vs, e, s _ _ g, Reps.mono s r⟩
  | .tup xs, v, h => by
    simp only [Rep] at h ⊢
    obtain ⟨a, vs, e, g, r⟩ := h
    exact ⟨a, vs, e, s _ _ g, Reps.mono s r⟩
  | .rl xs, v, h => by
    simp only [Rep] at h ⊢
    obtain ⟨a, vs, e, g, r⟩ := h
    exact ⟨a, vs, e, s.seq g, Reps.mono s r⟩
  | .dk ks xs, v, h => by
    simp only [Rep] at h ⊢
    obtain ⟨a, kvs, e, g, k, r⟩ := h
    exact ⟨a, kvs, e, s _ _ g, k, Reps.mono s r⟩
  | .exc c, v, h => by
    simp only [Rep] at h ⊢
    obtain ⟨a, C, e, k, g⟩ := h
    exact ⟨a, C, e, k, s _ _ g⟩
theorem Reps.mono {K : PySem.W.Frag} {G G' : Hp} (s : Same G G') : ∀ {xs : List PV} {vs : List V}, Reps K G xs vs → Reps K G' xs vs
  | [], _, h => by simpa [Reps] using h
  | x :: xs, vs, h => by
    simp only [Reps] at h ⊢
    obtain ⟨v, r, e, h1, h2⟩ := h
    exact ⟨v, r, e, Rep.mono s h1, Reps.mono s h2⟩
end

section
variable {K : PySem.W.Frag} {G : Hp}
theorem rep_int {i : Int} {v : V} : Rep K G (.int i) v ↔ v = .int i := by simp [Rep]
theorem rep_bl {b : Bool} {v : V} : Rep K G (.bl b) v ↔ v = .bl b := by simp [Rep]
theorem rep_non {v : V} : Rep K G .non v ↔ v = .non := by simp [Rep]
theorem rep_str {s : Str} {v : V} : Rep K G (.str s) v ↔ v = .str s := by simp [Rep]
theorem rep_lst {xs : List PV} {v : V} : Rep K G (.lst xs) v ↔ ∃ a vs, v = .ref a ∧ G a = some (.lst vs) ∧ Reps K G xs vs := by simp only [Rep]
theorem rep_tup {xs : List PV} {v : V} : Rep K G (.tup xs) v ↔ ∃ a vs, v = .ref a ∧ G a = some (.tup vs) ∧ Reps K G xs vs := by simp only [Rep]
theorem rep_rl {xs : List PV} {v : V} : Rep K G (.rl xs) v ↔ ∃ a vs, v = .ref a ∧ SqL K G a vs ∧ Reps K G xs vs := by simp only [Rep]
theorem rep_exc {c : Nat} {v : V} : Rep K G (.exc c) v ↔ ∃ a C, v = .ref a ∧ clsIs K c C ∧ G a = some (ExQ C a) := by simp only [Rep]
theorem reps_nil {vs : List V} : Reps K G [] vs ↔ vs = [] := by simp only [Reps]
theorem reps_cons {x : PV} {xs : List PV} {vs : List V} : Reps K G (x :: xs) vs ↔ ∃ v r, vs = v :: r ∧ Rep K G x v ∧ Reps K G xs r := by simp only [Reps]
theorem Reps.length : ∀ {xs : List PV} {vs : List V}, Reps K G xs vs → vs.length = xs.length
  | [], _, h => by rw [reps_nil.mp h]; rfl
  | x :: xs, vs, h => by
    obtain ⟨v, r, e, _, h2⟩ := reps_cons.mp h
    subst e
    simp [Reps.length h2]
theorem Reps.get : ∀ {xs : List PV} {vs : List V} {i : Nat} {x : PV}, Reps K G xs vs → xs[i]? = some x → ∃ v, vs[i]? = some v ∧ Rep K G x v
  | [], _, _, _, _, e => by simp at e
  | y :: xs, vs, 0, x, h, e => by
    obtain ⟨v, r, e', h1, _⟩ := reps_cons.mp h
    subst e'
    simp at e
    subst e
    exact ⟨v, rfl, h1⟩
  | y :: xs, vs, i + 1, x, h, e => by
    obtain ⟨v, r, e', _, h2⟩ := reps_cons.mp h
    subst e'
    obtain ⟨u, q, z⟩ := Reps.get (i := i) (x := x) h2 (by simpa using e)
    exact ⟨u, by simpa using q, z⟩
theorem Reps.get' {xs : List PV} {vs : List V} {i : Nat} {v : V} (h : Reps K G xs vs) (e : vs[i]? = some v) : ∃ x, xs[i]? = some x ∧ Rep K G x v := by
  have hl := h.length
  have hi : i < xs.length := by
    have := (List.getElem?_eq_some_iff.mp e).1
    omega
  obtain ⟨u, q, z⟩ := h.get (List.getElem?_eq_getElem hi)
  rw [e] at q
  cases q
  exact ⟨_, List.getElem?_eq_getElem hi, z⟩
theorem Reps.append : ∀ {xs ys : List PV} {vs us : List V}, Reps K G xs vs → Reps K G ys us → Reps K G (xs ++ ys) (vs ++ us)
  | [], _, _, _, h, h' => by rw [reps_nil.mp h]; exact h'
  | x :: xs, ys, vs, us, h, h' => by
    obtain ⟨v, r, e, h1, h2⟩ := reps_cons.mp h
    subst e
    exact reps_cons.mpr ⟨v, r ++ us, rfl, h1, h2.append h'⟩
theorem Reps.set : ∀ {xs : List PV} {vs : List V} {x : PV} {v : V} (i : Nat), Reps K G xs vs → Rep K G x v → Reps K G (xs.set i x) (vs.set i v)
  | [], _, _, _, _, h, _ => by rw [reps_nil.mp h]; exact reps_nil.mpr rfl
  | y :: xs, vs, x, v, 0, h, hx => by
    obtain ⟨u, r, e, _, h2⟩ := reps_cons.mp h
    subst e
    exact reps_cons.mpr ⟨v, r, rfl, hx, h2⟩
  | y :: xs, vs, x, v, i + 1, h, hx => by
    obtain ⟨u, r, e, h1, h2⟩ := reps_cons.mp h
    subst e
    exact reps_cons.mpr ⟨u, r.set i v, rfl, h1, Reps.set i h2 hx⟩
theorem Reps.take : ∀ {xs : List PV} {vs : List V} (n : Nat), Reps K G xs vs → Reps K G (xs.take n) (vs.take n)
  | _, _, 0, _ => by simp [reps_nil]
  | [], _, n + 1, h => by rw [reps_nil.mp h]; exact reps_nil.mpr rfl
  | x :: xs, vs, n + 1, h => by
    obtain ⟨v, r, e, h1, h2⟩ := reps_cons.mp h
    subst e
    exact reps_cons.mpr ⟨v, r.take n, rfl, h1, Reps.take n h2⟩
theorem Reps.drop : ∀ {xs : List PV} {vs : List V} (n : Nat), Reps K G xs vs → Reps K G (xs.drop n) (vs.drop n)
  | _, _, 0, h => by simpa using h
  | [], _, n + 1, h => by rw [reps_nil.mp h]; exact reps_nil.mpr rfl
  | x :: xs, vs, n + 1, h => by
    obtain ⟨v, r, e, h1, h2⟩ := reps_cons.mp h
    subst e
    simpa using Reps.drop n h2
theorem Reps.snoc {xs : List PV} {vs : List V} {x : PV} {v : V} (h : Reps K G xs vs) (hx : Rep K G x v) : Reps K G (xs ++ [x]) (vs ++ [v]) :=
  h.append (reps_cons.mpr ⟨v, [], rfl, hx, reps_nil.mpr rfl⟩)
theorem Reps.rep {xs : List PV} {vs : List V} (h : Reps K G xs vs) : ∀ n : Nat, Reps K G (List.replicate n xs).flatten (List.replicate n vs).flatten
  | 0 => by simp [reps_nil]
  | n + 1 => by
    rw [List.replicate_succ, List.replicate_succ, List.flatten_cons, List.flatten_cons]
    exact h.append (Reps.rep h n)
theorem Reps.reverse : ∀ {xs : List PV} {vs : List V}, Reps K G xs vs → Reps K G xs.reverse vs.reverse
  | [], _, h => by rw [reps_nil.mp h]; exact reps_nil.mpr rfl
  | x :: xs, vs, h => by
    obtain ⟨v, r, e, h1, h2⟩ := reps_cons.mp h
    subst e
    rw [List.reverse_cons, List.reverse_cons]
    exact (Reps.reverse h2).snoc h1
theorem reps_ints : ∀ {ns : List Int} {vs : List V}, Reps K G (ns.map PV.int) vs ↔ vs = ns.map V.int
  | [], vs => by simp [reps_nil]
  | n :: ns, vs => by
    rw [List.map_cons, reps_cons, List.map_cons]
    constructor
    · rintro ⟨v, r, e, h1, h2⟩
      rw [e, rep_int.mp h1, reps_ints.mp h2]
    · intro e
      exact ⟨_, _, e, rep_int.mpr rfl, reps_ints.mpr rfl⟩
theorem reps_bls : ∀ {ns : List Bool} {vs : List V}, Reps K G (ns.map PV.bl) vs ↔ vs = ns.map V.bl
  | [], vs => by simp [reps_nil]
  | n :: ns, vs => by
    rw [List.map_cons, reps_cons, List.map_cons]
    constructor
    · rintro ⟨v, r, e, h1, h2⟩
      rw [e, rep_bl.mp h1, reps_bls.mp h2]
    · intro e
      exact ⟨_, _, e, rep_bl.mpr rfl, reps_bls.mpr rfl⟩
theorem reps_strs : ∀ {ns : List Str} {vs : List V}, Reps K G (ns.map PV.str) vs ↔ vs = ns.map V.str
  | [], vs => by simp [reps_nil]
  | n :: ns, vs => by
    rw [List.map_cons, reps_cons, List.map_cons]
    constructor
    · rintro ⟨v, r, e, h1, h2⟩
      rw [e, rep_str.mp h1, reps_strs.mp h2]
    · intro e
      exact ⟨_, _, e, rep_str.mpr rfl, reps_strs.mpr rfl⟩
end

/-! ### heaps: G what is settled (never changed again), H all that is tracked -/
/-- the tables of code objects that may grow: where they stand, and the name of what they tell -/
class Tbc where
  T : List (Addr × Str)
variable [Tbc]
theorem Tabs.of {T : List (Addr × Str)} {H H' : Hp} (t : LamX.Tabs T H) (hk : ∀ b o, H b = some o → (∀ ps, o ≠ .tbl ps) → H' b = some o) (ht : ∀ p ∈ T, H' p.1 = H p.1) : LamX.Tabs T H' := fun p hp => by
  obtain ⟨ps, h1, h2, h3⟩ := t p hp
  refine ⟨ps, (ht p hp).trans h1, h2, fun pos cv hc => ?_⟩
  obtain ⟨c, e1, e2⟩ := h3 pos cv hc
  exact ⟨c, e1, hk _ _ e2 (LamX.codeO_ne)⟩
/-- what is tracked stays; tables grow -/
structure SameT (H H' : Hp) : Prop where
  k : ∀ b o, H b = some o → (∀ ps, o ≠ .tbl ps) → H' b = some o
  t : ∀ b ps, H b = some (.tbl ps) → ∃ more, H' b = some (.tbl (ps ++ more))
  tb : LamX.Tabs Tbc.T H → LamX.Tabs Tbc.T H'
theorem SameT.of {H H' : Hp} (s : Same H H') : SameT H H' := ⟨fun b o e _ => s b o e, fun b ps e => ⟨#[], by rw [s _ _ e]; simp⟩, fun t => LamX.Tabs.ext t s⟩
theorem SameT.refl (H : Hp) : SameT H H := .of (Same.refl H)
theorem SameT.trans {H H1 H2 : Hp} (a : SameT H H1) (b : SameT H1 H2) : SameT H H2 :=
  ⟨fun c o e n => b.k c o (a.k c o e n) n, fun c ps e => by
    obtain ⟨m1, e1⟩ := a.t c ps e
    obtain ⟨m2, e2⟩ := b.t c _ e1
    exact ⟨m1 ++ m2, by rw [e2, Array.append_assoc]⟩, fun t => b.tb (a.tb t)⟩
theorem SameT.there {H H' : Hp} (s : SameT H H') {b : Addr} {o : HO} (e : H b = some o) : ∃ o', H' b = some o' := by
  by_cases h : ∃ ps, o = .tbl ps
  · obtain ⟨ps, rfl⟩ := h
    obtain ⟨m, e1⟩ := s.t b ps e
    exact ⟨_, e1⟩
  · exact ⟨o, s.k b o e fun ps z => h ⟨ps, z⟩⟩
theorem SameT.free {H H' : Hp} (s : SameT H H') {b : Addr} (h : H' b = none) : H b = none := by
  cases e : H b with
  | none => rfl
  | some o =>
    obtain ⟨o', e'⟩ := s.there e
    rw [h] at e'
    cases e'
theorem SameT.lst {H H' : Hp} (s : SameT H H') {b : Addr} {vs : List V} (e : H b = some (.lst vs)) : H' b = some (.lst vs) := s.k b _ e fun _ z => by cases z
theorem Tabs.put {H : Hp} {D : Addr} {acc us : List V} (h : H D = some (.lst acc)) (t : LamX.Tabs Tbc.T H) : LamX.Tabs Tbc.T (upd H D (.lst us)) := fun p hp => by
  obtain ⟨ps, q1, q2, q3⟩ := t p hp
  have np : p.1 ≠ D := fun z => by
    rw [z, h] at q1
    cases q1
  refine ⟨ps, by rw [upd_ne np]; exact q1, q2, fun pos cv hc => ?_⟩
  obtain ⟨c, e1, e2⟩ := q3 pos cv hc
  refine ⟨c, e1, ?_⟩
  rw [upd_ne fun z => ?_]
  · exact e2
  · rw [z, h] at e2
    cases e2
/-- a list that is new since H is written -/
theorem SameT.put {H H' : Hp} {D : Addr} {acc us : List V} (s : SameT H H') (n : H D = none) (h : H' D = some (.lst acc)) : SameT H (upd H' D (.lst us)) := by
  refine ⟨fun b u q hn => ?_, fun b ps q => ?_, fun t => Tabs.put h (s.tb t)⟩
  · rw [upd_ne (ne_of_none q n)]
    exact s.k b u q hn
  · rw [upd_ne (ne_of_none q n)]
    exact s.t b ps q
theorem SameT.low {G H H' : Hp} (s : SameT H H') (g : Same G H) (n : ∀ b ps, G b ≠ some (.tbl ps)) : Same G H' := fun b o e => s.k b o (g b o e) fun ps z => n b ps (by rw [e, z])
/-- of what is settled none is a table -/
structure Clean (G H : Hp) : Prop where
  nt : ∀ b ps, G b ≠ some (.tbl ps)
  tb : LamX.Tabs Tbc.T H
structure Ext (G H G' H' : Hp) : Prop where
  hh : SameT H H'
  gh : Same G' H'
  sg : Same G G'
  old : ∀ b o, H b = some o → (∀ xs, o ≠ .tup xs) → G' b = G b
  nt : ∀ b ps, G' b = some (.tbl ps) → G b = some (.tbl ps)
theorem Ext.gg {G H G' H' : Hp} (_s : Same G H) (e : Ext G H G' H') : Same G G' := e.sg
theorem SameT.thereN {H H' : Hp} (s : SameT H H') {b : Addr} {o : HO} (e : H b = some o) (n : ∀ xs, o ≠ .tup xs) : ∃ o', H' b = some o' ∧ ∀ xs, o' ≠ .tup xs := by
  by_cases h : ∃ ps, o = .tbl ps
  · obtain ⟨ps, rfl⟩ := h
    obtain ⟨m, e1⟩ := s.t b ps e
    exact ⟨_, e1, fun _ z => by cases z⟩
  · exact ⟨o, s.k b o e fun ps z => h ⟨ps, z⟩, n⟩
theorem Ext.refl {G H : Hp} (s : Same G H) : Ext G H G H := ⟨SameT.refl _, s, Same.refl _, fun _ _ _ _ => rfl, fun _ _ h => h⟩
theorem Ext.trans {G H G1 H1 G2 H2 : Hp} (a : Ext G H G1 H1) (b : Ext G1 H1 G2 H2) : Ext G H G2 H2 :=
  ⟨a.hh.trans b.hh, b.gh, a.sg.trans b.sg, fun c o q n => (let ⟨o', q', n'⟩ := a.hh.thereN q n; (b.old c o' q' n').trans (a.old c o q n)), fun c ps h => a.nt c ps (b.nt c ps h)⟩
theorem Ext.clean {G H G' H' : Hp} (e : Ext G H G' H') (c : Clean G H) : Clean G' H' := ⟨fun b ps h => c.nt b ps (e.nt b ps h), e.hh.tb c.tb⟩
theorem same_upd {H : Hp} {p : Addr} {o : HO} (h : H p = none) : Same H (upd H p o) := fun b x e => by
  rw [upd_ne (ne_of_none e h)]
  exact e
theorem nt_upd {G : Hp} {p : Addr} {o : HO} (n : ∀ ps, o ≠ .tbl ps) (b : Addr) (ps : Array Value) (h : upd G p o b = some (.tbl ps)) : G b = some (.tbl ps) := by
  by_cases hb : b = p
  · subst hb
    rw [upd_same] at h
    exact absurd (Option.some.inj h) (n ps)
  · rw [upd_ne hb] at h
    exact h
/-- a new object, settled -/
theorem Ext.new {G H : Hp} {p : Addr} {o : HO} (s : Same G H) (h : H p = none) (n : ∀ ps, o ≠ .tbl ps := by intro _ z; cases z) : Ext G H (upd G p o) (upd H p o) := by
  refine ⟨.of (same_upd h), fun b x e => ?_, fun b x e => ?_, fun b x e _ => upd_ne (ne_of_none e h), nt_upd n⟩
  case refine_2 =>
    rw [upd_ne (ne_of_none (s b x e) h)]
    exact e
  by_cases hb : b = p
  · subst hb
    rw [upd_same] at e ⊢
    exact e
  · rw [upd_ne hb] at e ⊢
    exact s b x e
/-- a new object, not settled -/
theorem Ext.fresh {G H : Hp} {p : Addr} {o : HO} (s : Same G H) (h : H p = none) : Ext G H G (upd H p o) :=
  ⟨.of (same_upd h), fun b x e => by rw [upd_ne (ne_of_none (s b x e) h)]; exact s b x e, Same.refl _, fun _ _ _ _ => rfl, fun _ _ h => h⟩
/-- what stands there is settled -/
theorem Ext.settle {G H G1 H1 : Hp} {p : Addr} {o : HO} (e : Ext G H G1 H1) (h : H p = none) (h1 : H1 p = some o) (n : ∀ ps, o ≠ .tbl ps := by intro _ z; cases z) : Ext G H (upd G1 p o) H1 := by
  refine ⟨e.hh, fun b x q => ?_, fun b x q => ?_, fun b x q m => ?_, fun b ps q => e.nt b ps (nt_upd n b ps q)⟩
  · by_cases hb : b = p
    · subst hb
      rw [upd_same] at q
      rw [h1]
      exact q
    · rw [upd_ne hb] at q
      exact e.gh b x q
  · by_cases hb : b = p
    · subst hb
      rw [upd_same, ← h1]
      exact e.gh _ _ (e.sg _ _ q)
    · rw [upd_ne hb]
      exact e.sg b x q
  · rw [upd_ne (ne_of_none q h)]
    exact e.old b x q m
/-- a tuple that stands is settled -/
theorem Ext.settleT {G H : Hp} {p : Addr} {vs : List V} (s : Same G H) (h : H p = some (.tup vs)) : Ext G H (upd G p (.tup vs)) H := by
  refine ⟨SameT.refl _, fun b x q => ?_, fun b x q => ?_, fun b x q m => ?_, nt_upd fun _ z => by cases z⟩
  · by_cases hb : b = p
    · subst hb
      rw [upd_same] at q
      rw [h]
      exact q
    · rw [upd_ne hb] at q
      exact s b x q
  · by_cases hb : b = p
    · subst hb
      rw [upd_same, ← h]
      exact s _ _ q
    · rw [upd_ne hb]
      exact q
  · refine upd_ne fun z => ?_
    subst z
    rw [h] at q
    exact m _ (Option.some.inj q).symm

/-! ### a frame's slots -/
inductive SV where
  | no | sh (v : PV) | ow (xs : List PV)
  /-- a dict of its own: numbers by tuples of numbers -/
  | od (kvs : List (List Int × Int))
  /-- what is called, a lambda -/
  | fn
abbrev Env := List SV

structure Bd where
  G0 : Hp
  H0 : Hp
  L : Hp
/-- of a def that got a lambda: where it stands, and the heaps that it started from -/
class Tlc where
  fa : Addr
  G0 : Hp
  H0 : Hp
variable [Tlc]
def dtOf (kvs : List (List Int × Int)) : HO := .dT (kvs.map fun p => (p.1.map Sum.inl, V.int p.2))
def SlotOk (K : PySem.W.Frag) (B : Bd) (G H : Hp) : SV → Option V → Prop
  | .no, _ => True
  | .sh x, o => ∃ v, o = some v ∧ Rep K G x v
  | .ow xs, o => ∃ a vs, o = some (.ref a) ∧ H a = some (.lst vs) ∧ G a = none ∧ B.H0 a = none ∧ Reps K G xs vs
  | .od kvs, o => ∃ a, o = some (.ref a) ∧ H a = some (dtOf kvs) ∧ G a = none ∧ B.H0 a = none
  | .fn, o => o = some (.ref Tlc.fa) ∧ B.G0 = Tlc.G0 ∧ B.H0 = Tlc.H0

structure Ow (K : PySem.W.Frag) (B : Bd) (ρ : Env) (σ : L2.St) (G H : Hp) : Prop where
  ext : Ext B.G0 B.H0 G H
  cl : Clean G H
  low : Same B.L G
  len : σ.length = ρ.length
  slot : ∀ (i : Nat) (s : SV), ρ[i]? = some s → SlotOk K B G H s (σ[i]?.getD none)
  apart : ∀ (i j : Nat) (xs ys : List PV) (a : Addr), ρ[i]? = some (.ow xs) → ρ[j]? = some (.ow ys) → σ[i]? = some (some (.ref a)) → σ[j]? = some (some (.ref a)) → i = j

section
variable {K : PySem.W.Frag} {B : Bd} {ρ : Env} {σ : L2.St} {G H G' H' : Hp}
theorem Ow.gh (o : Ow K B ρ σ G H) : Same G H := o.ext.gh
theorem SlotOk.mono {s : SV} {o : Option V} (sg : Same G G') (hh : ∀ a u, H a = some u → (∀ ps, u ≠ .tbl ps) → (∀ xs, u ≠ .tup xs) → G a = none → B.H0 a = none → H' a = some u ∧ G' a = none) (h : SlotOk K B G H s o) : SlotOk K B G' H' s o := by
  cases s with
  | no => exact h
  | sh x =>
    obtain ⟨v, e, r⟩ := h
    exact ⟨v, e, r.mono sg⟩
  | ow xs =>
    obtain ⟨a, vs, e, h1, h2, h3, r⟩ := h
    have q := hh a _ h1 (fun _ z => by cases z) (fun _ z => by cases z) h2 h3
    exact ⟨a, vs, e, q.1, q.2, h3, r.mono sg⟩
  | od kvs =>
    obtain ⟨a, e, h1, h2, h3⟩ := h
    have q := hh a _ h1 (fun _ z => by cases z) (fun _ z => by cases z) h2 h3
    exact ⟨a, e, q.1, q.2, h3⟩
  | fn => exact h
theorem Ow.step (o : Ow K B ρ σ G H) (e : Ext G H G' H') : Ow K B ρ σ G' H' :=
  ⟨o.ext.trans e, e.clean o.cl, o.low.trans (e.gg o.gh), o.len, fun i s h => (o.slot i s h).mono (e.gg o.gh) fun a u h1 n1 n2 h2 _ => ⟨e.hh.k _ _ h1 n1, by rw [e.old _ _ h1 n2]; exact h2⟩, o.apart⟩
theorem Ow.relow (o : Ow K B ρ σ G H) {L : Hp} (s : Same L G) : Ow K ⟨B.G0, B.H0, L⟩ ρ σ G H := ⟨o.ext, o.cl, s, o.len, fun i s h => by
  have q := o.slot i s h
  cases s <;> exact q, o.apart⟩
/-- a settled value at a slot -/
theorem Ow.sh (o : Ow K B ρ σ G H) {i : Nat} {x : PV} (h : ρ[i]? = some (.sh x)) : ∃ v, σ[i]? = some (some v) ∧ Rep K G x v := by
  obtain ⟨v, e, r⟩ := o.slot i _ h
  refine ⟨v, ?_, r⟩
  cases q : σ[i]? with
  | none => rw [q] at e; cases e
  | some z => rw [q] at e; exact congrArg some e
theorem Ow.ow (o : Ow K B ρ σ G H) {i : Nat} {xs : List PV} (h : ρ[i]? = some (.ow xs)) : ∃ a vs, σ[i]? = some (some (.ref a)) ∧ H a = some (.lst vs) ∧ G a = none ∧ B.H0 a = none ∧ Reps K G xs vs := by
  obtain ⟨a, vs, e, r⟩ := o.slot i _ h
  refine ⟨a, vs, ?_, r⟩
  cases q : σ[i]? with
  | none => rw [q] at e; cases e
  | some z => rw [q] at e; exact congrArg some e

theorem getD_set {i j : Nat} {x : Option V} (h : i < σ.length) : (σ.set i x)[j]?.getD none = if j = i then x else σ[j]?.getD none := by
  by_cases hj : j = i
  · subst hj
    rw [if_pos rfl, List.getElem?_set_self h]
    rfl
  · rw [if_neg hj, List.getElem?_set_ne (Ne.symm hj)]
/-- a slot stored with a settled value -/
theorem Ow.setSh (o : Ow K B ρ σ G H) {i : Nat} {x : PV} {v : V} (hi : i < ρ.length) (r : Rep K G x v) : Ow K B (ρ.set i (.sh x)) (σ.set i (some v)) G H := by
  have hi' : i < σ.length := by rw [o.len]; exact hi
  refine ⟨o.ext, o.cl, o.low, by simp [o.len], fun j s h => ?_, fun j k xs ys a h1 h2 h3 h4 => ?_⟩
  · rw [getD_set hi']
    by_cases hj : j = i
    · subst hj
      rw [List.getElem?_set_self hi] at h
      cases h
      rw [if_pos rfl]
      exact ⟨v, rfl, r⟩
    · rw [List.getElem?_set_ne (Ne.symm hj)] at h
      rw [if_neg hj]
      exact o.slot j s h
  · have n1 : j ≠ i := fun e => by
      subst e
      rw [List.getElem?_set_self hi] at h1
      cases h1
    have n2 : k ≠ i := fun e => by
      subst e
      rw [List.getElem?_set_self hi] at h2
      cases h2
    rw [List.getElem?_set_ne (Ne.symm n1)] at h1 h3
    rw [List.getElem?_set_ne (Ne.symm n2)] at h2 h4
    exact o.apart j k xs ys a h1 h2 h3 h4
/-- a slot stored with a new list of its own -/
theorem Ow.setOw (o : Ow K B ρ σ G H) {i : Nat} {xs : List PV} {a : Addr} {vs : List V} (hi : i < ρ.length) (h1 : H a = some (.lst vs)) (h2 : G a = none) (h3 : B.H0 a = none) (r : Reps K G xs vs)
    (new : ∀ (j : Nat) (ys : List PV), ρ[j]? = some (.ow ys) → j ≠ i → σ[j]? ≠ some (some (.ref a))) : Ow K B (ρ.set i (.ow xs)) (σ.set i (some (.ref a))) G H := by
  have hi' : i < σ.length := by rw [o.len]; exact hi
  refine ⟨o.ext, o.cl, o.low, by simp [o.len], fun j s h => ?_, fun j k xs' ys a' g1 g2 g3 g4 => ?_⟩
  · rw [getD_set hi']
    by_cases hj : j = i
    · subst hj
      rw [List.getElem?_set_self hi] at h
      cases h
      rw [if_pos rfl]
      exact ⟨a, vs, rfl, h1, h2, h3, r⟩
    · rw [List.getElem?_set_ne (Ne.symm hj)] at h
      rw [if_neg hj]
      exact o.slot j s h
  · by_cases hj : j = i
    · by_cases hk : k = i
      · rw [hj, hk]
      · subst hj
        rw [List.getElem?_set_self hi'] at g3
        cases g3
        rw [List.getElem?_set_ne (Ne.symm hk)] at g2 g4
        exact absurd g4 (new k ys g2 hk)
    · by_cases hk : k = i
      · subst hk
        rw [List.getElem?_set_self hi'] at g4
        cases g4
        rw [List.getElem?_set_ne (Ne.symm hj)] at g1 g3
        exact absurd g3 (new j xs' g1 hj)
      · rw [List.getElem?_set_ne (Ne.symm hj)] at g1 g3
        rw [List.getElem?_set_ne (Ne.symm hk)] at g2 g4
        exact o.apart j k xs' ys a' g1 g2 g3 g4
/-- a slot forgotten -/
theorem Ow.kill (o : Ow K B ρ σ G H) (i : Nat) : Ow K B (ρ.set i .no) σ G H := by
  refine ⟨o.ext, o.cl, o.low, by simp [o.len], fun j s h => ?_, fun j k xs ys a h1 h2 h3 h4 => ?_⟩
  · by_cases hj : i = j
    · subst hj
      by_cases hi : i < ρ.length
      · rw [List.getElem?_set_self hi] at h
        cases h
        trivial
      · rw [List.getElem?_eq_none (by simp; omega)] at h
        cases h
    · rw [List.getElem?_set_ne hj] at h
      exact o.slot j s h
  · have n : ∀ (j : Nat) (zs : List PV), (ρ.set i SV.no)[j]? = some (SV.ow zs) → ρ[j]? = some (SV.ow zs) := fun j zs h => by
      by_cases hj : i = j
      · subst hj
        by_cases hi : i < ρ.length
        · rw [List.getElem?_set_self hi] at h
          cases h
        · rw [List.getElem?_eq_none (by simp; omega)] at h
          cases h
      · rw [List.getElem?_set_ne hj] at h
        exact h
    exact o.apart j k xs ys a (n j xs h1) (n k ys h2) h3 h4
/-- a slot is left: its name goes -/
theorem Ow.drop (o : Ow K B ρ σ G H) (i : Nat) : Ow K B (ρ.set i .no) (σ.set i none) G H := by
  have k := o.kill i
  have other : ∀ (j : Nat), j ≠ i → (σ.set i none)[j]? = σ[j]? := fun j hj => List.getElem?_set_ne (Ne.symm hj)
  have nz : ∀ (j : Nat) (zs : List PV), (ρ.set i SV.no)[j]? = some (SV.ow zs) → j ≠ i := fun j zs h e => by
    subst e
    by_cases hi : j < ρ.length
    · rw [List.getElem?_set_self hi] at h
      cases h
    · rw [List.getElem?_eq_none (by simp; omega)] at h
      cases h
  refine ⟨k.ext, k.cl, k.low, by simp [o.len], fun j s h => ?_, fun j l xs ys a h1 h2 h3 h4 => ?_⟩
  · by_cases hj : j = i
    · subst hj
      by_cases hi : j < ρ.length
      · rw [List.getElem?_set_self hi] at h
        cases h
        trivial
      · rw [List.getElem?_eq_none (by simp; omega)] at h
        cases h
    · rw [other j hj]
      exact k.slot j s h
  · rw [other j (nz j xs h1)] at h3
    rw [other l (nz l ys h2)] at h4
    exact k.apart j l xs ys a h1 h2 h3 h4
/-- the list of an owned slot changes -/
theorem Ow.write (o : Ow K B ρ σ G H) {i : Nat} {xs ys : List PV} {a : Addr} {us : List V} (h : ρ[i]? = some (.ow xs)) (ha : σ[i]? = some (some (.ref a))) (r : Reps K G ys us) :
    Ow K B (ρ.set i (.ow ys)) σ G (upd H a (.lst us)) := by
  obtain ⟨a', vs, e, h1, h2, h3, _⟩ := o.ow h
  rw [ha] at e
  cases e
  have hi : i < ρ.length := (List.getElem?_eq_some_iff.mp h).1
  have na : ∀ b u, B.H0 b = some u → b ≠ a := fun b u q => ne_of_none q h3
  have ng : ∀ b u, G b = some u → b ≠ a := fun b u q => ne_of_none q h2
  refine ⟨⟨o.ext.hh.put h3 h1, fun b u q => ?_, o.ext.sg, o.ext.old, o.ext.nt⟩, ⟨o.cl.nt, Tabs.put h1 o.cl.tb⟩, o.low, by simp [o.len], fun j s hs => ?_, fun j k xs' ys' a' g1 g2 g3 g4 => ?_⟩
  · rw [upd_ne (ng b u q)]
    exact o.gh b u q
  · by_cases hj : j = i
    · subst hj
      rw [List.getElem?_set_self hi] at hs
      cases hs
      exact ⟨a, us, by rw [ha]; rfl, upd_same, h2, h3, r⟩
    · rw [List.getElem?_set_ne (Ne.symm hj)] at hs
      have q := o.slot j s hs
      cases s with
      | no => exact q
      | fn => exact q
      | sh x => exact q
      | od kvs =>
        obtain ⟨b, e1, e2, e3, e4⟩ := q
        have hb : b ≠ a := fun z => by
          rw [z, h1] at e2
          cases e2
        exact ⟨b, e1, by rw [upd_ne hb]; exact e2, e3, e4⟩
      | ow zs =>
        obtain ⟨b, ws, e1, e2, e3, e4, e5⟩ := q
        have hb : b ≠ a := fun z => by
          subst z
          obtain ⟨b', _, e', _⟩ := o.ow hs
          refine hj (o.apart j i zs xs b hs h ?_ ha)
          rw [e'] at e1 ⊢
          exact congrArg some e1
        exact ⟨b, ws, e1, by rw [upd_ne hb]; exact e2, e3, e4, e5⟩
  · have n : ∀ (j : Nat) (zs : List PV), (ρ.set i (SV.ow ys))[j]? = some (SV.ow zs) → ∃ z', ρ[j]? = some (SV.ow z') := fun j zs q => by
      by_cases hj : j = i
      · subst hj
        exact ⟨xs, h⟩
      · rw [List.getElem?_set_ne (Ne.symm hj)] at q
        exact ⟨zs, q⟩
    obtain ⟨z1, q1⟩ := n j xs' g1
    obtain ⟨z2, q2⟩ := n k ys' g2
    exact o.apart j k z1 z2 a' q1 q2 g3 g4
/-- an owned list is settled -/
theorem Ow.freezeE (o : Ow K B ρ σ G H) {i : Nat} {xs : List PV} (h : ρ[i]? = some (.ow xs)) : ∃ (a : Addr) (vs : List V), H a = some (.lst vs) ∧ G a = none ∧ Ow K B (ρ.set i (.sh (.lst xs))) σ (upd G a (.lst vs)) H := by
  obtain ⟨a, vs, ha, h1, h2, h3, r⟩ := o.ow h
  have hi : i < ρ.length := (List.getElem?_eq_some_iff.mp h).1
  have sg : Same G (upd G a (.lst vs)) := same_upd h2
  refine ⟨a, vs, h1, h2, ⟨o.ext.settle h3 h1, ⟨fun b ps q => o.cl.nt b ps (nt_upd (fun _ z => by cases z) b ps q), o.cl.tb⟩, o.low.trans sg, by simp [o.len], fun j s hs => ?_, fun j k xs' ys' a' g1 g2 g3 g4 => ?_⟩⟩
  · by_cases hj : j = i
    · subst hj
      rw [List.getElem?_set_self hi] at hs
      cases hs
      exact ⟨.ref a, by rw [ha]; rfl, rep_lst.mpr ⟨a, vs, rfl, upd_same, r.mono sg⟩⟩
    · rw [List.getElem?_set_ne (Ne.symm hj)] at hs
      have q := o.slot j s hs
      cases s with
      | no => exact q
      | fn => exact q
      | sh x =>
        obtain ⟨v, e, z⟩ := q
        exact ⟨v, e, z.mono sg⟩
      | od kvs =>
        obtain ⟨b, e1, e2, e3, e4⟩ := q
        have hb : b ≠ a := fun z => by
          rw [z, h1] at e2
          cases e2
        exact ⟨b, e1, e2, by rw [upd_ne hb]; exact e3, e4⟩
      | ow zs =>
        obtain ⟨b, ws, e1, e2, e3, e4, e5⟩ := q
        have hb : b ≠ a := fun z => by
          subst z
          obtain ⟨b', _, e', _⟩ := o.ow hs
          refine hj (o.apart j i zs xs b hs h ?_ ha)
          rw [e'] at e1 ⊢
          exact congrArg some e1
        exact ⟨b, ws, e1, e2, by rw [upd_ne hb]; exact e3, e4, e5.mono sg⟩
  · have n : ∀ (j : Nat) (zs : List PV), (ρ.set i (SV.sh (.lst xs)))[j]? = some (SV.ow zs) → ρ[j]? = some (SV.ow zs) := fun j zs q => by
      by_cases hj : j = i
      · subst hj
        rw [List.getElem?_set_self hi] at q
        cases q
      · rw [List.getElem?_set_ne (Ne.symm hj)] at q
        exact q
    exact o.apart j k xs' ys' a' (n j xs' g1) (n k ys' g2) g3 g4
theorem Ow.freeze (o : Ow K B ρ σ G H) {i : Nat} {xs : List PV} (h : ρ[i]? = some (.ow xs)) : ∃ G', Ow K B (ρ.set i (.sh (.lst xs))) σ G' H :=
  let ⟨_, _, _, _, k⟩ := o.freezeE h
  ⟨_, k⟩
end
end Pf

set_option Elab.async false
set_option linter.all false
set_option maxRecDepth 100000
set_option autoImplicit false
set_option maxHeartbeats 2000000
/-! PfI: a dict asked for in a list of whole numbers -/
namespace PySem.SeqAt
open MeetsSeq
section
variable {A : Around} {s : Shared}
theorem dict_declines_int (a : Addr) (o : Obj) (es : Array DictEntry) (ep : Nat) (i : Int) (t : Tok) (hc : o.cls = .type "dict") (hd : o.data = .dict es ep) :
    Meets (Builtin.«dict.__eq__» ⟨[.ref a, .int i t], []⟩) (fun _ R s => s.heap.get? a = some o ∧ R (.ok (.ret .notImplemented)) s) :=
  .of_wp fun prog w A R s h => by
    obtain ⟨hp, g, d, tk, os⟩ := s
    obtain ⟨hl, h⟩ := h
    obtain ⟨c, dd, dt, sl⟩ := o
    obtain rfl : c = .type "dict" := hc
    obtain rfl : dt = .dict es ep := hd
    have f1 := F.sub_int_dict
    wp_walk using AutoSeq1.wpAny_loadPart' hl, wpAny_load hl
    exact ⟨_, rfl, h⟩
theorem int_declines_dict (a : Addr) (o : Obj) (es : Array DictEntry) (ep : Nat) (i : Int) (t : Tok) (hc : o.cls = .type "dict") (hd : o.data = .dict es ep) :
    Meets (Builtin.«int.__eq__» ⟨[.int i t, .ref a], []⟩) (fun _ R s => s.heap.get? a = some o ∧ R (.ok (.ret .notImplemented)) s) :=
  .of_wp fun prog w A R s h => by
    obtain ⟨hp, g, d, tk, os⟩ := s
    obtain ⟨hl, h⟩ := h
    obtain ⟨c, dd, dt, sl⟩ := o
    obtain rfl : c = .type "dict" := hc
    obtain rfl : dt = .dict es ep := hd
    wp_walk using AutoSeq1.wpAny_loadPart' hl, wpAny_load hl
    exact ⟨_, rfl, h⟩
theorem EqAt.int_dict {a : Addr} {o : Obj} {es : Array DictEntry} {ep : Nat} (i : Int) (t : Tok) (ho : s.heap.get? a = some o) (hc : o.cls = .type "dict") (hd : o.data = .dict es ep) (hu : A.units < cLine) : EqAt A s (.int i t) (.ref a) false := fun prog w E Q h => by
  unfold eqBool
  refine wpAny_holding (wpAny_ite_split (fun q => absurd (eq_of_beq q) nofun) fun _ => ?_)
  have ty : s.TypeIs (.ref a) "dict" := ⟨o, ho, hc⟩
  refine wpAny_bind (rc_eq_decline_or (k := false) (typeIs_int s i t) ty (by decide) F.sub_dict_int F.slot_int_eq F.slot_dict_eq (fun Q' q => ?_) (fun Q' q => ?_) (fun Q' q => ?_) (.inr hu) (wpAny_truthy_bool h))
  · exact call_meets F.slot_int_eq (typeIs_int s i t) F.entry_int_eq (F.args_int_eq_2 _ _) (int_declines_dict a o es ep i t hc hd) ⟨ho, q⟩
  · exact call_meets F.slot_dict_eq ty F.entry_dict_eq (F.args_dict_eq_2 _ _) (dict_declines_int a o es ep i t hc hd) ⟨ho, q⟩
  · unfold isSame
    exact wpAny_pure q
end
end PySem.SeqAt
namespace L2
open PySem PySem.Spec PyProof.Rows
theorem op_in_dk {X : Cx} (hu : X.A.units + 64 < cLine) : OpR X (compareOp .In) (fun x y H Q => ∃ (a : Addr) (kvs : List (Key × V)) (p : Addr) (ns : List Int), x = .ref a ∧ H a = some (.dK kvs) ∧ y = .ref p ∧ SqL X.K H p (ns.map V.int) ∧ Q (.bl false) H) := by
  intro pins s σ H x y v u Q I rx ry h
  obtain ⟨a, kvs, p, ns, rfl, ha, rfl, hq, q⟩ := h
  obtain rfl : v = .ref a := rx
  obtain rfl : u = .ref p := ry
  obtain ⟨_, _, vs, _, o, es, ep, ho, hx, hd, _⟩ := (show ObjOk X.prog X.w H s.heap a (.dK kvs) from I.hok a _ ha)
  obtain ⟨its, r, pl, hz⟩ := I.list hq
  have hi := r.ints
  refine SeqAt.in_listAt (fun _ => false) pl.isList (fun w hw => ?_) ⟨.bl _, H, I, rfl, ?_⟩
  · obtain ⟨i, t, rfl⟩ := SrtO.ints_mem hi w (by simpa using hw)
    exact SeqAt.EqAt.int_dict i t ho hx.1 hd (by show X.A.units + 1 < cLine; omega)
  · rw [show (its.toArray.any fun _ => false) = false by simp]
    exact q
theorem op_notIn_dk {X : Cx} (hu : X.A.units + 64 < cLine) : OpR X (compareOp .NotIn) (fun x y H Q => ∃ (a : Addr) (kvs : List (Key × V)) (p : Addr) (ns : List Int), x = .ref a ∧ H a = some (.dK kvs) ∧ y = .ref p ∧ SqL X.K H p (ns.map V.int) ∧ Q (.bl true) H) := by
  intro pins s σ H x y v u Q I rx ry h
  obtain ⟨a, kvs, p, ns, rfl, ha, rfl, hq, q⟩ := h
  obtain rfl : v = .ref a := rx
  obtain rfl : u = .ref p := ry
  obtain ⟨_, _, vs, _, o, es, ep, ho, hx, hd, _⟩ := (show ObjOk X.prog X.w H s.heap a (.dK kvs) from I.hok a _ ha)
  obtain ⟨its, r, pl, hz⟩ := I.list hq
  have hi := r.ints
  refine SeqAt.notIn_listAt (fun _ => false) pl.isList (fun w hw => ?_) ⟨.bl _, H, I, rfl, ?_⟩
  · obtain ⟨i, t, rfl⟩ := SrtO.ints_mem hi w (by simpa using hw)
    exact SeqAt.EqAt.int_dict i t ho hx.1 hd (by show X.A.units + 1 < cLine; omega)
  · rw [show (its.toArray.any fun _ => false) = false by simp]
    exact q
end L2

set_option Elab.async false
set_option linter.all false
set_option maxRecDepth 100000
set_option autoImplicit false
/-! Pf2: the core language and what it computes -/
namespace Pf
open PySem L2

inductive BOp where | add | sub | mul | fdiv | mod | pow
  deriving DecidableEq
inductive COp where | eq | ne | lt | le | gt | ge | isIn | notIn | isN | notN
  deriving DecidableEq
inductive BI where | len | abs | max | min | sum | all | any | sorted | list | tuple | int | str | range1 | range2
  deriving DecidableEq
inductive Ty where | int | bool | str | list | tuple | dict
  deriving DecidableEq

mutual
inductive PX where
  | var (i : Nat) | bvar (i : Nat) | non | bl (b : Bool) | int (i : Int) | str (s : Str) | con (k : Nat)
  | bin (o : BOp) (a b : PX) | neg (a : PX) | cmp (o : COp) (a b : PX) | chain (o1 o2 : COp) (a b c : PX)
  | and (a b : PX) | or (a b : PX) | not (a : PX) | ife (c a b : PX)
  | tup (es : PXs) | lst (es : PXs) | ix (a i : PX) | sl (a lo hi : PX)
  | call (k : Nat) (es : PXs) | bi (f : BI) (es : PXs) | isa (a : PX) (t : Ty)
  | comp (el : PX) (tg : List Nat) (tp : Bool) (it : PIt) (c : PX)
  | isx (a : PX) (cs : List (Option Nat)) (rs : List Nat)
  | dic (kvs : List (Int × Int)) | call0 (k : Nat) | lrg (a : PX) | lzip (a b : PX)
  | isas (a : PX) (ts : List Ty) | loc (i : Nat) (a : PX)
  | lam (k : Nat) (a : PX)
  /-- of a dict that a slot owns: is it there (or not); what it holds; how many; the keys -/
  | dhas (neg : Bool) (e : PX) (i : Nat) | dget (i : Nat) (e : PX) | dlen (i : Nat) | dkeys (i : Nat) | dsel (kvs : List (Int × Int)) (e : PX)
  | idx (a b : PX) | sset (a : PX) | stp (a lo st : PX)
  /-- texts: the parts between a text, texts with a text between -/
  | spl (a b : PX) | joi (a b : PX) | jrv (c : Str) (a : PX)
  /-- a comprehension whose element may raise -/
  | compX (el : PX) (tg : List Nat) (tp : Bool) (it : PIt)
inductive PXs where
  | nil | cons (e : PX) (es : PXs)
inductive PIt where
  | seq (e : PX) | rng1 (a : PX) | rng2 (a b : PX) | rng3 (a b c : PX) | enum (e : PX) | zip (a b : PX) | rev (e : PX) | enumz (a b : PX)
end

/-- an int that may be multiplied -/
def BIG : Nat := 2 ^ 3000000
def small (i : Int) : Prop := i.natAbs < BIG
instance (i : Int) : Decidable (small i) := inferInstanceAs (Decidable (_ < _))
/-- a length that may be made -/
def LIM : Nat := 1000000

/-! ### operators -/
def pAdd : PV → PV → R PV
  | .int a, .int b => .ok (.int (a + b))
  | .lst a, .lst b => if a.length + b.length ≤ LIM then .ok (.lst (a ++ b)) else .bad
  | .tup a, .tup b => if a.length + b.length ≤ LIM then .ok (.tup (a ++ b)) else .bad
  | .str a, .str b => if a.length + b.length ≤ LIM then .ok (.str (a ++ b)) else .bad
  | _, _ => .bad
def pSub : PV → PV → R PV
  | .int a, .int b => .ok (.int (a - b))
  | _, _ => .bad
def pMul : PV → PV → R PV
  | .int a, .int b => if small a ∧ small b then .ok (.int (a * b)) else .bad
  | .lst a, .int k => if k < 2 ^ 62 ∧ -(2 ^ 62) ≤ k ∧ a.length * k.toNat ≤ LIM then .ok (.lst (List.replicate k.toNat a).flatten) else .bad
  | .tup a, .int k => if a.length ≤ 1000 ∧ k ≤ 1000 ∧ -1000 ≤ k then .ok (.tup (List.replicate k.toNat a).flatten) else .bad
  | .str z, .int k => if z.length = 1 ∧ 2 ≤ k ∧ k ≤ 1000 then .ok (.str ⟨(List.replicate k.toNat z.cps).foldl (· ++ ·) #[]⟩) else .bad
  | _, _ => .bad
def pFdiv : PV → PV → R PV
  | .int a, .int b => if b ≠ 0 ∧ b.natAbs < 2 ^ 9000 then .ok (.int (if 0 < b then a / b else a.fdiv b)) else .bad
  | _, _ => .bad
def pMod : PV → PV → R PV
  | .int a, .int b => if b ≠ 0 then .ok (.int (if 0 < b then a % b else a.fmod b)) else .bad
  | _, _ => .bad
def pPow : PV → PV → R PV
  | .int a, .int b => if (0 ≤ b ∧ b ≤ 1000000 ∧ a.natAbs < 2 ^ 64) ∨ (0 ≤ b ∧ (PySem.Builtin.Int.intBits a : Int) * b ≤ 2 ^ 27) then .ok (.int (a ^ b.toNat)) else .bad
  | _, _ => .bad
def pBin (o : BOp) (a b : PV) : R PV := match o with
  | .add => pAdd a b
  | .sub => pSub a b
  | .mul => pMul a b
  | .fdiv => pFdiv a b
  | .mod => pMod a b
  | .pow => pPow a b
def pNeg : PV → R PV
  | .int a => .ok (.int (-a))
  | _ => .bad

/-! ### comparisons -/
mutual
def pyEq : PV → PV → Bool
  | .non, .non => true
  | .bl a, .bl b => a == b
  | .bl a, .int j => (if a then 1 else 0) == j
  | .int i, .bl b => i == (if b then 1 else 0)
  | .int i, .int j => i == j
  | .str x, .str y => x == y
  | .lst xs, .lst ys => pyEqs xs ys
  | .tup xs, .tup ys => pyEqs xs ys
  | _, _ => false
def pyEqs : List PV → List PV → Bool
  | [], [] => true
  | x :: xs, y :: ys => pyEq x y && pyEqs xs ys
  | _, _ => false
end
/-- data of no great depth -/
def dat : Nat → PV → Bool
  | _, .non => true
  | _, .bl _ => true
  | _, .int _ => true
  | _, .str s => PyData.strOk s
  | n + 1, .lst xs => xs.all (dat n)
  | n + 1, .tup xs => xs.all (dat n)
  | _, _ => false
def flat : PV → Bool
  | .non => true
  | .bl _ => true
  | .int _ => true
  | .str _ => true
  | _ => false
def pEq (a b : PV) : R PV := if dat 8 a && dat 8 b then .ok (.bl (pyEq a b)) else .bad
def isI : PV → Bool
  | .int _ => true
  | _ => false
/-- two dicts of the same numbers -/
def dkSame : PV → PV → Bool
  | .dk ks xs, .dk ls ys => decide (ks = ls) && decide (ks.Nodup) && pyEqs xs ys && xs.all isI && ys.all isI && decide (xs.length = ks.length)
  | _, _ => false
def pNe (a b : PV) : R PV := if dat 8 a && dat 8 b then .ok (.bl (!pyEq a b)) else if dkSame a b then .ok (.bl false) else .bad
def pLt : PV → PV → R PV
  | .int a, .int b => .ok (.bl (decide (a < b)))
  | _, _ => .bad
def pLe : PV → PV → R PV
  | .int a, .int b => .ok (.bl (decide (a ≤ b)))
  | _, _ => .bad
def isSign (s : Str) : Option Nat := match s.cps.toList with
  | [c] => some c
  | _ => none
def isDk : PV → Bool
  | .dk _ _ => true
  | _ => false
def pIn : PV → PV → R PV
  | x, .lst ys => if flat x && ys.all flat then .ok (.bl (ys.any fun y => pyEq y x)) else if dat 8 x && dat 8 (.lst ys) then .ok (.bl (ys.any fun y => pyEq y x)) else if isDk x && ys.all isI then .ok (.bl false) else .bad
  | x, .tup ys => if flat x && ys.all flat then .ok (.bl (ys.any fun y => pyEq y x)) else .bad
  | .str c, .str z => match isSign c with
    | some n => .ok (.bl (decide (n ∈ z.cps.toList)))
    | none => .bad
  | _, _ => .bad
def pNot : PV → R PV
  | .bl b => .ok (.bl (!b))
  | _ => .bad
def pIsN : PV → R PV
  | .non => .ok (.bl true)
  | _ => .ok (.bl false)
def pIs : PV → PV → R PV
  | x, .non => pIsN x
  | .bl a, .bl b => .ok (.bl (decide (a = b)))
  | _, _ => .bad
def pCmp (o : COp) (a b : PV) : R PV := match o with
  | .eq => pEq a b
  | .ne => pNe a b
  | .lt => pLt a b
  | .le => pLe a b
  | .gt => pLt b a
  | .ge => pLe b a
  | .isIn => pIn a b
  | .notIn => (pIn a b).bind pNot
  | .isN => pIs a b
  | .notN => (pIs a b).bind pNot

/-! ### items, slices -/
def pAt (xs : List PV) (i : Int) : R PV := match atI xs i with
  | some v => .ok v
  | none => .bad
def pIx : PV → PV → R PV
  | .lst xs, .int i => pAt xs i
  | .tup xs, .int i => pAt xs i
  | .rl xs, .int i => pAt xs i
  | .str z, .int i => if z.length ≤ LIM then (match atI z.cps.toList i with
    | some c => .ok (.str ⟨#[c]⟩)
    | none => .bad) else .bad
  | _, _ => .bad
def pCut (xs : List PV) (lo hi : Option Int) : List PV := (xs.drop (HT.sIx xs.length 0 lo)).take (HT.sIx xs.length xs.length hi - HT.sIx xs.length 0 lo)
def pPart (left : Bool) (v : PV) : R (Option Int) := if left then .ok none else match v with
  | .int i => .ok (some i)
  | _ => .bad
def pSl (x : PV) (lo hi : Option Int) : R PV := match x with
  | .lst xs => .ok (.lst (pCut xs lo hi))
  | .rl xs => .ok (.lst (pCut xs lo hi))
  | .tup xs => .ok (.tup (pCut xs lo hi))
  | .str z => if z.length ≤ LIM then .ok (.str (cutS z lo hi)) else .bad
  | _ => .bad

/-- every so many items from one on -/
def pStp (xs : List PV) (lo st : Nat) : List PV := (List.range xs.length).filterMap fun k => xs[lo + k * st]?
def pStpR : PV → Int → Int → R PV
  | .lst xs, lo, st => if 0 ≤ lo ∧ 1 ≤ st then .ok (.lst (pStp xs lo.toNat st.toNat)) else .bad
  | _, _, _ => .bad
/-! ### built-ins -/
def intsOf : List PV → Option (List Int)
  | [] => some []
  | .int i :: r => (intsOf r).map (i :: ·)
  | _ :: _ => none
def blsOf : List PV → Option (List Bool)
  | [] => some []
  | .bl i :: r => (blsOf r).map (i :: ·)
  | _ :: _ => none
def maxOf : List Int → Int
  | [] => 0
  | [a] => a
  | a :: r => max a (maxOf r)
def minOf : List Int → Int
  | [] => 0
  | [a] => a
  | a :: r => min a (minOf r)
def inSpan (i : Int) : Bool := decide (-(2 ^ 62) ≤ i) && decide (i < 2 ^ 62)
def rngL (lo : Int) (n : Nat) : List PV := (List.range n).map fun k => .int (lo + (k : Nat))
/-- whole numbers in order -/
def insI (x : Int) : List Int → List Int
  | [] => [x]
  | y :: ys => if x ≤ y then x :: y :: ys else y :: insI x ys
def srtI : List Int → List Int
  | [] => []
  | x :: xs => insI x (srtI xs)
/-- whole numbers in order, each once -/
def insU (x : Int) : List Int → List Int
  | [] => [x]
  | y :: ys => if x < y then x :: y :: ys else if x = y then y :: ys else y :: insU x ys
def srtU : List Int → List Int
  | [] => []
  | x :: xs => insU x (srtU xs)
def pSset : PV → R PV
  | .lst xs => (match intsOf xs with
    | some ns => if ns.length ≤ 4000 then .ok (.lst ((srtU ns).map .int)) else .bad
    | none => .bad)
  | _ => .bad
/-- texts -/
def strsOf : List PV → Option (List Str)
  | [] => some []
  | .str i :: r => (strsOf r).map (i :: ·)
  | _ :: _ => none
def pJoin : PV → PV → R PV
  | .str x, .lst ys => (match strsOf ys with
    | some ss => if (ss.map (·.length)).sum + ss.length * x.length ≤ 16777216 then .ok (.str (Txt.join x ss)) else .bad
    | none => .bad)
  | .str x, .tup ys => (match strsOf ys with
    | some ss => if (ss.map (·.length)).sum + ss.length * x.length ≤ 16777216 then .ok (.str (Txt.join x ss)) else .bad
    | none => .bad)
  | _, _ => .bad
/-- a list of texts joined from behind -/
def pJrv (c : Str) : PV → R PV
  | .lst xs => pJoin (.str c) (.lst xs.reverse)
  | _ => .bad
def pSplt : PV → PV → R PV
  | .str a, .str b => if (b.length == 0) = false ∧ a.length ≤ LIM then .ok (.lst ((Txt.split a b).map .str)) else .bad
  | _, _ => .bad
def DIG : Nat := 10 ^ 4300
def pBi : BI → List PV → R PV
  | .len, [.lst xs] => .ok (.int xs.length)
  | .len, [.tup xs] => .ok (.int xs.length)
  | .len, [.rl xs] => .ok (.int xs.length)
  | .len, [.str s] => if s.length ≤ LIM then .ok (.int s.length) else .bad
  | .abs, [.int i] => .ok (.int (if i < 0 then -i else i))
  | .max, [.int i, .int j] => .ok (.int (if j > i then j else i))
  | .min, [.int i, .int j] => .ok (.int (if j < i then j else i))
  | .max, [.lst xs] => (match intsOf xs with
    | some (a :: r) => .ok (.int (maxOf (a :: r)))
    | _ => .bad)
  | .min, [.lst xs] => (match intsOf xs with
    | some (a :: r) => .ok (.int (minOf (a :: r)))
    | _ => .bad)
  | .sum, [.lst xs] => (match intsOf xs with
    | some ns => .ok (.int ns.sum)
    | none => .bad)
  | .all, [.lst xs] => (match blsOf xs with
    | some bs => .ok (.bl (bs.all id))
    | none => .bad)
  | .any, [.lst xs] => (match blsOf xs with
    | some bs => .ok (.bl (bs.any id))
    | none => .bad)
  | .sorted, [.lst xs] => (match intsOf xs with
    | some ns => .ok (.lst ((srtI ns).map .int))
    | none => .bad)
  | .list, [.lst xs] => .ok (.lst xs)
  | .list, [.tup xs] => .ok (.lst xs)
  | .list, [.rl xs] => .ok (.lst xs)
  | .tuple, [.lst xs] => .ok (.tup xs)
  | .tuple, [.tup xs] => .ok (.tup xs)
  | .tuple, [.rl xs] => .ok (.tup xs)
  | .int, [.int i] => .ok (.int i)
  | .int, [.bl b] => .ok (.int (if b then 1 else 0))
  | .int, [.str s] => (match PySem.intText? s with
    | some n => if s.length ≤ 640 then .ok (.int n) else .bad
    | none => .bad)
  | .str, [.int i] => if i.natAbs.log2 < 1920 ∨ i.natAbs < DIG then .ok (.str (toString i)) else .bad
  | _, _ => .bad
def pIsa : Ty → PV → R PV
  | .int, .int _ => .ok (.bl true)
  | .int, .bl _ => .ok (.bl true)
  | .bool, .bl _ => .ok (.bl true)
  | .str, .str _ => .ok (.bl true)
  | .list, .lst _ => .ok (.bl true)
  | .tuple, .tup _ => .ok (.bl true)
  | .dict, .dk _ _ => .ok (.bl true)
  | _, .rl _ => .bad
  | _, .exc _ => .bad
  | _, _ => .ok (.bl false)

/-- an error's class under another one: none is ValueError, 0 the program's root class -/
def subX (c : Nat) : Option Nat → Bool
  | none => true
  | some d => d == 0 || d == c
def pIsx (cs : List (Option Nat)) (rs : List Nat) : PV → R PV
  | .exc c => if rs.contains c then .ok (.bl (cs.any (subX c))) else .bad
  | .non => .ok (.bl false)
  | _ => .bad
/-! ### slots -/
def getE (ρ : Env) (i : Nat) : R PV := match ρ[i]? with
  | some (.sh v) => .ok v
  | _ => .bad
def getB (ρ : Env) (i : Nat) : R PV := match ρ[i]? with
  | some (.sh v) => .ok v
  | some (.ow xs) => .ok (.lst xs)
  | _ => .bad
/-- values to slots -/
def setAll (ρ : Env) : List Nat → List PV → Option Env
  | [], [] => some ρ
  | i :: is, v :: vs => if i < ρ.length then setAll (ρ.set i (.sh v)) is vs else none
  | _, _ => none
/-- a target of names: one, or a tuple of them -/
def asgT (tg : List Nat) (tp : Bool) (v : PV) (ρ : Env) : Option Env :=
  if tp then (match v with
    | .tup vs => setAll ρ tg vs
    | .lst vs => setAll ρ tg vs
    | _ => none) else setAll ρ tg [v]
def killAll (ρ : Env) : List Nat → Env
  | [] => ρ
  | i :: is => (killAll ρ is).set i .no

def compL (el co : Env → R PV) (asg : PV → Option Env) : List PV → R (List PV)
  | [] => .ok []
  | x :: xs => match asg x with
    | none => .bad
    | some ρ => match co ρ with
      | .ok (.bl true) => (match el ρ with
        | .ok y => (compL el co asg xs).bind fun ys => .ok (y :: ys)
        | _ => .bad)
      | .ok (.bl false) => compL el co asg xs
      | _ => .bad

def compLX (el : Env → R PV) (asg : PV → Option Env) : List PV → R (List PV)
  | [] => .ok []
  | x :: xs => match asg x with
    | none => .bad
    | some ρ => (el ρ).bind fun y => (compLX el asg xs).bind fun ys => .ok (y :: ys)
/-! ### dicts of a slot's own: numbers by tuples of numbers -/
def dkGet (kvs : List (List Int × Int)) (k : List Int) : Option Int := (kvs.find? fun p => decide (p.1 = k)).map (·.2)
def dkPut (kvs : List (List Int × Int)) (k : List Int) (v : Int) : List (List Int × Int) :=
  if kvs.any fun p => decide (p.1 = k) then kvs.map fun p => if p.1 = k then (p.1, v) else p else kvs ++ [(k, v)]
/-- what a written dict of numbers has -/
def dsV (kvs : List (Int × Int)) (k : Int) : Option Int := (kvs.find? fun p => decide (p.1 = k)).map (·.2)
def tupInts : PV → Option (List Int)
  | .tup xs => intsOf xs
  | _ => none
def SV.isOd : SV → Bool
  | .od _ => true
  | _ => false
/-- the first place in a list -/
def pIdxL (x : PV) : List PV → Nat → Option Nat
  | [], _ => none
  | y :: ys, n => if pyEq y x then some n else pIdxL x ys (n + 1)
def pIdx : PV → PV → R PV
  | .lst ys, x => if flat x && ys.all flat then (match pIdxL x ys 0 with
    | some n => .ok (.int (n : Nat))
    | none => .bad) else .bad
  | _, _ => .bad
def PX.isN : PX → Bool
  | .non => true
  | _ => false
def PX.isB : PX → Bool
  | .bvar _ => true
  | _ => false
def PXs.hasB : PXs → Bool
  | .nil => false
  | .cons e es => e.isB || es.hasB
def pIsas : List Ty → PV → R PV
  | [], _ => .ok (.bl false)
  | t :: ts, x => (pIsa t x).bind fun a => (pIsas ts x).bind fun b => match a, b with
    | .bl a, .bl b => .ok (.bl (a || b))
    | _, _ => .bad
def pSeq : PV → R (List PV)
  | .lst xs => .ok xs
  | .tup xs => .ok xs
  | .rl xs => .ok xs
  | .str z => .ok (z.cps.toList.map fun c => .str ⟨#[c]⟩)
  | _ => .bad
def pEnum (xs : List PV) : List PV := xs.mapIdx fun i x => .tup [.int (i : Nat), x]
def pZip (xs ys : List PV) : List PV := List.zipWith (fun x y => .tup [x, y]) xs ys
def pEnZ (x y : PV) : R (List PV) := match x, y with
  | .lst xs, .lst ys => .ok (pEnum (pZip xs ys))
  | _, _ => .bad
def pLZ (x y : PV) : R PV := match x, y with
  | .lst xs, .lst ys => if min xs.length ys.length ≤ LIM then .ok (.lst (pZip xs ys)) else .bad
  | _, _ => .bad
def pInt : PV → R Int
  | .int i => .ok i
  | _ => .bad
def flatR : R PV → R PV
  | .ok v => if flat v then .ok v else .bad
  | r => r
abbrev Sem1 := List PV → R PV
/-- a def that gets a lambda: what the lambda gives, as an argument -/
def lamR (h : Sem1) : R PV → R PV
  | .ok v => h [.tup [v]]
  | .exn c => h [.exc c]
  | .bad => .bad
def encL (h : R PV → R PV) : Sem1
  | [.tup [v]] => h (.ok v)
  | [.exc c] => h (.exn c)
  | _ => .bad
@[simp] theorem lamR_enc_ok (h : R PV → R PV) (v : PV) : lamR (encL h) (.ok v) = h (.ok v) := rfl
@[simp] theorem lamR_enc_exn (h : R PV → R PV) (c : Nat) : lamR (encL h) (.exn c) = h (.exn c) := rfl

section
variable (fs : List Sem1) (cs : List PV)
mutual
def evE : PX → Env → R PV
  | .var i, ρ => getE ρ i
  | .bvar i, ρ => getB ρ i
  | .non, _ => .ok .non
  | .bl b, _ => .ok (.bl b)
  | .int i, _ => .ok (.int i)
  | .str s, _ => .ok (.str s)
  | .con k, _ => (match cs[k]? with
    | some v => .ok v
    | none => .bad)
  | .bin o a b, ρ => (evE a ρ).bind fun x => (evE b ρ).bind fun y => pBin o x y
  | .neg a, ρ => (evE a ρ).bind pNeg
  | .cmp o a b, ρ => (evE a ρ).bind fun x => (evE b ρ).bind fun y => pCmp o x y
  | .chain o1 o2 a b c, ρ => (evE a ρ).bind fun x => (evE b ρ).bind fun y => (pCmp o1 x y).bind fun r => match r with
    | .bl true => (evE c ρ).bind fun z => pCmp o2 y z
    | .bl false => .ok (.bl false)
    | _ => .bad
  | .and a b, ρ => (evE a ρ).bind fun x => match x with
    | .bl true => evE b ρ
    | .bl false => .ok (.bl false)
    | _ => .bad
  | .or a b, ρ => (evE a ρ).bind fun x => match x with
    | .bl true => .ok (.bl true)
    | .bl false => evE b ρ
    | _ => .bad
  | .not a, ρ => (evE a ρ).bind pNot
  | .ife c a b, ρ => (evE c ρ).bind fun x => match x with
    | .bl true => evE a ρ
    | .bl false => evE b ρ
    | _ => .bad
  | .tup es, ρ => (evEs es ρ).bind fun xs => .ok (.tup xs)
  | .lst es, ρ => (evEs es ρ).bind fun xs => .ok (.lst xs)
  | .ix a i, ρ => (evE a ρ).bind fun x => (evE i ρ).bind fun y => pIx x y
  | .sl a lo hi, ρ => (evE a ρ).bind fun x => (evE lo ρ).bind fun l => (pPart lo.isN l).bind fun l' => (evE hi ρ).bind fun h => (pPart hi.isN h).bind fun h' => pSl x l' h'
  | .call k es, ρ => (evEs es ρ).bind fun xs => if es.hasB then flatR ((fs.getD k fun _ => .bad) xs) else (fs.getD k fun _ => .bad) xs
  | .bi f es, ρ => (evEs es ρ).bind fun xs => pBi f xs
  | .isa a t, ρ => (evE a ρ).bind fun x => pIsa t x
  | .isx a cs rs, ρ => (evE a ρ).bind fun x => pIsx cs rs x
  | .isas a ts, ρ => (evE a ρ).bind fun x => pIsas ts x
  | .loc i a, ρ => (match ρ[i]? with
    | some (.ow xs) => (evE a (ρ.set i (.sh (.lst xs)))).bind fun x => if flat x then .ok x else .bad
    | _ => .bad)
  | .lam k a, ρ => lamR (fs.getD k fun _ => .bad) (evE a ρ)
  | .dic kvs, _ => if kvs.length ≤ 1 then .ok (.dk (kvs.map fun p => Sum.inl p.1) (kvs.map fun p => .int p.2)) else .bad
  | .call0 k, _ => (fs.getD k fun _ => .bad) []
  | .dhas neg e i, ρ => (evE e ρ).bind fun x => (match ρ[i]?, tupInts x with
    | some (.od kvs), some k => .ok (.bl (neg != (dkGet kvs k).isSome))
    | _, _ => .bad)
  | .dget i e, ρ => (match ρ[i]? with
    | some (.od kvs) => (evE e ρ).bind fun x => (match tupInts x with
      | some k => (match dkGet kvs k with
        | some v => .ok (.int v)
        | none => .bad)
      | none => .bad)
    | _ => .bad)
  | .dsel kvs e, ρ => (evE e ρ).bind fun x => (match x with
    | .int z => (match dsV kvs z with
      | some v => .ok (.int v)
      | none => .bad)
    | _ => .bad)
  | .dlen i, ρ => (match ρ[i]? with
    | some (.od kvs) => .ok (.int kvs.length)
    | _ => .bad)
  | .dkeys i, ρ => (match ρ[i]? with
    | some (.od kvs) => .ok (.lst (kvs.map fun p => .tup (p.1.map .int)))
    | _ => .bad)
  | .idx a b, ρ => (evE a ρ).bind fun x => (match x with
    | .lst ys => (evE b ρ).bind fun y => pIdx (.lst ys) y
    | _ => .bad)
  | .sset a, ρ => (evE a ρ).bind pSset
  | .spl a b, ρ => (evE a ρ).bind fun x => (match x with
    | .str s => (evE b ρ).bind fun y => pSplt (.str s) y
    | _ => .bad)
  | .jrv c a, ρ => (evE a ρ).bind fun y => pJrv c y
  | .joi a b, ρ => (evE a ρ).bind fun x => (match x with
    | .str s => (evE b ρ).bind fun y => pJoin (.str s) y
    | _ => .bad)
  | .stp a lo st, ρ => (evE a ρ).bind fun x => (evE lo ρ).bind fun l => (pPart false l).bind fun l' => (evE st ρ).bind fun t => (pPart false t).bind fun t' => (match l', t' with
    | some i, some j => pStpR x i j
    | _, _ => .bad)
  | .lzip a b, ρ => (evE a ρ).bind fun x => (evE b ρ).bind fun y => pLZ x y
  | .lrg a, ρ => (evE a ρ).bind fun x => (pInt x).bind fun n => if n ≤ 1000000 ∧ -1000000 ≤ n then .ok (.lst (rngL 0 n.toNat)) else .bad
  | .compX el tg tp it, ρ => (evI it ρ).bind fun xs => if xs.length ≤ LIM then (compLX (evE el) (fun x => asgT tg tp x (killAll ρ tg)) xs).bind fun ys => .ok (.lst ys) else .bad
  | .comp el tg tp it c, ρ => (evI it ρ).bind fun xs => (compL (evE el) (evE c) (fun x => asgT tg tp x (killAll ρ tg)) xs).bind fun ys => if xs.length ≤ LIM then .ok (.lst ys) else .bad
def evEs : PXs → Env → R (List PV)
  | .nil, _ => .ok []
  | .cons e es, ρ => (evE e ρ).bind fun x => (evEs es ρ).bind fun xs => .ok (x :: xs)
def evI : PIt → Env → R (List PV)
  | .seq e, ρ => (evE e ρ).bind pSeq
  | .rng1 a, ρ => (evE a ρ).bind fun x => (pInt x).bind fun n => if inSpan n then .ok (rngL 0 n.toNat) else .bad
  | .rng2 a b, ρ => (evE a ρ).bind fun x => (evE b ρ).bind fun y => (pInt x).bind fun i => (pInt y).bind fun j => if inSpan i && inSpan j then .ok (rngL i (j - i).toNat) else .bad
  | .rng3 a b c, ρ => (evE a ρ).bind fun x => (evE b ρ).bind fun y => (evE c ρ).bind fun z => (pInt x).bind fun i => (pInt y).bind fun j => match z with
    | .int (-1) => if inSpan i && inSpan j then .ok ((List.range (i - j).toNat).map fun k => .int (i - (k : Nat))) else .bad
    | _ => .bad
  | .enum e, ρ => (evE e ρ).bind fun x => (match x with
    | .str _ => .bad
    | _ => (pSeq x).bind fun xs => .ok (pEnum xs))
  | .zip a b, ρ => (evE a ρ).bind fun x => (evE b ρ).bind fun y => (match x, y with
    | .lst xs, .lst ys => .ok (pZip xs ys)
    | .tup xs, .tup ys => .ok (pZip xs ys)
    | _, _ => .bad)
  | .enumz a b, ρ => (evE a ρ).bind fun x => (evE b ρ).bind fun y => pEnZ x y
  | .rev e, ρ => (evE e ρ).bind fun x => (match x with
    | .lst xs => .ok xs.reverse
    | .tup xs => .ok xs.reverse
    | _ => .bad)
end
end

/-! ### statements -/
/-- an item of a written list of texts: any expression, or the text of a slot with one written text put for another -/
inductive RI where
  | px (e : PX) | rp (k : Nat) (y z : Str)
def pRepl : PV → Str → Str → R PV
  | .str x, y, z => if x.length ≤ 100000 ∧ z.length ≤ 100 then .ok (.str (Txt.replace x y z)) else .bad
  | _, _, _ => .bad
inductive PSt where
  | set (i : Nat) (e : PX) | seto (i : Nat) (e : PX) | unp (tg : List Nat) (e : PX)
  | setix (i : Nat) (ix e : PX) | app (i : Nat) (e : PX) | pop (i : Nat)
  | ite (c : PX) (a b : List PSt) | ret (e : PX) | reto (i : Nat) | pass
  | forS (tg : List Nat) (tp : Bool) (it : PIt) (body : List PSt) | whl (n : Nat) (c : PX) (body : List PSt)
  | brk | cnt | frz (i : Nat) | kil (i : Nat) | exp (e : PX)
  | par (i j : Nat) (a b : PX) | swp (i : Nat) (k l a b : PX)
  | raise (c : Nat) | tryS (body : List PSt) (rs : List Nat) (i : Nat) (h : List PSt)
  | unpM (tg : List Nat) (k : Nat) (es : PXs) (j : Nat)
  | appP (i j : Nat) (ix : PX)
  | unpF (i j : Nat) (k : Nat) (es : PXs)
  | scr (i : Nat) (k : Nat) (es : PXs)
  | wrk (i : Nat) (k : Nat) (es : PXs) (c : PX) | clr (i : Nat)
  | told (i : Option Nat) (k : Nat)
  | tryN (c : Nat) (body : List PSt) (rs : List Nat) (h : List PSt)
  | dnew (i : Nat) | dput (i : Nat) (k v : PX) | ext (i : Nat) (e : PX)
  /-- a name is a joined text, a next one a list of texts made of it -/
  | jnr (i : Nat) (c : Str) (b : PX) (j : Nat) (its : List RI)

inductive RS where
  | next (ρ : Env) | brk (ρ : Env) | cnt (ρ : Env) | ret (v : PV) | exn (c : Nat) (ρ : Env) | bad

def RS.of (r : R PV) (ρ : Env) (f : PV → RS) : RS := match r with
  | .ok v => f v
  | .exn c => .exn c ρ
  | .bad => .bad
def RS.ofL (r : R (List PV)) (ρ : Env) (f : List PV → RS) : RS := match r with
  | .ok v => f v
  | .exn c => .exn c ρ
  | .bad => .bad
@[simp] theorem RS.of_ok (v : PV) (ρ : Env) (f : PV → RS) : RS.of (.ok v) ρ f = f v := rfl
@[simp] theorem RS.of_exn (c : Nat) (ρ : Env) (f : PV → RS) : RS.of (.exn c) ρ f = .exn c ρ := rfl
@[simp] theorem RS.of_bad (ρ : Env) (f : PV → RS) : RS.of .bad ρ f = .bad := rfl
@[simp] theorem RS.ofL_ok (v : List PV) (ρ : Env) (f : List PV → RS) : RS.ofL (.ok v) ρ f = f v := rfl
@[simp] theorem RS.ofL_exn (c : Nat) (ρ : Env) (f : List PV → RS) : RS.ofL (.exn c) ρ f = .exn c ρ := rfl
@[simp] theorem RS.ofL_bad (ρ : Env) (f : List PV → RS) : RS.ofL .bad ρ f = .bad := rfl
def RS.then (r : RS) (f : Env → RS) : RS := match r with
  | .next ρ => f ρ
  | r => r
@[simp] theorem RS.then_next (ρ : Env) (f : Env → RS) : (RS.next ρ).then f = f ρ := rfl
@[simp] theorem RS.then_brk (ρ : Env) (f : Env → RS) : (RS.brk ρ).then f = .brk ρ := rfl
@[simp] theorem RS.then_cnt (ρ : Env) (f : Env → RS) : (RS.cnt ρ).then f = .cnt ρ := rfl
@[simp] theorem RS.then_ret (v : PV) (f : Env → RS) : (RS.ret v).then f = .ret v := rfl
@[simp] theorem RS.then_exn (c : Nat) (ρ : Env) (f : Env → RS) : (RS.exn c ρ).then f = .exn c ρ := rfl
@[simp] theorem RS.then_bad (f : Env → RS) : RS.bad.then f = .bad := rfl
/-- a loop goes on, or ends -/
def RS.turn (r : RS) (again : Env → RS) : RS := match r with
  | .next ρ => again ρ
  | .cnt ρ => again ρ
  | .brk ρ => .next ρ
  | r => r
@[simp] theorem RS.turn_next (ρ : Env) (f : Env → RS) : (RS.next ρ).turn f = f ρ := rfl
@[simp] theorem RS.turn_cnt (ρ : Env) (f : Env → RS) : (RS.cnt ρ).turn f = f ρ := rfl
@[simp] theorem RS.turn_brk (ρ : Env) (f : Env → RS) : (RS.brk ρ).turn f = .next ρ := rfl
@[simp] theorem RS.turn_ret (v : PV) (f : Env → RS) : (RS.ret v).turn f = .ret v := rfl
@[simp] theorem RS.turn_exn (c : Nat) (ρ : Env) (f : Env → RS) : (RS.exn c ρ).turn f = .exn c ρ := rfl
@[simp] theorem RS.turn_bad (f : Env → RS) : RS.bad.turn f = .bad := rfl
/-- by a truth -/
def RS.ifB (v : PV) (a b : RS) : RS := match v with
  | .bl true => a
  | .bl false => b
  | _ => .bad
@[simp] theorem RS.ifB_t (a b : RS) : RS.ifB (.bl true) a b = a := rfl
@[simp] theorem RS.ifB_f (a b : RS) : RS.ifB (.bl false) a b = b := rfl
/-- a new list is a slot's own -/
def setOwR (ρ : Env) (i : Nat) (v : PV) : RS := match v with
  | .lst xs => if i < ρ.length then .next (ρ.set i (.ow xs)) else .bad
  | _ => .bad
def forL (asg : PV → Env → Option Env) (body : Env → RS) : List PV → Env → RS
  | [], ρ => .next ρ
  | x :: xs, ρ => match asg x ρ with
    | none => .bad
    | some ρ1 => (body ρ1).turn (forL asg body xs)
def whlL (c : Env → R PV) (body : Env → RS) : Nat → Env → RS
  | 0, _ => .bad
  | n + 1, ρ => RS.of (c ρ) ρ fun v => RS.ifB v ((body ρ).turn (whlL c body n)) (.next ρ)

/-- an except suite ends: its name goes -/
def RS.suite (i : Nat) : RS → RS
  | .next ρ => .next (ρ.set i .no)
  | .brk ρ => .brk (ρ.set i .no)
  | .cnt ρ => .cnt (ρ.set i .no)
  | .ret v => .ret v
  | _ => .bad
/-- what a try's body leaves -/
def RS.caught (rs : List Nat) (i : Nat) (h : Env → RS) : RS → RS
  | .exn c ρ => if rs.contains c && decide (i < ρ.length) then (h (ρ.set i (.sh (.exc c)))).suite i else .bad
  | r => r
/-- an except suite without a name ends -/
def RS.suiteN : RS → RS
  | .exn _ _ => .bad
  | r => r
def RS.caughtN (c : Nat) (rs : List Nat) (h : Env → RS) : RS → RS
  | .exn d ρ => if rs.contains d && subX d (some c) then (h ρ).suiteN else .bad
  | r => r
@[simp] theorem RS.suiteN_next (ρ : Env) : (RS.next ρ).suiteN = .next ρ := rfl
@[simp] theorem RS.suiteN_ret (v : PV) : (RS.ret v).suiteN = .ret v := rfl
@[simp] theorem RS.caughtN_next (c : Nat) (rs : List Nat) (h : Env → RS) (ρ : Env) : (RS.next ρ).caughtN c rs h = .next ρ := rfl
@[simp] theorem RS.caughtN_ret (c : Nat) (rs : List Nat) (h : Env → RS) (v : PV) : (RS.ret v).caughtN c rs h = .ret v := rfl
@[simp] theorem RS.caughtN_exn (c d : Nat) (rs : List Nat) (h : Env → RS) (ρ : Env) : (RS.exn d ρ).caughtN c rs h = if rs.contains d && subX d (some c) then (h ρ).suiteN else .bad := rfl
@[simp] theorem RS.suite_next (i : Nat) (ρ : Env) : (RS.next ρ).suite i = .next (ρ.set i .no) := rfl
@[simp] theorem RS.suite_ret (i : Nat) (v : PV) : (RS.ret v).suite i = .ret v := rfl
@[simp] theorem RS.caught_next (rs : List Nat) (i : Nat) (h : Env → RS) (ρ : Env) : (RS.next ρ).caught rs i h = .next ρ := rfl
@[simp] theorem RS.caught_ret (rs : List Nat) (i : Nat) (h : Env → RS) (v : PV) : (RS.ret v).caught rs i h = .ret v := rfl
@[simp] theorem RS.caught_exn (rs : List Nat) (i : Nat) (h : Env → RS) (c : Nat) (ρ : Env) : (RS.exn c ρ).caught rs i h = if rs.contains c && decide (i < ρ.length) then (h (ρ.set i (.sh (.exc c)))).suite i else .bad := rfl
/-- an item of an owned list is stored -/
def putAt (ρ : Env) (i : Nat) (r : R PV) (v : PV) (f : Env → RS) : RS := match ρ[i]? with
  | some (.ow xs) => RS.of r ρ fun k => match k with
    | .int z => (match ixN xs.length z with
      | some j => f (ρ.set i (.ow (xs.set j v)))
      | none => .bad)
    | _ => .bad
  | _ => .bad
mutual
/-- no list in it -/
def nol : PV → Bool
  | .non => true
  | .bl _ => true
  | .int _ => true
  | .str _ => true
  | .tup xs => nols xs
  | _ => false
def nols : List PV → Bool
  | [] => true
  | x :: xs => nol x && nols xs
end
/-- a pair that is told, its list a new one -/
def unpTo (ρ : Env) (i j : Nat) : PV → RS
  | .tup [x, y] => if decide (i < ρ.length) && decide (j < ρ.length) && flat y then (match x with
    | .lst zs => if nols zs then .next ((ρ.set i (.ow zs)).set j (.sh y)) else .bad
    | x => if flat x then .next ((ρ.set i (.sh x)).set j (.sh y)) else .bad) else .bad
  | _ => .bad
/-- a list goes behind an owned one -/
def extTo (ρ : Env) (i : Nat) (xs : List PV) : PV → RS
  | .lst ys => if xs.length + ys.length ≤ LIM then .next (ρ.set i (.ow (xs ++ ys))) else .bad
  | _ => .bad
def isL : PV → Bool
  | .lst ys => decide (ys.length ≤ LIM)
  | _ => false
/-- lists in a told tuple are changed behind a test, and all is forgotten -/
def wrkTo (ρ : Env) (i : Nat) (v : PV) (fc : Env → R PV) : RS := match v with
  | .tup (.lst zs :: .lst ys :: r) => if decide (i < ρ.length) && decide (zs.length ≤ LIM) then RS.of (fc (ρ.set i (.sh (.tup (.lst zs :: .lst ys :: r))))) (ρ.set i (.sh (.tup (.lst zs :: .lst ys :: r)))) fun u => RS.ifB u (.ret (.bl false)) (.next (ρ.set i .no)) else .bad
  | _ => .bad
/-- lists are told, a first one of them is changed, and all is forgotten -/
def scrTo (ρ : Env) (i : Nat) (v : PV) : RS := match v with
  | .lst zs => if decide (i < ρ.length) && zs.all isL then .next (ρ.set i .no) else .bad
  | _ => .bad
/-- what a lambda told is kept, or left -/
def toldTo (ρ : Env) : Option Nat → PV → RS
  | none, _ => .next ρ
  | some i, v => if i < ρ.length then .next (ρ.set i (.sh v)) else .bad
/-- an item of one owned list goes to the end of another -/
def popTo (ρ : Env) (i j : Nat) (xs ys : List PV) (k : PV) : RS := match k with
  | .int z => if 0 ≤ z ∧ z < 1000000 ∧ xs.length ≤ LIM then (match ys[z.toNat]? with
    | some v => .next ((ρ.set j (.ow (ys.eraseIdx z.toNat))).set i (.ow (xs ++ [v])))
    | none => .bad) else .bad
  | _ => .bad
section
variable (fs : List Sem1) (cs : List PV) (fr : Bool)
def evRs : List RI → Env → R (List PV)
  | [], _ => .ok []
  | .px e :: r, ρ => (evE fs cs e ρ).bind fun x => (evRs r ρ).bind fun xs => .ok (x :: xs)
  | .rp k y z :: r, ρ => ((evE fs cs (.var k) ρ).bind fun x => pRepl x y z).bind fun x => (evRs r ρ).bind fun xs => .ok (x :: xs)
mutual
def evS : PSt → Env → RS
  | .set i e, ρ => RS.of (evE fs cs e ρ) ρ fun v => if i < ρ.length then .next (ρ.set i (.sh v)) else .bad
  | .seto i e, ρ => RS.of (evE fs cs e ρ) ρ fun v => setOwR ρ i v
  | .unp tg e, ρ => RS.of (evE fs cs e ρ) ρ fun v => match asgT tg true v ρ with
    | some ρ' => .next ρ'
    | none => .bad
  | .unpM tg k es j, ρ => RS.ofL (evEs fs cs es ρ) ρ fun xs => (match ρ[j]? with
    | some (.ow zs) => RS.of ((fs.getD k fun _ => .bad) (xs ++ [.lst zs])) (ρ.set j .no) fun v => (match asgT tg true v (ρ.set j .no) with
      | some ρ' => .next ρ'
      | none => .bad)
    | _ => .bad)
  | .setix i ix e, ρ => RS.of (evE fs cs e ρ) ρ fun v => putAt ρ i (evE fs cs ix ρ) v fun ρ' => .next ρ'
  | .app i e, ρ => (match ρ[i]? with
    | some (.ow xs) => RS.of (evE fs cs e ρ) ρ fun v => if xs.length ≤ LIM then .next (ρ.set i (.ow (xs ++ [v]))) else .bad
    | _ => .bad)
  | .ext i e, ρ => (match ρ[i]? with
    | some (.ow xs) => RS.of (evE fs cs e ρ) ρ fun v => extTo ρ i xs v
    | _ => .bad)
  | .pop i, ρ => (match ρ[i]? with
    | some (.ow xs) => if xs = [] then .bad else .next (ρ.set i (.ow xs.dropLast))
    | _ => .bad)
  | .unpF i j k es, ρ => RS.ofL (evEs fs cs es ρ) ρ fun xs => if nols xs then RS.of ((fs.getD k fun _ => .bad) xs) ρ fun v => unpTo ρ i j v else .bad
  | .clr i, ρ => (match ρ[i]? with
    | some (.ow _) => .next (ρ.set i (.ow []))
    | _ => .bad)
  | .wrk i k es c, ρ => RS.ofL (evEs fs cs es ρ) ρ fun xs => if nols xs then RS.of ((fs.getD k fun _ => .bad) xs) ρ fun v => wrkTo ρ i v (evE fs cs c) else .bad
  | .jnr i c b j its, ρ => (RS.of ((evE fs cs b ρ).bind fun y => pJoin (.str c) y) ρ fun v => if i < ρ.length then .next (ρ.set i (.sh v)) else .bad).then fun ρ => RS.of ((evRs fs cs its ρ).bind fun xs => .ok (.lst xs)) ρ fun v => if j < ρ.length then .next (ρ.set j (.sh v)) else .bad
  | .scr i k es, ρ => RS.ofL (evEs fs cs es ρ) ρ fun xs => if nols xs then RS.of ((fs.getD k fun _ => .bad) xs) ρ fun v => scrTo ρ i v else .bad
  | .told i k, ρ => (match ρ[(0 : Nat)]? with
    | some .fn => RS.of ((fs.getD k fun _ => .bad) []) ρ fun v => toldTo ρ i v
    | _ => .bad)
  | .appP i j ix, ρ => (match ρ[i]?, ρ[j]? with
    | some (.ow xs), some (.ow ys) => RS.of (evE fs cs ix ρ) ρ fun k => popTo ρ i j xs ys k
    | _, _ => .bad)
  | .ite c a b, ρ => RS.of (evE fs cs c ρ) ρ fun v => RS.ifB v (evSs a ρ) (evSs b ρ)
  | .ret e, ρ => RS.of (evE fs cs e ρ) ρ fun v => .ret v
  | .reto i, ρ => (match ρ[i]? with
    | some (.ow xs) => .ret (.lst xs)
    | some (.sh v) => if fr then .bad else .ret v
    | _ => .bad)
  | .pass, ρ => .next ρ
  | .forS tg tp it body, ρ => RS.ofL (evI fs cs it ρ) ρ fun xs => forL (asgT tg tp) (evSs body) xs ρ
  | .whl n c body, ρ => whlL (evE fs cs c) (evSs body) n ρ
  | .brk, ρ => .brk ρ
  | .cnt, ρ => .cnt ρ
  | .frz i, ρ => (match ρ[i]? with
    | some (.ow xs) => .next (ρ.set i (.sh (.lst xs)))
    | _ => .next ρ)
  | .kil i, ρ => .next (ρ.set i .no)
  | .exp e, ρ => RS.of (evE fs cs e ρ) ρ fun _ => .next ρ
  | .raise c, ρ => .exn c ρ
  | .tryS body rs i h, ρ => (evSs body ρ).caught rs i (evSs h)
  | .tryN c body rs h, ρ => (evSs body ρ).caughtN c rs (evSs h)
  | .dnew i, ρ => if i < ρ.length then .next (ρ.set i (.od [])) else .bad
  | .dput i k v, ρ => (match ρ[i]? with
    | some (.od kvs) => RS.of (evE fs cs v ρ) ρ fun y => RS.of (evE fs cs k ρ) ρ fun x => (match tupInts x, y with
      | some ks, .int z => if decide (kvs.length ≤ LIM) && !(ρ.set i .no).any SV.isOd then .next (ρ.set i (.od (dkPut kvs ks z))) else .bad
      | _, _ => .bad)
    | _ => .bad)
  | .par i j a b, ρ => RS.of (evE fs cs a ρ) ρ fun v => RS.of (evE fs cs b ρ) ρ fun w => if i < ρ.length ∧ j < ρ.length then .next ((ρ.set i (.sh v)).set j (.sh w)) else .bad
  | .swp i k l a b, ρ => RS.of (evE fs cs a ρ) ρ fun v => RS.of (evE fs cs b ρ) ρ fun w => putAt ρ i (evE fs cs k ρ) v fun ρ1 => putAt ρ1 i (evE fs cs l ρ1) w fun ρ2 => .next ρ2
def evSs : List PSt → Env → RS
  | [], ρ => .next ρ
  | s :: ss, ρ => (evS s ρ).then (evSs ss)
end
end
/-- a def: its slots, its arguments -/
def startE (n : Nat) (vs : List PV) : Env := vs.map .sh ++ List.replicate (n - vs.length) .no
def run (fs : List Sem1) (cs : List PV) (fr : Bool) (n m : Nat) (body : List PSt) : Sem1 := fun vs =>
  if vs.length = m then (match evSs fs cs fr body (startE n vs) with
    | .ret v => .ok v
    | .next _ => .ok .non
    | .exn c _ => .exn c
    | _ => .bad) else .bad
/-- a def that gets a lambda -/
def runL (fs : List Sem1) (cs : List PV) (n : Nat) (body : List PSt) : R PV → R PV := fun r =>
  match evSs (fs ++ [(fun _ => r : Sem1)]) cs false body (SV.fn :: List.replicate (n - 1) SV.no) with
    | .ret v => .ok v
    | .next _ => .ok .non
    | _ => .bad
/-- a def that owns its last argument, a list -/
def runO (fs : List Sem1) (cs : List PV) (n m : Nat) (body : List PSt) : Sem1 := fun vs =>
  if vs.length = m then (match vs.getLast? with
    | some (.lst zs) => (match evSs fs cs false body ((startE n vs).set (m - 1) (.ow zs)) with
      | .ret v => .ok v
      | .next _ => .ok .non
      | .exn c _ => .exn c
      | _ => .bad)
    | _ => .bad) else .bad
end Pf

set_option Elab.async false
set_option linter.all false
set_option maxRecDepth 100000
set_option maxHeartbeats 4000000
/-! PfT: a tuple taken so often, not at all or once -/
namespace Pf
open PySem PySem.Spec PyProof.Rows L2
theorem tuple_mulS (l : Addr) (items : Array Value) (n : Nat) (dd : Option Addr) (sl : Array (Option Value)) (x : Int) (u : Tok) (c0 : (decide (x < -(2 ^ 63)) || decide (x ≥ 2 ^ 63)) = false) (c1 : (items.isEmpty || x == 1) = true) :
    Meets (Builtin.«tuple.__mul__» ⟨[.ref l, .int x u], []⟩) (fun _ R s => s.heap.get? l = some { cls := .type "tuple", dict := dd, data := .seq items n, slots := sl } ∧ R (.ok (.ret (Value.ref l))) s) :=
  .of_wp fun prog w A R s h => by
    obtain ⟨hp, g, d, tk, os⟩ := s
    obtain ⟨hl, h⟩ := h
    have f1 := AutoSeq1.idx_int
    wp_walk using wpAny_loadPart' hl
    refine wpAny_ite_false (decide_eq_false (by rw [c0]; exact Bool.false_ne_true)) ?_
    wp_walk using wpAny_loadPart' hl
    exact ⟨_, rfl, h⟩
theorem tuple_mulZ (l : Addr) (items : Array Value) (n : Nat) (dd : Option Addr) (sl : Array (Option Value)) (x : Int) (u : Tok) (c0 : (decide (x < -(2 ^ 63)) || decide (x ≥ 2 ^ 63)) = false) (c1 : (items.isEmpty || x == 1) = false) (c2 : (decide (x ≤ 0) || items.isEmpty) = true) :
    Meets (Builtin.«tuple.__mul__» ⟨[.ref l, .int x u], []⟩) (fun _ R s => s.heap.get? l = some { cls := .type "tuple", dict := dd, data := .seq items n, slots := sl } ∧
      R (.ok (.ret (Value.ref s.heap.objs.size))) { s with heap := s.heap.push { cls := Value.type "tuple", data := Data.seq #[] }, toks := s.toks }) :=
  .of_wp fun prog w A R s h => by
    obtain ⟨hp, g, d, tk, os⟩ := s
    obtain ⟨hl, h⟩ := h
    have f1 := AutoSeq1.idx_int
    wp_walk using wpAny_loadPart' hl
    repeat (first
      | (refine wpAny_ite_false (decide_eq_false (by rw [c0]; exact Bool.false_ne_true)) ?_; wp_walk using wpAny_loadPart' hl)
      | (refine wpAny_ite_false (decide_eq_false (by rw [c1]; exact Bool.false_ne_true)) ?_; wp_walk using wpAny_loadPart' hl)
      | (refine wpAny_ite_true (decide_eq_true c2) ?_; wp_walk using wpAny_loadPart' hl))
    exact ⟨_, rfl, h⟩
section
variable {X : Cx}
def rRepU (K : PySem.W.Frag) : R2 := fun x y H Q => ∃ l k xs, x = .ref l ∧ y = .int k ∧ SqT K H l xs ∧ (k ≤ 1 ∨ xs = []) ∧ -1000 ≤ k ∧ k ≤ 1000 ∧ (k = 1 ∨ xs = [] → Q (.ref l) H) ∧ (k ≤ 0 → ∀ p, H p = none → Q (.ref p) (upd H p (.tup [])))
theorem op_repU : OpR X (binaryOp .Mult) (rRepU X.K) := by
  intro pins s σ H x y v u Q I rx ry h
  obtain ⟨l, k, xs, rfl, rfl, hT, hne, h1, h2, q1, q2⟩ := h
  cases rx
  obtain ⟨t, rfl⟩ := ry
  obtain ⟨its, r, ⟨⟨cls, dd, data, sl⟩, ho, hc, n, hd⟩, hs⟩ := I.tuple hT
  simp only at hc hd
  subst hc hd
  have hle : its.length = xs.length := r.length.symm
  have c0 : (decide (k < -(2 ^ 63)) || decide (k ≥ 2 ^ 63)) = false := by
    rw [decide_eq_false (by omega), decide_eq_false (by omega)] <;> rfl
  by_cases hk : k = 1 ∨ xs = []
  · have c1 : (its.toArray.isEmpty || k == 1) = true := by
      rcases hk with hk | hk
      · rw [Bool.or_eq_true]
        exact .inr (beq_iff_eq.mpr hk)
      · have e : its = [] := by
          subst hk
          exact List.eq_nil_of_length_eq_zero hle
        subst e
        rfl
    refine wpAny_binaryOp_repeat_ref (T := "tuple") (U := "int") (by decide) ⟨_, ho, rfl⟩ (fun s' => typeIs_int s' k t) noFill_tuple_mul F.fills_int_mul F.slot_int_rmul repeat_tuple F.slot_int_index.lookup
      (call_meets F.slot_int_rmul (typeIs_int s k t) F.entry_int_rmul (F.args_int_rmul_2 _ _) (int_rmul_tuple k t l its.toArray n dd sl)
        ⟨ho, rfl, ⟨_, ho, rfl⟩, call_meets F.slot_tuple_mul ⟨_, ho, rfl⟩ F.entry_tuple_mul (F.args_tuple_mul_2 _ _) (tuple_mulS l its.toArray n dd sl k t c0 c1) ⟨ho, ?_⟩⟩)
    exact ⟨.ref l, H, I, rfl, q1 hk⟩
  · have hk1 : ¬ k = 1 := fun e => hk (.inl e)
    have hn : its ≠ [] := fun e => hk (.inr (by
      rw [e] at hle
      exact List.eq_nil_of_length_eq_zero hle.symm))
    have hi : its.toArray.isEmpty = false := by
      cases its with
      | nil => exact absurd rfl hn
      | cons a b => rfl
    have k0 : k ≤ 0 := by
      rcases hne with h | h
      · omega
      · exact absurd (.inr h) hk
    have c1 : (its.toArray.isEmpty || k == 1) = false := by
      rw [hi, Bool.false_or]
      exact beq_eq_false_iff_ne.mpr hk1
    have c2 : (decide (k ≤ 0) || its.toArray.isEmpty) = true := by
      rw [decide_eq_true k0, Bool.true_or]
    refine wpAny_binaryOp_repeat_ref (T := "tuple") (U := "int") (by decide) ⟨_, ho, rfl⟩ (fun s' => typeIs_int s' k t) noFill_tuple_mul F.fills_int_mul F.slot_int_rmul repeat_tuple F.slot_int_index.lookup
      (call_meets F.slot_int_rmul (typeIs_int s k t) F.entry_int_rmul (F.args_int_rmul_2 _ _) (int_rmul_tuple k t l its.toArray n dd sl)
        ⟨ho, rfl, ⟨_, ho, rfl⟩, call_meets F.slot_tuple_mul ⟨_, ho, rfl⟩ F.entry_tuple_mul (F.args_tuple_mul_2 _ _) (tuple_mulZ l its.toArray n dd sl k t c0 c1 c2) ⟨ho, ?_⟩⟩)
    refine ⟨.ref s.heap.objs.size, _, I.laid (t' := s.toks) (o := .tup []) (fun b ob q => Heap.get?_push_of_some _ q) (Nat.le_refl _) ?_, rfl, q2 k0 _ (I.hok.fresh (Nat.le_refl _))⟩
    exact ⟨by simp, _, .nil, IsTup.new _ _⟩
/-- one sign, many times -/
def rSM : R2 := fun x y H Q => ∃ z k, x = .str z ∧ y = .int k ∧ z.length = 1 ∧ 2 ≤ k ∧ k ≤ 1000 ∧ Q (.str ⟨(List.replicate k.toNat z.cps).foldl (· ++ ·) #[]⟩) H
theorem rep_size (a : Array Nat) : ∀ (n : Nat) (acc : Array Nat), ((List.replicate n a).foldl (· ++ ·) acc).size = acc.size + n * a.size
  | 0, acc => by simp
  | n + 1, acc => by
    rw [List.replicate_succ, List.foldl_cons, rep_size a n, Array.size_append, Nat.succ_mul]
    omega
theorem op_strM : OpR X (binaryOp .Mult) rSM := by
  intro pins s σ H x y v u Q I rx ry h
  obtain ⟨z, k, rfl, rfl, h1, h2, h3, q⟩ := h
  obtain ⟨t, rfl⟩ := rx
  obtain ⟨t', rfl⟩ := ry
  have c0 : (decide (k < -(2 ^ 63 : Int)) || decide (k ≥ 2 ^ 63)) = false := by
    rw [decide_eq_false (by omega), decide_eq_false (by omega)] <;> rfl
  have hz : (⟨(List.replicate k.toNat z.cps).foldl (· ++ ·) #[]⟩ : Str).length = k.toNat := by
    show ((List.replicate k.toNat z.cps).foldl (· ++ ·) #[]).size = _
    have e : z.cps.size = 1 := h1
    rw [rep_size, e]
    simp
  have hs : sizeLine = 2 ^ 24 := rfl
  refine PySem.P.mul_str c0 (fun _ _ => ?_) (fun _ _ => ?_) ?_
  · rw [h1]
    have : (1 : Int) ≤ (2 ^ 63 - 1) / k := by
      rw [Int.le_ediv_iff_mul_le (by omega)]
      omega
    show ¬ (((1 : Nat) : Int) > (2 ^ 63 - 1) / k)
    omega
  · rw [h1]
    unfold PySem.Builtin.Str.tooLong sizeLine
    exact decide_eq_false (by omega)
  · have e1 : ((k == 1) || (z.length == 0)) = false := by
      rw [h1]
      have : (k == 1) = false := beq_eq_false_iff_ne.mpr (by omega)
      rw [this]
      rfl
    rw [if_neg (by omega), e1, if_neg Bool.false_ne_true]
    exact ⟨by rw [hz, hs]; omega, .str _, H, I.tok _, ⟨_, rfl⟩, q⟩
end
end Pf

set_option Elab.async false
set_option linter.all false
set_option maxRecDepth 100000
set_option autoImplicit false
set_option maxHeartbeats 4000000
/-! PfL: a lambda of no parameters, handed to a def that calls it -/
namespace Pf
open PySem PySem.Spec PyProof.Rows L2 LamX
variable [Tbc]

abbrev lamN (X : Cx) : Str := X.env.qual ++ "<lambda>"
section
variable {X : Cx} {pins : List (Addr × Obj)} {σ : L2.St} {H : Hp} {s : Shared}
/-- a table has grown by one, which is new -/
theorem grown {P c : Addr} {ps more : Array Value} {q : Str} (hP : H P = some (.tbl ps)) (nC : H c = none) (htr : TriplesOk ps.toList) (pos : Pos) (em : more = #[rawInt pos.line, rawInt pos.col, .ref c])
    (old : ∀ (p' : Pos) (cv : Value), codeAmong p' ps.toList = some cv → ∃ c0, cv = .ref c0 ∧ H c0 = some (CodeO c0 q)) (uq : ∀ p ∈ Tbc.T, p.1 = P → p.2 = q) : SameT H (upd (upd H P (.tbl (ps ++ more))) c (CodeO c q)) := by
  have stay : ∀ b o, H b = some o → (∀ us, o ≠ .tbl us) → upd (upd H P (.tbl (ps ++ more))) c (CodeO c q) b = some o := fun b o hb hn => by
    rw [upd_ne (ne_of_none hb nC)]
    by_cases hbP : b = P
    · subst hbP
      rw [hP] at hb
      exact absurd (Option.some.inj hb).symm (hn ps)
    · rw [upd_ne hbP]
      exact hb
  have atP : upd (upd H P (.tbl (ps ++ more))) c (CodeO c q) P = some (.tbl (ps ++ more)) := by
    rw [upd_ne (ne_of_none hP nC), upd_same]
  refine ⟨stay, fun b us hb => ?_, fun T0 p hp => ?_⟩
  · by_cases hbP : b = P
    · subst hbP
      rw [hP] at hb
      cases hb
      exact ⟨more, atP⟩
    · refine ⟨#[], ?_⟩
      rw [upd_ne (ne_of_none hb nC), upd_ne hbP, hb]
      simp
  · obtain ⟨us, t1, t2, t3⟩ := T0 p hp
    by_cases hbP : p.1 = P
    · have e2 := uq p hp hbP
      rw [e2, hbP]
      have el : (ps ++ more).toList = ps.toList ++ [rawInt pos.line, rawInt pos.col, .ref c] := by
        rw [em]
        simp
      refine ⟨ps ++ more, atP, ?_, fun p' cv hcv => ?_⟩
      · rw [el]
        exact PySem.TriplesOk_snoc _ _ _ _ htr
      · rw [el] at hcv
        rcases among_app _ htr hcv with w | w
        · obtain ⟨d, w1, w2⟩ := old p' cv w
          exact ⟨d, w1, stay _ _ w2 codeO_ne⟩
        · exact ⟨c, w, upd_same⟩
    · refine ⟨us, ?_, t2, fun p' cv hcv => ?_⟩
      · rw [upd_ne (ne_of_none t1 nC), upd_ne hbP, t1]
      · obtain ⟨d, w1, w2⟩ := t3 p' cv hcv
        exact ⟨d, w1, stay _ _ w2 codeO_ne⟩
theorem not_fr (I : Inv X pins σ H s) {f : Addr} (hf : s.heap.objs.size ≤ f) : f ∉ frs X.stack := fun hm => by
  cases List.mem_cons.mp (I.stkSub _ hm) with
  | inr e => exact I.nofs hf e
  | inl e =>
    have lt := I.lt
    rw [← e] at lt
    exact absurd (Nat.lt_of_lt_of_le lt hf) (Nat.lt_irrefl _)
/-- what a lambda's object is -/
abbrev lamO (X : Cx) (params : Arguments) (body : Expr) (scope : Scope) (pm : Value) (c : Addr) (ctv : Value) : Obj :=
  PySem.W.kla_obj "<lambda>" (lamN X) params body scope (cloFrom X.env.cells scope.names []) pm c ctv
/-- a lambda is made -/
theorem lam_new {c P : Addr} {params : Arguments} {body : Expr} {scope : Scope} {pos : Pos} {E Q : Value → Shared → Prop} (I : Inv X pins σ H s) (TB : TabB X.base X.mg c P) (ec : X.env.code = .ref c) (T0 : Tabs Tbc.T H)
    (mT : (P, lamN X) ∈ Tbc.T) (uq : ∀ p ∈ Tbc.T, p.1 = P → p.2 = lamN X) (df : defaultsOf params X.env = ([], [])) (fr : ∀ y ∈ scope.names, y.2 = .free → ∃ d, X.env.cells.lookup y.1 = some d)
    (go : ∀ (f c1 : Addr) (pm ctv : Value) (H1 : Hp) (s1 : Shared), Inv X pins σ H1 s1 → SameT H H1 → s1.heap.get? f = some (lamO X params body scope pm c1 ctv) → H1 f = none → f ∉ frs X.stack → H1 c1 = some (CodeO c1 (lamN X)) → Q (.ref f) s1) :
    wpAny (model X.prog X.w) X.A (eval (.Lambda params body scope pos) X.env) Q E s := by
  obtain ⟨ps, hP, htr, old⟩ := T0 _ mT
  have atP : s.heap.get? P = some { cls := .none, data := .fields ps } := I.hok P _ hP
  have bP := TB.bm.keeps I.bk
  have gl := I.mod.glob.keeps I.bk
  have cd := TB.code.keeps I.bk
  refine PySem.W.kla_eval df ?_
  cases hit : codeAmong pos ps.toList with
  | some cv =>
    obtain ⟨c1, rfl, hc1⟩ := old pos cv hit
    refine PySem.W.kla_makeFunctionHit (mg := X.mg) (closure_ok fr) I.ok.glob gl ec cd atP htr hit bP fun ctv h1 tk keep big => ?_
    exact go _ c1 ((X.mg "__name__").getD .none) ctv H _ (I.kept fun b o e => Heap.get?_push_of_some _ (keep b o e)) (SameT.refl H) (Heap.get?_push_size _ rfl) (I.hok.fresh big) (not_fr I big) hc1
  | none =>
    refine PySem.W.kla_makeFunction (mg := X.mg) (closure_ok fr) I.ok.glob gl ec cd atP htr hit TB.gP bP fun c1 ctv h1 tk keep lo hi rec_ tb => ?_
    obtain ⟨c2, oc, vs, t, e2, o1, o2, o3⟩ := rec_
    cases e2
    have big : s.heap.objs.size ≤ h1.objs.size := Nat.le_trans lo (Nat.le_of_lt hi)
    have nC : H c1 = none := I.hok.fresh lo
    have J := inv_table (t' := tk) (more := #[rawInt pos.line, rawInt pos.col, .ref c1]) (h' := h1.push (lamO X params body scope ((X.mg "__name__").getD .none) c1 ctv)) I hP (fun b o n e => Heap.get?_push_of_some _ (keep b o n e))
      (Heap.get?_push_of_some _ tb) lo ⟨oc, vs, t, Heap.get?_push_of_some _ o1, o2, o3⟩ (q := lamN X)
    refine go _ c1 ((X.mg "__name__").getD .none) ctv _ _ J (grown hP nC htr pos rfl old uq) (Heap.get?_push_size _ rfl) ?_ (not_fr I big) upd_same
    rw [upd_ne (Nat.ne_of_gt hi), upd_ne (Nat.ne_of_gt (Nat.lt_of_lt_of_le (Heap.lt_size atP) big))]
    exact I.hok.fresh big
end
/-- what the lambda at f gives, called where it was handed to: tl of the exceptions that are taken there -/
def Acts (P : Program) (w : World) (K : PySem.W.Frag) (mg : Str → Option Value) (base : Heap) (A : Around) (stack : List PySem.Env) (s : Shared) (H : Hp) (N : List Str) (x : Str) (sg : Scope) (g : Addr) (cdg : Value) (a : Str) (f c1 : Addr) (q : Str) (tl : XK → Hp → VK → Prop) : Prop :=
  ∀ (W : WX) (pn : List (Addr × Obj)) (xe : Value → Shared → Prop) (p1 p2 : Pos), Takes ((cxOf C8.CX0 P w K mg base N x sg g cdg A stack s H C8.E0).tr pn xe) W →
    PE ((cxOf C8.CX0 P w K mg base N x sg g cdg A stack s H C8.E0).tr pn xe) (.Call (.Name a p1) [] [] p2) (fun σ H' Q => σ[0]? = some (some (.ref f)) ∧ H' c1 = some (CodeO c1 q) ∧ tl (fun cls d H2 => W cls d σ H2) H' Q)
section
variable {X : Cx} {pins : List (Addr × Obj)} {σ : L2.St} {H : Hp} {s : Shared}
theorem acts_of {N : List Str} {qg : Str} {sg : Scope} {g f c1 : Addr} {cdg pm ctv : Value} {params : Arguments} {body : Expr} {scope : Scope} {k : Nat} {a : Str} {t : XK → TE}
    (I : Inv X pins σ H s) (L : LamS X.env.scope scope) (hf : s.heap.get? f = some (lamO X params body scope pm c1 ctv)) (nf : H f = none) (frf : f ∉ frs X.stack)
    (bd : bindArgs (PySem.W.kla_fn "<lambda>" (lamN X) params body scope (cloFrom X.env.cells scope.names []) pm (.ref c1) ctv) ⟨[], []⟩ = pure []) (hr : Room (k + 1) (X.A.deeper (PyProof.Rows.envOfC qg sg s.heap.objs.size g cdg)))
    (hb : ∀ (A : Around) (outer : List PySem.Env) (s : Shared) (H : Hp) (E : XK), Room k (A.deeper (lamEnv X scope s.heap.objs.size f c1)) → PE (lamCx X A outer s H E scope f c1) body (t E))
    (hN : N[0]? = some a) (hv : Vis sg a) (hd : (a == ("__debug__" : Str)) = false) (hcd : (a == ("__classdict__" : Str)) = false) :
    Acts X.prog X.w X.K X.mg X.base X.A X.stack s H N qg sg g cdg a f c1 (lamN X) (fun E H' Q => t E σ H' Q) := by
  intro W pn xe p1 p2 tk
  refine ⟨fun pz sz σz Hz Q Iz h0 => ?_⟩
  obtain ⟨h1, h2, h3⟩ := h0
  have hvar := (pe_var (pos := p1) (i := 0) hN hv hd hcd).run pz sz σz Hz (fun v H1 => v = .ref f ∧ H1 = Hz) Iz ⟨.ref f, h1, rfl, rfl⟩
  refine wpAny_Call_Name_kw (thn hvar fun u s1 hu => ?_)
  obtain ⟨v, H1, J, rv, rfl, rfl⟩ := hu
  cases (show u = Value.ref f from rv)
  have of1 := J.base.keep f _ hf nf frf fun z => (nomatch (show f ∈ ([] : List Addr) from z))
  refine PySem.W.callWith_F0 ⟨_, _, _, _, of1⟩ ?_
  obtain ⟨⟨oc, vs, tk1, c2, c3, c4⟩, _, _⟩ := J.hok c1 _ h2
  have un : Un (frs X.stack) [] H H1 s.heap s1.heap := J.base
  have run : codeAny (model X.prog X.w) (X.A.deeper (PyProof.Rows.envOfC qg sg s.heap.objs.size g cdg)) (.call (.ref f) ⟨[], []⟩) (CR (L2.CX X.prog X.w) (PyProof.Rows.envOfC qg sg s.heap.objs.size g cdg :: X.stack) X.prog X.w H1 s1 Q (WE W σz)) s1 := by
    refine PySem.W.kla_callFunE hr.depth of1 rfl L.co L.gen rfl ⟨c1, oc, vs, tk1, rfl, c2, c3, c4⟩ ?_
    rw [bd]
    refine wpAny_pure (wpAny_newFunctionEnv (fun y m => (L.own y m).2) (fun y m => absurd m (by simp)) (fun h2 n1 n2 => ⟨J.nolimit.fresh _ n2, ?_⟩) L.kind)
    have keep : ∀ b o, s1.heap.get? b = some o → h2.get? b = some o := fun b o e => n2.extBut b o (Nat.ne_of_lt (Heap.lt_size e)) (Heap.get?_push_of_some _ e)
    have J2 := lam_start2 (f := f) (c' := c1) (tk := s1.toks + ([] : List (Str × Value)).length) (E := WE W σz) I L J.env0 hr.hd un n1 keep
    refine PySem.W.kla_codeExpr (wpAny_mono ((hb _ _ s1 H1 (WE W σz) (hr.deeper _)).run [] _ _ H1 Q J2 h3) (fun v s2 hq => ?_) fun _ _ hq => hq)
    obtain ⟨w2, H2, J3, r2, q2⟩ := hq
    exact ⟨w2, H2, J3.os, J3.bare, J3.base, J3.hok, r2, q2⟩
  refine wpAny_call (codeAny_mono run fun r s2 hq => ?_)
  match r, hq with
  | .error e, hq => exact passAt tk σz pz H1 s1 e s2 J hq
  | .ok (.ret u), hq => exact J.after hq
  | .ok .next, hq => exact False.elim hq
  | .ok .brk, hq => exact False.elim hq
  | .ok .cont, hq => exact False.elim hq
/-- a def called with a lambda: what its body makes of what the lambda gives -/
theorem call_lam {N : List Str} {x a : Str} {g c P : Addr} {k : Nat} {st : Stmt} {fd : FuncData} {params : Arguments} {body : Expr} {scope : Scope} {t : XK → TE} {TT : (XK → Hp → VK → Prop) → Hp → VK → Prop} {p lpos pos : Pos} (hg : Gl X x) (hm : X.mg x = some (.ref g))
    (F : Fun X.K x x st g fd) (Sg : FnScope N [a] (defScope st)) (hbd : L2.Binds X.K fd [a] []) (hN : N[0]? = some a) (hv : Vis (defScope st) a)
    (body_ : ∀ (cdv : Value) (s : Shared) (H : Hp) (Q : VK) (f c1 : Addr) (tl : XK → Hp → VK → Prop), Room (k + 1) (X.A.deeper (PyProof.Rows.envOfC x (defScope st) s.heap.objs.size g cdv)) → H c1 = some (CodeO c1 (lamN X)) →
      Acts X.prog X.w X.K X.mg X.base X.A X.stack s H N x (defScope st) g cdv a f c1 (lamN X) tl → TT tl H Q →
      ∃ t, PSs (cxOf C8.CX0 X.prog X.w X.K X.mg X.base N x (defScope st) g cdv X.A X.stack s H C8.E0).nox (defBody st) t ∧ t { nx := fun _ H' => Q .non H', rt := Q } (L2.start N [.ref f]) H)
    (TB : TabB X.base X.mg c P) (ec : X.env.code = .ref c) (mT : (P, lamN X) ∈ Tbc.T) (uq : ∀ p ∈ Tbc.T, p.1 = P → p.2 = lamN X) (hr : Room (k + 2) X.A) (L : LamS X.env.scope scope) (df : defaultsOf params X.env = ([], []))
    (bl : ∀ (q : Str) (cl : List (Str × Addr)) (pm cv ctv : Value), bindArgs (PySem.W.kla_fn "<lambda>" q params body scope cl pm cv ctv) ⟨[], []⟩ = pure [])
    (hb : ∀ (A : Around) (outer : List PySem.Env) (s : Shared) (H : Hp) (E : XK) (f c1 : Addr), Room k (A.deeper (lamEnv X scope s.heap.objs.size f c1)) → PE (lamCx X A outer s H E scope f c1) body (t E))
    (hdb : (x == ("__debug__" : Str)) = false) (hd : (a == ("__debug__" : Str)) = false) (hcd : (a == ("__classdict__" : Str)) = false) :
    PE X (.Call (.Name x p) [.Lambda params body scope lpos] [] pos) (fun σ H Q => Tabs Tbc.T H ∧ ∀ H1, SameT H H1 → TT (fun E H' Q' => t E σ H' Q') H1 Q) := by
  refine ⟨fun pins s σ H Q I h => ?_⟩
  refine wpAny_Call_Name_kw (ld_glob I hg hm ?_ hdb)
  refine PySem.W.callWith_K (h₀ := X.base) I.ok.mod.kin F.kp ?_ (by rfl) (by rfl)
  obtain ⟨T0, h⟩ := h
  change wpAny _ _ (spliced ((false, eval (Expr.Lambda params body scope lpos) X.env) :: backTo pos [])) _ _ s
  refine Calls.spliced_cons (lam_new I TB ec T0 mT uq df (L.has I.ok) fun f c1 pm ctv H1 s1 J eT hf nf frf hc1 => Calls.spliced_nil ⟨J.kIn, ?_⟩)
  obtain ⟨oc, od, kV, doc, pm', an, cdv, ct, osl, rfl, lk, hcd2⟩ := F.ex
  have run : codeAny (model X.prog X.w) X.A (.call (.ref g) ⟨[.ref f], []⟩) (CR C8.CX0 X.stack X.prog X.w H1 s1 Q C8.E0) s1 := by
    refine run_ofS (N := N) (ps := [a]) (us := [.ref f]) (vs := [.ref f]) lk hcd2 Sg hr J.env0 (hbd s1 [.ref f] J.kIn rfl) (.cons rfl .nil) rfl fun hr2 => ?_
    have act := acts_of (t := t) J L hf nf frf (bl _ _ _ _ _) hr2 (fun A outer s H E hr3 => hb A outer s H E f c1 hr3) hN hv hd hcd
    obtain ⟨t2, q1, q2⟩ := body_ cdv s1 H1 Q f c1 _ hr2 hc1 act (h H1 eT)
    exact ⟨t2, q1.nox, q2⟩
  refine wpAny_call (codeAny_mono run fun r s2 hq => ?_)
  match r, hq with
  | .error e, hq => exact (show False from hq).elim
  | .ok (.ret u), hq => exact J.after hq
  | .ok .next, hq => exact False.elim hq
  | .ok .brk, hq => exact False.elim hq
  | .ok .cont, hq => exact False.elim hq
end
end Pf

set_option Elab.async false
set_option linter.all false
set_option maxRecDepth 100000
set_option autoImplicit false
set_option maxHeartbeats 4000000
/-! PfZ: list(zip(xs, ys)) of two lists -/
namespace Pf
open PySem PySem.Spec PyProof.Rows L2
open Sem (wp)
theorem zip_no_len : typeLookup (.type "zip") "__len__" = pure none := am_miss_of_fast (by decide +kernel)
theorem zip_no_hint : typeLookup (.type "zip") "__length_hint__" = pure none := am_miss_of_fast (by decide +kernel)
theorem ne_up {a b B : Addr} (h : a < B) (h' : B ≤ b) : b ≠ a := Nat.ne_of_gt (Nat.lt_of_lt_of_le h h')
/-- a zip on its way -/
def ZSt (z TI TO i1 i2 l1 l2 : Addr) (xs ys : Array Value) (S i : Nat) (h : Heap) : Prop :=
  IsPair h TI (.ref i1) (.ref i2) ∧ h.IsListIter i1 l1 i ∧ h.IsListIter i2 l2 i ∧ h.IsList l1 xs ∧ h.IsList l2 ys ∧
    ((IsZip h z TI TO .none ∧ ∃ a b, IsPair h TO a b) ∨ ∃ (T : Addr) (f : Bool) (oT : Obj), IsZipHeld h z TI TO T f ∧ h.get? T = some oT ∧ T ≠ z ∧ T ≠ i1 ∧ T ≠ i2 ∧ T ≠ S)
/-- what was made so far -/
def Prs (B : Nat) (xs ys : Array Value) (i : Nat) (acc : Array Value) (h : Heap) : Prop :=
  acc.size = i ∧ ∃ T : Nat → Addr, (∀ j, j < i → B ≤ T j ∧ acc[j]? = some (.ref (T j)) ∧ ∃ x y, xs[j]? = some x ∧ ys[j]? = some y ∧ IsPair h (T j) x y) ∧ ∀ j k, j < i → k < i → T j = T k → j = k
section
variable {prog : Program} {w : World} {A : Around} {R : Result → Shared → Prop}
theorem ZSt.frame {z TI TO i1 i2 l1 l2 : Addr} {xs ys : Array Value} {S i : Nat} {h h' : Heap} (st : ZSt z TI TO i1 i2 l1 l2 xs ys S i h) (d : S ≠ z ∧ S ≠ TI ∧ S ≠ TO ∧ S ≠ i1 ∧ S ≠ i2 ∧ S ≠ l1 ∧ S ≠ l2) (hk : ∀ b o, b ≠ S → h.get? b = some o → h'.get? b = some o) : ZSt z TI TO i1 i2 l1 l2 xs ys S i h' := by
  obtain ⟨hTI, h1, h2, hl1, hl2, hz⟩ := st
  obtain ⟨dz, dTI, dTO, di1, di2, dl1, dl2⟩ := d
  refine ⟨hk _ _ (Ne.symm dTI) hTI, h1.at fun o e => hk _ o (Ne.symm di1) e, h2.at fun o e => hk _ o (Ne.symm di2) e, hl1.at fun o e => hk _ o (Ne.symm dl1) e, hl2.at fun o e => hk _ o (Ne.symm dl2) e, ?_⟩
  rcases hz with ⟨hz, a, b, hTO⟩ | ⟨T, f, oT, hz, hT, r1, r2, r3, r4⟩
  · exact .inl ⟨hk _ _ (Ne.symm dz) hz, a, b, hk _ _ (Ne.symm dTO) hTO⟩
  · exact .inr ⟨T, f, oT, hk _ _ (Ne.symm dz) hz, hk _ _ r4 hT, r1, r2, r3, r4⟩
theorem extend_zip (hh : A.in1.handled = none) {z TI TO i1 i2 l1 l2 : Addr} (D : ZipApart z TI TO i1 i2 l1 l2) (xs ys : Array Value) (S : Addr) (dS : S ≠ z ∧ S ≠ TI ∧ S ≠ TO ∧ S ≠ i1 ∧ S ≠ i2 ∧ S ≠ l1 ∧ S ≠ l2) (res : Value) (B : Nat) (bB : z < B ∧ TO < B ∧ i1 < B ∧ i2 < B ∧ S < B) (hn : min xs.size ys.size ≤ sizeLine) :
    ∀ (k i : Nat) (s : Shared) (acc : Array Value) (c : Nat), min xs.size ys.size - i = k → i ≤ min xs.size ys.size → ZSt z TI TO i1 i2 l1 l2 xs ys S i s.heap → B ≤ s.heap.objs.size →
    s.heap.get? S = some { cls := .type "list", dict := none, data := .seq acc c, slots := #[] } → Prs B xs ys i acc s.heap →
    (∀ (h' : Heap) (acc' : Array Value) (c' : Nat), (∀ b o, b ≠ S → b ≠ z → b ≠ TO → b ≠ i1 → b ≠ i2 → s.heap.get? b = some o → h'.get? b = some o) → h'.get? S = some { cls := .type "list", dict := none, data := .seq acc' c', slots := #[] } → Prs B xs ys (min xs.size ys.size) acc' h' → R (.ok (.ret res)) { s with heap := h' }) →
    codeAny (model prog w) A (.builtin "list.extend.loop" ⟨[.ref S, .ref z, res], []⟩) R s := by
  intro k
  induction k with
  | zero =>
    intro i s acc c hk hi st hB hS hacc hR
    have hin : i = min xs.size ys.size := by omega
    subst hin
    refine codeAny_builtin F.entry_extend_loop ?_
    rw [Around.under_plainId F.plain_extend_loop _]
    show wpAny _ A.in1 (pyNext (.ref z) >>= _) _ _ s
    refine wpAny_bind ?_
    obtain ⟨hTI, h1, h2, hl1, hl2, hz⟩ := st
    have hend : xs[min xs.size ys.size]? = none ∨ ys[min xs.size ys.size]? = none := by
      rcases Nat.le_total xs.size ys.size with h | h
      · exact .inl (by rw [Nat.min_eq_left h]; simp)
      · exact .inr (by rw [Nat.min_eq_right h]; simp)
    have fin : ∀ h' : Heap, (∀ c o, c ≠ z → c ≠ TO → c ≠ i1 → c ≠ i2 → s.heap.get? c = some o → h'.get? c = some o) → R (.ok (.ret res)) { s with heap := h' } := fun h' hk => by
      refine hR h' acc c (fun b o _ b1 b2 b3 b4 e => hk b o b1 b2 b3 b4 e) (hk _ _ dS.1 dS.2.2.1 dS.2.2.2.1 dS.2.2.2.2.1 hS) ?_
      obtain ⟨q1, T, q2, q3⟩ := hacc
      refine ⟨q1, T, fun j hj => ?_, q3⟩
      obtain ⟨r1, r2, x, y, r3, r4, r5⟩ := q2 j hj
      exact ⟨r1, r2, x, y, r3, r4, hk _ _ (ne_up bB.1 r1) (ne_up bB.2.1 r1) (ne_up bB.2.2.1 r1) (ne_up bB.2.2.2.1 r1) r5⟩
    rcases hz with ⟨hz, a, b, hTO⟩ | ⟨T, f, oT, hz, hT, r1, r2, r3, r4⟩
    · exact wpAny_pyNext_zip_end hh D hz hTI hTO h1 h2 hl1 hl2 hend fun h' hk => wpAny_pure (fin h' hk)
    · exact wpAny_pyNext_zip_end_held hh D hz hT hTI h1 h2 hl1 hl2 hend fun h' hk => wpAny_pure (fin h' fun c o c1 _ c3 c4 e => hk c o c1 c3 c4 e)
  | succ k ih =>
    intro i s acc c hk hi st hB hS hacc hR
    have hlt : i < min xs.size ys.size := by omega
    refine codeAny_builtin F.entry_extend_loop ?_
    rw [Around.under_plainId F.plain_extend_loop _]
    show wpAny _ A.in1 (pyNext (.ref z) >>= _) _ _ s
    refine wpAny_bind ?_
    have step : ∀ (h' : Heap) (x y : Value), xs[i]? = some x → ys[i]? = some y → IsPair h' s.heap.objs.size x y → h'.objs.size = s.heap.objs.size + 1 → ZSt z TI TO i1 i2 l1 l2 xs ys S (i + 1) h' →
        (∀ c o, c ≠ z → c ≠ TO → c ≠ i1 → c ≠ i2 → s.heap.get? c = some o → h'.get? c = some o) →
        wpAny (model prog w) A.in1 (updateSeq S (·.push (.ref s.heap.objs.size)) >>= fun _ => again (.builtin "list.extend.loop" ⟨[.ref S, .ref z, res], []⟩)) (fun fin s' => match fin with | .done f => R (.ok f) s' | .again c' => c'.quiet = true ∧ codeAny (model prog w) A c' R s') (fun e s' => R (.error e) s') { s with heap := h' } := fun h' x y ex ey hp hsz st' hk => by
      have hS' := hk _ _ dS.1 dS.2.2.1 dS.2.2.2.1 dS.2.2.2.2.1 hS
      refine wpAny_bind ?_
      obtain ⟨q1, T, q2, q3⟩ := hacc
      refine wpAny_updateSeq (s := { s with heap := h' }) hS' rfl (wpAny_pure ⟨plainId_quiet F.plain_extend_loop _, ih (i + 1) _ (acc.push (.ref s.heap.objs.size)) _ (by omega) hlt (st'.frame dS fun b o hb e => (Heap.get?_update_other _ _ (Ne.symm hb)).trans e) (by rw [Heap.size_update]; show B ≤ h'.objs.size; omega) (Heap.get?_update_self _ hS' rfl) ?_ fun h'' acc' c' hm hS'' hacc' => ?_⟩) ?_
      · refine ⟨by rw [Array.size_push, q1], fun j => if j = i then s.heap.objs.size else T j, fun j hj => ?_, fun j k hj hk e => ?_⟩
        · dsimp only
          by_cases e : j = i
          · subst e
            rw [if_pos rfl]
            refine ⟨hB, ?_, x, y, ex, ey, ?_⟩
            · rw [← q1]
              simp
            · exact (Heap.get?_update_other _ _ (Ne.symm (ne_up bB.2.2.2.2 hB))).trans hp
          · rw [if_neg e]
            obtain ⟨r1, r2, x', y', r3, r4, r5⟩ := q2 j (by omega)
            refine ⟨r1, ?_, x', y', r3, r4, ?_⟩
            · rw [Array.getElem?_push, if_neg (by omega)]
              exact r2
            · exact (Heap.get?_update_other _ _ (Ne.symm (ne_up bB.2.2.2.2 r1))).trans (hk _ _ (ne_up bB.1 r1) (ne_up bB.2.1 r1) (ne_up bB.2.2.1 r1) (ne_up bB.2.2.2.1 r1) r5)
        · have lt : ∀ j, j < i → T j < s.heap.objs.size := fun j hj => by
            obtain ⟨_, _, _, _, _, _, r5⟩ := q2 j hj
            exact Heap.lt_size r5
          dsimp only at e
          by_cases e1 : j = i
          · by_cases e2 : k = i
            · omega
            · rw [if_pos e1, if_neg e2] at e
              exact absurd e.symm (Nat.ne_of_lt (lt k (by omega)))
          · by_cases e2 : k = i
            · rw [if_neg e1, if_pos e2] at e
              exact absurd e (Nat.ne_of_lt (lt j (by omega)))
            · rw [if_neg e1, if_neg e2] at e
              exact q3 j k (by omega) (by omega) e
      · refine hR h'' acc' c' (fun b o b0 b1 b2 b3 b4 e => hm b o b0 b1 b2 b3 b4 ?_) hS'' hacc'
        exact (Heap.get?_update_other _ _ (Ne.symm b0)).trans (hk b o b1 b2 b3 b4 e)
      · show acc.size ≤ sizeLine
        omega
    obtain ⟨hTI, h1, h2, hl1, hl2, hz⟩ := st
    have hix : i < xs.size := Nat.lt_of_lt_of_le hlt (Nat.min_le_left ..)
    have hiy : i < ys.size := Nat.lt_of_lt_of_le hlt (Nat.min_le_right ..)
    have ex := Array.getElem?_eq_getElem hix
    have ey := Array.getElem?_eq_getElem hiy
    rcases hz with ⟨hz, a, b, hTO⟩ | ⟨T, f, oT, hz, hT, r1, r2, r3, r4⟩
    · refine wpAny_pyNext_zip_item D hz hTI hTO h1 h2 hl1 hl2 ex ey fun h' a1 a2 a3 a4 a5 a6 hk => ?_
      exact step h' _ _ ex ey a5 a6 ⟨hk _ _ D.TIz D.TITO D.TIi1 D.TIi2 hTI, a3, a4, hl1.at fun o e => hk _ o D.l1z D.l1TO D.l1i1 D.l1i2 e, hl2.at fun o e => hk _ o D.l2z D.l2TO D.l2i1 D.l2i2 e,
        .inr ⟨s.heap.objs.size, false, _, a1, a5, ne_up bB.1 hB, ne_up bB.2.2.1 hB, ne_up bB.2.2.2.1 hB, ne_up bB.2.2.2.2 hB⟩⟩ hk
    · refine wpAny_pyNext_zip_item_held D hz hT hTI h1 h2 hl1 hl2 ex ey fun h' a1 a3 a4 a5 a6 hk => ?_
      exact step h' _ _ ex ey a5 a6 ⟨hk _ _ D.TIz D.TIi1 D.TIi2 hTI, a3, a4, hl1.at fun o e => hk _ o D.l1z D.l1i1 D.l1i2 e, hl2.at fun o e => hk _ o D.l2z D.l2i1 D.l2i2 e,
        .inr ⟨T, true, oT, a1, hk _ _ r1 r2 r3 hT, r1, r2, r3, r4⟩⟩ fun c o c1 _ c3 c4 e => hk c o c1 c3 c4 e
/-- the whole call: the two lists' places, and a new list of new pairs -/
theorem call_list_zip {E : Value → Shared → Prop} {s : Shared} {Q : Value → Shared → Prop} (hh : A.handled = none) {z TI TO i1 i2 l1 l2 : Addr} (D : ZipApart z TI TO i1 i2 l1 l2) (xs ys : Array Value)
    (hz : IsZip s.heap z TI TO .none) (hTI : IsPair s.heap TI (.ref i1) (.ref i2)) (hTO : ∃ a b, IsPair s.heap TO a b) (h1 : s.heap.IsListIter i1 l1 0) (h2 : s.heap.IsListIter i2 l2 0) (hl1 : s.heap.IsList l1 xs) (hl2 : s.heap.IsList l2 ys)
    (hn : min xs.size ys.size ≤ 1000000)
    (hQ : ∀ (h' : Heap) (acc' : Array Value) (c' : Nat), (∀ b o, b ≠ z → b ≠ TO → b ≠ i1 → b ≠ i2 → s.heap.get? b = some o → h'.get? b = some o) → h'.get? s.heap.objs.size = some { cls := .type "list", dict := none, data := .seq acc' c', slots := #[] } →
      Prs (s.heap.objs.size + 1) xs ys (min xs.size ys.size) acc' h' → Q (.ref s.heap.objs.size) { s with heap := h' }) :
    wpAny (model prog w) A (call (.type "list") [.ref z]) Q E s := by
  have ltz : z < s.heap.objs.size := Heap.lt_size hz
  have ltTI : TI < s.heap.objs.size := Heap.lt_size hTI
  have ltTO : TO < s.heap.objs.size := let ⟨_, _, e⟩ := hTO; Heap.lt_size e
  have lti1 : i1 < s.heap.objs.size := let ⟨_, e, _⟩ := h1; Heap.lt_size e
  have lti2 : i2 < s.heap.objs.size := let ⟨_, e, _⟩ := h2; Heap.lt_size e
  have ltl1 : l1 < s.heap.objs.size := let ⟨_, e, _⟩ := hl1; Heap.lt_size e
  have ltl2 : l2 < s.heap.objs.size := let ⟨_, e, _⟩ := hl2; Heap.lt_size e
  obtain ⟨S, hSe⟩ : ∃ S, S = s.heap.objs.size := ⟨_, rfl⟩
  have dS : S ≠ z ∧ S ≠ TI ∧ S ≠ TO ∧ S ≠ i1 ∧ S ≠ i2 ∧ S ≠ l1 ∧ S ≠ l2 := by
    rw [hSe]
    exact ⟨Nat.ne_of_gt ltz, Nat.ne_of_gt ltTI, Nat.ne_of_gt ltTO, Nat.ne_of_gt lti1, Nat.ne_of_gt lti2, Nat.ne_of_gt ltl1, Nat.ne_of_gt ltl2⟩
  refine callType_codes (Q₁ := fun obj s₁ => obj = .ref s.heap.objs.size ∧ s₁ = { s with heap := s.heap.push { cls := .type "list", data := .seq #[] } }) F.called_list (F.typeCall_list_1 _) F.entry_list_init
    (code_list_new _ ⟨rfl, rfl⟩) fun obj s₁ h₁ => ?_
  obtain ⟨rfl, rfl⟩ := h₁
  rw [← hSe] at hQ ⊢
  have hS : (s.heap.push { cls := .type "list", data := .seq #[] }).get? S = some { cls := .type "list", data := .seq #[] } := by
    rw [hSe]
    exact Heap.get?_push_size _ rfl
  refine ⟨⟨_, hS, rfl⟩, F.args_list_init_2 _ _, ?_⟩
  have st0 : ZSt z TI TO i1 i2 l1 l2 xs ys S 0 (s.heap.push { cls := .type "list", data := .seq #[] }) := by
    have up : ∀ c o, s.heap.get? c = some o → (s.heap.push { cls := .type "list", data := .seq #[] }).get? c = some o := fun c o e => Heap.get?_push_of_some _ e
    obtain ⟨a, b, hTO⟩ := hTO
    exact ⟨up _ _ hTI, h1.at fun o e => up _ o e, h2.at fun o e => up _ o e, hl1.at fun o e => up _ o e, hl2.at fun o e => up _ o e, .inl ⟨up _ _ hz, a, b, up _ _ hTO⟩⟩
  obtain ⟨H0, hH0⟩ : ∃ H0, H0 = s.heap.push { cls := .type "list", data := .seq #[] } := ⟨_, rfl⟩
  have sz0 : H0.objs.size = S + 1 := by rw [hH0, Heap.size_push, hSe]
  have up0 : ∀ c o, s.heap.get? c = some o → H0.get? c = some o := fun c o e => by rw [hH0]; exact Heap.get?_push_of_some _ e
  rw [← hH0] at hS st0 ⊢
  show wpAny _ A.in1.in1 (do let old ← Builtin.List.listItems (.ref S); Builtin.List.listUpdate (.ref S) (fun _ => #[]); letGo old.toList.reverse; Builtin.List.listExtendWith (.ref S) (.ref z) .none) _ _ { s with heap := H0 }
  refine wpAny_bind ?_
  unfold Builtin.List.listItems
  refine wpAny_bind (wpAny_seqItems hS rfl (wpAny_pure ?_))
  show wpAny _ A.in1.in1 (updateSeq S (fun _ => #[]) >>= fun _ => letGo (#[] : Array Value).toList.reverse >>= fun _ => Builtin.List.listExtendWith (.ref S) (.ref z) .none) _ _ { s with heap := H0 }
  refine wpAny_bind (wpAny_updateSeq hS rfl ?_)
  have hS₂ := Heap.get?_update_self (Obj.mapSeq (fun _ => (#[] : Array Value))) hS rfl
  have oth : ∀ b o, b ≠ S → H0.get? b = some o → (H0.update S (Obj.mapSeq (fun _ => (#[] : Array Value)))).get? b = some o := fun b o hb e => (Heap.get?_update_other _ _ (Ne.symm hb)).trans e
  have st1 := st0.frame dS oth
  refine wpAny_bind (wpAny_letGo ?_)
  obtain ⟨H1, hH1⟩ : ∃ H1, H1 = H0.update S (Obj.mapSeq (fun _ => (#[] : Array Value))) := ⟨_, rfl⟩
  have sz1 : H1.objs.size = S + 1 := by rw [hH1, Heap.size_update, sz0]
  rw [← hH1] at hS₂ oth st1
  show wpAny _ A.in1.in1 (Builtin.List.listExtendWith (.ref S) (.ref z) .none) _ _ { s with heap := H0.update S (Obj.mapSeq (fun _ => (#[] : Array Value))) }
  rw [← hH1]
  have hz1 : IsZip H1 z TI TO .none := oth _ _ (Ne.symm dS.1) (up0 _ _ hz)
  have hTz : ({ s with heap := H1 } : Shared).TypeIs (.ref z) "zip" := ⟨_, hz1, rfl⟩
  unfold Builtin.List.listExtendWith
  refine wpAny_bind (wpAny_typeOf hTz ?_)
  have q1 : Builtin.List.listSameRef (.ref S) (.ref z) = false := by simp [Builtin.List.listSameRef, dS.1]
  have q2 : (Value.type "zip" == Value.type "list") = false := by decide
  have q3 : (Value.type "zip" == Value.type "tuple") = false := by decide
  simp only [q1, q2, q3, Bool.or_false, Bool.false_eq_true, if_false]
  refine wpAny_bind (wpAny_pyIter_zip hz1 ?_)
  refine wpAny_bind (wpAny_holding ?_)
  unfold Builtin.List.listLengthHint
  refine wpAny_bind (wpAny_specialOf hTz zip_no_len ?_)
  show wpAny _ A.in1.in1 (specialOf (Value.ref z) (Str.ofString "__length_hint__") >>= _) _ _ _
  refine wpAny_bind (wpAny_specialOf hTz zip_no_hint ?_)
  refine wpAny_pure ?_
  show wpAny _ A.in1.in1 (rule "list.extend.makes-room" >>= fun _ => Builtin.List.listTouch (.ref S) >>= fun _ =>
    again (.builtin "list.extend.loop" ⟨[.ref S, .ref z, .none], []⟩)) _ _ _
  refine wpAny_bind (wpAny_rule ?_)
  refine wpAny_bind ?_
  show wpAny _ A.in1.in1 (updateSeq S (·.push .none) >>= fun _ => updateSeq S (·.pop)) _ _ _
  refine wpAny_bind (wpAny_updateSeq hS₂ rfl ?_)
  have hS₃ := Heap.get?_update_self (Obj.mapSeq (·.push Value.none)) hS₂ rfl
  refine wpAny_updateSeq (hz := by seq_fits) hS₃ rfl ?_
  have hS₄ := Heap.get?_update_self (Obj.mapSeq (·.pop)) hS₃ rfl
  have oth2 : ∀ b o, b ≠ S → H1.get? b = some o → ((H1.update S (Obj.mapSeq (·.push Value.none))).update S (Obj.mapSeq (·.pop))).get? b = some o :=
    fun b o hb e => (Heap.get?_update_other _ _ (Ne.symm hb)).trans ((Heap.get?_update_other _ _ (Ne.symm hb)).trans e)
  refine wpAny_pure ⟨plainId_quiet F.plain_extend_loop _, extend_zip (A := A.in1) hh D xs ys S dS .none (S + 1) ⟨Nat.lt_succ_of_lt (hSe ▸ ltz), Nat.lt_succ_of_lt (hSe ▸ ltTO), Nat.lt_succ_of_lt (hSe ▸ lti1), Nat.lt_succ_of_lt (hSe ▸ lti2), Nat.lt_succ_self S⟩ (by rw [sizeLine_eq]; omega) _ 0 _ _ _ rfl (Nat.zero_le _) (st1.frame dS oth2) ?_ hS₄ ⟨rfl, fun _ => 0, fun j hj => absurd hj (Nat.not_lt_zero j), fun j k hj => absurd hj (Nat.not_lt_zero j)⟩ fun h' acc' c' hk hS' hacc => ?_⟩
  · rw [Heap.size_update, Heap.size_update]
    exact Nat.le_of_eq sz1.symm
  · refine ⟨rfl, hQ h' acc' c' (fun b o b1 b2 b3 b4 e => ?_) hS' hacc⟩
    have hb : b ≠ S := by
      rw [hSe]
      exact Nat.ne_of_lt (Heap.lt_size e)
    exact hk b o hb b1 b2 b3 b4 (oth2 b o hb (oth b o hb (up0 b o e)))
end
/-- new pairs laid, one by one -/
def layP (H : Hp) (T : Nat → Addr) (f g : Nat → V) : Nat → Hp
  | 0 => H
  | k + 1 => upd (layP H T f g k) (T k) (.tup [f k, g k])
theorem layP_other {H : Hp} {T : Nat → Addr} {f g : Nat → V} {b : Addr} : ∀ {n : Nat}, (∀ i, i < n → T i ≠ b) → layP H T f g n b = H b
  | 0, _ => rfl
  | n + 1, h => by
    show upd (layP H T f g n) (T n) _ b = _
    rw [upd_ne (Ne.symm (h n (Nat.lt_succ_self n)))]
    exact layP_other fun i hi => h i (Nat.lt_succ_of_lt hi)
section
variable {X : Cx} {pins : List (Addr × Obj)} {σ : L2.St} {H : Hp} {s : Shared}
theorem lay_pairs {h' : Heap} (I : Inv X pins σ H s) (k : ∀ b u, s.heap.get? b = some u → h'.get? b = some u) {T : Nat → Addr} {f g : Nat → V} {n : Nat} (hT : ∀ j, j < n → s.heap.objs.size ≤ T j ∧ ∃ x y, RelV (f j) x ∧ RelV (g j) y ∧ IsPair h' (T j) x y) (inj : ∀ i j, i < n → j < n → T i = T j → i = j) :
    ∀ j, j ≤ n → ∃ G : Heap, (∀ b u, G.get? b = some u → h'.get? b = some u) ∧ (∀ b, s.heap.objs.size ≤ b → (∀ i, i < j → T i ≠ b) → G.get? b = none) ∧ Inv X pins σ (layP H T f g j) { s with heap := G } := by
  intro j
  induction j with
  | zero =>
    intro _
    refine ⟨s.heap, k, fun b hb _ => ?_, I⟩
    cases e : s.heap.get? b with
    | none => rfl
    | some o => exact absurd (Heap.lt_size e) (Nat.not_lt_of_le hb)
  | succ j ih =>
    intro hj
    obtain ⟨G, g1, g2, J⟩ := ih (by omega)
    obtain ⟨t1, x, y, rx, ry, hp⟩ := hT j (by omega)
    have ne : ∀ i, i < j → T i ≠ T j := fun i hi e => by
      have := inj i j (by omega) (by omega) e
      omega
    obtain ⟨G', r1, r2⟩ := restrict h' fun b => (G.get? b).isSome || decide (b = T j)
    have gu : ∀ b u, G.get? b = some u → G'.get? b = some u := fun b u e => by
      rw [r1 b (by rw [e]; rfl)]
      exact g1 b u e
    have gT : IsPair G' (T j) x y := by
      show G'.get? (T j) = _
      rw [r1 (T j) (by simp)]
      exact hp
    refine ⟨G', fun b u e => ?_, fun b hb nb => ?_, ?_⟩
    · cases q : ((G.get? b).isSome || decide (b = T j)) with
      | true => rwa [r1 b q] at e
      | false =>
        rw [r2 b q] at e
        cases e
    · refine r2 b ?_
      rw [g2 b hb fun i hi => nb i (by omega)]
      simp only [Option.isSome_none, Bool.false_or, decide_eq_false_iff_not]
      exact fun e => nb j (by omega) e.symm
    · have hn : layP H T f g j (T j) = none := by
        rw [layP_other ne]
        exact I.hok.fresh t1
      have := J.laidN (t' := s.toks) (o := .tup [f j, g j]) gu (g2 (T j) t1 ne) hn ⟨by rw [sizeLine_eq]; show 2 ≤ 16777216; decide, [x, y], .cons rx (.cons ry .nil), _, gT, rfl, _, rfl⟩
      exact this
end
/-- zip(a, b) of two lists -/
def PZp (X : Cx) (e : Expr) (t : L2.St → Hp → (Addr → Addr → List V → List V → Hp → Prop) → Prop) : Prop :=
  ∀ (pins : List (Addr × Obj)) (s : Shared) (σ : L2.St) (H : Hp) (Q : Addr → Addr → List V → List V → Hp → Prop), Inv X pins σ H s → t σ H Q →
    wpAny (model X.prog X.w) X.A (eval e X.env) (fun x s' => ∃ (h2 : Heap) (a b : Addr) (vs us : List V) (H' : Hp), x = .ref (h2.objs.size + 4) ∧
      IsZip s'.heap (h2.objs.size + 4) (h2.objs.size + 2) (h2.objs.size + 3) .none ∧ IsPair s'.heap (h2.objs.size + 2) (.ref h2.objs.size) (.ref (h2.objs.size + 1)) ∧ IsPair s'.heap (h2.objs.size + 3) .none .none ∧
      s'.heap.IsListIter h2.objs.size a 0 ∧ s'.heap.IsListIter (h2.objs.size + 1) b 0 ∧ s'.heap.objs.size = h2.objs.size + 5 ∧ (∀ c o, h2.get? c = some o → s'.heap.get? c = some o) ∧
      Inv X pins σ H' { s' with heap := h2 } ∧ SqL X.K H' a vs ∧ SqL X.K H' b us ∧ Q a b vs us H') X.xe s
def tZp (X : Cx) (ta tb : TE) : L2.St → Hp → (Addr → Addr → List V → List V → Hp → Prop) → Prop := fun σ H Q => ta σ H fun x H1 => tb σ H1 fun y H2 => ∃ a b vs us, x = .ref a ∧ y = .ref b ∧ SqL X.K H2 a vs ∧ SqL X.K H2 b us ∧ Q a b vs us H2
theorem pzp {X : Cx} {a b : Expr} {ta tb : TE} {p pos : Pos} (hg : Gl X "zip") (hm : X.mg "zip" = none) (ha : PE X a ta) (hb : PE X b tb) (na : starEach [a, b] X.env = (false, eval a X.env) :: starEach [b] X.env)
    (nb : starEach [b] X.env = (false, eval b X.env) :: starEach [] X.env) (hp : (backTo pos (starEach [b] X.env)).any (·.1) = false) : PZp X (.Call (.Name "zip" p) [a, b] [] pos) (tZp X ta tb) := by
  intro pins s σ H Q I h
  refine Call_ (ld_blt I hg hm PyProof.Rows.boot_zip (PyProof.Rows.callWith_type1 (args_cons (thn (ha.run pins s σ H _ I h) fun v s1 ⟨x, H1, I1, r1, q1⟩ => one_arg hb I1 q1 (fun u s2 y H2 I2 r2 q => ?_) nb) na) na hp))
  obtain ⟨a, b, vs, us, rfl, rfl, h1, h2, q⟩ := q
  obtain rfl : v = .ref a := r1
  obtain rfl : u = .ref b := r2
  obtain ⟨its1, v1, p1, z1⟩ := I2.list h1
  obtain ⟨its2, v2, p2, z2⟩ := I2.list h2
  exact call_zip_2 p1.isList p2.isList fun h' a1 a2 a3 a4 a5 a6 a7 => ⟨s2.heap, a, b, vs, us, H2, rfl, a1, a2, a3, a4, a5, a6, a7, I2, h1, h2, q⟩
def tLstZp (te : L2.St → Hp → (Addr → Addr → List V → List V → Hp → Prop) → Prop) : TE := fun σ H Q => te σ H fun _ _ vs us H1 => min vs.length us.length ≤ 1000000 ∧
  ∀ (T : Nat → Addr) (q : Addr), (∀ k, k < min vs.length us.length → H1 (T k) = none ∧ T k ≠ q) → (∀ i j, i < min vs.length us.length → j < min vs.length us.length → T i = T j → i = j) → H1 q = none →
    Q (.ref q) (upd (layP H1 T (fun k => vs.getD k (.ref 0)) (fun k => us.getD k (.ref 0)) (min vs.length us.length)) q (.lst ((List.range (min vs.length us.length)).map fun k => .ref (T k))))
theorem pe_listZip {X : Cx} {e : Expr} {te : L2.St → Hp → (Addr → Addr → List V → List V → Hp → Prop) → Prop} {p pos : Pos} (hc : X.calm = true) (hg : Gl X "list") (hm : X.mg "list" = none) (he : PZp X e te) (na : starEach [e] X.env = (false, eval e X.env) :: starEach [] X.env) : PE X (.Call (.Name "list" p) [e] [] pos) (tLstZp te) := by
  refine ⟨fun pins s σ H Q I h => ?_⟩
  refine Call_ (ld_blt I hg hm PyProof.Rows.boot_list (PyProof.Rows.callWith_type1 (args_cons (thn (he pins s σ H _ I h) fun x s1 ⟨h2, a, b, vs, us, H1, ex, a1, a2, a3, a4, a5, a6, a7, I2, l1, l2, q⟩ => args_nil ?_) na) na))
  subst ex
  obtain ⟨ok, q⟩ := q
  obtain ⟨its1, v1, p1, z1⟩ := I2.list l1
  obtain ⟨its2, v2, p2, z2⟩ := I2.list l2
  have la : a < h2.objs.size := let ⟨_, e, _⟩ := p1.isList; Heap.lt_size e
  have lb : b < h2.objs.size := let ⟨_, e, _⟩ := p2.isList; Heap.lt_size e
  have D : ZipApart (h2.objs.size + 4) (h2.objs.size + 2) (h2.objs.size + 3) h2.objs.size (h2.objs.size + 1) a b := by
    constructor <;> first | exact Nat.ne_of_gt (by omega) | exact Nat.ne_of_lt (by omega) | exact Nat.ne_of_lt la | exact Nat.ne_of_lt lb | exact Nat.ne_of_lt (Nat.lt_of_lt_of_le la (by omega)) | exact Nat.ne_of_lt (Nat.lt_of_lt_of_le lb (by omega))
  have e1 : its1.toArray.size = vs.length := by rw [List.size_toArray, ← v1.length]
  have e2 : its2.toArray.size = us.length := by rw [List.size_toArray, ← v2.length]
  refine call_list_zip (I2.ok.hd hc) D its1.toArray its2.toArray a1 a2 ⟨_, _, a3⟩ a4 a5 (p1.isList.at fun o e => a7 _ o e) (p2.isList.at fun o e => a7 _ o e) (by rw [e1, e2]; exact ok) fun h' acc c' hk hS hp => ?_
  rw [e1, e2] at hp
  obtain ⟨q1, T, q2, q3⟩ := hp
  have k : ∀ c o, h2.get? c = some o → h'.get? c = some o := fun c o e => by
    have := Heap.lt_size e
    exact hk c o (Nat.ne_of_lt (Nat.lt_of_lt_of_le this (by omega))) (Nat.ne_of_lt (Nat.lt_of_lt_of_le this (by omega))) (Nat.ne_of_lt this) (Nat.ne_of_lt (Nat.lt_of_lt_of_le this (by omega))) (a7 c o e)
  obtain ⟨n, hn⟩ : ∃ n, n = min vs.length us.length := ⟨_, rfl⟩
  rw [← hn] at q q1 q2 q3
  have gd : ∀ (vs : List V) (its : List Value) (j : Nat) (x : Value), Vals vs its → j < vs.length → its.toArray[j]? = some x → RelV (vs.getD j (.ref 0)) x := fun vs its j x v hj e => by
    obtain ⟨u, e2, r⟩ := v.get (List.getElem?_eq_getElem hj)
    rw [List.getElem?_toArray, e2] at e
    cases e
    rw [List.getD_eq_getElem?_getD, List.getElem?_eq_getElem hj]
    exact r
  have bT : ∀ j, j < n → h2.objs.size ≤ T j ∧ T j ≠ s1.heap.objs.size := fun j hj => by
    have := (q2 j hj).1
    exact ⟨by omega, Nat.ne_of_gt this⟩
  obtain ⟨G, g1, g2, J⟩ := lay_pairs I2 k (T := T) (f := fun k => vs.getD k (.ref 0)) (g := fun k => us.getD k (.ref 0)) (n := n) (fun j hj => by
    obtain ⟨_, _, x, y, e3, e4, e5⟩ := q2 j hj
    exact ⟨(bT j hj).1, x, y, gd vs its1 j x v1 (by omega) e3, gd us its2 j y v2 (by omega) e4, e5⟩) q3 n (Nat.le_refl n)
  have bS : h2.objs.size ≤ s1.heap.objs.size := by omega
  have lf : acc.toList.length = n := by rw [Array.length_toList, q1]
  have hv : Vals ((List.range n).map fun k => V.ref (T k)) acc.toList := by
    rw [← lf]
    refine vals_of_get acc.toList _ fun j u hj => ?_
    have hj2 : j < n := by
      have := (List.getElem?_eq_some_iff.mp hj).1
      omega
    have e3 := (q2 j hj2).2.1
    rw [← Array.getElem?_toList, hj] at e3
    cases e3
    exact rfl
  have hnS : layP H1 T (fun k => vs.getD k (.ref 0)) (fun k => us.getD k (.ref 0)) n s1.heap.objs.size = none := by
    rw [layP_other fun i hi => (bT i hi).2]
    exact I2.hok.fresh bS
  have JL := J.laidN (t' := s1.toks) (o := .lst ((List.range n).map fun k => V.ref (T k))) g1 (g2 _ bS fun i hi => (bT i hi).2) hnS ⟨by rw [List.length_map, List.length_range, sizeLine_eq]; omega, acc.toList, c', hv, by rw [Array.toArray_toList]; exact hS⟩
  exact ⟨.ref s1.heap.objs.size, _, JL, rfl, q T _ (fun k hk => ⟨I2.hok.fresh (bT k hk).1, (bT k hk).2⟩) q3 (I2.hok.fresh bS)⟩
end Pf

set_option Elab.async false
set_option linter.all false
set_option maxRecDepth 100000
set_option autoImplicit false
set_option exponentiation.threshold 4000000
set_option maxHeartbeats 1000000
/-! Pf3: the operators are sound -/
namespace Pf
open PySem PySem.Spec L2
variable [Tbc]

/-! ### what is wanted of an answer -/
def PK {α : Type} (r : R α) (k : α → Prop) (e : Nat → Prop) : Prop := match r with
  | .ok x => k x
  | .exn c => e c
  | .bad => False
theorem PK_bind {α β : Type} {r : R α} {f : α → R β} {k : β → Prop} {e : Nat → Prop} : PK (r.bind f) k e ↔ PK r (fun x => PK (f x) k e) e := by
  cases r <;> rfl
theorem PK.imp {α : Type} {r : R α} {k k' : α → Prop} {e e' : Nat → Prop} (h : PK r k e) (hk : ∀ x, k x → k' x) (he : ∀ c, e c → e' c) : PK r k' e' := by
  cases r with
  | ok x => exact hk x h
  | exn c => exact he c h
  | bad => exact h

/-- without the tables -/
def noT (H : Hp) : Hp := fun b => match H b with
  | some (.tbl _) => none
  | o => o
theorem noT_of {H : Hp} {b : Addr} {o : HO} (h : H b = some o) (n : ∀ ps, o ≠ .tbl ps) : noT H b = some o := by
  unfold noT
  rw [h]
  cases o <;> first | rfl | (exact absurd rfl (n _))
theorem noT_get {H : Hp} {b : Addr} {o : HO} (h : noT H b = some o) : H b = some o ∧ ∀ ps, o ≠ .tbl ps := by
  unfold noT at h
  split at h
  · cases h
  · rename_i hn
    exact ⟨h, fun ps z => hn ps (by rw [h, z])⟩
theorem noT_same (H : Hp) : Same (noT H) H := fun _ _ h => (noT_get h).1
theorem noT_in {G H : Hp} (s : Same G H) (n : ∀ b ps, G b ≠ some (.tbl ps)) : Same G (noT H) := fun b o h => noT_of (s b o h) fun ps z => n b ps (by rw [h, z])
theorem noT_clean {G H : Hp} (c : Clean G H) : Clean (noT H) H := ⟨fun _ _ h => (noT_get h).2 _ rfl, c.tb⟩
inductive Mode where | esc | bor | fre
/-- a value whose list may be owned -/
def RepT (K : PySem.W.Frag) (G H : Hp) : PV → V → Prop
  | .lst xs, v => ∃ a vs, v = .ref a ∧ H a = some (.lst vs) ∧ Reps K G xs vs
  | x, v => Rep K G x v
/-- a value whose list is new -/
def RepF (K : PySem.W.Frag) (H0 G H : Hp) : PV → V → Prop
  | .lst xs, v => ∃ a vs, v = .ref a ∧ H0 a = none ∧ G a = none ∧ H a = some (.lst vs) ∧ Reps K G xs vs
  | x, v => Rep K G x v
def RepM (m : Mode) (K : PySem.W.Frag) (H0 G H : Hp) (x : PV) (v : V) : Prop := match m with
  | .esc => Rep K G x v
  | .bor => RepT K G H x v
  | .fre => RepF K H0 G H x v
section
variable {K : PySem.W.Frag} {G H G' H' H0 : Hp} {x : PV} {v : V}
theorem Rep.toT (s : Same G H) (h : Rep K G x v) : RepT K G H x v := by
  cases x with
  | lst xs =>
    obtain ⟨a, vs, e, g, r⟩ := rep_lst.mp h
    exact ⟨a, vs, e, s _ _ g, r⟩
  | _ => exact h
theorem RepT.mono (sg : Same G G') (sh : SameT H H') (h : RepT K G H x v) : RepT K G' H' x v := by
  cases x with
  | lst xs =>
    obtain ⟨a, vs, e, g, r⟩ := h
    exact ⟨a, vs, e, sh.lst g, r.mono sg⟩
  | _ => exact Rep.mono sg h
theorem RepF.settle {G1 H1 : Hp} (e : Ext G H G1 H1) (h : RepF K H G1 H1 x v) : ∃ G2, Ext G H G2 H1 ∧ Rep K G2 x v := by
  cases x with
  | lst xs =>
    obtain ⟨a, vs, ev, h0, g, h1, r⟩ := h
    exact ⟨_, e.settle h0 h1, rep_lst.mpr ⟨a, vs, ev, upd_same, r.mono (same_upd g)⟩⟩
  | _ => exact ⟨G1, e, h⟩
theorem RepT.int {i : Int} (h : RepT K G H (.int i) v) : v = .int i := rep_int.mp (show Rep K G _ v from h)
theorem RepT.bl {i : Bool} (h : RepT K G H (.bl i) v) : v = .bl i := rep_bl.mp (show Rep K G _ v from h)
theorem RepT.str {i : Str} (h : RepT K G H (.str i) v) : v = .str i := rep_str.mp (show Rep K G _ v from h)
theorem RepT.non (h : RepT K G H .non v) : v = .non := rep_non.mp (show Rep K G _ v from h)
theorem RepT.tup {xs : List PV} (h : RepT K G H (.tup xs) v) : ∃ a vs, v = .ref a ∧ G a = some (.tup vs) ∧ Reps K G xs vs := rep_tup.mp (show Rep K G _ v from h)
theorem RepT.lst {xs : List PV} (h : RepT K G H (.lst xs) v) : ∃ a vs, v = .ref a ∧ H a = some (.lst vs) ∧ Reps K G xs vs := h
theorem RepT.rl {xs : List PV} (h : RepT K G H (.rl xs) v) : ∃ a vs, v = .ref a ∧ SqL K G a vs ∧ Reps K G xs vs := rep_rl.mp (show Rep K G _ v from h)
theorem RepT.full (s : Same G H) (h : RepT K G H x v) : Rep K H x v := by
  cases x with
  | lst xs =>
    obtain ⟨a, vs, e, g, r⟩ := h
    exact rep_lst.mpr ⟨a, vs, e, g, r.mono s⟩
  | _ => exact Rep.mono s h
theorem Rep.flat_any (h : Rep K G x v) (f : flat x = true) : Rep K G' x v := by
  cases x <;> first | (simp only [flat, Bool.false_eq_true] at f; done) | (simpa only [Rep] using h)
theorem rep_int' {i : Int} : Rep K G (.int i) (.int i) := rep_int.mpr rfl
theorem rep_bl' {i : Bool} : Rep K G (.bl i) (.bl i) := rep_bl.mpr rfl
theorem rep_str' {i : Str} : Rep K G (.str i) (.str i) := rep_str.mpr rfl
end

/-! ### a module's facts -/
structure Fn where
  name : Str
  ps : List Str
  f : Addr
  fd : FuncData
  sem : Sem1
  fr : Bool
def spP (K : PySem.W.Frag) (cl : Nat → Addr) (n : Nat) (sem : Sem1) (fr : Bool) : Sp := fun vs H Q E => vs.length = n ∧ ∃ G xs, Same G H ∧ Clean G H ∧ Reps K G xs vs ∧
  PK (sem xs) (fun x => ∀ v G' H', Ext G H G' H' → RepM (if fr then .fre else .esc) K H G' H' x v → Q v H') (fun c => ∀ G' H', Ext G H G' H' → E (.ref (cl c)) none H')
/-- an own class of exceptions -/
structure ExG (K : PySem.W.Frag) (mg : Str → Option Value) (x : Str) (C : Addr) : Prop where
  db : (x == ("__debug__" : Str)) = false
  gm : mg x = some (.ref C)
  kp : PySem.W.keepIn K (.ref C) = true
  ex : PySem.W.excIn K C [.type "ValueError", .type "Exception", .type "BaseException", .type "object"] "ValueError.__new__" = true
  sb : PySem.W.subIn K (.ref C) (.type "BaseException") = some true
  ty : PySem.W.typeIn K (.ref C) = some (.type "type")
/-- what is asked of the classes of errors: their names; those that are raised; who is asked of whom; who is asked of None -/
structure Ec where
  ex : List (Str × Nat)
  rs : List Nat
  kp : List (Nat × Option Nat)
  kn : List (Option Nat)
  ct : List (Nat × Nat)
def clV (cl : Nat → Addr) : Option Nat → Value
  | none => .type "ValueError"
  | some d => .ref (cl d)
structure EcOk (K : PySem.W.Frag) (mg : Str → Option Value) (cl : Nat → Addr) (ec : Ec) : Prop where
  ex : ∀ p ∈ ec.ex, ExG K mg p.1 (cl p.2)
  ns : ∀ c ∈ ec.rs, clsIs K c (cl c)
  xc : ∀ c ∈ ec.rs, ExcC K (cl c)
  kp : ∀ p ∈ ec.kp, PySem.W.kitOne K (.ref (cl p.1)) (clV cl p.2) = some (subX p.1 p.2)
  kn : ∀ d ∈ ec.kn, PySem.W.kitOne K (.type "NoneType") (clV cl d) = some false
  em : ∀ c ∈ ec.rs, PySem.W.exmOne K (.ref (cl c)) (.ref (cl 0)) = some true
  et : ∀ p ∈ ec.ct, PySem.W.exmOne K (.ref (cl p.1)) (.ref (cl p.2)) = some (subX p.1 (some p.2))
  dg : PySem.W.nsIn K cStatics "sys.int_max_str_digits" = some none
/-- a def that gets a lambda -/
structure FnL where
  name : Str
  f : Addr
  sem : R PV → R PV
/-- what a lambda that gives r may be asked for, from (G, H) on -/
def tlR (K : PySem.W.Frag) (cl : Nat → Addr) (r : R PV) (G H : Hp) : XK → Hp → VK → Prop := fun E H1 Q => ∃ G1, Ext G H G1 H1 ∧
  PK r (fun x => ∀ v G' H', Ext G1 H1 G' H' → Rep K G' x v → Q v H') (fun c => ∀ G' H', Ext G1 H1 G' H' → E (.ref (cl c)) none H')
structure FnL.Ok (cl : Nat → Addr) (P : Program) (w : World) (K : PySem.W.Frag) (mg : Str → Option Value) (base : Heap) (k : Nat) (n : FnL) : Prop where
  gm : mg n.name = some (.ref n.f)
  db : (n.name == ("__debug__" : Str)) = false
  nx : ∀ r c, n.sem r ≠ .exn c
  ex : ∃ (st : Stmt) (fd : FuncData) (N : List Str) (a : Str), L2.Fun K n.name n.name st n.f fd ∧ FnScope N [a] (defScope st) ∧ L2.Binds K fd [a] [] ∧ N[0]? = some a ∧ Vis (defScope st) a ∧ (a == ("__debug__" : Str)) = false ∧ (a == ("__classdict__" : Str)) = false ∧
    ∀ (cdv : Value) (A : Around) (stack : List PySem.Env) (s : Shared) (G H : Hp) (Q : VK) (r : R PV) (f c1 : Addr) (q : Str), Room (k + 1) (A.deeper (PyProof.Rows.envOfC n.name (defScope st) s.heap.objs.size n.f cdv)) → Same G H → Clean G H → H c1 = some (LamX.CodeO c1 q) →
      Acts P w K mg base A stack s H N n.name (defScope st) n.f cdv a f c1 q (tlR K cl r G H) → PK (n.sem r) (fun x => ∀ v G' H', Ext G H G' H' → Rep K G' x v → Q v H') (fun _ => False) →
      ∃ t, PSs (cxOf C8.CX0 P w K mg base N n.name (defScope st) n.f cdv A stack s H C8.E0).nox (defBody st) t ∧ t { nx := fun _ H' => Q .non H', rt := Q } (L2.start N [.ref f]) H
/-- the module's facts for a def; fnl: defs that get a lambda; tl: the lambda that was got; lm: lambdas may be made -/
structure Gt where
  k : Nat
  cl : Nat → Addr
  fns : List Fn
  bl : List Str
  cn : List (Str × PV)
  ec : Ec
  hot : Bool
  fno : List Fn
  fnl : List FnL
  tl : Option (Str × R PV)
  lm : Bool
structure Fn.Ok (Γ : Gt) (P : Program) (w : World) (K : PySem.W.Frag) (mg : Str → Option Value) (base : Heap) (n : Fn) : Prop where
  ok : FnOk P w K mg base (L2.CX P w) Γ.k n.f n.fd n.ps (spP K Γ.cl n.ps.length n.sem n.fr)
  gm : mg n.name = some (.ref n.f)
  kp : PySem.W.keepIn K (.ref n.f) = true
  bd : Binds K n.fd n.ps []
  len : ∀ xs, n.sem xs ≠ .bad → xs.length = n.ps.length
  db : (n.name == ("__debug__" : Str)) = false
def del (H : Hp) (p : Addr) : Hp := fun b => if b = p then none else H b
/-- a def that owns its last argument, a list -/
def spO (K : PySem.W.Frag) (cl : Nat → Addr) (n : Nat) (sem : Sem1) : Sp := fun vs H Q E => vs.length = n ∧ ∃ (G : Hp) (xs : List PV) (us : List V) (p : Addr) (zs : List PV) (ws : List V), vs = us ++ [V.ref p] ∧ Same G H ∧ Clean G H ∧ Reps K G xs us ∧ H p = some (.lst ws) ∧ G p = none ∧ Reps K G zs ws ∧
  PK (sem (xs ++ [.lst zs])) (fun x => ∀ v G' H', Ext G (del H p) G' H' → Rep K G' x v → Q v H') (fun c => ∀ G' H', Ext G (del H p) G' H' → E (.ref (cl c)) none H')
structure Fn.OkO (Γ : Gt) (P : Program) (w : World) (K : PySem.W.Frag) (mg : Str → Option Value) (base : Heap) (n : Fn) : Prop where
  ok : FnOk P w K mg base (L2.CX P w) Γ.k n.f n.fd n.ps (spO K Γ.cl n.ps.length n.sem)
  gm : mg n.name = some (.ref n.f)
  kp : PySem.W.keepIn K (.ref n.f) = true
  bd : Binds K n.fd n.ps []
  len : ∀ xs, n.sem xs ≠ .bad → xs.length = n.ps.length
  db : (n.name == ("__debug__" : Str)) = false
structure Gt.Ok (Γ : Gt) (P : Program) (w : World) (K : PySem.W.Frag) (mg : Str → Option Value) (base : Heap) : Prop where
  fn : ∀ n ∈ Γ.fns, n.Ok Γ P w K mg base
  bl : ∀ x ∈ Γ.bl, mg x = none
  cn : ∀ p ∈ Γ.cn, (p.1 == ("__debug__" : Str)) = false ∧ ∃ v u, mg p.1 = some u ∧ RelV v u ∧ ∀ G, Rep K G p.2 v
  ec : EcOk K mg Γ.cl Γ.ec
  fno : ∀ n ∈ Γ.fno, n.OkO Γ P w K mg base
/-- lambdas may be made: the defs that get them; the def's own table -/
structure LamOk (Γ : Gt) (X : Cx) : Prop where
  two : 2 ≤ Γ.k
  fnl : ∀ n ∈ Γ.fnl, n.Ok Γ.cl X.prog X.w X.K X.mg X.base (Γ.k - 2)
  lo : Gt.Ok { Γ with k := Γ.k - 2, lm := false } X.prog X.w X.K X.mg X.base
  tab : ∃ c P, LamX.TabB X.base X.mg c P ∧ X.env.code = .ref c ∧ (P, lamN X) ∈ Tbc.T ∧ ∀ p ∈ Tbc.T, p.1 = P → p.2 = lamN X
def loc (sc : Scope) (x : Str) : Bool := match sc.names.lookup x with
  | some .local => true
  | some .cell => true
  | _ => false
/-- an exception that the frame has noted -/
def Air (X : Cx) (W : WX) (u : Value) (s' : Shared) : Prop :=
  ∃ (a : Addr) (B : Heap) (sI : Shared) (pins : List (Addr × Obj)) (σ : L2.St) (H : Hp) (cls : Value) (d : Option Addr) (f : Addr),
    u = .ref a ∧ X.env.frame = some f ∧ Inv X pins σ H sI ∧ (∀ b o, sI.heap.get? b = some o → b ∉ frs X.stack → B.get? b = some o) ∧ sI.heap.UpToSlots s'.heap ∧
      PySem.HandSPX.HeldZ B X.stack a (Zc cls d) f s'.heap ∧ H a = none ∧ s'.os = sI.os ∧ PyProof.Rows.AllBare s'.gens ∧ W cls d σ H
/-- the def's frame -/
def Fra (X : Cx) : Prop := ∃ v out f, X.stack = v :: out ∧ v.frame = some f ∧ X.env.frame = some f
/-- what an exception that was noted may ask of a context -/
structure AirOk (X : Cx) (W : WX) : Prop where
  fra : Fra X
  air : ∀ u s', Air X W u s' → X.xe u s'
theorem air_of {X : Cx} {W : WX} (tk : Takes X W) (hf : X.env.frame = some X.env.locals) : ∀ u s', Air X W u s' → X.xe u s' := fun u s' ⟨a, B, sI, pins, σ, H, cls, d, f, eu, ef, I, nb, up, hh, na, os, ag, w⟩ => by
  have e : f = X.env.locals := Option.some.inj (ef.symm.trans hf)
  subst e
  exact tk u s' ⟨a, B, sI, pins, σ, H, cls, d, eu, I, nb, up, .inr (.inr hh), na, os, ag, w⟩
theorem airOk_top {X : Cx} {W : WX} (tk : Takes X W) (hs : X.stack = X.env :: X.outer) (hf : X.env.frame = some X.env.locals) : AirOk X W := ⟨⟨_, _, _, hs, hf, hf⟩, air_of tk hf⟩
/-- sc: the scope that runs; so: as it was written -/
structure XOk (Γ : Gt) (N : List Str) (sc so : Scope) (W : WX) (X : Cx) : Prop where
  g : Γ.Ok X.prog X.w X.K X.mg X.base
  hN : X.N = N
  nd : N.Nodup
  db : ∀ x ∈ N, (x == ("__debug__" : Str)) = false ∧ (x == ("__classdict__" : Str)) = false
  hsc : X.env.scope = sc
  kd : sc.kind = .function
  calm : Γ.hot = false → X.calm = true
  fn : ∀ x, loc so x = true → Loc X.env.scope x ∧ (X.fn x = true ∨ X.env.scope.names.lookup x = some .local)
  room : Γ.hot = false → Room Γ.k X.A
  un : X.A.units + 66 < cLine
  tk : Γ.hot = false → Takes X W
  la : Γ.lm = true → Γ.hot = false → LamOk Γ X
  ar : Γ.hot = false → AirOk X W

/-! ### judgements -/
variable [Tlc]
section
variable (Γ : Gt) (W : WX) (X : Cx)
def Ke (σ : L2.St) (G H : Hp) : Nat → Prop := fun c => ∀ G' H', Ext G H G' H' → W (.ref (Γ.cl c)) none σ H'
def rdE (K : PySem.W.Frag) (m : Mode) (f : Env → R PV) : TE := fun σ H Q => ∃ (B : Bd) (ρ : Env) (G : Hp), Ow K B ρ σ G H ∧
  PK (f ρ) (fun x => ∀ v G' H', Ext G H G' H' → RepM m K H G' H' x v → Q v H') (Ke Γ W σ G H)
def SE (m : Mode) (e : Expr) (f : Env → R PV) : Prop := PE X e (rdE Γ W X.K m f)
def rdT (K : PySem.W.Frag) (f : Env → R PV) : TT := fun σ H Q => ∃ (B : Bd) (ρ : Env) (G : Hp), Ow K B ρ σ G H ∧
  PK (f ρ) (fun x => ∃ b, x = .bl b ∧ ∀ G' H', Ext G H G' H' → Q b H') (Ke Γ W σ G H)
def ST (e : Expr) (f : Env → R PV) : Prop := PT X e (rdT Γ W X.K f)
/-- arguments: each as a value whose list may be owned -/
def RepsT (K : PySem.W.Frag) (G H : Hp) : List PV → List V → Prop
  | [], vs => vs = []
  | x :: xs, vs => ∃ v r, vs = v :: r ∧ RepT K G H x v ∧ RepsT K G H xs r
def rdA (K : PySem.W.Frag) (f : Env → R (List PV)) : TA := fun σ H Q => ∃ (B : Bd) (ρ : Env) (G : Hp), Ow K B ρ σ G H ∧
  PK (f ρ) (fun xs => ∀ vs G' H', Ext G H G' H' → RepsT K G' H' xs vs → Q vs H') (Ke Γ W σ G H)
def SA (es : List Expr) (f : Env → R (List PV)) : Prop := PA X es (rdA Γ W X.K f)
def rdAE (K : PySem.W.Frag) (f : Env → R (List PV)) : TA := fun σ H Q => ∃ (B : Bd) (ρ : Env) (G : Hp), Ow K B ρ σ G H ∧
  PK (f ρ) (fun xs => ∀ vs G' H', Ext G H G' H' → Reps K G' xs vs → Q vs H') (Ke Γ W σ G H)
def SAE (es : List Expr) (f : Env → R (List PV)) : Prop := PA X es (rdAE Γ W X.K f)
end
section
variable {Γ : Gt} {W : WX} {X : Cx} {e : Expr} {f : Env → R PV}
theorem Ke.step {σ : L2.St} {G H G1 H1 : Hp} (e1 : Ext G H G1 H1) {c : Nat} (h : Ke Γ W σ G H c) : Ke Γ W σ G1 H1 c := fun G' H' e' => h G' H' (e1.trans e')
theorem PE.weak {t t' : TE} (p : PE X e t) (w : ∀ σ H Q, t' σ H Q → t σ H Q) : PE X e t' := ⟨fun pins s σ H Q I h => p.run pins s σ H Q I (w σ H Q h)⟩
theorem PT.weak {t t' : TT} (p : PT X e t) (w : ∀ σ H Q, t' σ H Q → t σ H Q) : PT X e t' := ⟨fun pins s σ H Q I h => p.run pins s σ H Q I (w σ H Q h)⟩
theorem PA.weak {es : List Expr} {t t' : TA} (p : PA X es t) (w : ∀ σ H Q, t' σ H Q → t σ H Q) : PA X es t' := ⟨fun pos pins s σ H Q I h => p.run pos pins s σ H Q I (w σ H Q h)⟩
theorem SE.esc_of (h : SE Γ W X .fre e f) : SE Γ W X .esc e f := by
  refine PE.weak h fun σ H Q ⟨B, ρ, G, o, q⟩ => ⟨B, ρ, G, o, q.imp (fun x k v G' H' ex rf => ?_) fun _ z => z⟩
  obtain ⟨G2, e2, r2⟩ := RepF.settle ex rf
  exact k v G2 H' e2 r2
theorem SE.bor_of (h : SE Γ W X .esc e f) : SE Γ W X .bor e f :=
  PE.weak h fun σ H Q ⟨B, ρ, G, o, q⟩ => ⟨B, ρ, G, o, q.imp (fun x k v G' H' ex rf => k v G' H' ex (Rep.toT ex.gh rf)) fun _ z => z⟩
theorem RepsT.mono {K : PySem.W.Frag} {G H G' H' : Hp} (sg : Same G G') (sh : SameT H H') : ∀ {xs : List PV} {vs : List V}, RepsT K G H xs vs → RepsT K G' H' xs vs
  | [], _, h => h
  | x :: xs, _, ⟨v, r, e, h1, h2⟩ => ⟨v, r, e, h1.mono sg sh, RepsT.mono sg sh h2⟩
theorem RepT.fullT {K : PySem.W.Frag} {G H : Hp} {x : PV} {v : V} (s : Same G (noT H)) (h : RepT K G H x v) : Rep K (noT H) x v := by
  cases x with
  | lst xs =>
    obtain ⟨a, vs, e, g, r⟩ := h
    exact rep_lst.mpr ⟨a, vs, e, noT_of g (fun _ z => by cases z), r.mono s⟩
  | _ => exact Rep.mono s h
theorem RepsT.fullT {K : PySem.W.Frag} {G H : Hp} (s : Same G (noT H)) : ∀ {xs : List PV} {vs : List V}, RepsT K G H xs vs → Reps K (noT H) xs vs
  | [], _, h => reps_nil.mpr h
  | x :: xs, _, ⟨v, r, e, h1, h2⟩ => reps_cons.mpr ⟨v, r, e, h1.fullT s, RepsT.fullT s h2⟩
theorem RepsT.full {K : PySem.W.Frag} {G H : Hp} (s : Same G H) : ∀ {xs : List PV} {vs : List V}, RepsT K G H xs vs → Reps K H xs vs
  | [], _, h => reps_nil.mpr h
  | x :: xs, _, ⟨v, r, e, h1, h2⟩ => reps_cons.mpr ⟨v, r, e, h1.full s, RepsT.full s h2⟩
/-- two in a row, and a rule of two values -/
theorem two_rd {K : PySem.W.Frag} {m : Mode} {fa fb : Env → R PV} {op : PV → PV → R PV} {r : R2}
    (hop : ∀ (x y : PV) (v u : V) (G H : Hp) (Q : VK), Same G H → RepT K G H x v → RepT K G H y u → PK (op x y) (fun z => ∀ w G' H', Ext G H G' H' → RepM m K H G' H' z w → Q w H') (fun _ => False) → r v u H Q)
    (hm : ∀ (H0 H G' H' : Hp) (z : PV) (w : V), SameT H0 H → RepM m K H G' H' z w → RepM m K H0 G' H' z w) (nx : ∀ x y c, op x y ≠ .exn c) (σ : L2.St) (H : Hp) (Q : VK)
    (h : rdE Γ W K m (fun ρ => (fa ρ).bind fun x => (fb ρ).bind fun y => op x y) σ H Q) : tOp r (rdE Γ W K .bor fa) (rdE Γ W K .bor fb) σ H Q := by
  obtain ⟨B, ρ, G, o, q⟩ := h
  refine ⟨B, ρ, G, o, (PK_bind.mp q).imp (fun x k v G1 H1 e1 r1 => ?_) fun _ z => z⟩
  refine ⟨B, ρ, G1, o.step e1, (PK_bind.mp k).imp (fun y k2 u G2 H2 e2 r2 => ?_) fun _ z => Ke.step e1 z⟩
  refine hop x y v u G2 H2 Q e2.gh (RepT.mono (e2.gg e1.gh) e2.hh r1) r2 ?_
  cases e : op x y with
  | ok z =>
    rw [e] at k2
    exact fun w G' H' e3 rz => k2 w G' H' ((e1.trans e2).trans e3) (hm H H2 G' H' z w (e1.hh.trans e2.hh) rz)
  | exn c => exact absurd e (nx x y c)
  | bad => rw [e] at k2; exact k2
theorem repM_old {m : Mode} {K : PySem.W.Frag} {H0 H G' H' : Hp} {z : PV} {w : V} (s : SameT H0 H) (h : RepM m K H G' H' z w) : RepM m K H0 G' H' z w := by
  cases m with
  | esc => exact h
  | bor => exact h
  | fre =>
    cases z with
    | lst xs =>
      obtain ⟨a, vs, e, h0, r⟩ := h
      exact ⟨a, vs, e, s.free h0, r⟩
    | _ => exact h
end

/-! ### arithmetic -/
theorem lim_line : LIM ≤ sizeLine := by decide
theorem op_int2 {X : Cx} {f : Value → Value → Sem Value} {g : Int → Int → Int} (C : Int → Int → Prop)
    (rule : ∀ (i j : Int) (t u : Tok) (s : Shared) (Q : Value → Shared → Prop), C i j → Q (.int (g i j) s.toks) { s with toks := s.toks + 1 } → wpAny (model X.prog X.w) X.A (f (.int i t) (.int j u)) Q X.xe s) : OpR X f (rI C fun i j => .int (g i j)) :=
  fun pins s σ H x y v u Q I rx ry h => by
  obtain ⟨i, j, rfl, rfl, hc, q⟩ := h
  obtain ⟨t, rfl⟩ := rx
  obtain ⟨t', rfl⟩ := ry
  exact rule i j t t' s _ hc ⟨.int _, H, I.tok _, ⟨_, rfl⟩, q⟩
def CDivA (_ j : Int) : Prop := j ≠ 0 ∧ j.natAbs < 2 ^ 9000
def CMulA (i j : Int) : Prop := small i ∧ small j
def divP (i j : Int) : Int := if 0 < j then i / j else i.fdiv j
def modP (i j : Int) : Int := if 0 < j then i % j else i.fmod j
theorem divP_eq (i j : Int) (h : j ≠ 0) : divP i j = i.fdiv j := by
  unfold divP
  split
  · rw [Int.fdiv_eq_ediv_of_nonneg i (by omega)]
  · rfl
theorem modP_eq (i j : Int) (h : j ≠ 0) : modP i j = i.fmod j := by
  unfold modP
  split
  · rw [Int.fmod_eq_emod_of_nonneg i (by omega)]
  · rfl
section
variable {X : Cx}
theorem op_fdivA : OpR X (binaryOp .FloorDiv) (rI CDivA fun i j => .int (divP i j)) := op_int2 CDivA fun i j t u s Q hc q =>
  PyProof.Rows.floordiv_int hc.1 (by rw [← divP_eq i j hc.1]; exact q) (.inl (PyProof.noPylong_of_log2 (PySem.Flt.log2_lt_of (by decide) hc.2)))
theorem op_modA : OpR X (binaryOp .Mod) (rI (fun _ j => j ≠ 0) fun i j => .int (modP i j)) := op_int2 (fun _ j => j ≠ 0) fun i j t u s Q hc q =>
  PyProof.Rows.mod_int' hc (by rw [← modP_eq i j hc]; exact q)
theorem wide_mulA {i j : Int} (ha : small i) (hb : small j) : PySem.IntMulOk i j := by
  have x := PySem.Flt.log2_lt_of (k := 3000000) (by decide) ha
  have y := PySem.Flt.log2_lt_of (k := 3000000) (by decide) hb
  have b : ∀ x : Int, Builtin.Int.intBits x ≤ x.natAbs.log2 + 1 := fun x => by
    unfold Builtin.Int.intBits
    split <;> omega
  have h1 := b i
  have h2 := b j
  have e : bitsLine = 134217728 := by decide
  unfold PySem.IntMulOk
  intro z
  rw [Bool.and_eq_true] at z
  have z2 := z.2
  unfold Builtin.Int.intTooBig at z2
  have z3 := of_decide_eq_true z2
  rw [e] at z3
  omega
theorem op_mulA : OpR X (binaryOp .Mult) (rI CMulA fun i j => .int (i * j)) := op_int2 CMulA fun i j t u s Q hc q =>
  PyProof.Rows.mul_int q (wide_mulA hc.1 hc.2)
end
def CPowW (i j : Int) : Prop := (0 ≤ j ∧ j ≤ 1000000 ∧ i.natAbs < 2 ^ 64) ∨ (0 ≤ j ∧ (PySem.Builtin.Int.intBits i : Int) * j ≤ 2 ^ 27)
theorem op_powW {X : Cx} : OpR X (binaryOp .Pow) (rI CPowW fun i j => .int (i ^ j.toNat)) := opI fun _ _ _ _ _ _ _ hc q =>
  hc.elim (fun h => PyProof.Rows.pow_int_small h.1 h.2.1 h.2.2 q) fun h => PyProof.Rows.pow_int h.1 h.2 q
def rBin (K : PySem.W.Frag) : BOp → R2
  | .add => fun x y H Q => rI0 (fun i j => .int (i + j)) x y H Q ∨ rCat x y H Q ∨ rCatA K x y H Q ∨ ∃ i j, x = .str i ∧ y = .str j ∧ i.length + j.length ≤ sizeLine ∧ Q (.str (i ++ j)) H
  | .sub => rI0 fun i j => .int (i - j)
  | .mul => fun x y H Q => rI CMulA (fun i j => .int (i * j)) x y H Q ∨ rRep x y H Q ∨ rRepT K x y H Q ∨ rRepU K x y H Q ∨ rSM x y H Q
  | .fdiv => rI CDivA fun i j => .int (divP i j)
  | .mod => rI (fun _ j => j ≠ 0) fun i j => .int (modP i j)
  | .pow => rI CPowW fun i j => .int (i ^ j.toNat)
def binOp : BOp → Operator
  | .add => .Add | .sub => .Sub | .mul => .Mult | .fdiv => .FloorDiv | .mod => .Mod | .pow => .Pow
theorem or3 {X : Cx} {f : Value → Value → Sem Value} {r1 r2 : R2} (h1 : OpR X f r1) (h2 : OpR X f r2) : OpR X f (fun x y H Q => r1 x y H Q ∨ r2 x y H Q) := h1.or h2
theorem bin_rule {X : Cx} : ∀ o : BOp, OpR X (binaryOp (binOp o)) (rBin X.K o)
  | .add => op_add.or (op_cat.or (op_catA.or op_add_str))
  | .sub => op_sub
  | .mul => op_mulA.or (op_rep.or (op_repT.or (op_repU.or op_strM)))
  | .fdiv => op_fdivA
  | .mod => op_modA
  | .pow => op_powW

theorem pBin_nx (o : BOp) (x y : PV) (c : Nat) : pBin o x y ≠ .exn c := by
  cases o <;> (simp only [pBin]; first
    | (unfold pAdd; split <;> (try split) <;> intro h <;> cases h)
    | (unfold pSub; split <;> (try split) <;> intro h <;> cases h)
    | (unfold pMul; split <;> (try split) <;> intro h <;> cases h)
    | (unfold pFdiv; split <;> (try split) <;> intro h <;> cases h)
    | (unfold pMod; split <;> (try split) <;> intro h <;> cases h)
    | (unfold pPow; split <;> (try split) <;> intro h <;> cases h))

section
variable {X : Cx}
theorem fin_int {G H : Hp} {i : Int} {Q : VK} (s : Same G H) (h : ∀ w G' H', Ext G H G' H' → RepM .fre X.K H G' H' (.int i) w → Q w H') : Q (.int i) H :=
  h _ G H (Ext.refl s) (show Rep X.K G _ _ from rep_int')
theorem fin_lst {G H : Hp} {xs : List PV} {vs : List V} {p : Addr} {Q : VK} (s : Same G H) (hp : H p = none) (r : Reps X.K G xs vs) (h : ∀ w G' H', Ext G H G' H' → RepM .fre X.K H G' H' (.lst xs) w → Q w H') : Q (.ref p) (upd H p (.lst vs)) :=
  h _ G _ (Ext.fresh s hp) ⟨p, vs, rfl, hp, s.free hp, upd_same, r⟩
theorem fin_tup {G H : Hp} {xs : List PV} {vs : List V} {p : Addr} {Q : VK} (s : Same G H) (hp : H p = none) (r : Reps X.K G xs vs) (h : ∀ w G' H', Ext G H G' H' → RepM .fre X.K H G' H' (.tup xs) w → Q w H') : Q (.ref p) (upd H p (.tup vs)) :=
  h _ _ _ (Ext.new s hp) (show Rep X.K _ _ _ from rep_tup.mpr ⟨p, vs, rfl, upd_same, r.mono (same_upd (s.free hp))⟩)
theorem bin_sound (o : BOp) (x y : PV) (v u : V) (G H : Hp) (Q : VK) (s : Same G H) (rx : RepT X.K G H x v) (ry : RepT X.K G H y u)
    (h : PK (pBin o x y) (fun z => ∀ w G' H', Ext G H G' H' → RepM .fre X.K H G' H' z w → Q w H') (fun _ => False)) : rBin X.K o v u H Q := by
  cases o with
  | add =>
    have h : PK (pAdd x y) _ _ := h
    unfold pAdd at h
    split at h
    · exact .inl ⟨_, _, rx.int, ry.int, fin_int s h⟩
    · split at h
      · rename_i hl
        obtain ⟨a, vs, rfl, h1, r1⟩ := rx.lst
        obtain ⟨b, us, rfl, h2, r2⟩ := ry.lst
        refine .inr (.inl ⟨a, b, vs, us, rfl, rfl, h1, h2, ?_, fun p hp => fin_lst s hp (r1.append r2) h⟩)
        rw [r1.length, r2.length]
        exact Nat.le_trans hl lim_line
      · exact h.elim
    · split at h
      · rename_i hl
        obtain ⟨a, vs, rfl, h1, r1⟩ := rx.tup
        obtain ⟨b, us, rfl, h2, r2⟩ := ry.tup
        refine .inr (.inr (.inl ⟨a, b, vs, us, rfl, rfl, SqT.of (s _ _ h1), SqT.of (s _ _ h2), ?_, fun e => ?_, fun _ e => ?_, fun _ _ p hp => fin_tup s hp (r1.append r2) h⟩))
        · rw [r1.length, r2.length]
          exact Nat.le_trans hl lim_line
        · subst e
          have q := (r1.append r2)
          exact h _ G H (Ext.refl s) (show Rep X.K G _ _ from rep_tup.mpr ⟨b, us, rfl, h2, q⟩)
        · subst e
          have q := (r1.append r2)
          rw [List.append_nil] at q
          exact h _ G H (Ext.refl s) (show Rep X.K G _ _ from rep_tup.mpr ⟨a, vs, rfl, h1, q⟩)
      · exact h.elim
    · split at h
      · rename_i hl
        exact .inr (.inr (.inr ⟨_, _, rx.str, ry.str, Nat.le_trans hl lim_line, h _ G H (Ext.refl s) (show Rep X.K G _ _ from rep_str')⟩))
      · exact h.elim
    · exact h.elim
  | sub =>
    have h : PK (pSub x y) _ _ := h
    unfold pSub at h
    split at h
    · exact ⟨_, _, rx.int, ry.int, fin_int s h⟩
    · exact h.elim
  | mul =>
    have h : PK (pMul x y) _ _ := h
    unfold pMul at h
    split at h
    · split at h
      · rename_i hc
        exact .inl ⟨_, _, rx.int, ry.int, hc, fin_int s h⟩
      · exact h.elim
    · split at h
      · rename_i hc
        obtain ⟨a, vs, rfl, h1, r1⟩ := rx.lst
        refine .inr (.inl ⟨a, _, vs, rfl, ry.int, h1, by omega, by omega, ?_, fun p hp => fin_lst s hp (r1.rep _) h⟩)
        rw [r1.length]
        exact Nat.le_trans hc.2.2 lim_line
      · exact h.elim
    · rename_i xs k hh
      split at h
      · rename_i hc
        obtain ⟨a, vs, rfl, h1, r1⟩ := rx.tup
        have hl := r1.length
        by_cases hv : vs = []
        · have hx : xs = [] := by
            subst hv
            exact List.eq_nil_of_length_eq_zero hl.symm
          subst hx
          have e3 : ∀ n : Nat, (List.replicate n ([] : List PV)).flatten = [] := fun n => by simp
          rw [e3] at h
          refine .inr (.inr (.inr (.inl ⟨a, k, vs, rfl, ry.int, SqT.of (s _ _ h1), .inr hv, hc.2.2, hc.2.1, fun _ => h _ G H (Ext.refl s) (show Rep X.K G _ _ from rep_tup.mpr ⟨a, vs, rfl, h1, r1⟩), fun _ p hp => fin_tup s hp (reps_nil.mpr rfl) h⟩)))
        · by_cases h2 : 2 ≤ k
          · exact .inr (.inr (.inl ⟨a, k, vs, rfl, ry.int, SqT.of (s _ _ h1), hv, h2, hc.2.1, by omega, fun p hp => fin_tup s hp (r1.rep _) h⟩))
          · refine .inr (.inr (.inr (.inl ⟨a, k, vs, rfl, ry.int, SqT.of (s _ _ h1), .inl (by omega), hc.2.2, hc.2.1, fun e => ?_, fun e p hp => ?_⟩)))
            · have e : k = 1 := e.resolve_right hv
              subst e
              refine h _ G H (Ext.refl s) (show Rep X.K G _ _ from rep_tup.mpr ⟨a, vs, rfl, h1, ?_⟩)
              rw [show (1 : Int).toNat = 1 from rfl, List.replicate_succ, List.replicate_zero, List.flatten_cons, List.flatten_nil, List.append_nil]
              exact r1
            · have e2 : k.toNat = 0 := by omega
              rw [e2] at h
              exact fin_tup s hp (reps_nil.mpr rfl) h
      · exact h.elim
    · split at h
      · rename_i hc
        exact .inr (.inr (.inr (.inr ⟨_, _, rx.str, ry.int, hc.1, hc.2.1, hc.2.2, h _ G H (Ext.refl s) (show Rep X.K G _ _ from rep_str')⟩)))
      · exact h.elim
    · exact h.elim
  | fdiv =>
    have h : PK (pFdiv x y) _ _ := h
    unfold pFdiv at h
    split at h
    · split at h
      · rename_i hc
        exact ⟨_, _, rx.int, ry.int, hc, fin_int s h⟩
      · exact h.elim
    · exact h.elim
  | mod =>
    have h : PK (pMod x y) _ _ := h
    unfold pMod at h
    split at h
    · split at h
      · rename_i hc
        exact ⟨_, _, rx.int, ry.int, hc, fin_int s h⟩
      · exact h.elim
    · exact h.elim
  | pow =>
    have h : PK (pPow x y) _ _ := h
    unfold pPow at h
    split at h
    · split at h
      · rename_i hc
        exact ⟨_, _, rx.int, ry.int, hc, fin_int s h⟩
      · exact h.elim
    · exact h.elim
end

/-! ### comparisons -/
mutual
def toD : PV → PyData
  | .non => .none
  | .bl b => .bool b
  | .int i => .int i
  | .str s => .str s
  | .lst xs => .list (toDs xs)
  | .tup xs => .tuple (toDs xs)
  | .rl _ => .none
  | .dk _ _ => .none
  | .exc _ => .none
def toDs : List PV → List PyData
  | [] => []
  | x :: xs => toD x :: toDs xs
end
mutual
theorem eqv_toD : ∀ {n m : Nat} {x y : PV}, dat n x = true → dat m y = true → PyData.eqv (toD x) (toD y) = pyEq x y
  | _, _, .non, y, _, hy => by cases y <;> simp_all [dat, toD, PyData.eqv, pyEq]
  | _, _, .bl b, y, _, hy => by cases y <;> simp_all [dat, toD, PyData.eqv, pyEq]
  | _, _, .int i, y, _, hy => by cases y <;> simp_all [dat, toD, PyData.eqv, pyEq]
  | _, _, .str s, y, _, hy => by cases y <;> simp_all [dat, toD, PyData.eqv, pyEq]
  | n, m, .lst xs, y, hx, hy => by
    cases n with
    | zero => simp [dat] at hx
    | succ n =>
      cases y with
      | lst ys =>
        cases m with
        | zero => simp [dat] at hy
        | succ m =>
          simp only [dat] at hx hy
          simp only [toD, PyData.eqv, pyEq]
          exact eqvs_toD hx hy
      | _ => simp_all [dat, toD, PyData.eqv, pyEq]
  | n, m, .tup xs, y, hx, hy => by
    cases n with
    | zero => simp [dat] at hx
    | succ n =>
      cases y with
      | tup ys =>
        cases m with
        | zero => simp [dat] at hy
        | succ m =>
          simp only [dat] at hx hy
          simp only [toD, PyData.eqv, pyEq]
          exact eqvs_toD hx hy
      | _ => simp_all [dat, toD, PyData.eqv, pyEq]
  | _, _, .rl _, _, hx, _ => by simp [dat] at hx
  | _, _, .dk _ _, _, hx, _ => by simp [dat] at hx
  | _, _, .exc _, _, hx, _ => by simp [dat] at hx
theorem eqvs_toD : ∀ {n m : Nat} {xs ys : List PV}, xs.all (dat n) = true → ys.all (dat m) = true → PyData.eqvAll (toDs xs) (toDs ys) = pyEqs xs ys
  | _, _, [], ys, _, _ => by cases ys <;> simp [toDs, PyData.eqvAll, pyEqs]
  | _, _, x :: xs, ys, hx, hy => by
    cases ys with
    | nil => simp [toDs, PyData.eqvAll, pyEqs]
    | cons y ys =>
      simp only [List.all_cons, Bool.and_eq_true] at hx hy
      simp only [toDs, PyData.eqvAll, pyEqs]
      rw [eqv_toD hx.1 hy.1, eqvs_toD hx.2 hy.2]
end
mutual
theorem lay_toD : ∀ {n : Nat} {x : PV}, dat n x = true → (toD x).canLay0 = true ∧ (toD x).depth ≤ n
  | _, .non, _ => by simp [toD, PyData.canLay0, PyData.depth]
  | _, .bl _, _ => by simp [toD, PyData.canLay0, PyData.depth]
  | _, .int _, _ => by simp [toD, PyData.canLay0, PyData.depth]
  | n, .str s, h => by
    have h' : PyData.strOk s = true := by
      cases n <;> simpa only [dat] using h
    simp only [toD, PyData.canLay0, PyData.depth]
    exact ⟨h', Nat.zero_le _⟩
  | n, .lst xs, h => by
    cases n with
    | zero => simp [dat] at h
    | succ n =>
      simp only [dat] at h
      obtain ⟨h1, h2⟩ := lays_toD h
      simp only [toD, PyData.canLay0, PyData.depth]
      exact ⟨h1, by omega⟩
  | n, .tup xs, h => by
    cases n with
    | zero => simp [dat] at h
    | succ n =>
      simp only [dat] at h
      obtain ⟨h1, h2⟩ := lays_toD h
      simp only [toD, PyData.canLay0, PyData.depth]
      exact ⟨h1, by omega⟩
  | _, .rl _, hx => by simp [dat] at hx
  | _, .dk _ _, hx => by simp [dat] at hx
  | _, .exc _, hx => by simp [dat] at hx
theorem lays_toD : ∀ {n : Nat} {xs : List PV}, xs.all (dat n) = true → PyData.canLayAll0 (toDs xs) = true ∧ PyData.depthAll (toDs xs) ≤ n
  | _, [], _ => by simp [toDs, PyData.canLayAll0, PyData.depthAll]
  | n, x :: xs, h => by
    simp only [List.all_cons, Bool.and_eq_true] at h
    obtain ⟨a1, a2⟩ := lay_toD h.1
    obtain ⟨b1, b2⟩ := lays_toD h.2
    simp only [toDs, PyData.canLayAll0, PyData.depthAll, Bool.and_eq_true]
    exact ⟨⟨a1, b1⟩, by omega⟩
end
theorem shaped_toD {x : PV} (h : dat 8 x = true) : SeqAt.shaped (toD x) = true := by
  obtain ⟨h1, h2⟩ := lay_toD h
  unfold SeqAt.shaped
  rw [h1, Bool.true_and]
  exact decide_eq_true (by omega)
mutual
theorem dp_toD {K : PySem.W.Frag} {H : Hp} : ∀ {n : Nat} {x : PV} {v : V}, dat n x = true → Rep K H x v → Dp K H v (toD x)
  | _, .non, _, _, h => by rw [rep_non.mp h]; exact .non
  | _, .bl b, _, _, h => by rw [rep_bl.mp h]; exact .bl b
  | _, .int i, _, _, h => by rw [rep_int.mp h]; exact .int i
  | _, .str s, _, _, h => by rw [rep_str.mp h]; exact .str s
  | n, .lst xs, _, d, h => by
    cases n with
    | zero => simp [dat] at d
    | succ n =>
      simp only [dat] at d
      obtain ⟨a, vs, rfl, g, r⟩ := rep_lst.mp h
      simp only [toD]
      exact .lst (SqL.of g) (dps_toD d r)
  | n, .tup xs, _, d, h => by
    cases n with
    | zero => simp [dat] at d
    | succ n =>
      simp only [dat] at d
      obtain ⟨a, vs, rfl, g, r⟩ := rep_tup.mp h
      simp only [toD]
      exact .tup (SqT.of g) (dps_toD d r)
  | _, .rl _, _, hx, _ => by simp [dat] at hx
  | _, .dk _ _, _, hx, _ => by simp [dat] at hx
  | _, .exc _, _, hx, _ => by simp [dat] at hx
theorem dps_toD {K : PySem.W.Frag} {H : Hp} : ∀ {n : Nat} {xs : List PV} {vs : List V}, xs.all (dat n) = true → Reps K H xs vs → DpAll K H vs (toDs xs)
  | _, [], _, _, h => by rw [reps_nil.mp h]; exact .nil
  | n, x :: xs, _, d, h => by
    simp only [List.all_cons, Bool.and_eq_true] at d
    obtain ⟨v, r, rfl, h1, h2⟩ := reps_cons.mp h
    simp only [toDs]
    exact .cons (dp_toD d.1 h1) (dps_toD d.2 h2)
end
theorem room66 {k : Nat} {A : Around} (r : Room k A) : A.units + 66 < cLine := by have := r.un; omega
def cmpOp : COp → CmpOp
  | .eq => .Eq | .ne => .NotEq | .lt => .Lt | .le => .LtE | .gt => .Gt | .ge => .GtE | .isIn => .In | .notIn => .NotIn | .isN => .Is | .notN => .IsNot
def rCmp (K : PySem.W.Frag) : COp → R2
  | .eq => rEqD K
  | .ne => fun x y H Q => rNeD K x y H Q ∨ rNeDA x y H Q
  | .lt => rI0 fun i j => .bl (decide (i < j))
  | .le => rI0 fun i j => .bl (decide (i ≤ j))
  | .gt => rI0 fun i j => .bl (decide (j < i))
  | .ge => rI0 fun i j => .bl (decide (j ≤ i))
  | .isIn => fun x y H Q => (rIn K false x y H Q ∨ ∃ (c : Nat) (z : Str), x = .str ⟨#[c]⟩ ∧ y = .str z ∧ Q (.bl (decide (c ∈ z.cps.toList))) H) ∨ (rInD K x y H Q ∨ ∃ (a : Addr) (kvs : List (Key × V)) (p : Addr) (ns : List Int), x = .ref a ∧ H a = some (.dK kvs) ∧ y = .ref p ∧ SqL K H p (ns.map V.int) ∧ Q (.bl false) H)
  | .notIn => fun x y H Q => (rIn K true x y H Q ∨ ∃ (c : Nat) (z : Str), x = .str ⟨#[c]⟩ ∧ y = .str z ∧ Q (.bl (!decide (c ∈ z.cps.toList))) H) ∨ (rNotInD K x y H Q ∨ ∃ (a : Addr) (kvs : List (Key × V)) (p : Addr) (ns : List Int), x = .ref a ∧ H a = some (.dK kvs) ∧ y = .ref p ∧ SqL K H p (ns.map V.int) ∧ Q (.bl true) H)
  | .isN => fun x y H Q => (y = .non ∧ Q (.bl (decide (x = .non))) H) ∨ ∃ a b, x = .bl a ∧ y = .bl b ∧ Q (.bl (decide (a = b))) H
  | .notN => fun x y H Q => (y = .non ∧ Q (.bl (!decide (x = .non))) H) ∨ ∃ a b, x = .bl a ∧ y = .bl b ∧ Q (.bl (!decide (a = b))) H
theorem cmp_rule {X : Cx} (hu : X.A.units + 66 < cLine) : ∀ o : COp, OpR X (compareOp (cmpOp o)) (rCmp X.K o)
  | .eq => op_eqD (by omega)
  | .ne => (op_neD (by omega)).or (op_ne_dictA (by omega))
  | .lt => op_lt
  | .le => op_le
  | .gt => op_gt
  | .ge => op_ge
  | .isIn => (op_in_seq.or op_in_sign).or ((op_inD (by omega)).or (op_in_dk (by omega)))
  | .notIn => (op_notIn_seq.or op_notIn_sign).or ((op_notInD (by omega)).or (op_notIn_dk (by omega)))
  | .isN => op_isN.or op_is_bl
  | .notN => op_notN.or op_isnot_bl
theorem flat_rep {K : PySem.W.Frag} {G : Hp} {x : PV} {v : V} (f : flat x = true) (h : Rep K G x v) : flatV v = true := by
  cases x <;> first | (simp only [flat, Bool.false_eq_true] at f; done) | (simp only [Rep] at h; subst h; rfl)
theorem eqV_rep {K : PySem.W.Frag} {G G' : Hp} {x y : PV} {v u : V} (fx : flat x = true) (fy : flat y = true) (h : Rep K G x v) (h' : Rep K G' y u) : eqV u v = pyEq y x := by
  cases x <;> first | (simp only [flat, Bool.false_eq_true] at fx; done) | skip
  all_goals
    simp only [Rep] at h
    subst h
    cases y <;> first | (simp only [flat, Bool.false_eq_true] at fy; done) | (simp only [Rep] at h'; subst h'; simp [eqV, pyEq])
theorem flats_rep {K : PySem.W.Frag} {G : Hp} : ∀ {ys : List PV} {us : List V}, ys.all flat = true → Reps K G ys us → us.all flatV = true
  | [], _, _, h => by rw [reps_nil.mp h]; rfl
  | y :: ys, _, f, h => by
    simp only [List.all_cons, Bool.and_eq_true] at f
    obtain ⟨u, r, rfl, h1, h2⟩ := reps_cons.mp h
    rw [List.all_cons, flat_rep f.1 h1, flats_rep f.2 h2]
    rfl
theorem inV_rep {K : PySem.W.Frag} {G G' : Hp} {x : PV} {v : V} (fx : flat x = true) (h : Rep K G x v) : ∀ {ys : List PV} {us : List V}, ys.all flat = true → Reps K G' ys us → inV v us = ys.any fun y => pyEq y x
  | [], _, _, h' => by rw [reps_nil.mp h']; rfl
  | y :: ys, _, f, h' => by
    simp only [List.all_cons, Bool.and_eq_true] at f
    obtain ⟨u, r, rfl, h1, h2⟩ := reps_cons.mp h'
    have ih := inV_rep fx h f.2 h2
    unfold inV at ih ⊢
    rw [List.any_cons, List.any_cons, eqV_rep fx f.1 h h1, ih]
theorem pIn_nx (x y : PV) (c : Nat) : pIn x y ≠ .exn c := by
  unfold pIn
  repeat' split
  all_goals (intro h; cases h)
theorem pIn_bl {x y z : PV} (e : pIn x y = .ok z) : ∃ b, z = .bl b := by
  unfold pIn at e
  repeat' split at e
  all_goals first | (cases e; exact ⟨_, rfl⟩) | cases e
theorem pIs_cases (x y : PV) : (y = .non ∧ ∃ b, pIs x y = .ok (.bl b)) ∨ (∃ a b, x = .bl a ∧ y = .bl b ∧ pIs x y = .ok (.bl (decide (a = b)))) ∨ pIs x y = .bad := by
  cases y with
  | non => cases x <;> exact .inl ⟨rfl, _, rfl⟩
  | bl b =>
    cases x with
    | bl a => exact .inr (.inl ⟨a, b, rfl, rfl, rfl⟩)
    | _ => exact .inr (.inr rfl)
  | _ => cases x <;> exact .inr (.inr rfl)
theorem pCmp_nx (o : COp) (x y : PV) (c : Nat) : pCmp o x y ≠ .exn c := by
  have n1 : ∀ z c, pNot z ≠ .exn c := fun z c => by
    unfold pNot
    split <;> intro h <;> cases h
  cases o with
  | eq =>
    show pEq x y ≠ _
    unfold pEq
    split <;> intro h <;> cases h
  | ne =>
    show pNe x y ≠ _
    unfold pNe
    repeat' split
    all_goals (intro h; cases h)
  | lt =>
    show pLt x y ≠ _
    unfold pLt
    split <;> intro h <;> cases h
  | le =>
    show pLe x y ≠ _
    unfold pLe
    split <;> intro h <;> cases h
  | gt =>
    show pLt y x ≠ _
    unfold pLt
    split <;> intro h <;> cases h
  | ge =>
    show pLe y x ≠ _
    unfold pLe
    split <;> intro h <;> cases h
  | isIn => exact pIn_nx x y c
  | notIn =>
    intro h
    have h' : (pIn x y).bind pNot = .exn c := h
    cases e : pIn x y with
    | ok z => rw [e] at h'; exact n1 z c h'
    | exn d => exact pIn_nx x y d e
    | bad => rw [e] at h'; cases h'
  | isN =>
    show pIs x y ≠ _
    rcases pIs_cases x y with ⟨rfl, b, e⟩ | ⟨a, b, rfl, rfl, e⟩ | e <;> (rw [e]; intro h; cases h)
  | notN =>
    intro h
    have h' : (pIs x y).bind pNot = .exn c := h
    rcases pIs_cases x y with ⟨rfl, b, e⟩ | ⟨a, b, rfl, rfl, e⟩ | e
    · rw [e, R.bind_ok] at h'
      exact n1 _ _ h'
    · rw [e, R.bind_ok] at h'
      exact n1 _ _ h'
    · rw [e] at h'
      cases h'
section
variable {X : Cx}
theorem fin_bl' {G H : Hp} {i j : Bool} {Q : VK} (s : Same G H) (h : ∀ w G' H', Ext G H G' H' → RepM .fre X.K H G' H' (.bl i) w → Q w H') (e : j = i) : Q (.bl j) H := by
  rw [e]
  exact h _ G H (Ext.refl s) (show Rep X.K G _ _ from rep_bl')
theorem isSign_eq {z : Str} {n : Nat} (e : isSign z = some n) : z = ⟨#[n]⟩ := by
  obtain ⟨cp⟩ := z
  unfold isSign at e
  split at e
  · rename_i d hd
    cases e
    have : cp = #[n] := by
      rw [← Array.toList_inj]
      exact hd
    rw [this]
  · cases e
theorem any_toD {n : Nat} {x : PV} (hx : dat n x = true) : ∀ {ys : List PV} {m : Nat}, ys.all (dat m) = true → (toDs ys).any (fun z => PyData.eqv z (toD x)) = ys.any fun y => pyEq y x
  | [], _, _ => rfl
  | y :: ys, m, h => by
    simp only [List.all_cons, Bool.and_eq_true] at h
    simp only [toDs, List.any_cons]
    rw [eqv_toD h.1 hx, any_toD hx h.2]
theorem isI_ints : ∀ {ys : List PV}, ys.all isI = true → ∃ ns : List Int, ys = ns.map PV.int
  | [], _ => ⟨[], rfl⟩
  | y :: ys, h => by
    simp only [List.all_cons, Bool.and_eq_true] at h
    obtain ⟨ns, rfl⟩ := isI_ints h.2
    cases y <;> first | (simp only [isI, Bool.false_eq_true] at h; exact h.1.elim) | exact ⟨_ :: ns, rfl⟩
theorem in_sound {x y : PV} {v u : V} {G H : Hp} (neg : Bool) {Q : VK} (s : Same G H) (rx : RepT X.K G H x v) (ry : RepT X.K G H y u) {k : PV → Prop}
    (h : PK (pIn x y) (fun z => ∃ b, z = .bl b ∧ Q (.bl (if neg then !b else b)) H) (fun _ => False)) :
    (rIn X.K neg v u H Q ∨ ∃ (c : Nat) (z : Str), v = .str ⟨#[c]⟩ ∧ u = .str z ∧ Q (.bl (if neg then !decide (c ∈ z.cps.toList) else decide (c ∈ z.cps.toList))) H) ∨
      ((∃ d ds, Dp X.K H v d ∧ Dp X.K H u (.list ds) ∧ SeqAt.shaped d = true ∧ SeqAt.shaped (.list ds) = true ∧ Q (.bl (if neg then !ds.any (fun z => PyData.eqv z d) else ds.any fun z => PyData.eqv z d)) H) ∨
        ∃ (a : Addr) (kvs : List (Key × V)) (p : Addr) (ns : List Int), v = .ref a ∧ H a = some (.dK kvs) ∧ u = .ref p ∧ SqL X.K H p (ns.map V.int) ∧ Q (.bl (if neg then !false else false)) H) := by
  have fx : flat x = true → Rep X.K G x v := fun f => by
    cases x <;> first | (simp only [flat, Bool.false_eq_true] at f; done) | exact rx
  unfold pIn at h
  split at h
  · rename_i ys
    split at h
    · rename_i hf
      rw [Bool.and_eq_true] at hf
      obtain ⟨a, us, rfl, h1, r1⟩ := ry.lst
      obtain ⟨b, hb, q⟩ := h
      cases hb
      refine .inl (.inl ⟨a, us, rfl, .inl (SqL.of h1), flat_rep hf.1 (fx hf.1), flats_rep hf.2 r1, ?_⟩)
      rw [inV_rep hf.1 (fx hf.1) hf.2 r1]
      exact q
    · split at h
      · rename_i hd
        rw [Bool.and_eq_true] at hd
        obtain ⟨b, hb, q⟩ := h
        cases hb
        have e2 : dat 8 (.lst ys) = true := hd.2
        have e3 : ys.all (dat 7) = true := e2
        have d2 := dp_toD e2 (ry.full s)
        have s2 := shaped_toD e2
        refine .inr (.inl ⟨toD x, toDs ys, dp_toD hd.1 (rx.full s), by simpa only [toD] using d2, shaped_toD hd.1, by simpa only [toD] using s2, ?_⟩)
        rw [any_toD hd.1 e3]
        exact q
      · split at h
        · rename_i hk
          rw [Bool.and_eq_true] at hk
          obtain ⟨b, hb, q⟩ := h
          cases hb
          obtain ⟨ns, rfl⟩ := isI_ints hk.2
          obtain ⟨p, us, rfl, h1, r1⟩ := ry.lst
          have eu := reps_ints.mp r1
          subst eu
          cases x with
          | dk ks xs =>
            have r' : Rep X.K H (.dk ks xs) v := rx.full s
            simp only [Rep] at r'
            obtain ⟨a, kvs, rfl, ha, _⟩ := r'
            exact .inr (.inr ⟨a, kvs, p, ns, rfl, ha, rfl, SqL.of h1, q⟩)
          | _ => exact absurd hk.1 (by simp [isDk])
        · exact h.elim
  · split at h
    · rename_i hf
      rw [Bool.and_eq_true] at hf
      obtain ⟨a, us, rfl, h1, r1⟩ := ry.tup
      obtain ⟨b, hb, q⟩ := h
      cases hb
      refine .inl (.inl ⟨a, us, rfl, .inr (SqT.of (s _ _ h1)), flat_rep hf.1 (fx hf.1), flats_rep hf.2 r1, ?_⟩)
      rw [inV_rep hf.1 (fx hf.1) hf.2 r1]
      exact q
    · exact h.elim
  · split at h
    · rename_i n e
      obtain ⟨b, hb, q⟩ := h
      cases hb
      refine .inl (.inr ⟨n, _, ?_, ry.str, q⟩)
      rw [rx.str, isSign_eq e]
    · exact h.elim
  · exact h.elim
theorem dk_same {ks ls : List Key} {xs ys : List PV} {G G' : Hp} {kvs lvs : List (Key × V)} (h : dkSame (.dk ks xs) (.dk ls ys) = true) (e1 : kvs.map (·.1) = ks) (e2 : lvs.map (·.1) = ls) (r1 : Reps X.K G xs (kvs.map (·.2))) (r2 : Reps X.K G' ys (lvs.map (·.2))) :
    kvs.length = lvs.length ∧ ∀ p ∈ kvs, valV lvs p.1 = some p.2 ∧ flatB p.2 = true := by
  simp only [dkSame, Bool.and_eq_true, decide_eq_true_eq] at h
  obtain ⟨⟨⟨⟨⟨h1, h2⟩, h3⟩, h4⟩, h5⟩, h6⟩ := h
  obtain ⟨ns, rfl⟩ := isI_ints h4
  obtain ⟨ms, rfl⟩ := isI_ints h5
  have en : ns = ms := by
    have : ∀ ns ms : List Int, pyEqs (ns.map PV.int) (ms.map PV.int) = true → ns = ms := fun ns => by
      induction ns with
      | nil =>
        intro ms h
        cases ms with
        | nil => rfl
        | cons _ _ => simp [pyEqs] at h
      | cons n ns ih =>
        intro ms h
        cases ms with
        | nil => simp [pyEqs] at h
        | cons m ms =>
          simp only [List.map_cons, pyEqs, pyEq, Bool.and_eq_true, beq_iff_eq] at h
          rw [h.1, ih ms h.2]
    exact this ns ms h3
  subst en
  have v1 := reps_ints.mp r1
  have v2 := reps_ints.mp r2
  have ek : kvs = lvs := by
    have g : ∀ (as bs : List (Key × V)), as.map (·.1) = bs.map (·.1) → as.map (·.2) = bs.map (·.2) → as = bs := fun as => by
      induction as with
      | nil =>
        intro bs h _
        cases bs with
        | nil => rfl
        | cons _ _ => cases h
      | cons a as ih =>
        intro bs h h'
        cases bs with
        | nil => cases h
        | cons b bs =>
          simp only [List.map_cons, List.cons.injEq] at h h'
          rw [ih bs h.2 h'.2]
          congr 1
          exact Prod.ext h.1 h'.1
    exact g kvs lvs (by rw [e1, e2, h1]) (by rw [v1, v2])
  subst ek
  refine ⟨rfl, fun p hp => ⟨?_, ?_⟩⟩
  · rw [← e1] at h2
    have g : ∀ (as : List (Key × V)), (as.map (·.1)).Nodup → p ∈ as → valV as p.1 = some p.2 := fun as => by
      induction as with
      | nil => intro _ h; cases h
      | cons a as ih =>
        intro hn hm
        unfold valV
        rw [List.find?_cons]
        simp only [List.map_cons, List.nodup_cons] at hn
        by_cases q : a.1 = p.1
        · rw [decide_eq_true q]
          rcases List.mem_cons.mp hm with rfl | hm
          · rfl
          · have hm2 : p.1 ∈ as.map (·.1) := List.mem_map_of_mem hm
            rw [← q] at hm2
            exact absurd hm2 hn.1
        · rw [decide_eq_false q]
          rcases List.mem_cons.mp hm with rfl | hm
          · exact absurd rfl q
          · exact ih hn.2 hm
    exact g kvs h2 hp
  · have : p.2 ∈ kvs.map (·.2) := List.mem_map_of_mem hp
    rw [v1] at this
    obtain ⟨i, _, e⟩ := List.mem_map.mp this
    rw [← e]
    rfl
theorem isN_rep {x : PV} {v : V} {G H : Hp} (r : RepT X.K G H x v) : pIsN x = .ok (.bl (decide (v = .non))) := by
  cases x with
  | non => rw [r.non]; rfl
  | bl b => rw [r.bl]; rfl
  | int b => rw [r.int]; rfl
  | str b => rw [r.str]; rfl
  | lst xs => obtain ⟨a, vs, rfl, _⟩ := r.lst; rfl
  | tup xs => obtain ⟨a, vs, rfl, _⟩ := r.tup; rfl
  | rl xs => obtain ⟨a, vs, rfl, _⟩ := r.rl; rfl
  | dk ks xs =>
    have r' : Rep X.K G (.dk ks xs) v := r
    simp only [Rep] at r'
    obtain ⟨a, kvs, rfl, _⟩ := r'
    rfl
  | exc c =>
    obtain ⟨a, C, rfl, _⟩ := rep_exc.mp (show Rep X.K G (.exc c) v from r)
    rfl
theorem cmp_sound (o : COp) (x y : PV) (v u : V) (G H : Hp) (Q : VK) (s : Same G H) (rx : RepT X.K G H x v) (ry : RepT X.K G H y u)
    (h : PK (pCmp o x y) (fun z => ∀ w G' H', Ext G H G' H' → RepM .fre X.K H G' H' z w → Q w H') (fun _ => False)) : rCmp X.K o v u H Q := by
  cases o with
  | eq =>
    have h : PK (pEq x y) _ _ := h
    unfold pEq at h
    split at h
    · rename_i hd
      rw [Bool.and_eq_true] at hd
      exact ⟨_, _, dp_toD hd.1 (rx.full s), dp_toD hd.2 (ry.full s), shaped_toD hd.1, shaped_toD hd.2, fin_bl' s h (eqv_toD hd.1 hd.2)⟩
    · exact h.elim
  | ne =>
    replace h : PK (pNe x y) _ _ := h
    unfold pNe at h
    split at h
    · rename_i hd
      rw [Bool.and_eq_true] at hd
      exact .inl ⟨_, _, dp_toD hd.1 (rx.full s), dp_toD hd.2 (ry.full s), shaped_toD hd.1, shaped_toD hd.2, fin_bl' s h (by rw [eqv_toD hd.1 hd.2])⟩
    · split at h
      · rename_i hd
        cases x with
        | dk ks xs =>
          cases y with
          | dk ls ys =>
            have r1 : Rep X.K H (.dk ks xs) v := rx.full s
            have r2 : Rep X.K H (.dk ls ys) u := ry.full s
            simp only [Rep] at r1 r2
            obtain ⟨a, kvs, rfl, ha, k1, v1⟩ := r1
            obtain ⟨b, lvs, rfl, hb, k2, v2⟩ := r2
            obtain ⟨l, m⟩ := dk_same hd k1 k2 v1 v2
            exact .inr ⟨a, b, kvs, lvs, rfl, rfl, ha, hb, l, m, fin_bl' s h rfl⟩
          | _ => simp [dkSame] at hd
        | _ => simp [dkSame] at hd
      · exact h.elim
  | lt =>
    have h : PK (pLt x y) _ _ := h
    unfold pLt at h
    split at h
    · exact ⟨_, _, rx.int, ry.int, fin_bl' s h rfl⟩
    · exact h.elim
  | le =>
    have h : PK (pLe x y) _ _ := h
    unfold pLe at h
    split at h
    · exact ⟨_, _, rx.int, ry.int, fin_bl' s h rfl⟩
    · exact h.elim
  | gt =>
    have h : PK (pLt y x) _ _ := h
    unfold pLt at h
    split at h
    · exact ⟨_, _, rx.int, ry.int, fin_bl' s h rfl⟩
    · exact h.elim
  | ge =>
    have h : PK (pLe y x) _ _ := h
    unfold pLe at h
    split at h
    · exact ⟨_, _, rx.int, ry.int, fin_bl' s h rfl⟩
    · exact h.elim
  | isIn =>
    refine (show _ ∨ (rInD X.K v u H Q ∨ _) from in_sound (k := fun _ => True) false s rx ry ?_)
    have h' : PK (pIn x y) _ _ := h
    cases e : pIn x y with
    | ok z =>
      rw [e] at h'
      obtain ⟨b, rfl⟩ := pIn_bl e
      exact ⟨b, rfl, fin_bl' s h' rfl⟩
    | exn c => exact absurd e (pIn_nx x y c)
    | bad => rw [e] at h'; exact h'
  | notIn =>
    have h' : PK ((pIn x y).bind pNot) _ _ := h
    refine (show _ ∨ (rNotInD X.K v u H Q ∨ _) from in_sound (k := fun _ => True) true s rx ry ?_)
    cases e : pIn x y with
    | ok z =>
      rw [e] at h'
      obtain ⟨b, rfl⟩ := pIn_bl e
      exact ⟨b, rfl, fin_bl' s h' rfl⟩
    | exn c => exact absurd e (pIn_nx x y c)
    | bad => rw [e] at h'; exact h'
  | isN =>
    have h' : PK (pIs x y) _ _ := h
    rcases pIs_cases x y with ⟨rfl, _⟩ | ⟨a, b, rfl, rfl, e⟩ | e
    · have e : pIs x .non = pIsN x := by cases x <;> rfl
      rw [e, isN_rep rx] at h'
      exact .inl ⟨ry.non, fin_bl' s h' rfl⟩
    · rw [e] at h'
      exact .inr ⟨a, b, rx.bl, ry.bl, fin_bl' s h' rfl⟩
    · rw [e] at h'
      exact h'.elim
  | notN =>
    have h' : PK ((pIs x y).bind pNot) _ _ := h
    rcases pIs_cases x y with ⟨rfl, _⟩ | ⟨a, b, rfl, rfl, e⟩ | e
    · have e : pIs x .non = pIsN x := by cases x <;> rfl
      rw [e, isN_rep rx] at h'
      exact .inl ⟨ry.non, fin_bl' s h' rfl⟩
    · rw [e] at h'
      exact .inr ⟨a, b, rx.bl, ry.bl, fin_bl' s h' rfl⟩
    · rw [e] at h'
      exact h'.elim
end
end Pf

set_option Elab.async false
set_option linter.all false
set_option maxRecDepth 100000
set_option autoImplicit false
set_option maxHeartbeats 1000000
/-! Pf4: expressions, part one: names, operators, arguments, calls, targets, what is walked -/
namespace Pf
open PySem PySem.Spec L2
variable [Tbc] [Tlc]

theorem bl_of {m : Mode} {K : PySem.W.Frag} {H0 G H : Hp} {b : Bool} {v : V} (h : RepM m K H0 G H (.bl b) v) : v = .bl b := by
  cases m <;> exact rep_bl.mp (show Rep K G _ _ from h)
theorem int_of {m : Mode} {K : PySem.W.Frag} {H0 G H : Hp} {b : Int} {v : V} (h : RepM m K H0 G H (.int b) v) : v = .int b := by
  cases m <;> exact rep_int.mp (show Rep K G _ _ from h)
theorem non_of {m : Mode} {K : PySem.W.Frag} {H0 G H : Hp} {v : V} (h : RepM m K H0 G H .non v) : v = .non := by
  cases m <;> exact rep_non.mp (show Rep K G _ _ from h)
theorem str_of {m : Mode} {K : PySem.W.Frag} {H0 G H : Hp} {b : Str} {v : V} (h : RepM m K H0 G H (.str b) v) : v = .str b := by
  cases m <;> exact rep_str.mp (show Rep K G _ _ from h)
/-! ### heads of expressions -/
def good : Expr → Bool
  | .Name _ _ => true
  | .Constant _ _ _ => true
  | .BinOp _ _ _ _ => true
  | .UnaryOp _ _ _ => true
  | .Compare _ _ _ _ => true
  | .BoolOp _ _ _ => true
  | .IfExp _ _ _ _ => true
  | .Tuple _ _ _ => true
  | .List _ _ => true
  | .Subscript _ _ _ => true
  | .Call _ _ _ _ => true
  | .ListComp _ _ _ _ => true
  | .Attribute _ _ _ => true
  | .Dict _ _ _ => true
  | _ => false
theorem good_star {e : Expr} (h : good e = true) (es : List Expr) (env : PySem.Env) : starEach (e :: es) env = (false, eval e env) :: starEach es env := by
  cases e <;> first | rfl | (simp only [good, Bool.false_eq_true] at h; done)
theorem good_behind {e : Expr} (h : good e = true) (op : CmpOp) : behindInMarks op e = false := by
  cases e <;> first | rfl | (simp only [good, Bool.false_eq_true] at h; done)
theorem good_ix {e : Expr} (h : good e = true) : PlainIx e := by
  cases e <;> first | (exact fun _ _ => rfl) | (simp only [good, Bool.false_eq_true] at h; done)
theorem good_fold {e : Expr} (h : good e = true) (env : PySem.Env) (x : Value) : foldedSetIterable e env x = pure x := by
  cases e <;> first | rfl | (simp only [good, Bool.false_eq_true] at h; done)
theorem good_any {pos : Pos} {env : PySem.Env} : ∀ {es : List Expr}, es.all good = true → (backTo pos (starEach es env)).any (·.1) = false
  | [], _ => rfl
  | e :: es, h => by
    simp only [List.all_cons, Bool.and_eq_true] at h
    rw [good_star h.1]
    show (false || (backTo pos (starEach es env)).any (·.1)) = false
    rw [good_any h.2]
    rfl
def noComp : Expr → Bool
  | .ListComp _ _ _ _ => false
  | .SetComp _ _ _ _ => false
  | .DictComp _ _ _ _ _ => false
  | _ => true
theorem good_swap {e : Expr} (hn : noComp e = true) (t : Option Expr) (l : Nat) (env : PySem.Env) : swapsWith e t l env = pure false := by
  cases e <;> first | rfl | (simp only [noComp, Bool.false_eq_true] at hn; done)

/-! ### names -/
def vis (sc : Scope) (x : Str) : Bool := match sc.names.lookup x with
  | some .local => true
  | some .cell => true
  | some .free => true
  | _ => false
def glb (sc : Scope) (x : Str) : Bool := match sc.names.lookup x with
  | some .globalImplicit => true
  | _ => false
section
variable {Γ : Gt} {N : List Str} {sc so : Scope} {W : WX} {X : Cx}
theorem XOk.vis (o : XOk Γ N sc so W X) {x : Str} (h : vis sc x = true) : Vis X.env.scope x := by
  rw [o.hsc]
  unfold Pf.vis at h
  split at h
  · exact .inl (by assumption)
  · exact .inr (.inl (by assumption))
  · exact .inr (.inr (by assumption))
  · cases h
theorem XOk.loc (o : XOk Γ N sc so W X) {x : Str} (h : loc so x = true) : Loc X.env.scope x ∧ (X.fn x = true ∨ X.env.scope.names.lookup x = some .local) := o.fn x h
theorem XOk.gl (o : XOk Γ N sc so W X) {x : Str} (h : glb sc x = true) : Gl X x := by
  show X.env.scope.names.lookup x = some .globalImplicit
  rw [o.hsc]
  unfold glb at h
  split at h
  · assumption
  · cases h
theorem XOk.nodb (o : XOk Γ N sc so W X) {i : Nat} {x : Str} (h : N[i]? = some x) : (x == ("__debug__" : Str)) = false ∧ (x == ("__classdict__" : Str)) = false := o.db x (List.mem_of_getElem? h)
theorem XOk.Nx (o : XOk Γ N sc so W X) {i : Nat} {x : Str} (h : N[i]? = some x) : X.N[i]? = some x := by rw [o.hN]; exact h

/-! ### names and constants -/
theorem se_var (o : XOk Γ N sc so W X) {i : Nat} {x : Str} {pos : Pos} (hn : N[i]? = some x) (hv : vis sc x = true) : SE Γ W X .esc (.Name x pos) (fun ρ => getE ρ i) := by
  refine PE.weak (pe_var (o.Nx hn) (o.vis hv) (o.nodb hn).1 (o.nodb hn).2) fun σ H Q ⟨B, ρ, G, ow, q⟩ => ?_
  have q : PK (getE ρ i) _ _ := q
  unfold getE at q
  split at q
  · rename_i v hv'
    obtain ⟨w, e, r⟩ := ow.sh hv'
    exact ⟨w, e, q w G H (Ext.refl ow.gh) r⟩
  · exact q.elim
theorem se_bvar (o : XOk Γ N sc so W X) {i : Nat} {x : Str} {pos : Pos} (hn : N[i]? = some x) (hv : vis sc x = true) : SE Γ W X .bor (.Name x pos) (fun ρ => getB ρ i) := by
  refine PE.weak (pe_var (o.Nx hn) (o.vis hv) (o.nodb hn).1 (o.nodb hn).2) fun σ H Q ⟨B, ρ, G, ow, q⟩ => ?_
  have q : PK (getB ρ i) _ _ := q
  unfold getB at q
  split at q
  · rename_i v hv'
    obtain ⟨w, e, r⟩ := ow.sh hv'
    exact ⟨w, e, q w G H (Ext.refl ow.gh) (Rep.toT ow.gh r)⟩
  · rename_i xs hv'
    obtain ⟨a, vs, e, h1, h2, h3, r⟩ := ow.ow hv'
    exact ⟨.ref a, e, q _ G H (Ext.refl ow.gh) ⟨a, vs, rfl, h1, r⟩⟩
  · exact q.elim
theorem se_val {e : Expr} {v : V} {x : PV} (p : PE X e (tC v)) (r : ∀ G, Rep X.K G x v) : SE Γ W X .esc e (fun _ => .ok x) :=
  PE.weak p fun σ H Q ⟨B, ρ, G, ow, q⟩ => q v G H (Ext.refl ow.gh) (r G)
theorem se_int {i : Int} {j pos} : SE Γ W X .esc (.Constant (.int i) j pos) (fun _ => .ok (.int i)) := se_val pe_int fun _ => rep_int'
theorem se_bl {b : Bool} {j pos} : SE Γ W X .esc (.Constant (.bool b) j pos) (fun _ => .ok (.bl b)) := se_val pe_bl fun _ => rep_bl'
theorem se_str {s : Str} {j pos} : SE Γ W X .esc (.Constant (.str s) j pos) (fun _ => .ok (.str s)) := se_val pe_str fun _ => rep_str'
theorem se_non {j pos} : SE Γ W X .esc (.Constant .none j pos) (fun _ => .ok .non) := se_val pe_non fun _ => rep_non.mpr rfl
theorem se_con (o : XOk Γ N sc so W X) {k : Nat} {x : Str} {v : PV} {pos : Pos} (hk : Γ.cn[k]? = some (x, v)) (hg : glb sc x = true) : SE Γ W X .esc (.Name x pos) (fun _ => .ok v) := by
  obtain ⟨db, u, w, hm, r, rv⟩ := o.g.cn _ (List.mem_of_getElem? hk)
  exact se_val (pe_glob (o.gl hg) hm r db) rv

/-! ### operators -/
theorem se_bin {op : BOp} {a b : Expr} {pos : Pos} {fa fb : Env → R PV} (ha : SE Γ W X .bor a fa) (hb : SE Γ W X .bor b fb) :
    SE Γ W X .fre (.BinOp a (binOp op) b pos) (fun ρ => (fa ρ).bind fun x => (fb ρ).bind fun y => pBin op x y) :=
  PE.weak (pe_op (bin_rule op) ha hb) (two_rd (bin_sound (X := X) op) (fun _ _ _ _ _ _ s h => repM_old s h) (pBin_nx op))
theorem fin_v {G H G' H' : Hp} {m : Mode} {x : PV} {v : V} {Q : VK} (e : Ext G H G' H') (r : Rep X.K G' x v) (h : ∀ w G' H', Ext G H G' H' → RepM .esc X.K H G' H' x w → Q w H') : Q v H' := h v G' H' e r
theorem se_neg {a : Expr} {pos : Pos} {fa : Env → R PV} (ha : SE Γ W X .bor a fa) : SE Γ W X .esc (.UnaryOp .USub a pos) (fun ρ => (fa ρ).bind pNeg) := by
  refine PE.weak (pe_un un_neg ha) fun σ H Q ⟨B, ρ, G, ow, q⟩ => ⟨B, ρ, G, ow, (PK_bind.mp q).imp (fun x k v G1 H1 e1 r1 => ?_) fun _ z => z⟩
  unfold pNeg at k
  split at k
  · rename_i i
    exact ⟨i, int_of r1, k _ G1 H1 e1 (show Rep X.K G1 _ _ from rep_int')⟩
  · exact k.elim
theorem se_cmp (o : XOk Γ N sc so W X) {op : COp} {a b : Expr} {pos : Pos} {fa fb : Env → R PV} (gb : good b = true) (ha : SE Γ W X .bor a fa) (hb : SE Γ W X .bor b fb) :
    SE Γ W X .fre (.Compare a [cmpOp op] [b] pos) (fun ρ => (fa ρ).bind fun x => (fb ρ).bind fun y => pCmp op x y) ∧ ST Γ W X (.Compare a [cmpOp op] [b] pos) (fun ρ => (fa ρ).bind fun x => (fb ρ).bind fun y => pCmp op x y) := by
  have key : ∀ σ H Q, rdE Γ W X.K .fre (fun ρ => (fa ρ).bind fun x => (fb ρ).bind fun y => pCmp op x y) σ H Q → tOp (rCmp X.K op) (rdE Γ W X.K .bor fa) (rdE Γ W X.K .bor fb) σ H Q := fun σ H Q ⟨B, ρ, G, ow, q⟩ => by
    refine ⟨B, ρ, G, ow, (PK_bind.mp q).imp (fun x k v G1 H1 e1 r1 => ?_) fun _ z => z⟩
    refine ⟨B, ρ, G1, ow.step e1, ?_⟩
    have k' := PK_bind.mp k
    cases eb : fb ρ with
    | bad => rw [eb] at k'; exact k'
    | exn c => rw [eb] at k'; exact Ke.step e1 k'
    | ok y =>
      rw [eb] at k'
      intro u G2 H2 e2 r2
      refine cmp_sound op x y v u G2 H2 Q e2.gh (RepT.mono (e2.gg e1.gh) e2.hh r1) r2 ?_
      · have k2 : PK (pCmp op x y) _ _ := k'
        cases e : pCmp op x y with
        | ok z =>
          rw [e] at k2
          exact fun w G' H' e3 rz => k2 w G' H' ((e1.trans e2).trans e3) (repM_old (e1.hh.trans e2.hh) rz)
        | exn c => exact absurd e (pCmp_nx op x y c)
        | bad => rw [e] at k2; exact k2
  refine ⟨PE.weak (pe_cmpR (cmp_rule (by have := o.un; omega) op) ha hb (good_behind gb _)) key, PT.weak (pt_cmpR (cmp_rule (by have := o.un; omega) op) ha hb (good_behind gb _)) fun σ H Q ⟨B, ρ, G, ow, q⟩ => ?_⟩
  refine key σ H _ ⟨B, ρ, G, ow, q.imp (fun x k v G' H' e r => ?_) fun _ z => z⟩
  obtain ⟨b, rfl, k⟩ := k
  exact ⟨b, bl_of r, k G' H' e⟩
theorem lastM {e f : Expr} (hf : good f = true) (o1 o2 : CmpOp) : lastMarks [o1, o2] [e, f] = false := by
  show behindInMarks o2 f = false
  exact good_behind hf o2
theorem se_chain (o : XOk Γ N sc so W X) {o1 o2 : COp} {a b c : Expr} {pos : Pos} {fa fb fc : Env → R PV} (gc : good c = true) (ha : SE Γ W X .bor a fa) (hb : SE Γ W X .bor b fb) (hc : SE Γ W X .bor c fc)
    (n1 : o1 ≠ .isN ∧ o1 ≠ .notN) (n2 : o2 ≠ .isN ∧ o2 ≠ .notN) {f : Env → R PV} (hf : ∀ ρ, f ρ = ((fa ρ).bind fun x => (fb ρ).bind fun y => (pCmp o1 x y).bind fun r => match r with
      | .bl true => (fc ρ).bind fun z => pCmp o2 y z
      | .bl false => .ok (.bl false)
      | _ => .bad)) :
    SE Γ W X .fre (.Compare a [cmpOp o1, cmpOp o2] [b, c] pos) f ∧ ST Γ W X (.Compare a [cmpOp o1, cmpOp o2] [b, c] pos) f := by
  have key : ∀ σ H Q, rdE Γ W X.K .fre f σ H Q → tChain (rCmp X.K o1) (rCmp X.K o2) (rdE Γ W X.K .bor fa) (rdE Γ W X.K .bor fb) (rdE Γ W X.K .bor fc) σ H Q := fun σ H Q ⟨B, ρ, G, ow, q⟩ => by
    rw [hf] at q
    refine ⟨B, ρ, G, ow, (PK_bind.mp q).imp (fun x k v G1 H1 e1 r1 => ?_) fun _ z => z⟩
    refine ⟨B, ρ, G1, ow.step e1, (PK_bind.mp k).imp (fun y k u G2 H2 e2 r2 => ?_) fun _ z => Ke.step e1 z⟩
    refine cmp_sound o1 x y v u G2 H2 _ e2.gh (RepT.mono (e2.gg e1.gh) e2.hh r1) r2 ?_
    have k1 := PK_bind.mp k
    cases e : pCmp o1 x y with
    | exn d => exact absurd e (pCmp_nx o1 x y d)
    | bad => rw [e] at k1; exact k1
    | ok r =>
      rw [e] at k1
      have k1' : PK (match r with
        | .bl true => (fc ρ).bind fun z => pCmp o2 y z
        | .bl false => .ok (.bl false)
        | _ => .bad) _ _ := k1
      intro w G3 H3 e3 r3
      split at k1'
      · refine ⟨true, bl_of r3, ?_⟩
        refine iteT ?_
        refine ⟨B, ρ, G3, ((ow.step e1).step e2).step e3, (PK_bind.mp k1').imp (fun z k t G4 H4 e4 r4 => ?_) fun _ z => Ke.step ((e1.trans e2).trans e3) z⟩
        refine cmp_sound o2 y z u t G4 H4 _ e4.gh (RepT.mono (e4.gg e3.gh) e4.hh (RepT.mono (e3.gg e2.gh) e3.hh r2)) r4 ?_
        cases e' : pCmp o2 y z with
        | exn d => exact absurd e' (pCmp_nx o2 y z d)
        | bad => rw [e'] at k; exact k
        | ok r' =>
          rw [e'] at k
          exact fun w' G' H' e5 rz => k w' G' H' ((((e1.trans e2).trans e3).trans e4).trans e5) (repM_old (((e1.hh.trans e2.hh).trans e3.hh).trans e4.hh) rz)
      · refine ⟨false, bl_of r3, ?_⟩
        refine iteF ?_
        exact k1' _ G3 H3 ((e1.trans e2).trans e3) (show Rep X.K G3 _ _ from rep_bl')
      · exact k1'.elim
  refine ⟨PE.weak (pe_chain (cmp_rule (by have := o.un; omega) o1) (cmp_rule (by have := o.un; omega) o2) ha hb hc (lastM gc _ _)) key, PT.weak (pt_chain (cmp_rule (by have := o.un; omega) o1) (cmp_rule (by have := o.un; omega) o2) ha hb hc (lastM gc _ _)) fun σ H Q ⟨B, ρ, G, ow, q⟩ => ?_⟩
  refine key σ H _ ⟨B, ρ, G, ow, q.imp (fun x k v G' H' e r => ?_) fun _ z => z⟩
  obtain ⟨b, rfl, k⟩ := k
  exact ⟨b, bl_of r, k G' H' e⟩

/-! ### and, or, not, if -/
def pAnd (x : R PV) (y : Unit → R PV) : R PV := x.bind fun v => match v with
  | .bl true => y ()
  | .bl false => .ok (.bl false)
  | _ => .bad
theorem se_and {a : Expr} {b : Expr} {rest : List Expr} {pos : Pos} {fa fb f : Env → R PV} (hf : ∀ ρ, f ρ = (fa ρ).bind fun x => match x with
      | .bl true => fb ρ
      | .bl false => .ok (.bl false)
      | _ => .bad) (ha : SE Γ W X .esc a fa) (hb : SE Γ W X .esc (.BoolOp .And (b :: rest) pos) fb) : SE Γ W X .esc (.BoolOp .And (a :: b :: rest) pos) f := by
  refine PE.weak (pe_and ha hb) fun σ H Q ⟨B, ρ, G, ow, q⟩ => ?_
  rw [hf] at q
  refine ⟨B, ρ, G, ow, (PK_bind.mp q).imp (fun x k v G1 H1 e1 r1 => ?_) fun _ z => z⟩
  split at k
  · exact ⟨true, bl_of r1, iteT ⟨B, ρ, G1, ow.step e1, k.imp (fun x k v G' H' e r => k v G' H' (e1.trans e) r) fun _ z => Ke.step e1 z⟩⟩
  · exact ⟨false, bl_of r1, iteF (k _ G1 H1 e1 (show Rep X.K G1 _ _ from rep_bl'))⟩
  · exact k.elim
theorem se_or {a : Expr} {b : Expr} {rest : List Expr} {pos : Pos} {fa fb f : Env → R PV} (hf : ∀ ρ, f ρ = (fa ρ).bind fun x => match x with
      | .bl true => .ok (.bl true)
      | .bl false => fb ρ
      | _ => .bad) (ha : SE Γ W X .esc a fa) (hb : SE Γ W X .esc (.BoolOp .Or (b :: rest) pos) fb) : SE Γ W X .esc (.BoolOp .Or (a :: b :: rest) pos) f := by
  refine PE.weak (pe_or ha hb) fun σ H Q ⟨B, ρ, G, ow, q⟩ => ?_
  rw [hf] at q
  refine ⟨B, ρ, G, ow, (PK_bind.mp q).imp (fun x k v G1 H1 e1 r1 => ?_) fun _ z => z⟩
  split at k
  · exact ⟨true, bl_of r1, iteT (k _ G1 H1 e1 (show Rep X.K G1 _ _ from rep_bl'))⟩
  · exact ⟨false, bl_of r1, iteF ⟨B, ρ, G1, ow.step e1, k.imp (fun x k v G' H' e r => k v G' H' (e1.trans e) r) fun _ z => Ke.step e1 z⟩⟩
  · exact k.elim
theorem se_one {a : Expr} {op : BoolOp} {pos : Pos} {fa : Env → R PV} (ha : SE Γ W X .esc a fa) : SE Γ W X .esc (.BoolOp op [a] pos) fa := pe_one ha
/-- tests whatever their whole is -/
def SW (Γ : Gt) (W : WX) (X : Cx) (e : Expr) (f : Env → R PV) : Prop := PW X e (rdT Γ W X.K f)
theorem PW.weak {e : Expr} {t t' : TT} (p : PW X e t) (w : ∀ σ H Q, t' σ H Q → t σ H Q) : PW X e t' := ⟨fun wh pins s σ H Q I h => p.run wh pins s σ H Q I (w σ H Q h)⟩
theorem sw_and1 {a : Expr} {pos : Pos} {fa : Env → R PV} (ha : ST Γ W X a fa) : SW Γ W X (.BoolOp .And [a] pos) fa := pw_and1 ha
theorem sw_or1 {a : Expr} {pos : Pos} {fa : Env → R PV} (ha : ST Γ W X a fa) : SW Γ W X (.BoolOp .Or [a] pos) fa := pw_or1 ha
theorem sw_and {a : Expr} {b : Expr} {rest : List Expr} {pos : Pos} {fa fb f : Env → R PV} (hf : ∀ ρ, f ρ = (fa ρ).bind fun x => match x with
      | .bl true => fb ρ
      | .bl false => .ok (.bl false)
      | _ => .bad) (ha : ST Γ W X a fa) (hb : SW Γ W X (.BoolOp .And (b :: rest) pos) fb) : SW Γ W X (.BoolOp .And (a :: b :: rest) pos) f := by
  refine PW.weak (pw_and ha hb) fun σ H Q ⟨B, ρ, G, ow, q⟩ => ?_
  rw [hf] at q
  refine ⟨B, ρ, G, ow, (PK_bind.mp q).imp (fun x k => ?_) fun _ z => z⟩
  split at k
  · exact ⟨true, rfl, fun G1 H1 e1 => iteT ⟨B, ρ, G1, ow.step e1, k.imp (fun x ⟨b, eb, k⟩ => ⟨b, eb, fun G' H' e => k G' H' (e1.trans e)⟩) fun _ z => Ke.step e1 z⟩⟩
  · obtain ⟨b, eb, k⟩ := k
    cases eb
    exact ⟨false, rfl, fun G1 H1 e1 => iteF (k G1 H1 e1)⟩
  · exact k.elim
theorem sw_or {a : Expr} {b : Expr} {rest : List Expr} {pos : Pos} {fa fb f : Env → R PV} (hf : ∀ ρ, f ρ = (fa ρ).bind fun x => match x with
      | .bl true => .ok (.bl true)
      | .bl false => fb ρ
      | _ => .bad) (ha : ST Γ W X a fa) (hb : SW Γ W X (.BoolOp .Or (b :: rest) pos) fb) : SW Γ W X (.BoolOp .Or (a :: b :: rest) pos) f := by
  refine PW.weak (pw_or ha hb) fun σ H Q ⟨B, ρ, G, ow, q⟩ => ?_
  rw [hf] at q
  refine ⟨B, ρ, G, ow, (PK_bind.mp q).imp (fun x k => ?_) fun _ z => z⟩
  split at k
  · obtain ⟨b, eb, k⟩ := k
    cases eb
    exact ⟨true, rfl, fun G1 H1 e1 => iteT (k G1 H1 e1)⟩
  · exact ⟨false, rfl, fun G1 H1 e1 => iteF ⟨B, ρ, G1, ow.step e1, k.imp (fun x ⟨b, eb, k⟩ => ⟨b, eb, fun G' H' e => k G' H' (e1.trans e)⟩) fun _ z => Ke.step e1 z⟩⟩
  · exact k.elim
theorem st_not {a : Expr} {pos : Pos} {fa : Env → R PV} (ha : ST Γ W X a fa) : ST Γ W X (.UnaryOp .Not a pos) (fun ρ => (fa ρ).bind pNot) := by
  refine PT.weak (pt_not ha) fun σ H Q ⟨B, ρ, G, ow, q⟩ => ⟨B, ρ, G, ow, (PK_bind.mp q).imp (fun x k => ?_) fun _ z => z⟩
  unfold pNot at k
  split at k
  · obtain ⟨b, eb, k⟩ := k
    cases eb
    exact ⟨_, rfl, k⟩
  · exact k.elim
theorem se_not {a : Expr} {pos : Pos} {fa : Env → R PV} (ha : SE Γ W X .esc a fa) : SE Γ W X .esc (.UnaryOp .Not a pos) (fun ρ => (fa ρ).bind pNot) := by
  refine PE.weak (pe_not ha) fun σ H Q ⟨B, ρ, G, ow, q⟩ => ⟨B, ρ, G, ow, (PK_bind.mp q).imp (fun x k v G1 H1 e1 r1 => ?_) fun _ z => z⟩
  unfold pNot at k
  split at k
  · exact ⟨_, bl_of r1, k _ G1 H1 e1 (show Rep X.K G1 _ _ from rep_bl')⟩
  · exact k.elim
theorem st_val {e : Expr} {f : Env → R PV} (he : SE Γ W X .esc e f) (hw : ∀ whole, isTrue e X.env whole = (do let v ← whole; standAt e.pos; holding [v] (truthy v))) : ST Γ W X e f := by
  refine PT.weak (pt_val he hw) fun σ H Q ⟨B, ρ, G, ow, q⟩ => ⟨B, ρ, G, ow, q.imp (fun x ⟨b, eb, k⟩ v G1 H1 e1 r1 => ?_) fun _ z => z⟩
  subst eb
  exact ⟨b, bl_of r1, k G1 H1 e1⟩
theorem se_ife {c a b : Expr} {pos : Pos} {fc fa fb f : Env → R PV} (hf : ∀ ρ, f ρ = (fc ρ).bind fun x => match x with
      | .bl true => fa ρ
      | .bl false => fb ρ
      | _ => .bad) (hc : ST Γ W X c fc) (ha : SE Γ W X .esc a fa) (hb : SE Γ W X .esc b fb) : SE Γ W X .esc (.IfExp c a b pos) f := by
  refine PE.weak (pe_ifExp hc ha hb) fun σ H Q ⟨B, ρ, G, ow, q⟩ => ?_
  rw [hf] at q
  refine ⟨B, ρ, G, ow, (PK_bind.mp q).imp (fun x k => ?_) fun _ z => z⟩
  split at k
  · exact ⟨true, rfl, fun G1 H1 e1 => iteT ⟨B, ρ, G1, ow.step e1, k.imp (fun x k v G' H' e r => k v G' H' (e1.trans e) r) fun _ z => Ke.step e1 z⟩⟩
  · exact ⟨false, rfl, fun G1 H1 e1 => iteF ⟨B, ρ, G1, ow.step e1, k.imp (fun x k v G' H' e r => k v G' H' (e1.trans e) r) fun _ z => Ke.step e1 z⟩⟩
  · exact k.elim

/-! ### arguments -/
theorem sa_nil : SA Γ W X [] (fun _ => .ok []) := PA.weak pa_nil fun σ H Q ⟨B, ρ, G, ow, q⟩ => q [] G H (Ext.refl ow.gh) rfl
theorem sa_cons {e : Expr} {es : List Expr} {fa : Env → R PV} {fb : Env → R (List PV)} (ge : good e = true) (ha : SE Γ W X .bor e fa) (hb : SA Γ W X es fb) : SA Γ W X (e :: es) (fun ρ => (fa ρ).bind fun x => (fb ρ).bind fun xs => .ok (x :: xs)) := by
  refine PA.weak (pa_cons ha hb (good_star ge es _)) fun σ H Q ⟨B, ρ, G, ow, q⟩ => ⟨B, ρ, G, ow, (PK_bind.mp q).imp (fun x k v G1 H1 e1 r1 => ?_) fun _ z => z⟩
  refine ⟨B, ρ, G1, ow.step e1, (PK_bind.mp k).imp (fun xs k vs G2 H2 e2 r2 => ?_) fun _ z => Ke.step e1 z⟩
  exact k (v :: vs) G2 H2 (e1.trans e2) ⟨v, vs, rfl, RepT.mono (e2.gg e1.gh) e2.hh r1, r2⟩
theorem sae_nil : SAE Γ W X [] (fun _ => .ok []) := PA.weak pa_nil fun σ H Q ⟨B, ρ, G, ow, q⟩ => q [] G H (Ext.refl ow.gh) (reps_nil.mpr rfl)
theorem sae_cons {e : Expr} {es : List Expr} {fa : Env → R PV} {fb : Env → R (List PV)} (ge : good e = true) (ha : SE Γ W X .esc e fa) (hb : SAE Γ W X es fb) : SAE Γ W X (e :: es) (fun ρ => (fa ρ).bind fun x => (fb ρ).bind fun xs => .ok (x :: xs)) := by
  refine PA.weak (pa_cons ha hb (good_star ge es _)) fun σ H Q ⟨B, ρ, G, ow, q⟩ => ⟨B, ρ, G, ow, (PK_bind.mp q).imp (fun x k v G1 H1 e1 r1 => ?_) fun _ z => z⟩
  refine ⟨B, ρ, G1, ow.step e1, (PK_bind.mp k).imp (fun xs k vs G2 H2 e2 r2 => ?_) fun _ z => Ke.step e1 z⟩
  exact k (v :: vs) G2 H2 (e1.trans e2) (reps_cons.mpr ⟨v, vs, rfl, Rep.mono (e2.gg e1.gh) r1, r2⟩)
end
end Pf

set_option Elab.async false
set_option linter.all false
set_option maxRecDepth 100000
set_option autoImplicit false
set_option maxHeartbeats 1000000
/-! Pf5: expressions, part two: displays, items, slices, built-ins, calls -/
namespace Pf
open PySem PySem.Spec L2
variable [Tbc] [Tlc]

section
variable {Γ : Gt} {N : List Str} {sc so : Scope} {W : WX} {X : Cx}
/-! ### displays -/
theorem se_tup {es : List Expr} {k : Nat} {pos : Pos} {fa : Env → R (List PV)} (hl : es.length ≤ LIM) (hn : ∀ ρ xs, fa ρ = .ok xs → xs.length = es.length) (ha : SAE Γ W X es fa) : SE Γ W X .esc (.Tuple es k pos) (fun ρ => (fa ρ).bind fun xs => .ok (.tup xs)) := by
  refine PE.weak (pe_tup ha) fun σ H Q ⟨B, ρ, G, ow, q⟩ => ⟨B, ρ, G, ow, ?_⟩
  have q := PK_bind.mp q
  cases e : fa ρ with
  | bad => rw [e] at q; exact q
  | exn c => rw [e] at q; exact q
  | ok xs =>
    rw [e] at q
    intro vs G1 H1 e1 r1
    refine ⟨?_, fun p hp => q _ _ _ (e1.trans (Ext.new e1.gh hp)) (show Rep X.K _ _ _ from rep_tup.mpr ⟨p, vs, rfl, upd_same, r1.mono (same_upd (e1.gh.free hp))⟩)⟩
    rw [r1.length, hn ρ xs e]
    exact Nat.le_trans hl lim_line
theorem se_lst {es : List Expr} {pos : Pos} {fa : Env → R (List PV)} (hl : es.length ≤ LIM) (hn : ∀ ρ xs, fa ρ = .ok xs → xs.length = es.length) (ha : SAE Γ W X es fa) : SE Γ W X .fre (.List es pos) (fun ρ => (fa ρ).bind fun xs => .ok (.lst xs)) := by
  refine PE.weak (pe_lst ha) fun σ H Q ⟨B, ρ, G, ow, q⟩ => ⟨B, ρ, G, ow, ?_⟩
  have q := PK_bind.mp q
  cases e : fa ρ with
  | bad => rw [e] at q; exact q
  | exn c => rw [e] at q; exact q
  | ok xs =>
    rw [e] at q
    intro vs G1 H1 e1 r1
    refine ⟨?_, fun p hp => q _ _ _ (e1.trans (Ext.fresh e1.gh hp)) ⟨p, vs, rfl, e1.hh.free hp, e1.gh.free hp, upd_same, r1⟩⟩
    rw [r1.length, hn ρ xs e]
    exact Nat.le_trans hl lim_line

/-! ### items -/
theorem atI_rep {G : Hp} {xs : List PV} {vs : List V} {i : Int} {x : PV} (r : Reps X.K G xs vs) (h : atI xs i = some x) : ∃ v, atI vs i = some v ∧ Rep X.K G x v := by
  unfold atI at h ⊢
  rw [r.length]
  cases e : ixN xs.length i with
  | none => rw [e] at h; cases h
  | some j =>
    rw [e] at h
    exact r.get h
theorem ix_sound (x y : PV) (v u : V) (G H : Hp) (Q : VK) (s : Same G H) (rx : RepT X.K G H x v) (ry : RepT X.K G H y u)
    (h : PK (pIx x y) (fun z => ∀ w G' H', Ext G H G' H' → RepM .esc X.K H G' H' z w → Q w H') (fun _ => False)) : rIx X.K v u H Q := by
  unfold pIx at h
  split at h
  · unfold pAt at h
    split at h
    · rename_i e
      obtain ⟨a, vs, rfl, h1, r1⟩ := rx.lst
      obtain ⟨w, ew, rw'⟩ := atI_rep (X := X) r1 e
      exact .inl ⟨a, vs, _, w, rfl, ry.int, SqL.of h1, ew, h w G H (Ext.refl s) rw'⟩
    · exact h.elim
  · unfold pAt at h
    split at h
    · rename_i e
      obtain ⟨a, vs, rfl, h1, r1⟩ := rx.tup
      obtain ⟨w, ew, rw'⟩ := atI_rep (X := X) r1 e
      exact .inr (.inl ⟨a, vs, _, w, rfl, ry.int, SqT.of (s _ _ h1), ew, h w G H (Ext.refl s) rw'⟩)
    · exact h.elim
  · unfold pAt at h
    split at h
    · rename_i e
      obtain ⟨a, vs, rfl, h1, r1⟩ := rx.rl
      obtain ⟨w, ew, rw'⟩ := atI_rep (X := X) r1 e
      exact .inl ⟨a, vs, _, w, rfl, ry.int, s.seq h1, ew, h w G H (Ext.refl s) rw'⟩
    · exact h.elim
  · split at h
    · rename_i hl
      split at h
      · rename_i e
        exact .inr (.inr ⟨_, _, _, rx.str, ry.int, Nat.le_trans hl lim_line, e, h _ G H (Ext.refl s) (show Rep X.K G _ _ from rep_str')⟩)
      · exact h.elim
    · exact h.elim
  · exact h.elim
theorem pIx_nx (x y : PV) (c : Nat) : pIx x y ≠ .exn c := by
  unfold pIx pAt
  split <;> (try split) <;> (try split) <;> intro h <;> cases h
theorem se_ix {a b : Expr} {pos : Pos} {fa fb : Env → R PV} (gb : good b = true) (ha : SE Γ W X .bor a fa) (hb : SE Γ W X .bor b fb) :
    SE Γ W X .esc (.Subscript a b pos) (fun ρ => (fa ρ).bind fun x => (fb ρ).bind fun y => pIx x y) :=
  PE.weak (pe_ix ix_seq ha hb (good_ix gb)) (two_rd (ix_sound (X := X)) (fun _ _ _ _ _ _ s h => repM_old s h) pIx_nx)

/-! ### slices -/
def rdO (Γ : Gt) (W : WX) (K : PySem.W.Frag) (f : Env → R (Option Int)) : TO := fun σ H Q => ∃ (B : Bd) (ρ : Env) (G : Hp), Ow K B ρ σ G H ∧
  PK (f ρ) (fun o => ∀ G' H', Ext G H G' H' → Q o H') (Ke Γ W σ G H)
def SO (Γ : Gt) (W : WX) (X : Cx) (e : Option Expr) (f : Env → R (Option Int)) : Prop := PO X e (rdO Γ W X.K f)
theorem PO.weak {e : Option Expr} {t t' : TO} (p : PO X e t) (w : ∀ σ H Q, t' σ H Q → t σ H Q) : PO X e t' := ⟨fun pins s σ H Q I h => p.run pins s σ H Q I (w σ H Q h)⟩
theorem so_none : SO Γ W X none (fun _ => (R.ok PV.non).bind (pPart true)) := PO.weak po_none fun σ H Q ⟨B, ρ, G, ow, q⟩ => q G H (Ext.refl ow.gh)
theorem so_some {e : Expr} {f : Env → R PV} (h : SE Γ W X .bor e f) : SO Γ W X (some e) (fun ρ => (f ρ).bind (pPart false)) := by
  refine PO.weak (po_some h) fun σ H Q ⟨B, ρ, G, ow, q⟩ => ⟨B, ρ, G, ow, (PK_bind.mp q).imp (fun x k v G1 H1 e1 r1 => ?_) fun _ z => z⟩
  cases x with
  | int i => exact ⟨i, int_of r1, k G1 H1 e1⟩
  | _ => exact k.elim
theorem cut_rep {G : Hp} {xs : List PV} {vs : List V} (r : Reps X.K G xs vs) (lo hi : Option Int) : Reps X.K G (pCut xs lo hi) (cutV vs lo hi) := by
  unfold pCut cutV
  rw [r.length]
  exact (r.drop _).take _
def rSlP (K : PySem.W.Frag) : V → Option Int → Option Int → Hp → VK → Prop := fun x lo hi H Q => rSlL K x lo hi H Q ∨ (rSlA K x lo hi H Q ∨ rSlS x lo hi H Q)
theorem sl_rule : SlR X (rSlP X.K) := sl_list.or (sl_tupA.or sl_str)
theorem sl_sound (x : PV) (lo hi : Option Int) (v : V) (G H : Hp) (Q : VK) (s : Same G H) (rx : RepT X.K G H x v)
    (h : PK (pSl x lo hi) (fun z => ∀ w G' H', Ext G H G' H' → RepM .fre X.K H G' H' z w → Q w H') (fun _ => False)) : rSlP X.K v lo hi H Q := by
  unfold pSl at h
  split at h
  · obtain ⟨a, vs, rfl, h1, r1⟩ := rx.lst
    exact .inl ⟨a, vs, rfl, SqL.of h1, fun p hp => fin_lst s hp (cut_rep r1 lo hi) h⟩
  · obtain ⟨a, vs, rfl, h1, r1⟩ := rx.rl
    exact .inl ⟨a, vs, rfl, s.seq h1, fun p hp => fin_lst s hp (cut_rep r1 lo hi) h⟩
  · obtain ⟨a, vs, rfl, h1, r1⟩ := rx.tup
    refine .inr (.inl ⟨a, vs, rfl, SqT.of (s _ _ h1), fun hw => ?_, fun _ p hp => fin_tup s hp (cut_rep r1 lo hi) h⟩)
    have r2 := cut_rep (X := X) r1 lo hi
    have e2 : cutV vs lo hi = vs := by
      unfold cutV
      rw [hw.1, hw.2, List.drop_zero, Nat.sub_zero, List.take_length]
    rw [e2] at r2
    exact h _ G H (Ext.refl s) (show Rep X.K G _ _ from rep_tup.mpr ⟨a, vs, rfl, h1, r2⟩)
  · split at h
    · rename_i hl
      exact .inr (.inr ⟨_, rx.str, Nat.le_trans hl lim_line, h _ G H (Ext.refl s) (show Rep X.K G _ _ from rep_str')⟩)
    · exact h.elim
  · exact h.elim
theorem pSl_nx (x : PV) (lo hi : Option Int) (c : Nat) : pSl x lo hi ≠ .exn c := by
  unfold pSl
  split <;> (try split) <;> intro h <;> cases h
theorem se_sl {a : Expr} {lo hi : Option Expr} {pos p2 : Pos} {fa : Env → R PV} {fl fh : Env → R (Option Int)} (ha : SE Γ W X .bor a fa) (hl : SO Γ W X lo fl) (hh : SO Γ W X hi fh) :
    SE Γ W X .fre (.Subscript a (.Slice lo hi none p2) pos) (fun ρ => (fa ρ).bind fun x => (fl ρ).bind fun l => (fh ρ).bind fun h => pSl x l h) := by
  refine PE.weak (pe_slice sl_rule ha hl hh) fun σ H Q ⟨B, ρ, G, ow, q⟩ => ⟨B, ρ, G, ow, (PK_bind.mp q).imp (fun x k v G1 H1 e1 r1 => ?_) fun _ z => z⟩
  refine ⟨B, ρ, G1, ow.step e1, (PK_bind.mp k).imp (fun l k G2 H2 e2 => ?_) fun _ z => Ke.step e1 z⟩
  refine ⟨B, ρ, G2, (ow.step e1).step e2, (PK_bind.mp k).imp (fun h k G3 H3 e3 => ?_) fun _ z => Ke.step (e1.trans e2) z⟩
  refine sl_sound x l h v G3 H3 Q e3.gh (RepT.mono ((e2.trans e3).gg e1.gh) (e2.trans e3).hh r1) ?_
  cases e : pSl x l h with
  | ok z =>
    rw [e] at k
    exact fun w G' H' e4 rz => k w G' H' (((e1.trans e2).trans e3).trans e4) (repM_old (((e1.hh.trans e2.hh).trans e3.hh)) rz)
  | exn c => exact absurd e (pSl_nx x l h c)
  | bad => rw [e] at k; exact k

/-- xs[lo::st] -/
def tStp (K : PySem.W.Frag) (te : TE) (tl ts : TO) : TE := fun σ H Q => te σ H fun x H1 => tl σ H1 fun l H2 => ts σ H2 fun t H3 => ∃ (a : Addr) (xs : List V) (i j : Int), x = .ref a ∧ l = some i ∧ t = some j ∧ 0 ≤ i ∧ 1 ≤ j ∧ SqL K H3 a xs ∧
  ∀ p, H3 p = none → Q (.ref p) (upd H3 p (.lst ((List.range xs.length).filterMap fun k => xs[i.toNat + k * j.toNat]?)))
theorem range_pick {α : Type} (f : Nat → Option α) {n m : Nat} (h : n ≤ m) (hz : ∀ k, n ≤ k → f k = none) : (List.range m).filterMap f = (List.range n).filterMap f := by
  obtain ⟨d, rfl⟩ := Nat.exists_eq_add_of_le h
  clear h
  induction d with
  | zero => rfl
  | succ d ih =>
    rw [← Nat.add_assoc, List.range_succ, List.filterMap_append, ih]
    simp [hz (n + d) (Nat.le_add_right _ _)]
theorem stp_pick (its : List Value) {i j : Int} (h0 : 0 ≤ i) (h1 : 1 ≤ j) : slicePick its.toArray (some i) none (some j) = ((List.range its.length).filterMap fun k => its[i.toNat + k * j.toNat]?).toArray := by
  obtain ⟨a, rfl⟩ : ∃ a : Nat, i = (a : Int) := ⟨i.toNat, by omega⟩
  obtain ⟨b, rfl⟩ : ∃ b : Nat, j = (b : Int) := ⟨j.toNat, by omega⟩
  have hb : 1 ≤ b := by omega
  have s1 : (sliceBounds (some (a : Int)) none (some (b : Int)) its.toArray.size).1 = ((min a its.length : Nat) : Int) := by
    simp only [sliceBounds, Option.getD_some, List.size_toArray, show (b : Int) > 0 by omega, if_true, show ¬ (a : Int) < 0 by omega, if_false]
    omega
  have s2 : (sliceBounds (some (a : Int)) none (some (b : Int)) its.toArray.size).2.1 = ((its.length : Nat) : Int) := by
    simp only [sliceBounds, Option.getD_some, List.size_toArray, show (b : Int) > 0 by omega, if_true]
  have s3 : (sliceBounds (some (a : Int)) none (some (b : Int)) its.toArray.size).2.2 = (b : Int) := rfl
  unfold slicePick
  rw [s1, s2, s3]
  unfold sliceRange
  simp only [show (b : Int) > 0 by omega, if_true, Int.toNat_natCast]
  rw [List.filterMap_map]
  congr 1
  obtain ⟨c, hc⟩ : ∃ c : Nat, (if ((min a its.length : Nat) : Int) < ((its.length : Nat) : Int) then (((its.length : Nat) : Int) - ((min a its.length : Nat) : Int) + (b : Int) - 1) / (b : Int) else 0).toNat = c := ⟨_, rfl⟩
  rw [hc]
  by_cases ha : a < its.length
  · rw [if_pos (by omega)] at hc
    have e : ((its.length : Nat) : Int) - ((min a its.length : Nat) : Int) + (b : Int) - 1 = ((its.length - a + b - 1 : Nat) : Int) := by omega
    rw [e] at hc
    have hc2 : (its.length - a + b - 1) / b = c := by
      rw [← hc, ← Int.natCast_ediv, Int.toNat_natCast]
    have cle : c ≤ its.length := by
      rw [← hc2]
      refine Nat.le_trans (Nat.div_le_of_le_mul (n := its.length - a) ?_) (Nat.sub_le ..)
      have : 1 * 1 ≤ b * (its.length - a) := Nat.mul_le_mul hb (by omega)
      obtain ⟨d, hd⟩ : ∃ d, its.length - a = d + 1 := ⟨its.length - a - 1, by omega⟩
      rw [hd]
      have h3 : d ≤ b * d := Nat.le_mul_of_pos_left d (by omega)
      rw [Nat.mul_add, Nat.mul_one]
      omega
    have big : ∀ k, c ≤ k → its[a + k * b]? = none := fun k hk => by
      rw [List.getElem?_eq_none_iff]
      have h4 : its.length - a + b - 1 < b * (c + 1) := by
        rw [← hc2]
        exact Nat.lt_mul_div_succ _ (by omega)
      have h5 : b * c ≤ b * k := Nat.mul_le_mul_left b hk
      rw [Nat.mul_add, Nat.mul_one] at h4
      rw [Nat.mul_comm k b]
      omega
    rw [range_pick (fun k => its[a + k * b]?) cle big]
    refine congrArg (fun g => List.filterMap g (List.range c)) (funext fun k => ?_)
    show its.toArray[(((min a its.length : Nat) : Int) + (b : Int) * (k : Int)).toNat]? = _
    rw [List.getElem?_toArray, show min a its.length = a by omega, ← Int.natCast_mul, ← Int.natCast_add, Int.toNat_natCast, Nat.mul_comm]
  · rw [if_neg (by omega)] at hc
    have c0 : c = 0 := by rw [← hc]; rfl
    rw [c0]
    have : (List.range its.length).filterMap (fun k => its[a + k * b]?) = (List.range 0).filterMap fun k => its[a + k * b]? := range_pick _ (Nat.zero_le _) fun k _ => by
      rw [List.getElem?_eq_none_iff]
      omega
    rw [this]
    rfl
theorem vals_pick {xs : List V} {its : List Value} (r : Vals xs its) (f : Nat → Nat) : ∀ n : Nat, Vals ((List.range n).filterMap fun k => xs[f k]?) ((List.range n).filterMap fun k => its[f k]?)
  | 0 => .nil
  | n + 1 => by
    rw [List.range_succ, List.filterMap_append, List.filterMap_append]
    refine (vals_pick r f n).append ?_
    cases e : xs[f n]? with
    | none =>
      have : its[f n]? = none := by
        rw [List.getElem?_eq_none_iff] at e ⊢
        rw [← r.length]
        exact e
      simp only [List.filterMap_cons, List.filterMap_nil, e, this]
      exact .nil
    | some x =>
      obtain ⟨u, hu, ru⟩ := r.get e
      simp only [List.filterMap_cons, List.filterMap_nil, e, hu]
      exact .cons ru .nil
open PyProof.Rows in
theorem pe_stp {X : Cx} {e st : Expr} {lo : Expr} {te : TE} {tl ts : TO} {pos p2 : Pos} (he : PE X e te) (hl : PO X (some lo) tl) (hs : PO X (some st) ts) : PE X (.Subscript e (.Slice (some lo) none (some st) p2) pos) (tStp X.K te tl ts) := by
  refine ⟨fun pins s σ H Q I h => ?_⟩
  refine Subscript_ (thn (he.run pins s σ H _ I h) fun v s1 ⟨x, H1, I1, r1, q1⟩ => ?_)
  refine wpAny_Slice (thn (hl.run pins s1 σ H1 _ I1 q1) fun vl s2 ⟨l, H2, I2, pl, q2⟩ => ?_)
  rw [evalPart_none]
  refine wpAny_pure (thn (hs.run pins s2 σ H2 _ I2 q2) fun vt s3 ⟨t, H3, I3, pt, q3⟩ => ?_)
  obtain ⟨a, xs, i, j, rfl, rfl, rfl, h0, h1, hx, q⟩ := q3
  obtain rfl : v = .ref a := r1
  have I4 : Inv X pins σ H3 { s3 with heap := s3.heap.push { cls := .type "slice", data := .fields #[vl, .none, vt] } } := I3.kept (t' := s3.toks) fun b ob q => Heap.get?_push_of_some _ q
  obtain ⟨its, r, ht, hz⟩ := I4.list hx
  refine tail_any (s := { s3 with heap := s3.heap.push { cls := .type "slice", data := .fields #[vl, .none, vt] } }) (ops := [.ref a, .ref s3.heap.objs.size]) (T := "list") ht.isList.typeIs slot_list_getitem.lookup ?_ (by with_unfolding_all rfl)
  refine wpAny_getItem_list_slice ht.isList (Heap.IsSliceOf.new ..) pl .none pt (by intro z; cases z; omega) ?_ (by rw [List.size_toArray, ← r.length]; exact hz)
  rw [stp_pick its h0 h1]
  have rv := vals_pick r (fun k => i.toNat + k * j.toNat) xs.length
  rw [r.length] at rv
  refine ⟨.ref _, _, I4.laid (t' := s3.toks) (o := .lst ((List.range xs.length).filterMap fun k => xs[i.toNat + k * j.toNat]?)) (fun b ob q => Heap.get?_push_of_some _ q) (Nat.le_refl _) ?_, rfl, q _ (I4.hok.fresh (Nat.le_refl _))⟩
  refine ⟨?_, _, 0, ?_, Heap.get?_push_size _ rfl⟩
  · have : ((List.range xs.length).filterMap fun k => xs[i.toNat + k * j.toNat]?).length ≤ (List.range xs.length).length := List.length_filterMap_le ..
    rw [List.length_range] at this
    exact Nat.le_trans this hz
  · rw [r.length]
    exact rv
theorem reps_pick {G : Hp} {xs : List PV} {vs : List V} (r : Reps X.K G xs vs) (f : Nat → Nat) : ∀ n : Nat, Reps X.K G ((List.range n).filterMap fun k => xs[f k]?) ((List.range n).filterMap fun k => vs[f k]?)
  | 0 => reps_nil.mpr rfl
  | n + 1 => by
    rw [List.range_succ, List.filterMap_append, List.filterMap_append]
    refine (reps_pick r f n).append ?_
    cases e : xs[f n]? with
    | none =>
      have : vs[f n]? = none := by
        rw [List.getElem?_eq_none_iff] at e ⊢
        rw [r.length]
        exact e
      simp only [List.filterMap_cons, List.filterMap_nil, e, this]
      exact reps_nil.mpr rfl
    | some x =>
      obtain ⟨u, hu, ru⟩ := r.get e
      simp only [List.filterMap_cons, List.filterMap_nil, e, hu]
      exact reps_cons.mpr ⟨u, [], rfl, ru, reps_nil.mpr rfl⟩
theorem se_stp {a lo st : Expr} {pos p2 : Pos} {fa : Env → R PV} {fl ft : Env → R PV} (ha : SE Γ W X .bor a fa) (hl : SE Γ W X .bor lo fl) (ht : SE Γ W X .bor st ft) :
    SE Γ W X .fre (.Subscript a (.Slice (some lo) none (some st) p2) pos) (fun ρ => (fa ρ).bind fun x => (fl ρ).bind fun l => (pPart false l).bind fun l' => (ft ρ).bind fun t => (pPart false t).bind fun t' => (match l', t' with
      | some i, some j => pStpR x i j
      | _, _ => .bad)) := by
  refine PE.weak (pe_stp ha (so_some hl) (so_some ht)) fun σ H Q ⟨B, ρ, G, ow, q⟩ => ⟨B, ρ, G, ow, (PK_bind.mp q).imp (fun x k v G1 H1 e1 r1 => ?_) fun _ z => z⟩
  have ex : ((fl ρ).bind fun l => (pPart false l).bind fun l' => (ft ρ).bind fun t => (pPart false t).bind fun t' => (match l', t' with
      | some i, some j => pStpR x i j
      | _, _ => .bad)) = ((fl ρ).bind (pPart false)).bind fun l' => ((ft ρ).bind (pPart false)).bind fun t' => (match l', t' with
      | some i, some j => pStpR x i j
      | _, _ => .bad) := by
    cases fl ρ with
    | ok l =>
      simp only [R.bind_ok]
      cases pPart false l with
      | ok l' =>
        simp only [R.bind_ok]
        cases ft ρ <;> rfl
      | _ => rfl
    | _ => rfl
  rw [ex] at k
  refine ⟨B, ρ, G1, ow.step e1, (PK_bind.mp k).imp (fun l k G2 H2 e2 => ?_) fun _ z => Ke.step e1 z⟩
  refine ⟨B, ρ, G2, (ow.step e1).step e2, (PK_bind.mp k).imp (fun t k G3 H3 e3 => ?_) fun _ z => Ke.step (e1.trans e2) z⟩
  have r2 : RepT X.K G3 H3 x v := RepT.mono ((e2.trans e3).gg e1.gh) (e2.trans e3).hh r1
  cases l with
  | none => exact k.elim
  | some i =>
    cases t with
    | none => exact k.elim
    | some j =>
      cases x with
      | lst xs =>
        have k : PK (if 0 ≤ i ∧ 1 ≤ j then R.ok (PV.lst (pStp xs i.toNat j.toNat)) else .bad) _ _ := k
        split at k
        · rename_i hij
          obtain ⟨p, vs, rfl, h1, rs⟩ := r2.lst
          refine ⟨p, vs, i, j, rfl, rfl, rfl, hij.1, hij.2, SqL.of h1, fun q hq => ?_⟩
          refine k _ _ _ (((e1.trans e2).trans e3).trans (Ext.fresh e3.gh hq)) ⟨q, _, rfl, ((e1.trans e2).trans e3).hh.free hq, e3.gh.free hq, upd_same, ?_⟩
          unfold pStp
          rw [← rs.length]
          exact reps_pick rs _ _
        · exact k.elim
      | _ => exact k.elim
/-! ### built-ins -/
theorem ints_rep {G : Hp} : ∀ {xs : List PV} {ns : List Int}, intsOf xs = some ns → xs = ns.map PV.int
  | [], ns, h => by cases h; rfl
  | x :: xs, ns, h => by
    cases x <;> first | (simp only [intsOf, reduceCtorEq] at h; done) | skip
    rename_i i
    simp only [intsOf] at h
    cases e : intsOf xs with
    | none => rw [e] at h; cases h
    | some ms =>
      rw [e] at h
      cases h
      rw [ints_rep (G := G) e]
      rfl
theorem bls_rep {G : Hp} : ∀ {xs : List PV} {ns : List Bool}, blsOf xs = some ns → xs = ns.map PV.bl
  | [], ns, h => by cases h; rfl
  | x :: xs, ns, h => by
    cases x <;> first | (simp only [blsOf, reduceCtorEq] at h; done) | skip
    rename_i i
    simp only [blsOf] at h
    cases e : blsOf xs with
    | none => rw [e] at h; cases h
    | some ms =>
      rw [e] at h
      cases h
      rw [bls_rep (G := G) e]
      rfl
theorem maxOf_is : ∀ {ns : List Int} {m : Int}, m ∈ ns → (∀ y, y ∈ ns → y ≤ m) → m = maxOf ns
  | [], m, h, _ => by cases h
  | [a], m, h, _ => by simpa [maxOf] using h
  | a :: b :: r, m, h, hm => by
    have ih : ∀ {k : Int}, k ∈ (b :: r) → (∀ y, y ∈ (b :: r) → y ≤ k) → k = maxOf (b :: r) := fun h1 h2 => maxOf_is h1 h2
    simp only [maxOf]
    have ha : a ≤ m := hm a List.mem_cons_self
    have mx : ∃ k, k ∈ (b :: r) ∧ ∀ y, y ∈ (b :: r) → y ≤ k := by
      clear ih hm h ha
      induction r generalizing b with
      | nil => exact ⟨b, by simp, by simp⟩
      | cons c r ih =>
        obtain ⟨k, hk, hk2⟩ := ih c
        by_cases hb : b ≤ k
        · refine ⟨k, List.mem_cons_of_mem _ hk, fun y hy => ?_⟩
          rcases List.mem_cons.mp hy with e | e
          · rw [e]; exact hb
          · exact hk2 y e
        · refine ⟨b, List.mem_cons_self, fun y hy => ?_⟩
          rcases List.mem_cons.mp hy with e | e
          · rw [e]; exact Int.le_refl _
          · have := hk2 y e
            omega
    obtain ⟨k, hk, hk2⟩ := mx
    rw [← ih hk hk2]
    rcases List.mem_cons.mp h with e | e
    · subst e
      have := hm k (List.mem_cons_of_mem _ hk)
      omega
    · have h1 := hk2 m e
      have h2 := hm k (List.mem_cons_of_mem _ hk)
      have : m = k := by omega
      subst this
      omega
theorem minOf_is : ∀ {ns : List Int} {m : Int}, m ∈ ns → (∀ y, y ∈ ns → m ≤ y) → m = minOf ns
  | [], m, h, _ => by cases h
  | [a], m, h, _ => by simpa [minOf] using h
  | a :: b :: r, m, h, hm => by
    have ih : ∀ {k : Int}, k ∈ (b :: r) → (∀ y, y ∈ (b :: r) → k ≤ y) → k = minOf (b :: r) := fun h1 h2 => minOf_is h1 h2
    simp only [minOf]
    have ha : m ≤ a := hm a List.mem_cons_self
    have mx : ∃ k, k ∈ (b :: r) ∧ ∀ y, y ∈ (b :: r) → k ≤ y := by
      clear ih hm h ha
      induction r generalizing b with
      | nil => exact ⟨b, by simp, by simp⟩
      | cons c r ih =>
        obtain ⟨k, hk, hk2⟩ := ih c
        by_cases hb : k ≤ b
        · refine ⟨k, List.mem_cons_of_mem _ hk, fun y hy => ?_⟩
          rcases List.mem_cons.mp hy with e | e
          · rw [e]; exact hb
          · exact hk2 y e
        · refine ⟨b, List.mem_cons_self, fun y hy => ?_⟩
          rcases List.mem_cons.mp hy with e | e
          · rw [e]; exact Int.le_refl _
          · have := hk2 y e
            omega
    obtain ⟨k, hk, hk2⟩ := mx
    rw [← ih hk hk2]
    rcases List.mem_cons.mp h with e | e
    · subst e
      have := hm k (List.mem_cons_of_mem _ hk)
      omega
    · have h1 := hk2 m e
      have h2 := hm k (List.mem_cons_of_mem _ hk)
      have : m = k := by omega
      subst this
      omega
theorem sorted_uniq : ∀ {xs ys : List Int}, xs.Perm ys → xs.Pairwise (· ≤ ·) → ys.Pairwise (· ≤ ·) → xs = ys
  | [], ys, p, _, _ => p.nil_eq
  | x :: xs, [], p, _, _ => p.eq_nil
  | x :: xs, y :: ys, p, h, h' => by
    have m1 : x ∈ y :: ys := p.subset List.mem_cons_self
    have m2 : y ∈ x :: xs := p.symm.subset List.mem_cons_self
    have k1 := (List.pairwise_cons.mp h).1
    have k2 := (List.pairwise_cons.mp h').1
    have e : x = y := by
      rcases List.mem_cons.mp m1 with e | m1
      · exact e
      · rcases List.mem_cons.mp m2 with e | m2
        · exact e.symm
        · exact Int.le_antisymm (k1 _ m2) (k2 _ m1)
    subst e
    rw [sorted_uniq p.cons_inv (List.pairwise_cons.mp h).2 (List.pairwise_cons.mp h').2]
theorem insI_perm (x : Int) : ∀ ys : List Int, (insI x ys).Perm (x :: ys)
  | [] => .refl _
  | y :: ys => by
    unfold insI
    split
    · exact .refl _
    · exact ((insI_perm x ys).cons y).trans (.swap x y ys)
theorem insI_sorted (x : Int) : ∀ {ys : List Int}, ys.Pairwise (· ≤ ·) → (insI x ys).Pairwise (· ≤ ·)
  | [], _ => List.pairwise_cons.mpr ⟨fun _ h => (nomatch h), .nil⟩
  | y :: ys, h => by
    have k := List.pairwise_cons.mp h
    unfold insI
    split
    · rename_i l
      refine List.pairwise_cons.mpr ⟨fun z hz => ?_, h⟩
      rcases List.mem_cons.mp hz with rfl | hz
      · exact l
      · exact Int.le_trans l (k.1 z hz)
    · rename_i l
      refine List.pairwise_cons.mpr ⟨fun z hz => ?_, insI_sorted x k.2⟩
      rcases List.mem_cons.mp ((insI_perm x ys).subset hz) with rfl | hz
      · omega
      · exact k.1 z hz
theorem srtI_perm : ∀ xs : List Int, (srtI xs).Perm xs
  | [] => .refl _
  | x :: xs => (insI_perm x (srtI xs)).trans ((srtI_perm xs).cons x)
theorem srtI_sorted : ∀ xs : List Int, (srtI xs).Pairwise (· ≤ ·)
  | [] => .nil
  | x :: xs => insI_sorted x (srtI_sorted xs)
theorem srtI_uniq {ns ms : List Int} (p : ms.Perm ns) (s : ms.Pairwise (· ≤ ·)) : ms = srtI ns :=
  sorted_uniq (p.trans (srtI_perm ns).symm) s (srtI_sorted ns)
def biName : BI → Str
  | .len => "len" | .abs => "abs" | .max => "max" | .min => "min" | .sum => "sum" | .all => "all" | .any => "any" | .sorted => "sorted" | .list => "list" | .tuple => "tuple" | .int => "int" | .str => "str" | .range1 => "range" | .range2 => "range"
def biVal : BI → Value
  | .len => .builtin "len" | .abs => .builtin "abs" | .max => .builtin "max" | .min => .builtin "min" | .sum => .builtin "sum" | .all => .builtin "all" | .any => .builtin "any" | .sorted => .builtin "sorted"
  | .list => .type "list" | .tuple => .type "tuple" | .int => .type "int" | .str => .type "str" | .range1 => .type "range" | .range2 => .type "range"
def rBi (K : PySem.W.Frag) : BI → List V → Hp → VK → Prop
  | .len => fun xs H Q => (∃ p ys, xs = [.ref p] ∧ (SqL K H p ys ∨ SqT K H p ys) ∧ Q (.int ys.length) H) ∨ ∃ z, xs = [.str z] ∧ z.length ≤ sizeLine ∧ Q (.int z.length) H
  | .abs => fun xs H Q => ∃ i, xs = [.int i] ∧ Q (.int (if i < 0 then -i else i)) H
  | .max => fun xs H Q => (∃ i j, xs = [.int i, .int j] ∧ Q (.int (if j > i then j else i)) H) ∨ rMax K xs H Q
  | .min => fun xs H Q => (∃ i j, xs = [.int i, .int j] ∧ Q (.int (if j < i then j else i)) H) ∨ rMin K xs H Q
  | .sum => rSum K
  | .all => rAll K
  | .any => rAny K
  | .sorted => rSortedI K
  | .list => fun xs H Q => ∃ p ys, xs = [.ref p] ∧ (SqL K H p ys ∨ SqT K H p ys) ∧ ∀ l, H l = none → Q (.ref l) (upd H l (.lst ys))
  | .tuple => fun xs H Q => ∃ p ys, xs = [.ref p] ∧ ((SqL K H p ys ∧ ∀ l, H l = none → Q (.ref l) (upd H l (.tup ys))) ∨ (SqT K H p ys ∧ Q (.ref p) H))
  | .int => fun xs H Q => ((∃ i, xs = [.int i] ∧ Q (.int i) H) ∨ ∃ k, xs = [.bl k] ∧ Q (.int (if k then 1 else 0)) H) ∨ ∃ a n, xs = [.str a] ∧ PySem.intText? a = some n ∧ a.length ≤ 640 ∧ Q (.int n) H
  | .str => fun xs H Q => ∃ i, xs = [.int i] ∧ (i.natAbs.log2 < 1920 ∨ i.natAbs < DIG) ∧ Q (.str (toString i)) H
  | .range1 => fun _ _ _ => False
  | .range2 => fun _ _ _ => False
theorem nodig_of {K : PySem.W.Frag} {h : Heap} (Y : K.In h) (L : h.NoLimit) (d : PySem.W.nsIn K cStatics "sys.int_max_str_digits" = some none) : h.NoDigits :=
  let ⟨mc, a, _⟩ := L
  ⟨mc, a, PySem.W.ns_none_of Y a d⟩
/-- str of a number of at most 4,300 figures -/
theorem call_str_big (hc : X.calm = true) (d : PySem.W.nsIn X.K cStatics "sys.int_max_str_digits" = some none) :
    CallR X (.type "str") (fun xs H Q => ∃ i, xs = [.int i] ∧ (i.natAbs.log2 < 1920 ∨ i.natAbs < DIG) ∧ Q (.str (toString i)) H) := by
  intro pins s σ H xs us Q I r h
  obtain ⟨i, rfl, hi, q⟩ := h
  cases r with
  | cons r1 rs =>
    cases rs
    obtain ⟨t, rfl⟩ := r1
    have lt : i.natAbs < 10 ^ 4300 := by
      rcases hi with hi | hi
      · exact Nat.lt_of_lt_of_le (PyProof.Rows.lt_of_log2 hi) (Nat.le_trans (Nat.pow_le_pow_right (by decide) (by decide)) PyProof.Rows.pow_lo)
      · exact hi
    exact PyProof.Rows.str_of_int_or (I.ok.hd hc) (nodig_of I.kIn I.nolimit d) (fun _ => ⟨.str _, H, I.tok _, ⟨_, rfl⟩, q⟩) (fun hge => absurd lt (Nat.not_lt.mpr hge))
theorem bi_rule (hc : X.calm = true) (d : PySem.W.nsIn X.K cStatics "sys.int_max_str_digits" = some none) : ∀ f : BI, f ≠ .range1 → f ≠ .range2 → CallR X (biVal f) (rBi X.K f)
  | .len, _, _ => call_len_seq.or call_len_str
  | .abs, _, _ => call_abs
  | .max, _, _ => (call_max2 hc).or (cr_max hc)
  | .min, _, _ => (call_min2 hc).or (cr_min hc)
  | .sum, _, _ => cr_sum hc
  | .all, _, _ => cr_all hc
  | .any, _, _ => cr_any hc
  | .sorted, _, _ => cr_sortedI
  | .list, _, _ => call_list_of
  | .tuple, _, _ => call_tuple_of
  | .int, _, _ => call_int1.or call_int_str
  | .str, _, _ => call_str_big hc d
  | .range1, h, _ => absurd rfl h
  | .range2, _, h => absurd rfl h
theorem one_of {G H : Hp} {x : PV} {vs : List V} (r : RepsT X.K G H [x] vs) : ∃ v, vs = [v] ∧ RepT X.K G H x v := by
  obtain ⟨v, q, e, h1, h2⟩ := r
  have : q = [] := h2
  subst this
  exact ⟨v, e, h1⟩
theorem two_of {G H : Hp} {x y : PV} {vs : List V} (r : RepsT X.K G H [x, y] vs) : ∃ v u, vs = [v, u] ∧ RepT X.K G H x v ∧ RepT X.K G H y u := by
  obtain ⟨v, q, e, h1, u, q', e', h2, h3⟩ := r
  have : q' = [] := h3
  subst this
  subst e'
  exact ⟨v, u, e, h1, h2⟩
theorem bi_sound (f : BI) (xs : List PV) (vs : List V) (G H : Hp) (Q : VK) (s : Same G H) (r : RepsT X.K G H xs vs)
    (h : PK (pBi f xs) (fun z => ∀ w G' H', Ext G H G' H' → RepM .fre X.K H G' H' z w → Q w H') (fun _ => False)) : rBi X.K f vs H Q := by
  unfold pBi at h
  split at h
  · obtain ⟨v, rfl, rx⟩ := one_of r
    obtain ⟨a, us, rfl, h1, r1⟩ := rx.lst
    refine .inl ⟨a, us, rfl, .inl (SqL.of h1), ?_⟩
    rw [r1.length]
    exact fin_int s h
  · obtain ⟨v, rfl, rx⟩ := one_of r
    obtain ⟨a, us, rfl, h1, r1⟩ := rx.tup
    refine .inl ⟨a, us, rfl, .inr (SqT.of (s _ _ h1)), ?_⟩
    rw [r1.length]
    exact fin_int s h
  · obtain ⟨v, rfl, rx⟩ := one_of r
    obtain ⟨a, us, rfl, h1, r1⟩ := rx.rl
    refine .inl ⟨a, us, rfl, .inl (s.seq h1), ?_⟩
    rw [r1.length]
    exact fin_int s h
  · obtain ⟨v, rfl, rx⟩ := one_of r
    split at h
    · rename_i hl
      exact .inr ⟨_, by rw [rx.str], Nat.le_trans hl lim_line, fin_int s h⟩
    · exact h.elim
  · obtain ⟨v, rfl, rx⟩ := one_of r
    exact ⟨_, by rw [rx.int], fin_int s h⟩
  · obtain ⟨v, u, rfl, rx, ry⟩ := two_of r
    exact .inl ⟨_, _, by rw [rx.int, ry.int], fin_int s h⟩
  · obtain ⟨v, u, rfl, rx, ry⟩ := two_of r
    exact .inl ⟨_, _, by rw [rx.int, ry.int], fin_int s h⟩
  · obtain ⟨v, rfl, rx⟩ := one_of r
    obtain ⟨a, us, rfl, h1, r1⟩ := rx.lst
    split at h
    · rename_i e
      rw [ints_rep (G := G) e, reps_ints] at r1
      subst r1
      exact .inr ⟨a, _, rfl, SqL.of h1, by simp, fun m hm hle => by rw [maxOf_is hm hle]; exact fin_int s h⟩
    · exact h.elim
  · obtain ⟨v, rfl, rx⟩ := one_of r
    obtain ⟨a, us, rfl, h1, r1⟩ := rx.lst
    split at h
    · rename_i e
      rw [ints_rep (G := G) e, reps_ints] at r1
      subst r1
      exact .inr ⟨a, _, rfl, SqL.of h1, by simp, fun m hm hle => by rw [minOf_is hm hle]; exact fin_int s h⟩
    · exact h.elim
  · obtain ⟨v, rfl, rx⟩ := one_of r
    obtain ⟨a, us, rfl, h1, r1⟩ := rx.lst
    split at h
    · rename_i e
      rw [ints_rep (G := G) e, reps_ints] at r1
      subst r1
      exact ⟨a, _, rfl, SqL.of h1, fin_int s h⟩
    · exact h.elim
  · obtain ⟨v, rfl, rx⟩ := one_of r
    obtain ⟨a, us, rfl, h1, r1⟩ := rx.lst
    split at h
    · rename_i e
      rw [bls_rep (G := G) e, reps_bls] at r1
      subst r1
      exact ⟨a, _, rfl, SqL.of h1, fin_bl' s h rfl⟩
    · exact h.elim
  · obtain ⟨v, rfl, rx⟩ := one_of r
    obtain ⟨a, us, rfl, h1, r1⟩ := rx.lst
    split at h
    · rename_i e
      rw [bls_rep (G := G) e, reps_bls] at r1
      subst r1
      exact ⟨a, _, rfl, SqL.of h1, fin_bl' s h rfl⟩
    · exact h.elim
  · obtain ⟨v, rfl, rx⟩ := one_of r
    obtain ⟨a, us, rfl, h1, r1⟩ := rx.lst
    split at h
    · rename_i e
      rw [ints_rep (G := G) e, reps_ints] at r1
      subst r1
      refine ⟨a, _, rfl, SqL.of h1, fun ms p pm so hp => ?_⟩
      rw [srtI_uniq pm so]
      exact fin_lst s hp (reps_ints.mpr rfl) h
    · exact h.elim
  · obtain ⟨v, rfl, rx⟩ := one_of r
    obtain ⟨a, us, rfl, h1, r1⟩ := rx.lst
    exact ⟨a, us, rfl, .inl (SqL.of h1), fun p hp => fin_lst s hp r1 h⟩
  · obtain ⟨v, rfl, rx⟩ := one_of r
    obtain ⟨a, us, rfl, h1, r1⟩ := rx.tup
    exact ⟨a, us, rfl, .inr (SqT.of (s _ _ h1)), fun p hp => fin_lst s hp r1 h⟩
  · obtain ⟨v, rfl, rx⟩ := one_of r
    obtain ⟨a, us, rfl, h1, r1⟩ := rx.rl
    exact ⟨a, us, rfl, .inl (s.seq h1), fun p hp => fin_lst s hp r1 h⟩
  · obtain ⟨v, rfl, rx⟩ := one_of r
    obtain ⟨a, us, rfl, h1, r1⟩ := rx.lst
    exact ⟨a, us, rfl, .inl ⟨SqL.of h1, fun p hp => fin_tup s hp r1 h⟩⟩
  · obtain ⟨v, rfl, rx⟩ := one_of r
    obtain ⟨a, us, rfl, h1, r1⟩ := rx.tup
    exact ⟨a, us, rfl, .inr ⟨SqT.of (s _ _ h1), h _ G H (Ext.refl s) (show Rep X.K G _ _ from rep_tup.mpr ⟨a, us, rfl, h1, r1⟩)⟩⟩
  · obtain ⟨v, rfl, rx⟩ := one_of r
    obtain ⟨a, us, rfl, h1, r1⟩ := rx.rl
    exact ⟨a, us, rfl, .inl ⟨s.seq h1, fun p hp => fin_tup s hp r1 h⟩⟩
  · obtain ⟨v, rfl, rx⟩ := one_of r
    exact .inl (.inl ⟨_, by rw [rx.int], fin_int s h⟩)
  · obtain ⟨v, rfl, rx⟩ := one_of r
    exact .inl (.inr ⟨_, by rw [rx.bl], fin_int s h⟩)
  · obtain ⟨v, rfl, rx⟩ := one_of r
    split at h
    · rename_i n hn
      split at h
      · rename_i hl
        exact .inr ⟨_, n, by rw [rx.str], hn, hl, fin_int s h⟩
      · exact h.elim
    · exact h.elim
  · obtain ⟨v, rfl, rx⟩ := one_of r
    split at h
    · rename_i hl
      exact ⟨_, by rw [rx.int], hl, h _ G H (Ext.refl s) (show Rep X.K G _ _ from rep_str')⟩
    · exact h.elim
  · exact h.elim
theorem pBi_nx (f : BI) (xs : List PV) (c : Nat) : pBi f xs ≠ .exn c := by
  unfold pBi
  split <;> (try split) <;> (try split) <;> intro h <;> cases h
theorem bi_boot (f : BI) : bootBuiltins (biName f) = some (biVal f) := by cases f <;> decide +kernel
theorem bi_names (f : BI) : biName f ≠ "__name__" ∧ (biName f == ("__debug__" : Str)) = false := by cases f <;> decide +kernel
theorem se_bi (o : XOk Γ N sc so W X) (hh : Γ.hot = false) {f : BI} {e : Expr} {es : List Expr} {p pos : Pos} {fa : Env → R (List PV)} (h1 : f ≠ .range1) (h2 : f ≠ .range2) (hb : biName f ∈ Γ.bl) (hg : glb sc (biName f) = true) (ge : (e :: es).all good = true) (ha : SA Γ W X (e :: es) fa) :
    SE Γ W X .fre (.Call (.Name (biName f) p) (e :: es) [] pos) (fun ρ => (fa ρ).bind fun xs => pBi f xs) := by
  have ge' := ge
  simp only [List.all_cons, Bool.and_eq_true] at ge'
  have mid : ∀ t, PE X (.Call (.Name (biName f) p) (e :: es) [] pos) (tCB (rBi X.K f) t) → t = rdA Γ W X.K fa → SE Γ W X .fre (.Call (.Name (biName f) p) (e :: es) [] pos) (fun ρ => (fa ρ).bind fun xs => pBi f xs) := fun t pe et => by
    subst et
    refine PE.weak pe fun σ H Q ⟨B, ρ, G, ow, q⟩ => ⟨B, ρ, G, ow, (PK_bind.mp q).imp (fun xs k vs G1 H1 e1 r1 => ?_) fun _ z => z⟩
    refine bi_sound f xs vs G1 H1 Q e1.gh r1 ?_
    cases e : pBi f xs with
    | ok z =>
      rw [e] at k
      exact fun w G' H' e2 rz => k w G' H' (e1.trans e2) (repM_old e1.hh rz)
    | exn c => exact absurd e (pBi_nx f xs c)
    | bad => rw [e] at k; exact k
  have hm := o.g.bl _ hb
  have nm := bi_names f
  have bt := bi_boot f
  have rl := bi_rule (X := X) (o.calm hh) o.g.ec.dg f h1 h2
  cases f with
  | range1 => exact absurd rfl h1
  | range2 => exact absurd rfl h2
  | len => exact mid _ (pe_callB rl (o.gl hg) hm bt ha nm.1 nm.2 (good_star ge'.1 es _) (good_any ge'.2)) rfl
  | abs => exact mid _ (pe_callB rl (o.gl hg) hm bt ha nm.1 nm.2 (good_star ge'.1 es _) (good_any ge'.2)) rfl
  | max => exact mid _ (pe_callB rl (o.gl hg) hm bt ha nm.1 nm.2 (good_star ge'.1 es _) (good_any ge'.2)) rfl
  | min => exact mid _ (pe_callB rl (o.gl hg) hm bt ha nm.1 nm.2 (good_star ge'.1 es _) (good_any ge'.2)) rfl
  | sum => exact mid _ (pe_callB rl (o.gl hg) hm bt ha nm.1 nm.2 (good_star ge'.1 es _) (good_any ge'.2)) rfl
  | all => exact mid _ (pe_callB rl (o.gl hg) hm bt ha nm.1 nm.2 (good_star ge'.1 es _) (good_any ge'.2)) rfl
  | any => exact mid _ (pe_callB rl (o.gl hg) hm bt ha nm.1 nm.2 (good_star ge'.1 es _) (good_any ge'.2)) rfl
  | sorted => exact mid _ (pe_callB rl (o.gl hg) hm bt ha nm.1 nm.2 (good_star ge'.1 es _) (good_any ge'.2)) rfl
  | list => exact mid _ (pe_callTy rl (o.gl hg) hm bt ha nm.1 nm.2 (good_star ge'.1 es _) (good_any ge'.2)) rfl
  | tuple => exact mid _ (pe_callTy rl (o.gl hg) hm bt ha nm.1 nm.2 (good_star ge'.1 es _) (good_any ge'.2)) rfl
  | int => exact mid _ (pe_callTy rl (o.gl hg) hm bt ha nm.1 nm.2 (good_star ge'.1 es _) (good_any ge'.2)) rfl
  | str => exact mid _ (pe_callTy rl (o.gl hg) hm bt ha nm.1 nm.2 (good_star ge'.1 es _) (good_any ge'.2)) rfl

/-! ### isinstance -/
def tyStr : Ty → String
  | .int => "int" | .bool => "bool" | .str => "str" | .list => "list" | .tuple => "tuple" | .dict => "dict"
def tyName : Ty → Str
  | .int => "int" | .bool => "bool" | .str => "str" | .list => "list" | .tuple => "tuple" | .dict => "dict"
def kindStr : PV → String
  | .non => "NoneType" | .bl _ => "bool" | .int _ => "int" | .str _ => "str" | .lst _ => "list" | .tup _ => "tuple" | .rl _ => "list" | .dk _ _ => "dict" | .exc _ => "object"
theorem tyX_of {G H : Hp} {x : PV} {v : V} (s : Same G H) (r : RepT X.K G H x v) (h1 : ∀ z, x ≠ .rl z) (h2 : ∀ z, x ≠ .exc z) : TyX X.K H v (.type (kindStr x)) := by
  cases x with
  | non => rw [r.non]; exact .base .non
  | bl b => rw [r.bl]; exact .base (.bl b)
  | int i => rw [r.int]; exact .base (.int i)
  | str i => rw [r.str]; exact .base (.str i)
  | lst xs => obtain ⟨a, vs, rfl, h, _⟩ := r.lst; exact .base (.lst h)
  | tup xs =>
    obtain ⟨a, vs, rfl, h, _⟩ := r.tup
    exact .base (.tup (s _ _ h))
  | rl xs => exact absurd rfl (h1 xs)
  | dk ks xs =>
    have r' : Rep X.K G (.dk ks xs) v := r
    simp only [Rep] at r'
    obtain ⟨a, kvs, rfl, h, _⟩ := r'
    exact .base (.dK (s _ _ h))
  | exc c => exact absurd rfl (h2 c)
theorem isa_kit {x : PV} {t : Ty} {b : Bool} (h : pIsa t x = .ok (.bl b)) : kitB (kindStr x) (tyStr t) = some b := by
  cases t <;> cases x <;> first
    | (simp only [pIsa, reduceCtorEq] at h; done)
    | (simp only [pIsa, R.ok.injEq, PV.bl.injEq] at h; subst h; simp only [kindStr, tyStr]; decide +kernel)
theorem ty_boot (t : Ty) : bootBuiltins (tyName t) = some (.type (tyStr t)) := by cases t <;> decide +kernel
theorem ty_names (t : Ty) : tyName t ≠ "__name__" ∧ (tyName t == ("__debug__" : Str)) = false := by cases t <;> decide +kernel
theorem pIsa_is (t : Ty) (x : PV) : pIsa t x = .bad ∨ ∃ b, pIsa t x = .ok (.bl b) := by
  unfold pIsa
  split <;> first | exact .inl rfl | exact .inr ⟨_, rfl⟩
theorem se_isa (o : XOk Γ N sc so W X) {t : Ty} {e : Expr} {p p2 pos : Pos} {fa : Env → R PV} (hb : ("isinstance" : Str) ∈ Γ.bl) (hg : glb sc "isinstance" = true) (hb2 : tyName t ∈ Γ.bl) (hg2 : glb sc (tyName t) = true) (ge : good e = true) (ha : SE Γ W X .bor e fa) :
    SE Γ W X .esc (.Call (.Name "isinstance" p) [e, .Name (tyName t) p2] [] pos) (fun ρ => (fa ρ).bind fun x => pIsa t x) := by
  have pt : PE X (.Name (tyName t) p2) (tC (.ty (tyStr t))) := pe_bltn (o.gl hg2) (o.g.bl _ hb2) (ty_boot t) rfl (ty_names t).1 (ty_names t).2
  refine PE.weak (pe_callB call_isi (o.gl hg) (o.g.bl _ hb) (by decide +kernel) (pa_cons ha (pa_cons pt pa_nil) (good_star ge _ _)) (by decide) (by decide) (good_star ge _ _)) fun σ H Q ⟨B, ρ, G, ow, q⟩ => ⟨B, ρ, G, ow, (PK_bind.mp q).imp (fun x k v G1 H1 e1 r1 => ?_) fun _ z => z⟩
  rcases pIsa_is t x with e | ⟨b, e⟩
  · rw [e] at k
    exact k.elim
  · rw [e] at k
    refine ⟨v, .ty (tyStr t), .type (kindStr x), .type (tyStr t), b, rfl, .ty _, tyX_of e1.gh r1 (fun z ez => ?_) (fun z ez => ?_), kit_ty (isa_kit e), k _ G1 H1 e1 (show Rep X.K G1 _ _ from rep_bl')⟩
    · subst ez
      cases t <;> cases e
    · subst ez
      cases t <;> cases e

/-! ### calls of the module's defs -/
theorem flat_repM {m : Mode} {H0 G H : Hp} {x : PV} {v : V} (r : RepM m X.K H0 G H x v) (hf : flat x = true) : Rep X.K G x v := by
  cases x <;> first
    | (simp only [flat, Bool.false_eq_true] at hf; done)
    | (cases m <;> exact r)
theorem reps_full {G H : Hp} (s : Same G H) {xs : List PV} {vs : List V} (h : Reps X.K G xs vs) : Reps X.K H xs vs := h.mono s
theorem callee (o : XOk Γ N sc so W X) (hh : Γ.hot = false) {n : Fn} (hn : n ∈ Γ.fns) {es : List Expr} {e : Expr} {p pos : Pos} {t : TA} (ge : (e :: es).all good = true) (hg : glb sc n.name = true) (ha : PA X (e :: es) t) :
    PE X (.Call (.Name n.name p) (e :: es) [] pos) (tCallS (spP X.K Γ.cl n.ps.length n.sem n.fr) (WE W) t) := by
  simp only [List.all_cons, Bool.and_eq_true] at ge
  have F := o.g.fn n hn
  exact pe_callS F.ok (o.room hh) (o.gl hg) F.gm F.kp F.bd (fun σ => passAt (o.tk hh) σ) ha F.db (good_star ge.1 es _) (good_any ge.2)
/-- settled arguments -/
theorem se_call (o : XOk Γ N sc so W X) (hh : Γ.hot = false) {n : Fn} (hn : n ∈ Γ.fns) {es : List Expr} {e : Expr} {p pos : Pos} {fa : Env → R (List PV)} (ge : (e :: es).all good = true) (hg : glb sc n.name = true) (ha : SAE Γ W X (e :: es) fa) :
    SE Γ W X (if n.fr then .fre else .esc) (.Call (.Name n.name p) (e :: es) [] pos) (fun ρ => (fa ρ).bind fun xs => n.sem xs) := by
  refine PE.weak (callee o hh hn ge hg ha) fun σ H Q ⟨B, ρ, G, ow, q⟩ => ⟨B, ρ, G, ow, (PK_bind.mp q).imp (fun xs k vs G1 H1 e1 r1 => ?_) fun _ z => z⟩
  refine ⟨?_, G1, xs, e1.gh, e1.clean ow.cl, r1, k.imp (fun x k v G' H' e2 r2 => k v G' H' (e1.trans e2) (repM_old e1.hh r2)) fun c z G' H' e2 => z G' H' (e1.trans e2)⟩
  rw [r1.length]
  refine (o.g.fn n hn).len xs fun eb => ?_
  rw [eb] at k
  exact k
/-- no arguments -/
theorem pe_callS0 {CX : CXT} {k : Nat} {f : Addr} {fd : FuncData} {ps : List Str} {sp : Sp} {E : L2.St → XK} {x : Str} {p pos : Pos} (F : FnOk X.prog X.w X.K X.mg X.base CX k f fd ps sp) (hr : Room k X.A) (hg : Gl X x) (hm : X.mg x = some (.ref f)) (hk : PySem.W.keepIn X.K (.ref f) = true) (hb : Binds X.K fd ps [])
    (hx : ∀ σ, PassesAt CX X σ (E σ)) (hdb : (x == ("__debug__" : Str)) = false) : PE X (.Call (.Name x p) [] [] pos) (fun σ H Q => sp [] H Q (E σ)) := by
  refine ⟨fun pins s σ H Q I h => ?_⟩
  refine wpAny_Call_Name_kw (ld_glob I hg hm (PySem.W.callWith_K0 I.kIn hk ?_) hdb)
  exact run_fnS F hr hb (hx σ) I .nil h
theorem se_call0 (o : XOk Γ N sc so W X) (hh : Γ.hot = false) {n : Fn} (hn : n ∈ Γ.fns) {p pos : Pos} (hf : n.fr = false) (hg : glb sc n.name = true) :
    SE Γ W X .esc (.Call (.Name n.name p) [] [] pos) (fun _ => n.sem []) := by
  have F := o.g.fn n hn
  refine PE.weak (pe_callS0 F.ok (o.room hh) (o.gl hg) F.gm F.kp F.bd (fun σ => passAt (o.tk hh) σ) F.db) fun σ H Q ⟨B, ρ, G, ow, k⟩ => ?_
  refine ⟨?_, G, [], ow.gh, ow.cl, reps_nil.mpr rfl, ?_⟩
  · refine F.len [] fun eb => ?_
    have k : PK (n.sem []) _ _ := k
    rw [eb] at k
    exact k
  · have k : PK (n.sem []) _ _ := k
    refine k.imp (fun x k v G' H' e2 r2 => k v G' H' e2 ?_) fun c z G' H' e2 => z G' H' e2
    rw [hf] at r2
    exact repM_old (SameT.refl _) r2
/-! ### small dicts -/
theorem upd_two {H : Hp} {p : Addr} {a b : HO} : upd (upd H p a) p b = upd H p b := by
  funext q
  by_cases e : q = p
  · rw [e, upd_same, upd_same]
  · rw [upd_ne e, upd_ne e, upd_ne e]
theorem se_dic0 {pos : Pos} : SE Γ W X .esc (.Dict [] [] pos) (fun _ => .ok (.dk [] [])) :=
  PE.weak pe_dnewK fun σ H Q ⟨B, ρ, G, ow, q⟩ => fun p hp => q _ _ _ (Ext.new ow.gh hp) (show Rep X.K _ _ _ from by
    simp only [Rep]
    exact ⟨p, [], rfl, upd_same, rfl, reps_nil.mpr rfl⟩)
theorem se_dic1 {k v : Int} {j1 j2 : Nat} {p1 p2 pos : Pos} : SE Γ W X .esc (.Dict [some (.Constant (.int k) j1 p1)] [.Constant (.int v) j2 p2] pos) (fun _ => .ok (.dk [Sum.inl k] [.int v])) :=
  PE.weak (pe_disp (pps_cons pe_int pe_int pps_nil) rfl rfl (by simp) (by simp)) fun σ H Q ⟨B, ρ, G, ow, q⟩ => fun p hp => ⟨upd_same, [(Sum.inl k, .int v)], rfl, by simp, by
    rw [upd_two]
    refine q _ _ _ (Ext.new ow.gh hp) (show Rep X.K _ _ _ from ?_)
    simp only [Rep]
    exact ⟨p, _, rfl, upd_same, rfl, reps_cons.mpr ⟨_, _, rfl, rep_int.mpr rfl, reps_nil.mpr rfl⟩⟩⟩
/-- owned arguments, a flat answer -/
theorem se_callB (o : XOk Γ N sc so W X) (hh : Γ.hot = false) {n : Fn} (hn : n ∈ Γ.fns) {es : List Expr} {e : Expr} {p pos : Pos} {fa : Env → R (List PV)} (ge : (e :: es).all good = true) (hg : glb sc n.name = true) (ha : SA Γ W X (e :: es) fa) :
    SE Γ W X .esc (.Call (.Name n.name p) (e :: es) [] pos) (fun ρ => (fa ρ).bind fun xs => flatR (n.sem xs)) := by
  refine PE.weak (callee o hh hn ge hg ha) fun σ H Q ⟨B, ρ, G, ow, q⟩ => ⟨B, ρ, G, ow, (PK_bind.mp q).imp (fun xs k vs G1 H1 e1 r1 => ?_) fun _ z => z⟩
  have c1 := e1.clean ow.cl
  have sT := noT_in e1.gh c1.nt
  have r2 := RepsT.fullT sT r1
  have nb : n.sem xs ≠ .bad := fun eb => by
    rw [eb] at k
    exact k
  refine ⟨by rw [r2.length]; exact (o.g.fn n hn).len xs nb, noT H1, xs, noT_same H1, noT_clean c1, r2, ?_⟩
  have k : PK (flatR (n.sem xs)) _ _ := k
  cases e : n.sem xs with
  | bad => exact absurd e nb
  | exn c =>
    rw [e] at k
    exact fun G' H' e2 => k G1 H' (e1.trans ⟨e2.hh, (sT.trans (e2.gg (noT_same H1))).trans e2.gh, Same.refl _, fun _ _ _ _ => rfl, fun _ _ h => h⟩)
  | ok x =>
    rw [e] at k
    unfold flatR at k
    simp only at k
    split at k
    · rename_i hf
      intro v G' H' e2 rv
      have rv' : Rep X.K G' x v := flat_repM rv hf
      exact k v G1 H' (e1.trans ⟨e2.hh, (sT.trans (e2.gg (noT_same H1))).trans e2.gh, Same.refl _, fun _ _ _ _ => rfl, fun _ _ h => h⟩) (Rep.flat_any rv' hf)
    · exact k.elim
end
end Pf

set_option Elab.async false
set_option linter.all false
set_option maxRecDepth 100000
set_option autoImplicit false
set_option maxHeartbeats 1000000
/-! Pf6: targets, what is walked, comprehensions -/
namespace Pf
open PySem PySem.Spec L2
variable [Tbc] [Tlc]

/-! ### targets -/
def setS (σ : L2.St) : List Nat → List V → L2.St
  | i :: is, v :: vs => setS (σ.set i (some v)) is vs
  | _, _ => σ
theorem setS_length : ∀ (is : List Nat) (σ : L2.St) (vs : List V), (setS σ is vs).length = σ.length
  | [], σ, _ => rfl
  | i :: is, σ, [] => rfl
  | i :: is, σ, v :: vs => by
    unfold setS
    rw [setS_length is, List.length_set]
def mNames (N : List Str) (sc : Scope) : List Nat → List Expr → Bool
  | [], [] => true
  | i :: is, .Name x _ :: es => decide (N[i]? = some x) && loc sc x && mNames N sc is es
  | _, _ => false
def rdGs (tg : List Nat) : TGs := fun vs σ H Q => vs.length = tg.length ∧ Q (setS σ tg vs) H
section
variable {Γ : Gt} {N : List Str} {sc so : Scope} {W : WX} {X : Cx}
theorem PGs.weak {es : List Expr} {t t' : TGs} (p : PGs X es t) (w : ∀ vs σ H Q, t' vs σ H Q → t vs σ H Q) : PGs X es t' := ⟨fun pins s σ H vs us Q I r h => p.run pins s σ H vs us Q I r (w vs σ H Q h)⟩
theorem PG.weak {e : Expr} {t t' : TG} (p : PG X e t) (w : ∀ v σ H Q, t' v σ H Q → t v σ H Q) : PG X e t' := ⟨fun pins s σ H v u Q I r h => p.run pins s σ H v u Q I r (w v σ H Q h)⟩
theorem pgs_names (o : XOk Γ N sc so W X) : ∀ {tg : List Nat} {es : List Expr}, mNames N so tg es = true → PGs X es (rdGs tg)
  | [], [], _ => PGs.weak pgs_nil fun vs σ H Q ⟨hl, q⟩ => by
    cases vs with
    | nil => exact ⟨rfl, q⟩
    | cons _ _ => cases hl
  | i :: is, .Name x p :: es, h => by
    simp only [mNames, Bool.and_eq_true, decide_eq_true_eq] at h
    obtain ⟨l1, l2⟩ := o.loc h.1.2
    refine PGs.weak (pgs_cons (pg_name (by rw [o.hN]; exact o.nd) (o.Nx h.1.1) l1 l2) (pgs_names o h.2) rfl) fun vs σ H Q ⟨hl, q⟩ => ?_
    cases vs with
    | nil => cases hl
    | cons v vs => exact ⟨v, vs, rfl, Nat.succ.inj hl, q⟩
  | [], _ :: _, h => by simp [mNames] at h
  | _ :: _, [], h => by simp [mNames] at h
  | i :: is, e :: es, h => by
    cases e with
    | Name x p =>
      simp only [mNames, Bool.and_eq_true, decide_eq_true_eq] at h
      obtain ⟨l1, l2⟩ := o.loc h.1.2
      refine PGs.weak (pgs_cons (pg_name (by rw [o.hN]; exact o.nd) (o.Nx h.1.1) l1 l2) (pgs_names o h.2) rfl) fun vs σ H Q ⟨hl, q⟩ => ?_
      cases vs with
      | nil => cases hl
      | cons v vs => exact ⟨v, vs, rfl, Nat.succ.inj hl, q⟩
    | _ => simp [mNames] at h
theorem names_each {env : PySem.Env} : ∀ {tg : List Nat} {es : List Expr}, mNames N so tg es = true → (assignEach es env).length = tg.length ∧ (assignEach es env).findIdx? (·.1) = none
  | [], [], _ => ⟨rfl, rfl⟩
  | [], _ :: _, h => by simp [mNames] at h
  | _ :: _, [], h => by simp [mNames] at h
  | i :: is, e :: es, h => by
    cases e with
    | Name x p =>
      simp only [mNames, Bool.and_eq_true] at h
      obtain ⟨h1, h2⟩ := names_each (env := env) h.2
      refine ⟨?_, ?_⟩
      · show (assignEach es env).length + 1 = is.length + 1
        rw [h1]
      · show ((false, assign (.Name x p) env) :: assignEach es env).findIdx? (·.1) = none
        rw [List.findIdx?_cons, h2]
        rfl
    | _ => simp [mNames] at h
/-- a target: a name, or a tuple of names -/
def mTgt (N : List Str) (so : Scope) (tg : List Nat) (tp : Bool) (e : Expr) : Bool :=
  if tp then (match e with
    | .Tuple es _ _ => mNames N so tg es
    | _ => false) else mNames N so tg [e]
def rdG (K : PySem.W.Frag) (tg : List Nat) (tp : Bool) : TG := fun v σ H Q =>
  if tp then ∃ a vs, v = .ref a ∧ (SqT K H a vs ∨ SqL K H a vs) ∧ vs.length = tg.length ∧ Q (setS σ tg vs) H else tg.length = 1 ∧ Q (setS σ tg [v]) H
theorem pg_tgt (o : XOk Γ N sc so W X) (hh : Γ.hot = false) {tg : List Nat} {tp : Bool} {e : Expr} (h : mTgt N so tg tp e = true) : PG X e (rdG X.K tg tp) := by
  unfold mTgt at h
  cases tp with
  | true =>
    rw [if_pos rfl] at h
    split at h
    · rename_i es k p
      obtain ⟨n1, n2⟩ := names_each (env := X.env) h
      refine ⟨fun pins s σ H v u Q I r q => ?_⟩
      have q : ∃ a vs, v = .ref a ∧ (SqT X.K H a vs ∨ SqL X.K H a vs) ∧ vs.length = tg.length ∧ Q (setS σ tg vs) H := q
      obtain ⟨a, vs, ev, hs, hl, q⟩ := q
      rcases hs with hs | hs
      · exact (pg_tup (n := tg.length) (o.calm hh) (pgs_names o h) n1 n2).run pins s σ H v u Q I r ⟨a, vs, ev, hs, hl, hl, q⟩
      · exact (pg_lst (n := tg.length) (o.calm hh) (pgs_names o h) n1 n2).run pins s σ H v u Q I r ⟨a, vs, ev, hs, hl, hl, q⟩
    · cases h
  | false =>
    rw [if_neg Bool.false_ne_true] at h
    match tg, e, h with
    | [i], .Name x p, h =>
      simp only [mNames, Bool.and_eq_true, decide_eq_true_eq] at h
      obtain ⟨l1, l2⟩ := o.loc h.1.2
      exact PG.weak (pg_name (by rw [o.hN]; exact o.nd) (o.Nx h.1.1) l1 l2) fun v σ H Q q => (show [i].length = 1 ∧ Q (setS σ [i] [v]) H from q).2
    | [], e, h => simp [mNames] at h
    | i :: j :: r, e, h => cases e <;> simp [mNames] at h
    | [i], .BoolOp _ _ _, h => simp [mNames] at h
    | [i], .NamedExpr _ _ _, h => simp [mNames] at h
    | [i], .BinOp _ _ _ _, h => simp [mNames] at h
    | [i], .UnaryOp _ _ _, h => simp [mNames] at h
    | [i], .Lambda _ _ _ _, h => simp [mNames] at h
    | [i], .IfExp _ _ _ _, h => simp [mNames] at h
    | [i], .Dict _ _ _, h => simp [mNames] at h
    | [i], .Set _ _ _, h => simp [mNames] at h
    | [i], .ListComp _ _ _ _, h => simp [mNames] at h
    | [i], .SetComp _ _ _ _, h => simp [mNames] at h
    | [i], .DictComp _ _ _ _ _, h => simp [mNames] at h
    | [i], .GeneratorExp _ _ _ _, h => simp [mNames] at h
    | [i], .Await _ _, h => simp [mNames] at h
    | [i], .Yield _ _, h => simp [mNames] at h
    | [i], .YieldFrom _ _, h => simp [mNames] at h
    | [i], .Compare _ _ _ _, h => simp [mNames] at h
    | [i], .Call _ _ _ _, h => simp [mNames] at h
    | [i], .FormattedValue _ _ _ _, h => simp [mNames] at h
    | [i], .JoinedStr _ _, h => simp [mNames] at h
    | [i], .Constant _ _ _, h => simp [mNames] at h
    | [i], .Attribute _ _ _, h => simp [mNames] at h
    | [i], .Subscript _ _ _, h => simp [mNames] at h
    | [i], .Starred _ _, h => simp [mNames] at h
    | [i], .List _ _, h => simp [mNames] at h
    | [i], .Tuple _ _ _, h => simp [mNames] at h
    | [i], .Slice _ _ _ _, h => simp [mNames] at h
theorem ow_setAll {K : PySem.W.Frag} {B : Bd} {G H : Hp} : ∀ {tg : List Nat} {xs : List PV} {vs : List V} {ρ ρ' : Env} {σ : L2.St}, Ow K B ρ σ G H → Reps K G xs vs → setAll ρ tg xs = some ρ' → vs.length = tg.length ∧ Ow K B ρ' (setS σ tg vs) G H
  | [], [], vs, ρ, ρ', σ, o, r, h => by
    cases h
    have e := reps_nil.mp r
    subst e
    exact ⟨rfl, o⟩
  | i :: is, x :: xs, vs, ρ, ρ', σ, o, r, h => by
    obtain ⟨v, us, rfl, h1, h2⟩ := reps_cons.mp r
    unfold setAll at h
    split at h
    · rename_i hi
      obtain ⟨l, o'⟩ := ow_setAll (o.setSh hi h1) h2 h
      exact ⟨by simp [l], o'⟩
    · cases h
  | [], _ :: _, _, _, _, _, _, _, h => by simp [setAll] at h
  | _ :: _, [], _, _, _, _, _, _, h => by simp [setAll] at h
theorem ow_asgT {K : PySem.W.Frag} {B : Bd} {G H : Hp} {tg : List Nat} {tp : Bool} {x : PV} {v : V} {ρ ρ' : Env} {σ : L2.St} {Q : L2.St → Hp → Prop} (o : Ow K B ρ σ G H) (r : Rep K G x v) (h : asgT tg tp x ρ = some ρ')
    (q : ∀ vs, Ow K B ρ' (setS σ tg vs) G H → Q (setS σ tg vs) H) : rdG K tg tp v σ H Q := by
  unfold asgT at h
  unfold rdG
  cases tp with
  | true =>
    rw [if_pos rfl] at h
    rw [if_pos rfl]
    split at h
    · obtain ⟨a, us, rfl, h1, r1⟩ := rep_tup.mp r
      obtain ⟨l, o'⟩ := ow_setAll o r1 h
      exact ⟨a, us, rfl, .inl (SqT.of (o.gh _ _ h1)), l, q us o'⟩
    · obtain ⟨a, us, rfl, h1, r1⟩ := rep_lst.mp r
      obtain ⟨l, o'⟩ := ow_setAll o r1 h
      exact ⟨a, us, rfl, .inr (SqL.of (o.gh _ _ h1)), l, q us o'⟩
    · cases h
  | false =>
    rw [if_neg Bool.false_ne_true] at h
    rw [if_neg Bool.false_ne_true]
    obtain ⟨l, o'⟩ := ow_setAll (vs := [v]) o (reps_cons.mpr ⟨v, [], rfl, r, reps_nil.mpr rfl⟩) h
    exact ⟨l.symm, q [v] o'⟩

/-! ### what is walked -/
structure Items (K : PySem.W.Frag) (J : It) (xs : List PV) (C : Hp → Hp → Prop) : Prop where
  goes : ∀ i G H, i < xs.length → C G H → J.go i H
  stops : ∀ G H, C G H → J.stop xs.length H
  yields : ∀ i G H v H', i < xs.length → Same G H → C G H → J.yld i H v H' → ∃ G' x, Ext G H G' H' ∧ xs[i]? = some x ∧ Rep K G' x v
/-- while what is settled stays; while all that is tracked stays -/
def CI (m : Mode) (G0 H0 : Hp) : Hp → Hp → Prop := fun G H => Same G0 G ∧ Same G H ∧ match m with
  | .bor => SameT H0 H
  | _ => True
def rdI (Γ : Gt) (W : WX) (K : PySem.W.Frag) (m : Mode) (f : Env → R (List PV)) : TI := fun σ H R' => ∃ (B : Bd) (ρ : Env) (G : Hp), Ow K B ρ σ G H ∧
  PK (f ρ) (fun xs => ∀ J G' H', Ext G H G' H' → Items K J xs (CI m G' H') → R' J H') (Ke Γ W σ G H)
def SI (Γ : Gt) (W : WX) (X : Cx) (m : Mode) (tg it : Expr) (f : Env → R (List PV)) : Prop := PI X tg it (rdI Γ W X.K m f)
theorem PI.weak {tg it : Expr} {t t' : TI} (p : PI X tg it t) (w : ∀ σ H R', t' σ H R' → t σ H R') : PI X tg it t' := ⟨fun pins s σ H R' I h => p.run pins s σ H R' I (w σ H R' h)⟩
theorem items_of {K : PySem.W.Frag} {J : It} {n : Nat} {Gc : Hp → Prop} {Y : Nat → Hp → V → Hp → Prop} {xs : List PV} {C : Hp → Hp → Prop} (w : Walk J n Gc Y) (hn : xs.length = n) (hc : ∀ G H, C G H → Gc H)
    (hy : ∀ i G H v H', i < n → Same G H → C G H → Y i H v H' → ∃ G' x, Ext G H G' H' ∧ xs[i]? = some x ∧ Rep K G' x v) : Items K J xs C := by
  subst hn
  exact ⟨fun i G H hi c => w.goes i H hi (hc G H c), fun G H c => w.stops H (hc G H c), fun i G H v H' hi s c y => hy i G H v H' hi s c (w.yields i H v H' hi (hc G H c) y)⟩
/-- a seq by its mode: the list or tuple stays readable -/
theorem seq_stay {m : Mode} {K : PySem.W.Frag} {H0 G H G1 H1 : Hp} {xs : List PV} {v : V} (hm : m = .esc ∨ m = .bor) (r : RepM m K H0 G H (.lst xs) v) (c : CI m G H G1 H1) : ∃ a vs, v = .ref a ∧ H1 a = some (.lst vs) ∧ Reps K G1 xs vs := by
  rcases hm with rfl | rfl
  · obtain ⟨a, vs, e, g, r⟩ := rep_lst.mp (show Rep K G _ _ from r)
    exact ⟨a, vs, e, c.2.1 _ _ (c.1 _ _ g), r.mono c.1⟩
  · obtain ⟨a, vs, e, g, r⟩ := r
    exact ⟨a, vs, e, SameT.lst c.2.2 g, r.mono c.1⟩
theorem tup_of {m : Mode} {K : PySem.W.Frag} {H0 G H : Hp} {xs : List PV} {v : V} (r : RepM m K H0 G H (.tup xs) v) : ∃ a vs, v = .ref a ∧ SqT K G a vs ∧ Reps K G xs vs := by
  have q : Rep K G (.tup xs) v := by
    cases m <;> exact r
  obtain ⟨a, vs, e, g, k⟩ := rep_tup.mp q
  exact ⟨a, vs, e, SqT.of g, k⟩
theorem rl_of {m : Mode} {K : PySem.W.Frag} {H0 G H : Hp} {xs : List PV} {v : V} (r : RepM m K H0 G H (.rl xs) v) : ∃ a vs, v = .ref a ∧ SqL K G a vs ∧ Reps K G xs vs := by
  cases m <;> exact rep_rl.mp (show Rep K G _ _ from r)
theorem lst_of {m : Mode} {K : PySem.W.Frag} {H0 G H : Hp} {xs : List PV} {v : V} (s : Same G H) (r : RepM m K H0 G H (.lst xs) v) : ∃ a vs, v = .ref a ∧ H a = some (.lst vs) ∧ Reps K G xs vs := by
  cases m with
  | esc =>
    obtain ⟨a, vs, e, g, r⟩ := rep_lst.mp (show Rep K G _ _ from r)
    exact ⟨a, vs, e, s _ _ g, r⟩
  | bor => exact r
  | fre =>
    obtain ⟨a, vs, e, _, _, g, r⟩ := r
    exact ⟨a, vs, e, g, r⟩
theorem CI.refl {m : Mode} {G H : Hp} (s : Same G H) : CI m G H G H := by
  refine ⟨Same.refl _, s, ?_⟩
  cases m <;> first | trivial | exact SameT.refl _
theorem items_list {m : Mode} {H0 G H : Hp} {xs : List PV} {v : V} (hm : m = .esc ∨ m = .bor) (s : Same G H) (r : RepM m X.K H0 G H (.lst xs) v) : ∃ a vs, v = .ref a ∧ SqL X.K H a vs ∧ Items X.K (Itl X.K a) xs (CI m G H) := by
  obtain ⟨a, vs, rfl, h, _⟩ := lst_of s r
  have hl : ∀ G1 H1, CI m G H G1 H1 → ∃ us, H1 a = some (.lst us) ∧ Reps X.K G1 xs us := fun G1 H1 c => by
    obtain ⟨b, us, e, h', r'⟩ := seq_stay hm r c
    cases e
    exact ⟨us, h', r'⟩
  refine ⟨a, vs, rfl, SqL.of h, ⟨fun i G1 H1 hi c => ?_, fun G1 H1 c => ?_, fun i G1 H1 w H2 hi sg c y => ?_⟩⟩
  · obtain ⟨us, h', r'⟩ := hl G1 H1 c
    obtain ⟨u, hu, _⟩ := r'.get (List.getElem?_eq_getElem hi)
    exact ⟨us, u, SqL.of h', hu⟩
  · obtain ⟨us, h', r'⟩ := hl G1 H1 c
    exact ⟨us, SqL.of h', by rw [r'.length]; exact Nat.le_refl _⟩
  · obtain ⟨us, h', r'⟩ := hl G1 H1 c
    obtain ⟨e, y⟩ := y
    subst e
    obtain ⟨x, hx, rx⟩ := r'.get' (y us (SqL.of h'))
    exact ⟨G1, x, Ext.refl sg, hx, rx⟩
theorem items_rl {m : Mode} {G H : Hp} {xs : List PV} {a : Addr} {vs : List V} (h : SqL X.K G a vs) (r : Reps X.K G xs vs) : Items X.K (Itl X.K a) xs (CI m G H) :=
  items_of walk_list r.length.symm (fun G1 H1 c => c.2.1.seq (c.1.seq h)) fun i G1 H1 w H2 hi sg c y => by
    obtain ⟨e, y⟩ := y
    subst e
    obtain ⟨x, hx, rx⟩ := r.get' y
    exact ⟨G1, x, Ext.refl sg, hx, rx.mono c.1⟩
theorem items_tup {m : Mode} {G H : Hp} {xs : List PV} {a : Addr} {vs : List V} (h : SqT X.K G a vs) (r : Reps X.K G xs vs) : Items X.K (Itt X.K a) xs (CI m G H) :=
  items_of walk_tup r.length.symm (fun G1 H1 c => same_seqT c.2.1 (same_seqT c.1 h)) fun i G1 H1 w H2 hi sg c y => by
    obtain ⟨e, y⟩ := y
    subst e
    obtain ⟨x, hx, rx⟩ := r.get' y
    exact ⟨G1, x, Ext.refl sg, hx, rx.mono c.1⟩
theorem items_str {m : Mode} {G H : Hp} {z : Str} : Items X.K (Its z) (z.cps.toList.map fun c => PV.str ⟨#[c]⟩) (CI m G H) :=
  items_of walk_str (by simp) (fun _ _ _ => trivial) fun i G1 H1 w H2 hi sg c y => by
    obtain ⟨e, n, hn, rfl⟩ := y
    subst e
    refine ⟨G1, .str ⟨#[n]⟩, Ext.refl sg, ?_, rep_str'⟩
    rw [List.getElem?_map, Array.getElem?_toList, hn]
    rfl
theorem rng_get {lo : Int} {n i : Nat} (h : i < n) : (rngL lo n)[i]? = some (.int (lo + (i : Nat))) := by
  unfold rngL
  rw [List.getElem?_map, List.getElem?_range h]
  rfl
theorem items_rng {m : Mode} {G H : Hp} {lo : Int} {n : Nat} : Items X.K (Itr lo n) (rngL lo n) (CI m G H) :=
  items_of walk_range (by simp [rngL]) (fun _ _ _ => trivial) fun i G1 H1 w H2 hi sg c y => by
    obtain ⟨e, e2⟩ := y
    subst e
    exact ⟨G1, _, Ext.refl sg, rng_get hi, by rw [e2]; exact rep_int'⟩
theorem items_down {m : Mode} {G H : Hp} {lo : Int} {n : Nat} : Items X.K (Itc lo (-1) n) ((List.range n).map fun k => PV.int (lo - (k : Nat))) (CI m G H) :=
  items_of walk_rangeC (by simp) (fun _ _ _ => trivial) fun i G1 H1 w H2 hi sg c y => by
    obtain ⟨e, e2⟩ := y
    subst e
    refine ⟨G1, .int (lo - (i : Nat)), Ext.refl sg, ?_, ?_⟩
    · rw [List.getElem?_map, List.getElem?_range hi]
      rfl
    · rw [e2]
      exact rep_int.mpr (congrArg V.int (show lo + (i : Nat) * (-1) = lo - (i : Nat) by omega))
theorem pair_new {G H : Hp} {T : Addr} {x y : PV} {u v : V} (s : Same G H) (hT : H T = none) (rx : Rep X.K G x u) (ry : Rep X.K G y v) :
    ∃ G', Ext G H G' (upd H T (.tup [u, v])) ∧ Rep X.K G' (.tup [x, y]) (.ref T) :=
  ⟨_, Ext.new s hT, rep_tup.mpr ⟨T, [u, v], rfl, upd_same, (reps_cons.mpr ⟨u, [v], rfl, rx, reps_cons.mpr ⟨v, [], rfl, ry, reps_nil.mpr rfl⟩⟩).mono (same_upd (s.free hT))⟩⟩
theorem enum_get {xs : List PV} {i : Nat} {x : PV} (h : xs[i]? = some x) : (pEnum xs)[i]? = some (.tup [.int (i : Nat), x]) := by
  unfold pEnum
  rw [List.getElem?_mapIdx, h]
  rfl
theorem items_enumL {m : Mode} {H0 G H : Hp} {xs : List PV} {v : V} (hm : m = .esc ∨ m = .bor) (s : Same G H) (r : RepM m X.K H0 G H (.lst xs) v) : ∃ a vs, v = .ref a ∧ SqL X.K H a vs ∧ Items X.K (Ite X.K a) (pEnum xs) (CI m G H) := by
  obtain ⟨a, vs, rfl, h, _⟩ := lst_of s r
  have hl : ∀ G1 H1, CI m G H G1 H1 → ∃ us, H1 a = some (.lst us) ∧ Reps X.K G1 xs us := fun G1 H1 c => by
    obtain ⟨b, us, e, h', r'⟩ := seq_stay hm r c
    cases e
    exact ⟨us, h', r'⟩
  have le : (pEnum xs).length = xs.length := by simp [pEnum]
  refine ⟨a, vs, rfl, SqL.of h, ⟨fun i G1 H1 hi c => ?_, fun G1 H1 c => ?_, fun i G1 H1 w H2 hi sg c y => ?_⟩⟩
  · rw [le] at hi
    obtain ⟨us, h', r'⟩ := hl G1 H1 c
    obtain ⟨u, hu, _⟩ := r'.get (List.getElem?_eq_getElem hi)
    exact ⟨us, u, SqL.of h', hu⟩
  · obtain ⟨us, h', r'⟩ := hl G1 H1 c
    rw [le]
    exact ⟨us, SqL.of h', by rw [r'.length]; exact Nat.le_refl _⟩
  · obtain ⟨us, h', r'⟩ := hl G1 H1 c
    obtain ⟨T, u, rfl, hT, rfl, y⟩ := y
    obtain ⟨x, hx, rx⟩ := r'.get' (y us (SqL.of h'))
    obtain ⟨G2, e2, r2⟩ := pair_new (X := X) sg hT (rep_int' (i := (i : Nat))) rx
    exact ⟨G2, _, e2, enum_get hx, r2⟩
theorem zip_get {xs ys : List PV} {i : Nat} {x y : PV} (h : xs[i]? = some x) (h' : ys[i]? = some y) : (pZip xs ys)[i]? = some (.tup [x, y]) := by
  unfold pZip
  rw [List.getElem?_zipWith, h, h']
end
end Pf

set_option Elab.async false
set_option linter.all false
set_option maxRecDepth 100000
set_option autoImplicit false
set_option maxHeartbeats 2000000
/-! PfE: enumerate over a tuple -/
namespace PfE
open PySem
open PySem.Sem (wp)
theorem drawsT {prog : Program} {w : World} {A : Around} (hh : A.handled = none) (it l : Addr) (hne : l ≠ it) (items : Array Value) :
    Draws prog w A it [it, l] items.size (fun i v => items[i]? = some v) (fun i h => h.IsTupleIter it l i ∧ h.IsTuple l items) where
  live := fun _ _ st => let ⟨o, ho, _⟩ := st.1
    ⟨o, ho⟩
  frame := fun _ _ _ st hk => ⟨st.1.at fun o e => hk it (by simp) o e, let ⟨o, ho, r⟩ := st.2
    ⟨o, hk l (by simp) o ho, r⟩⟩
  item := fun i s Q E hi st hQ => RZ.nextOf_tuple_item st.1 st.2 (x := items[i]) (by simp [hi]) fun h' hit' hs' => hQ _ h' s.toks (by simp [hi]) ⟨hit', st.2.extBut hs'.extBut hne⟩ hs'
  done := fun s Q E st hE => RZ.nextOf_tuple_end hh st.1 st.2 (by simp) hE
abbrev tupIt (l : Addr) : Obj := { cls := .type "tuple_iterator", data := .fields #[.ref l, .int 0 0] }
abbrev enObj (it : Addr) : Obj := { cls := .type "enumerate", data := .fields #[.none, .bool false, .ref it, rawInt 0, .none, .none] }
theorem meets_newT (l : Addr) (items : Array Value) (n : Nat) (dct : Option Addr) (sl : Array (Option Value)) :
    Meets (Builtin.«enumerate.__new__» ⟨[.type "enumerate", .ref l], []⟩) (fun _ R s => s.heap.get? l = some { cls := .type "tuple", dict := dct, data := .seq items n, slots := sl } ∧
      R (.ok (.ret (.ref (s.heap.push (tupIt l)).objs.size))) { s with heap := (s.heap.push (tupIt l)).push (enObj s.heap.objs.size) }) :=
  .of_wp fun prog w A R s h => by
    obtain ⟨hp, g, d, tk, os⟩ := s
    obtain ⟨hl, h⟩ := h
    have hsub := sub_enumerate
    have hL : Heap.IsTuple (Shared.heap ⟨hp, g, d, tk, os⟩) l items := ⟨_, hl, rfl, n, rfl⟩
    wp_walk using AutoSeq1.wpAny_loadPart' hl
    refine wpAny_stack_any fun st => wpAny_pure ?_
    split
    · rename_i c _ _ _ _ _
      cases (c == Value.type "enumerate") <;>
        (wp_walk using AutoSeq1.wpAny_loadPart' hl, wpAny_pyIter_tuple hL
         exact ⟨_, rfl, h⟩)
    · wp_walk using AutoSeq1.wpAny_loadPart' hl, wpAny_pyIter_tuple hL
      exact ⟨_, rfl, h⟩
section
variable {prog : Program} {w : World} {A : Around} {E : Value → Shared → Prop} {s : Shared}
theorem call_enumT {l : Addr} {items : Array Value} {Q : Value → Shared → Prop} (hL : s.heap.IsTuple l items)
    (h : ∀ h', IsEnum h' (s.heap.objs.size + 1) s.heap.objs.size 0 .none → h'.IsTupleIter s.heap.objs.size l 0 → h'.objs.size = s.heap.objs.size + 2 →
      (∀ b o, s.heap.get? b = some o → h'.get? b = some o) → Q (.ref (s.heap.objs.size + 1)) { s with heap := h' }) : wpAny (model prog w) A (call (.type "enumerate") [.ref l]) Q E s := by
  obtain ⟨⟨c, dct, dt, sl⟩, hl, hc, n, hd⟩ := hL
  have hc' : c = .type "tuple" := hc
  have hd' : dt = .seq items n := hd
  subst hc' hd'
  refine callType_new F.called_enumerate (by decide) (F.typeCall_enumerate_1 _) (F.newCall_enumerate_1 _) (fun obj => F.args_object_init_2 obj _) F.entry_enumerate_new (meets_newT l items n dct sl) ⟨hl, ?_⟩
  have hz : (s.heap.push (tupIt l)).objs.size = s.heap.objs.size + 1 := Heap.size_push ..
  have he : IsEnum ((s.heap.push (tupIt l)).push (enObj s.heap.objs.size)) (s.heap.objs.size + 1) s.heap.objs.size 0 .none := by
    have q := Heap.get?_push_size (s.heap.push (tupIt l)) (o := enObj s.heap.objs.size) rfl
    rw [hz] at q
    exact q
  show _ ∧ _
  rw [hz]
  exact ⟨⟨_, he, rfl⟩, h _ he ⟨_, Heap.get?_push_of_some _ (Heap.get?_push_size _ rfl), rfl, rfl⟩ (by rw [Heap.size_push, hz]) fun b o x => Heap.get?_push_of_some _ (Heap.get?_push_of_some _ x)⟩
end
end PfE
namespace Pf
open PySem PySem.Spec L2
/-- a new pair of the place and the item of the tuple at a, at each turn -/
def IteT (K : PySem.W.Frag) (a : Addr) : It :=
  ⟨fun i H => ∃ (xs : List V) (x : V), SqT K H a xs ∧ xs[i]? = some x, fun i H v H' => ∃ T x, v = .ref T ∧ H T = none ∧ H' = upd H T (.tup [.int (i : Nat), x]) ∧ ∀ xs, SqT K H a xs → xs[i]? = some x,
    fun i H => ∃ xs : List V, SqT K H a xs ∧ xs.length = i⟩
theorem two_mem {b e it : Addr} (h : b ∈ [e, it]) : b = e ∨ b = it := by simpa using h
theorem turn_enumT {P : Program} {w : World} {K : PySem.W.Frag} {elts : List Expr} {kk : Nat} {tpos : Pos} (a e it : Addr) :
    Turn P w K (.Tuple elts kk tpos) (IteT K a) [e, it] e (fun i h => (∃ old, IsEnum h e it ((i : Nat) : Int) old) ∧ h.IsTupleIter it a i ∧ e ≠ it) where
  mem := List.mem_cons_self
  obj := fun i h st b hb => by
    obtain ⟨⟨old, he⟩, ⟨o, ho, hc, hd⟩, _⟩ := st
    rcases two_mem hb with rfl | rfl
    · exact ⟨_, he, fun v q => nomatch q⟩
    · exact ⟨o, ho, fun v q => by rw [hd] at q; cases q⟩
  keep := fun i h h' st k => by
    obtain ⟨⟨old, he⟩, hi, hne⟩ := st
    exact ⟨⟨old, k e List.mem_cons_self _ he⟩, hi.at fun o q => k it (by simp) o q, hne⟩
  item := by
    intro X hP hw hK hc i pins s σ H E I hf st hg
    subst hP hw hK
    obtain ⟨⟨old, he⟩, hit, hne⟩ := st
    obtain ⟨xs, x, hq, hx⟩ := hg
    obtain ⟨its, rv, p, hz⟩ := I.tuple hq
    obtain ⟨u, hu, ru⟩ := rv.get hx
    have hel : e < s.heap.objs.size := Heap.lt_size he
    have hil : it < s.heap.objs.size := by
      obtain ⟨_, q, _⟩ := hit
      exact Heap.lt_size q
    have pt : s.heap.IsTuple a its.toArray := p
    have nai : a ≠ it := fun z => by
      obtain ⟨o1, q1, c1, _⟩ := pt
      obtain ⟨o2, q2, c2, _⟩ := hit
      rw [z, q2] at q1
      cases q1
      rw [c1] at c2
      exact absurd c2 (by decide)
    have nae : e ≠ a := fun z => by
      obtain ⟨o1, q1, c1, _⟩ := pt
      have he' : s.heap.get? e = some _ := he
      rw [z, q1] at he'
      cases he'
      exact absurd (show Value.type "enumerate" = Value.type "tuple" from c1) (by decide)
    have hi : i < its.toArray.size := by
      have := (List.getElem?_eq_some_iff.mp hu).1
      simpa using this
    refine wpAny_pyNext_enum_itemD (PfE.drawsT (A := X.A.in1) (show X.A.in1.handled = none from I.ok.hd hc) it a nai its.toArray) he ⟨hit, pt⟩ hi hne (by simp [hne, nae]) fun y h' tk hy ho hst hT hsz hk => ?_
    have ey : y = u := by
      have q : its[i]? = some y := by simpa using hy
      rw [hu] at q
      exact (Option.some.inj q).symm
    subst ey
    refine ⟨_, rfl, wpAny_letOwnedTupleGo_enum (s := { s with heap := h', toks := tk + 1 }) ho fun h'' he' sb => ?_⟩
    have hT2 : h''.get? s.heap.objs.size = some { cls := .type "tuple", data := .seq #[.int i tk, y] } := (sb.2 _ (Nat.ne_of_gt hel)).trans hT
    have new : ObjOk X.prog X.w (upd H s.heap.objs.size (.tup [.int (i : Nat), x])) h'' s.heap.objs.size (.tup [.int (i : Nat), x]) :=
      ⟨(by decide : 2 ≤ sizeLine), [.int i tk, y], .cons ⟨_, rfl⟩ (.cons ru .nil), ⟨_, hT2, rfl, _, rfl⟩⟩
    have I1 : Inv X pins σ (upd H s.heap.objs.size (.tup [.int (i : Nat), x])) { s with heap := h'', toks := tk + 1 } :=
      I.turnedNew (t' := tk + 1) (ch := [e, it]) (fun b ob hb q => (sb.2 b (fun z => hb (by rw [z]; exact List.mem_cons_self))).trans (hk b ob (fun z => hb (by rw [z]; exact List.mem_cons_self)) (fun z => hb (by rw [z]; simp)) q)) hf (Nat.le_refl _) new
    refine ⟨.ref s.heap.objs.size, _, I1, rfl, ⟨_, x, rfl, I.hok.fresh (Nat.le_refl _), rfl, fun ys hy => by rw [I.tuple_inj hy hq]; exact hx⟩, ⟨⟨y, ?_⟩, hst.1.at fun o q => (sb.2 it (Ne.symm hne)).trans q, hne⟩, fun b hb => ?_⟩
    · have e1 : ((i + 1 : Nat) : Int) = (i : Int) + 1 := by omega
      rw [e1]
      exact he'
    · have hb' : b < s.heap.objs.size := by
        rcases two_mem hb with z | z
        · rw [z]; exact hel
        · rw [z]; exact hil
      rw [upd_ne (Nat.ne_of_lt hb')]
      exact (hf b hb).1
  done := by
    intro X hP hw hK hc i pins s σ H E I hf st hg
    subst hP hw hK
    obtain ⟨⟨old, he⟩, hit, hne⟩ := st
    obtain ⟨xs, hq, hx⟩ := hg
    obtain ⟨its, rv, p, hz⟩ := I.tuple hq
    obtain ⟨f0, f1, f2, f3, f4, f5⟩ := hf it (by simp)
    have hl := rv.length
    have pt : s.heap.IsTuple a its.toArray := p
    have nai : a ≠ it := fun z => by
      obtain ⟨o1, q1, c1, _⟩ := pt
      obtain ⟨o2, q2, c2, _⟩ := hit
      rw [z, q2] at q1
      cases q1
      rw [c1] at c2
      exact absurd c2 (by decide)
    have en : i = its.toArray.size := by
      rw [List.size_toArray]
      omega
    subst en
    exact wpAny_pyNext_enum_endD (PfE.drawsT (A := X.A.in1) (show X.A.in1.handled = none from I.ok.hd hc) it a nai its.toArray) he ⟨hit, pt⟩ fun h' eb => ⟨rfl, I.turned (t' := s.toks) (fun b o hb q => eb b o hb q) f0 f1 f3 f4 f5⟩
  self := fun A i s Q E st h => by
    obtain ⟨⟨_, he⟩, _⟩ := st
    exact wpAny_pyIter_enum he h
def iEnumA (K : PySem.W.Frag) (ta : TA) : TI := fun σ H R => ta σ H fun vs H1 => ∃ a xs, vs = [.ref a] ∧ ((SqL K H1 a xs ∧ R (Ite K a) H1) ∨ (SqT K H1 a xs ∧ R (IteT K a) H1))
theorem pi_enumA {X : Cx} {e : Expr} {ta : TA} {p pos tpos : Pos} {elts : List Expr} {kk : Nat} (hg : Gl X "enumerate") (hm : X.mg "enumerate" = none) (ha : PA X [e] ta) (hs : starEach [e] X.env = [(false, eval e X.env)]) :
    PI X (.Tuple elts kk tpos) (.Call (.Name "enumerate" p) [e] [] pos) (iEnumA X.K ta) := by
  refine ⟨fun pins s σ H R I h => ?_⟩
  refine PyProof.Rows.Call_ (ld_blt I hg hm PyProof.Rows.boot_enumerate (PyProof.Rows.callWith_type1 (thn (ha.run pos pins s σ H _ I h) fun us s1 ⟨vs, H1, I1, r1, q1⟩ => ?_) hs rfl))
  obtain ⟨a, xs, ex, q⟩ := q1
  subst ex
  have fr : ∀ b, b ∈ [s1.heap.objs.size + 1, s1.heap.objs.size] → FpOk X pins H1 b := fun b hb => by
    have hle : s1.heap.objs.size ≤ b := by
      rcases two_mem hb with z | z
      · rw [z]; exact Nat.le_add_right _ _
      · rw [z]; exact Nat.le_refl _
    exact I1.fpOk hle (I1.hok.fresh hle)
  cases r1 with
  | cons r rr =>
    cases rr
    cases r
    rcases q with ⟨hq, q⟩ | ⟨hq, q⟩
    · obtain ⟨its, rv, p', hz⟩ := I1.list hq
      refine call_enumerate_list p'.isList fun h' he hit hsz hk => wpAny_pyIter_enum he ?_
      exact ⟨s1.heap.objs.size + 1, [s1.heap.objs.size + 1, s1.heap.objs.size], _, _, H1, rfl, I1.kept (t' := s1.toks) hk, turn_enum a (s1.heap.objs.size + 1) s1.heap.objs.size, ⟨⟨.none, he⟩, hit, Nat.succ_ne_self _⟩, fr, q⟩
    · obtain ⟨its, rv, p', hz⟩ := I1.tuple hq
      refine PfE.call_enumT (show s1.heap.IsTuple a its.toArray from p') fun h' he hit hsz hk => wpAny_pyIter_enum he ?_
      exact ⟨s1.heap.objs.size + 1, [s1.heap.objs.size + 1, s1.heap.objs.size], _, _, H1, rfl, I1.kept (t' := s1.toks) hk, turn_enumT a (s1.heap.objs.size + 1) s1.heap.objs.size, ⟨⟨.none, he⟩, hit, Nat.succ_ne_self _⟩, fr, q⟩
end Pf

set_option Elab.async false
set_option linter.all false
set_option maxRecDepth 100000
set_option autoImplicit false
set_option maxHeartbeats 1000000
/-! Pf7: walks by their expressions; comprehensions -/
namespace Pf
open PySem PySem.Spec L2
variable [Tbc] [Tlc]
section
variable {Γ : Gt} {N : List Str} {sc so : Scope} {W : WX} {X : Cx}
theorem si_seq {m : Mode} {tg e : Expr} {f : Env → R PV} (hm : m = .esc ∨ m = .bor) (he : SE Γ W X m e f) : SI Γ W X m tg e (fun ρ => (f ρ).bind pSeq) := by
  refine ⟨fun pins s σ H R' I ⟨B, ρ, G, ow, q⟩ => ?_⟩
  have q := PK_bind.mp q
  have go : ∀ {wi : TE → TI}, PI X tg e (wi (rdE Γ W X.K m f)) → wi (rdE Γ W X.K m f) σ H R' → wpAny (model X.prog X.w) X.A (eval e X.env) (fun v s1 => wpAny (model X.prog X.w) X.A (pyIter v) (PIE X pins σ tg R') X.xe s1) X.xe s := fun p w => p.run pins s σ H R' I w
  cases ef : f ρ with
  | bad => rw [ef] at q; exact q.elim
  | exn c =>
    rw [ef] at q
    exact go (pi_list he) ⟨B, ρ, G, ow, by rw [ef]; exact q⟩
  | ok x =>
    rw [ef] at q
    have q : PK (pSeq x) _ _ := q
    cases x with
    | lst xs =>
      refine go (pi_list he) ⟨B, ρ, G, ow, ?_⟩
      rw [ef]
      intro v G1 H1 e1 r1
      obtain ⟨a, vs, ev, h, it⟩ := items_list hm e1.gh r1
      exact ⟨a, ev, ⟨vs, h⟩, q _ G1 H1 e1 it⟩
    | tup xs =>
      refine go (pi_tup he) ⟨B, ρ, G, ow, ?_⟩
      rw [ef]
      intro v G1 H1 e1 r1
      obtain ⟨a, vs, ev, h, r⟩ := tup_of r1
      exact ⟨a, ev, ⟨vs, same_seqT e1.gh h⟩, q _ G1 H1 e1 (items_tup h r)⟩
    | rl xs =>
      refine go (pi_list he) ⟨B, ρ, G, ow, ?_⟩
      rw [ef]
      intro v G1 H1 e1 r1
      obtain ⟨a, vs, ev, h, r⟩ := rl_of r1
      exact ⟨a, ev, ⟨vs, e1.gh.seq h⟩, q _ G1 H1 e1 (items_rl h r)⟩
    | str z =>
      refine go (pi_str he) ⟨B, ρ, G, ow, ?_⟩
      rw [ef]
      intro v G1 H1 e1 r1
      exact ⟨z, str_of r1, q _ G1 H1 e1 items_str⟩
    | _ => exact q.elim
theorem items_enumT {m : Mode} {G H : Hp} {xs : List PV} {a : Addr} {vs : List V} (h : SqT X.K G a vs) (r : Reps X.K G xs vs) : Items X.K (IteT X.K a) (pEnum xs) (CI m G H) := by
  have le : (pEnum xs).length = xs.length := by simp [pEnum]
  refine ⟨fun i G1 H1 hi c => ?_, fun G1 H1 c => ?_, fun i G1 H1 w H2 hi sg c y => ?_⟩
  · rw [le] at hi
    obtain ⟨u, hu, _⟩ := r.get (List.getElem?_eq_getElem hi)
    exact ⟨vs, u, same_seqT c.2.1 (same_seqT c.1 h), hu⟩
  · exact ⟨vs, same_seqT c.2.1 (same_seqT c.1 h), by rw [le]; exact r.length⟩
  · obtain ⟨T, u, rfl, hT, rfl, y⟩ := y
    obtain ⟨x, hx, rx⟩ := r.get' (y vs (same_seqT c.2.1 (same_seqT c.1 h)))
    obtain ⟨G2, e2, r2⟩ := pair_new (X := X) sg hT (rep_int' (i := (i : Nat))) (rx.mono c.1)
    exact ⟨G2, _, e2, enum_get hx, r2⟩
def pEnumR (x : PV) : R (List PV) := match x with
  | .str _ => .bad
  | _ => (pSeq x).bind fun xs => .ok (pEnum xs)
theorem si_enum (o : XOk Γ N sc so W X) {m : Mode} {e : Expr} {p pos tpos : Pos} {elts : List Expr} {kk : Nat} {f : Env → R PV} (hm : m = .esc ∨ m = .bor) (hb : ("enumerate" : Str) ∈ Γ.bl) (hg : glb sc "enumerate" = true) (ge : good e = true) (he : SE Γ W X m e f) :
    SI Γ W X m (.Tuple elts kk tpos) (.Call (.Name "enumerate" p) [e] [] pos) (fun ρ => (f ρ).bind pEnumR) := by
  refine PI.weak (pi_enumA (o.gl hg) (o.g.bl _ hb) (pa_cons he pa_nil (good_star ge _ _)) (good_star ge _ _)) fun σ H R' ⟨B, ρ, G, ow, q⟩ => ?_
  have q := PK_bind.mp q
  refine ⟨B, ρ, G, ow, q.imp (fun x k v G1 H1 e1 r1 => ?_) fun _ z => z⟩
  cases x with
  | lst xs =>
    obtain ⟨a, vs, rfl, h, it⟩ := items_enumL hm e1.gh r1
    exact ⟨a, vs, rfl, .inl ⟨h, k _ G1 H1 e1 it⟩⟩
  | tup xs =>
    obtain ⟨a, vs, rfl, h, r⟩ := tup_of r1
    exact ⟨a, vs, rfl, .inr ⟨same_seqT e1.gh h, k _ G1 H1 e1 (items_enumT h r)⟩⟩
  | rl xs =>
    obtain ⟨a, vs, rfl, h, r⟩ := rl_of r1
    refine ⟨a, vs, rfl, .inl ⟨e1.gh.seq h, k _ G1 H1 e1 ?_⟩⟩
    have le : (pEnum xs).length = xs.length := by simp [pEnum]
    refine ⟨fun i G2 H2 hi c => ?_, fun G2 H2 c => ?_, fun i G2 H2 w H3 hi sg c y => ?_⟩
    · rw [le] at hi
      obtain ⟨u, hu, _⟩ := r.get (List.getElem?_eq_getElem hi)
      exact ⟨vs, u, c.2.1.seq (c.1.seq h), hu⟩
    · exact ⟨vs, c.2.1.seq (c.1.seq h), by rw [le, r.length]; exact Nat.le_refl _⟩
    · obtain ⟨T, u, rfl, hT, rfl, y⟩ := y
      obtain ⟨x, hx, rx⟩ := r.get' (y vs (c.2.1.seq (c.1.seq h)))
      obtain ⟨G3, e2, r2⟩ := pair_new (X := X) sg hT (rep_int' (i := (i : Nat))) (rx.mono c.1)
      exact ⟨G3, _, e2, enum_get hx, r2⟩
  | str z => exact k.elim
  | _ => exact k.elim
def pZipR (x y : PV) : R (List PV) := match x, y with
  | .lst xs, .lst ys => .ok (pZip xs ys)
  | .tup xs, .tup ys => .ok (pZip xs ys)
  | _, _ => .bad
theorem zip_len {xs ys : List PV} : (pZip xs ys).length = min xs.length ys.length := by simp [pZip]
theorem si_zip (o : XOk Γ N sc so W X) {m : Mode} {e e2 : Expr} {p pos tpos : Pos} {elts : List Expr} {kk : Nat} {f f2 : Env → R PV} (hm : m = .esc ∨ m = .bor) (hb : ("zip" : Str) ∈ Γ.bl) (hg : glb sc "zip" = true) (ge : good e = true) (ge2 : good e2 = true) (he : SE Γ W X m e f) (he2 : SE Γ W X m e2 f2) :
    SI Γ W X m (.Tuple elts kk tpos) (.Call (.Name "zip" p) [e, e2] [] pos) (fun ρ => (f ρ).bind fun x => (f2 ρ).bind fun y => pZipR x y) := by
  refine PI.weak (RZ.pi_zipA (o.gl hg) (o.g.bl _ hb) (pa_cons he (pa_cons he2 pa_nil (good_star ge2 _ _)) (good_star ge _ _)) (good_star ge _ _) (good_any (by simp [ge2]))) fun σ H R' ⟨B, ρ, G, ow, q⟩ => ?_
  have q := PK_bind.mp q
  refine ⟨B, ρ, G, ow, q.imp (fun x k v G1 H1 e1 r1 => ?_) fun _ z => z⟩
  refine ⟨B, ρ, G1, ow.step e1, (PK_bind.mp k).imp (fun y k u G2 H2 e2 r2 => ?_) fun _ z => Ke.step e1 z⟩
  have rm : RepM m X.K H G2 H2 x v := by
    rcases hm with rfl | rfl
    · exact Rep.mono (e2.gg e1.gh) r1
    · exact RepT.mono (e2.gg e1.gh) e2.hh r1
  cases x with
  | lst xs =>
    cases y with
    | lst ys =>
      obtain ⟨a, vs, rfl, h1, _⟩ := lst_of e2.gh rm
      obtain ⟨b, us, rfl, h2, _⟩ := lst_of e2.gh r2
      refine ⟨a, b, vs, us, rfl, .inl ⟨SqL.of h1, SqL.of h2, k _ G2 H2 (e1.trans e2) ?_⟩⟩
      have st : ∀ G3 H3, CI m G2 H2 G3 H3 → ∃ vs us, H3 a = some (.lst vs) ∧ Reps X.K G3 xs vs ∧ H3 b = some (.lst us) ∧ Reps X.K G3 ys us := fun G3 H3 c => by
        obtain ⟨a', vs', ea, ha, ra⟩ := seq_stay hm rm c
        obtain ⟨b', us', eb, hb', rb⟩ := seq_stay hm r2 c
        cases ea
        cases eb
        exact ⟨vs', us', ha, ra, hb', rb⟩
      refine ⟨fun i G3 H3 hi c => ?_, fun G3 H3 c => ?_, fun i G3 H3 w H4 hi sg c y => ?_⟩
      · rw [zip_len] at hi
        obtain ⟨vs', us', ha, ra, hb', rb⟩ := st G3 H3 c
        obtain ⟨v1, q1, _⟩ := ra.get (List.getElem?_eq_getElem (show i < xs.length by omega))
        obtain ⟨v2, q2, _⟩ := rb.get (List.getElem?_eq_getElem (show i < ys.length by omega))
        exact ⟨vs', us', v1, v2, SqL.of ha, SqL.of hb', q1, q2⟩
      · obtain ⟨vs', us', ha, ra, hb', rb⟩ := st G3 H3 c
        rw [zip_len]
        refine ⟨vs', us', SqL.of ha, SqL.of hb', ?_⟩
        rw [ra.length, rb.length]
        omega
      · obtain ⟨vs', us', ha, ra, hb', rb⟩ := st G3 H3 c
        obtain ⟨T, x1, x2, rfl, hT, rfl, y1, y2⟩ := y
        obtain ⟨p1, hp1, rp1⟩ := ra.get' (y1 _ (SqL.of ha))
        obtain ⟨p2, hp2, rp2⟩ := rb.get' (y2 _ (SqL.of hb'))
        obtain ⟨G5, e5, r5⟩ := pair_new (X := X) sg hT rp1 rp2
        exact ⟨G5, _, e5, zip_get hp1 hp2, r5⟩
    | _ => exact k.elim
  | tup xs =>
    cases y with
    | tup ys =>
      obtain ⟨a, vs, rfl, h1, ra⟩ := tup_of rm
      obtain ⟨b, us, rfl, h2, rb⟩ := tup_of r2
      refine ⟨a, b, vs, us, rfl, .inr ⟨same_seqT e2.gh h1, same_seqT e2.gh h2, k _ G2 H2 (e1.trans e2) ?_⟩⟩
      have s1 : ∀ G3 H3, CI m G2 H2 G3 H3 → SqT X.K H3 a vs := fun G3 H3 c => same_seqT c.2.1 (same_seqT c.1 h1)
      have s2 : ∀ G3 H3, CI m G2 H2 G3 H3 → SqT X.K H3 b us := fun G3 H3 c => same_seqT c.2.1 (same_seqT c.1 h2)
      refine ⟨fun i G3 H3 hi c => ?_, fun G3 H3 c => ?_, fun i G3 H3 w H4 hi sg c y => ?_⟩
      · rw [zip_len] at hi
        obtain ⟨v1, q1, _⟩ := ra.get (List.getElem?_eq_getElem (show i < xs.length by omega))
        obtain ⟨v2, q2, _⟩ := rb.get (List.getElem?_eq_getElem (show i < ys.length by omega))
        exact ⟨vs, us, v1, v2, s1 G3 H3 c, s2 G3 H3 c, q1, q2⟩
      · rw [zip_len]
        refine ⟨vs, us, s1 G3 H3 c, s2 G3 H3 c, ?_⟩
        rw [ra.length, rb.length]
        omega
      · obtain ⟨T, x1, x2, rfl, hT, rfl, y1, y2⟩ := y
        obtain ⟨p1, hp1, rp1⟩ := ra.get' (y1 _ (s1 G3 H3 c))
        obtain ⟨p2, hp2, rp2⟩ := rb.get' (y2 _ (s2 G3 H3 c))
        obtain ⟨G5, e5, r5⟩ := pair_new (X := X) sg hT (rp1.mono c.1) (rp2.mono c.1)
        exact ⟨G5, _, e5, zip_get hp1 hp2, r5⟩
    | _ => exact k.elim
  | _ =>
    cases y <;> exact k.elim
def pRevR (x : PV) : R (List PV) := match x with
  | .lst xs => .ok xs.reverse
  | .tup xs => .ok xs.reverse
  | _ => .bad
theorem rev_at {α : Type} {l : List α} {i : Nat} (hi : i < l.length) : l.reverse[i]? = l[l.length - 1 - i]? := by
  rw [List.getElem?_reverse hi]
theorem si_rev (o : XOk Γ N sc so W X) {m : Mode} {tg e : Expr} {p pos : Pos} {f : Env → R PV} (hm : m = .esc ∨ m = .bor) (hb : ("reversed" : Str) ∈ Γ.bl) (hg : glb sc "reversed" = true) (ge : good e = true) (he : SE Γ W X m e f) :
    SI Γ W X m tg (.Call (.Name "reversed" p) [e] [] pos) (fun ρ => (f ρ).bind pRevR) := by
  refine PI.weak (RT.pi_revA (o.gl hg) (o.g.bl _ hb) he (good_star ge _ _)) fun σ H R' ⟨B, ρ, G, ow, q⟩ => ?_
  have q := PK_bind.mp q
  refine ⟨B, ρ, G, ow, q.imp (fun x k v G1 H1 e1 r1 => ?_) fun _ z => z⟩
  unfold pRevR at k
  split at k
  · rename_i xs
    obtain ⟨a, vs, rfl, h, rv⟩ := lst_of e1.gh r1
    have st : ∀ G3 H3, CI m G1 H1 G3 H3 → ∃ us, H3 a = some (.lst us) ∧ Reps X.K G3 xs us := fun G3 H3 c => by
      obtain ⟨a', vs', ea, ha, ra⟩ := seq_stay hm r1 c
      cases ea
      exact ⟨vs', ha, ra⟩
    refine ⟨a, vs, rfl, .inl ⟨SqL.of h, k _ G1 H1 e1 ?_⟩⟩
    rw [rv.length]
    refine ⟨fun i G3 H3 hi c => ?_, fun G3 H3 c => ?_, fun i G3 H3 w H4 hi sg c y => ?_⟩
    · rw [List.length_reverse] at hi
      obtain ⟨us, ha, ra⟩ := st G3 H3 c
      have hl := ra.length
      exact ⟨hi, us, us[us.length - 1 - i]'(by omega), SqL.of ha, by rw [← hl]; exact List.getElem?_eq_getElem _⟩
    · rw [List.length_reverse]
      exact Nat.le_refl _
    · rw [List.length_reverse] at hi
      obtain ⟨us, ha, ra⟩ := st G3 H3 c
      obtain ⟨e, y⟩ := y
      subst e
      obtain ⟨x, hx, rx⟩ := ra.get' (y us (SqL.of ha))
      exact ⟨G3, x, Ext.refl sg, by rw [rev_at hi]; exact hx, rx⟩
  · rename_i xs
    obtain ⟨a, vs, rfl, h, rv⟩ := tup_of r1
    have s1 : ∀ (G3 H3 : Hp), CI m G1 H1 G3 H3 → SqT X.K H3 a vs := fun G3 H3 c => same_seqT c.2.1 (same_seqT c.1 h)
    refine ⟨a, vs, rfl, .inr ⟨same_seqT e1.gh h, k _ G1 H1 e1 ?_⟩⟩
    have hl := rv.length
    rw [rv.length]
    refine ⟨fun i G3 H3 hi c => ?_, fun G3 H3 c => ?_, fun i G3 H3 w H4 hi sg c y => ?_⟩
    · rw [List.length_reverse] at hi
      exact ⟨hi, vs, vs[vs.length - 1 - i]'(by omega), s1 G3 H3 c, by rw [← hl]; exact List.getElem?_eq_getElem _⟩
    · rw [List.length_reverse]
      exact Nat.le_refl _
    · rw [List.length_reverse] at hi
      obtain ⟨e, y⟩ := y
      subst e
      obtain ⟨x, hx, rx⟩ := rv.get' (y vs (s1 G3 _ c))
      exact ⟨G3, x, Ext.refl sg, by rw [rev_at hi]; exact hx, rx.mono c.1⟩
  · exact k.elim
theorem span_of {i : Int} (h : inSpan i = true) : -(2 ^ 62) ≤ i ∧ i < 2 ^ 62 := by
  unfold inSpan at h
  rw [Bool.and_eq_true, decide_eq_true_eq, decide_eq_true_eq] at h
  exact h
theorem si_rng1 (o : XOk Γ N sc so W X) {m : Mode} {tg e : Expr} {p pos : Pos} {f : Env → R PV} (hb : ("range" : Str) ∈ Γ.bl) (hg : glb sc "range" = true) (ge : good e = true) (he : SE Γ W X .bor e f) :
    SI Γ W X m tg (.Call (.Name "range" p) [e] [] pos) (fun ρ => (f ρ).bind fun x => (pInt x).bind fun n => if inSpan n then .ok (rngL 0 n.toNat) else .bad) := by
  refine PI.weak (pi_range1 (o.gl hg) (o.g.bl _ hb) (pa_cons he pa_nil (good_star ge _ _)) (good_star ge _ _)) fun σ H R' ⟨B, ρ, G, ow, q⟩ => ?_
  have q := PK_bind.mp q
  refine ⟨B, ρ, G, ow, q.imp (fun x k v G1 H1 e1 r1 => ?_) fun _ z => z⟩
  cases x with
  | int i =>
    have k : PK (if inSpan i then R.ok (rngL 0 i.toNat) else .bad) _ _ := k
    split at k
    · rename_i hs
      obtain ⟨h1, h2⟩ := span_of hs
      exact ⟨i, by rw [int_of (m := .bor) r1], h1, h2, k _ G1 H1 e1 items_rng⟩
    · exact k.elim
  | _ => exact k.elim
theorem reps_rng {K : PySem.W.Frag} {G : Hp} : ∀ l : List Nat, Reps K G (l.map fun k => PV.int (0 + (k : Nat))) (l.map fun k => V.int (0 + (k : Nat)))
  | [] => reps_nil.mpr rfl
  | k :: l => reps_cons.mpr ⟨_, _, rfl, rep_int.mpr rfl, reps_rng l⟩
theorem se_lrg (o : XOk Γ N sc so W X) (hh : Γ.hot = false) {e : Expr} {p p2 pos pos2 : Pos} {f : Env → R PV} (hb : ("range" : Str) ∈ Γ.bl) (hg : glb sc "range" = true) (hb2 : ("list" : Str) ∈ Γ.bl) (hg2 : glb sc "list" = true) (ge : good e = true) (he : SE Γ W X .bor e f) :
    SE Γ W X .fre (.Call (.Name "list" p2) [.Call (.Name "range" p) [e] [] pos] [] pos2) (fun ρ => (f ρ).bind fun x => (pInt x).bind fun n => if n ≤ 1000000 ∧ -1000000 ≤ n then .ok (.lst (rngL 0 n.toNat)) else .bad) := by
  refine PE.weak (pe_listRg (o.calm hh) (o.gl hg2) (o.g.bl _ hb2) (prg_1 (o.gl hg) (o.g.bl _ hb) he (good_star ge _ _))) fun σ H Q ⟨B, ρ, G, ow, q⟩ => ?_
  have q := PK_bind.mp q
  refine ⟨B, ρ, G, ow, q.imp (fun x k v G1 H1 e1 r1 => ?_) fun _ z => z⟩
  cases x with
  | int i =>
    have k : PK (if i ≤ 1000000 ∧ -1000000 ≤ i then R.ok (PV.lst (rngL 0 i.toNat)) else .bad) _ _ := k
    split at k
    · rename_i hs
      refine ⟨i, by rw [int_of (m := .bor) r1], ⟨by omega, by omega, by omega, by omega, by omega⟩, fun q hq => ?_⟩
      have e2 : i - 0 = i := by omega
      refine k _ _ _ (e1.trans (Ext.fresh e1.gh hq)) ⟨q, rgV 0 i, rfl, e1.hh.free hq, e1.gh.free hq, upd_same, ?_⟩
      unfold rgV rngL
      rw [e2]
      exact reps_rng _
    · exact k.elim
  | _ => exact k.elim
theorem reps_snoc {K : PySem.W.Frag} {G : Hp} : ∀ {xs : List PV} {vs : List V} {x : PV} {v : V}, Reps K G xs vs → Rep K G x v → Reps K G (xs ++ [x]) (vs ++ [v])
  | [], vs, x, v, h, r => by
    rw [reps_nil.mp h]
    exact reps_cons.mpr ⟨v, [], rfl, r, reps_nil.mpr rfl⟩
  | y :: xs, vs, x, v, h, r => by
    obtain ⟨u, us, rfl, h1, h2⟩ := reps_cons.mp h
    exact reps_cons.mpr ⟨u, us ++ [v], rfl, h1, reps_snoc h2 r⟩
theorem lay_reps {G H : Hp} (s : Same G H) {xs ys : List PV} {vs us : List V} (rx : Reps X.K G xs vs) (ry : Reps X.K G ys us) {T : Nat → Addr} (hT : ∀ k, k < min xs.length ys.length → H (T k) = none) (inj : ∀ i j, i < min xs.length ys.length → j < min xs.length ys.length → T i = T j → i = j) :
    ∀ j, j ≤ min xs.length ys.length → ∃ G', Ext G H G' (layP H T (fun k => vs.getD k (.ref 0)) (fun k => us.getD k (.ref 0)) j) ∧ Reps X.K G' ((pZip xs ys).take j) ((List.range j).map fun k => .ref (T k)) := by
  intro j
  induction j with
  | zero => exact fun _ => ⟨G, Ext.refl s, reps_nil.mpr rfl⟩
  | succ j ih =>
    intro hj
    obtain ⟨G1, e1, r1⟩ := ih (by omega)
    have hx : xs[j]? = some xs[j] := List.getElem?_eq_getElem (show j < xs.length by omega)
    have hy : ys[j]? = some ys[j] := List.getElem?_eq_getElem (show j < ys.length by omega)
    obtain ⟨v, q1, p1⟩ := rx.get hx
    obtain ⟨u, q2, p2⟩ := ry.get hy
    have hn : layP H T (fun k => vs.getD k (.ref 0)) (fun k => us.getD k (.ref 0)) j (T j) = none := by
      rw [layP_other fun i hi e => by
        have := inj i j (by omega) (by omega) e
        omega]
      exact hT j (by omega)
    have ev : vs.getD j (.ref 0) = v := by rw [List.getD_eq_getElem?_getD, q1]; rfl
    have eu : us.getD j (.ref 0) = u := by rw [List.getD_eq_getElem?_getD, q2]; rfl
    obtain ⟨G2, e2, r2⟩ := pair_new (X := X) (H := layP H T (fun k => vs.getD k (.ref 0)) (fun k => us.getD k (.ref 0)) j) e1.gh hn (p1.mono (e1.gg s)) (p2.mono (e1.gg s))
    refine ⟨G2, e1.trans (by
      show Ext _ _ _ (upd _ (T j) (.tup [vs.getD j (.ref 0), us.getD j (.ref 0)]))
      rw [ev, eu]
      exact e2), ?_⟩
    have z := zip_get hx hy
    rw [List.take_add_one, z, List.range_succ, List.map_append]
    exact reps_snoc (r1.mono (e2.gg e1.gh)) r2
theorem se_lzip (o : XOk Γ N sc so W X) (hh : Γ.hot = false) {e e2 : Expr} {p p2 pos pos2 : Pos} {f f2 : Env → R PV} (hb : ("zip" : Str) ∈ Γ.bl) (hg : glb sc "zip" = true) (hb2 : ("list" : Str) ∈ Γ.bl) (hg2 : glb sc "list" = true) (ge : good e = true) (ge2 : good e2 = true) (he : SE Γ W X .bor e f) (he2 : SE Γ W X .bor e2 f2) :
    SE Γ W X .fre (.Call (.Name "list" p2) [.Call (.Name "zip" p) [e, e2] [] pos] [] pos2) (fun ρ => (f ρ).bind fun x => (f2 ρ).bind fun y => pLZ x y) := by
  refine PE.weak (pe_listZip (o.calm hh) (o.gl hg2) (o.g.bl _ hb2) (pzp (o.gl hg) (o.g.bl _ hb) he he2 (good_star ge _ _) (good_star ge2 _ _) (by rw [good_star ge2]; rfl)) rfl) fun σ H Q ⟨B, ρ, G, ow, q⟩ => ?_
  have q := PK_bind.mp q
  refine ⟨B, ρ, G, ow, q.imp (fun x k v G1 H1 e1 r1 => ?_) fun _ z => z⟩
  refine ⟨B, ρ, G1, ow.step e1, (PK_bind.mp k).imp (fun y k u G2 H2 e2 r2 => ?_) fun _ z => Ke.step e1 z⟩
  have rm : RepM .bor X.K H G2 H2 x v := RepT.mono (e2.gg e1.gh) e2.hh r1
  cases x with
  | lst xs =>
    cases y with
    | lst ys =>
      have k : PK (if min xs.length ys.length ≤ LIM then R.ok (PV.lst (pZip xs ys)) else .bad) _ _ := k
      split at k
      · rename_i hl
        obtain ⟨a, vs, rfl, h1, ra⟩ := lst_of e2.gh rm
        obtain ⟨b, us, rfl, h2, rb⟩ := lst_of e2.gh r2
        refine ⟨a, b, vs, us, rfl, rfl, SqL.of h1, SqL.of h2, by rw [ra.length, rb.length]; exact hl, fun T q hT inj hq => ?_⟩
        rw [ra.length, rb.length] at hT inj ⊢
        obtain ⟨G3, e3, r3⟩ := lay_reps e2.gh ra rb (fun k hk => (hT k hk).1) inj _ (Nat.le_refl _)
        have hq3 : layP H2 T (fun k => vs.getD k (.ref 0)) (fun k => us.getD k (.ref 0)) (min xs.length ys.length) q = none := by
          rw [layP_other fun i hi => (hT i hi).2]
          exact hq
        rw [List.take_of_length_le (by rw [zip_len]; exact Nat.le_refl _)] at r3
        refine k _ _ _ ((e1.trans e2).trans (e3.trans (Ext.fresh e3.gh hq3))) ⟨q, _, rfl, ((e1.trans e2).trans e3).hh.free hq3, e3.gh.free hq3, upd_same, r3⟩
      · exact k.elim
    | _ => exact k.elim
  | _ => cases y <;> exact k.elim
theorem si_rng2 (o : XOk Γ N sc so W X) {m : Mode} {tg e e2 : Expr} {p pos : Pos} {f f2 : Env → R PV} (hb : ("range" : Str) ∈ Γ.bl) (hg : glb sc "range" = true) (ge : good e = true) (ge2 : good e2 = true) (he : SE Γ W X .bor e f) (he2 : SE Γ W X .bor e2 f2) :
    SI Γ W X m tg (.Call (.Name "range" p) [e, e2] [] pos) (fun ρ => (f ρ).bind fun x => (f2 ρ).bind fun y => (pInt x).bind fun i => (pInt y).bind fun j => if inSpan i && inSpan j then .ok (rngL i (j - i).toNat) else .bad) := by
  refine PI.weak (pi_range2 (o.gl hg) (o.g.bl _ hb) (pa_cons he (pa_cons he2 pa_nil (good_star ge2 _ _)) (good_star ge _ _)) (by rw [good_star ge, good_star ge2]; rfl) (good_star ge2 _ _)) fun σ H R' ⟨B, ρ, G, ow, q⟩ => ?_
  have q := PK_bind.mp q
  refine ⟨B, ρ, G, ow, q.imp (fun x k v G1 H1 e1 r1 => ?_) fun _ z => z⟩
  refine ⟨B, ρ, G1, ow.step e1, (PK_bind.mp k).imp (fun y k u G2 H2 e2 r2 => ?_) fun _ z => Ke.step e1 z⟩
  cases x with
  | int i =>
    cases y with
    | int j =>
      have k : PK (if inSpan i && inSpan j then R.ok (rngL i (j - i).toNat) else .bad) _ _ := k
      split at k
      · rename_i hs
        rw [Bool.and_eq_true] at hs
        obtain ⟨h1, h2⟩ := span_of hs.1
        obtain ⟨h3, h4⟩ := span_of hs.2
        exact ⟨i, j, by rw [int_of (m := .bor) r1, int_of (m := .bor) r2], ⟨h1, h2, h3, h4⟩, k _ G2 H2 (e1.trans e2) items_rng⟩
      · exact k.elim
    | _ => exact k.elim
  | _ => exact k.elim
def pRng3 (x y z : PV) : R (List PV) := (pInt x).bind fun i => (pInt y).bind fun j => match z with
    | .int (-1) => if inSpan i && inSpan j then .ok ((List.range (i - j).toNat).map fun k => .int (i - (k : Nat))) else .bad
    | _ => .bad
theorem si_rng3 (o : XOk Γ N sc so W X) {m : Mode} {tg e e2 e3 : Expr} {p pos : Pos} {f f2 f3 : Env → R PV} (hb : ("range" : Str) ∈ Γ.bl) (hg : glb sc "range" = true) (ge : good e = true) (ge2 : good e2 = true) (ge3 : good e3 = true) (he : SE Γ W X .bor e f) (he2 : SE Γ W X .bor e2 f2) (he3 : SE Γ W X .bor e3 f3) :
    SI Γ W X m tg (.Call (.Name "range" p) [e, e2, e3] [] pos) (fun ρ => (f ρ).bind fun x => (f2 ρ).bind fun y => (f3 ρ).bind fun z => pRng3 x y z) := by
  refine PI.weak (pi_range3 (o.gl hg) (o.g.bl _ hb) (pa_cons he (pa_cons he2 (pa_cons he3 pa_nil (good_star ge3 _ _)) (good_star ge2 _ _)) (good_star ge _ _)) (good_star ge _ _) (good_any (by simp [ge2, ge3]))) fun σ H R' ⟨B, ρ, G, ow, q⟩ => ?_
  have q := PK_bind.mp q
  refine ⟨B, ρ, G, ow, q.imp (fun x k v G1 H1 e1 r1 => ?_) fun _ z => z⟩
  refine ⟨B, ρ, G1, ow.step e1, (PK_bind.mp k).imp (fun y k u G2 H2 e2 r2 => ?_) fun _ z => Ke.step e1 z⟩
  refine ⟨B, ρ, G2, (ow.step e1).step e2, (PK_bind.mp k).imp (fun z k w G3 H3 e3 r3 => ?_) fun _ z => Ke.step (e1.trans e2) z⟩
  cases x with
  | int i =>
    cases y with
    | int j =>
      have k : PK (match z with
        | .int (-1) => if inSpan i && inSpan j then R.ok ((List.range (i - j).toNat).map fun k => PV.int (i - (k : Nat))) else .bad
        | _ => .bad) _ _ := k
      split at k
      · split at k
        · rename_i hs
          rw [Bool.and_eq_true] at hs
          obtain ⟨h1, h2⟩ := span_of hs.1
          obtain ⟨h3, h4⟩ := span_of hs.2
          exact ⟨i, j, -1, (i - j).toNat, by rw [int_of (m := .bor) r1, int_of (m := .bor) r2, int_of (m := .bor) r3], RgC.neg h1 h2 h3 h4, k _ G3 H3 ((e1.trans e2).trans e3) items_down⟩
        · exact k.elim
      · exact k.elim
    | _ => exact k.elim
  | _ => exact k.elim

/-! ### comprehensions -/
theorem wipe_at {σ : L2.St} {j : Nat} : ∀ {vs : List Nat}, (wipe σ vs)[j]? = if j ∈ vs then (σ[j]?).map fun _ => none else σ[j]?
  | [] => by simp [wipe]
  | v :: vs => by
    unfold wipe
    by_cases hj : v = j
    · subst hj
      rw [if_pos List.mem_cons_self]
      by_cases hl : v < σ.length
      · rw [List.getElem?_set_self (by rw [wipe_length]; exact hl), List.getElem?_eq_getElem hl]
        rfl
      · rw [List.getElem?_eq_none (by rw [List.length_set, wipe_length]; omega), List.getElem?_eq_none (by omega)]
        rfl
    · rw [List.getElem?_set_ne hj, wipe_at]
      by_cases hm : j ∈ vs
      · rw [if_pos hm, if_pos (List.mem_cons_of_mem _ hm)]
      · rw [if_neg hm, if_neg (by simp only [List.mem_cons, not_or]; exact ⟨fun e => hj e.symm, hm⟩)]
theorem setS_at {j : Nat} : ∀ {is : List Nat} {σ : L2.St} {vs : List V}, j ∉ is → (setS σ is vs)[j]? = σ[j]?
  | [], _, _, _ => rfl
  | i :: is, σ, [], _ => rfl
  | i :: is, σ, v :: vs, h => by
    simp only [List.mem_cons, not_or] at h
    unfold setS
    rw [setS_at h.2, List.getElem?_set_ne (fun e => h.1 e.symm)]
theorem wipe_setS {σ : L2.St} {tg : List Nat} {vs : List V} : wipe (setS (wipe σ tg) tg vs) tg = wipe σ tg := by
  apply List.ext_getElem?
  intro j
  rw [wipe_at, wipe_at]
  by_cases hm : j ∈ tg
  · rw [if_pos hm, if_pos hm]
    by_cases hl : j < σ.length
    · rw [List.getElem?_eq_getElem (by rw [setS_length, wipe_length]; exact hl), List.getElem?_eq_getElem hl]
      rfl
    · rw [List.getElem?_eq_none (by rw [setS_length, wipe_length]; omega), List.getElem?_eq_none (by omega)]
  · rw [if_neg hm, if_neg hm, setS_at hm, wipe_at, if_neg hm]
theorem ow_wipe {K : PySem.W.Frag} {B : Bd} {ρ : Env} {σ : L2.St} {G H : Hp} (o : Ow K B ρ σ G H) (i : Nat) : Ow K B (ρ.set i .no) (σ.set i none) G H := by
  have sgt : ∀ (j : Nat) (s : SV), (ρ.set i SV.no)[j]? = some s → s ≠ .no → ρ[j]? = some s ∧ j ≠ i := fun j s h hn => by
    by_cases hj : i = j
    · subst hj
      by_cases hi : i < ρ.length
      · rw [List.getElem?_set_self hi] at h
        cases h
        exact absurd rfl hn
      · rw [List.getElem?_eq_none (by simp; omega)] at h
        cases h
    · rw [List.getElem?_set_ne hj] at h
      exact ⟨h, fun e => hj e.symm⟩
  refine ⟨o.ext, o.cl, o.low, by simp [o.len], fun j s h => ?_, fun j k xs ys a h1 h2 h3 h4 => ?_⟩
  · cases s with
    | no => trivial
    | sh x =>
      obtain ⟨h', n⟩ := sgt j _ h (fun z => nomatch z)
      have q := o.slot j _ h'
      rw [List.getElem?_set_ne (fun e => n e.symm)]
      exact q
    | ow x =>
      obtain ⟨h', n⟩ := sgt j _ h (fun z => nomatch z)
      have q := o.slot j _ h'
      rw [List.getElem?_set_ne (fun e => n e.symm)]
      exact q
    | od kvs =>
      obtain ⟨h', n⟩ := sgt j _ h (fun z => nomatch z)
      have q := o.slot j _ h'
      rw [List.getElem?_set_ne (fun e => n e.symm)]
      exact q
    | fn =>
      obtain ⟨h', n⟩ := sgt j _ h (fun z => nomatch z)
      have q := o.slot j _ h'
      rw [List.getElem?_set_ne (fun e => n e.symm)]
      exact q
  · obtain ⟨q1, n1⟩ := sgt j _ h1 (fun z => nomatch z)
    obtain ⟨q2, n2⟩ := sgt k _ h2 (fun z => nomatch z)
    rw [List.getElem?_set_ne (fun e => n1 e.symm)] at h3
    rw [List.getElem?_set_ne (fun e => n2 e.symm)] at h4
    exact o.apart j k xs ys a q1 q2 h3 h4
theorem ow_wipes {K : PySem.W.Frag} {B : Bd} {ρ : Env} {σ : L2.St} {G H : Hp} (o : Ow K B ρ σ G H) : ∀ tg : List Nat, Ow K B (killAll ρ tg) (wipe σ tg) G H
  | [] => o
  | i :: is => ow_wipe (ow_wipes o is) i
abbrev W0 : WX := fun _ _ _ _ => False
theorem compL_nx {el co : Env → R PV} {asg : PV → Option Env} : ∀ {xs : List PV} {c : Nat}, compL el co asg xs ≠ .exn c
  | [], c, h => by cases h
  | x :: xs, c, h => by
    unfold compL at h
    split at h
    · cases h
    · split at h
      · split at h
        · cases e : compL el co asg xs with
          | ok z => rw [e] at h; cases h
          | exn d => exact compL_nx e
          | bad => rw [e] at h; cases h
        · cases h
      · exact compL_nx h
      · cases h
/-- the reading of a comprehension -/
theorem comp_rd {K : PySem.W.Frag} {fi : Env → R (List PV)} {fe fc : Env → R PV} {tg : List Nat} {tp : Bool} {own : List (Str × Nat)} (hown : own.map (·.2) = tg) (σ : L2.St) (H : Hp) (Q : VK)
    (h : rdE Γ W K .fre (fun ρ => (fi ρ).bind fun xs => (compL fe fc (fun x => asgT tg tp x (killAll ρ tg)) xs).bind fun ys => if xs.length ≤ LIM then R.ok (PV.lst ys) else .bad) σ H Q) :
    tLc (rdI Γ W K .bor fi) (rdG K tg tp) (rdT Γ W0 K fc) (rdE Γ W0 K .esc fe) (own.map (·.2)) σ H Q := by
  rw [hown]
  obtain ⟨B, ρ, G, ow, q⟩ := h
  refine ⟨B, ρ, G, ow, (PK_bind.mp q).imp (fun xs k J G1 H1 e1 it D hD => ?_) fun _ z => z⟩
  have k := PK_bind.mp k
  cases ec : compL fe fc (fun x => asgT tg tp x (killAll ρ tg)) xs with
  | bad => rw [ec] at k; exact k.elim
  | exn c => exact absurd ec compL_nx
  | ok ys =>
    rw [ec] at k
    have k : PK (if xs.length ≤ LIM then R.ok (PV.lst ys) else .bad) _ _ := k
    split at k
    · rename_i hlim
      refine ⟨fun i m H2 => i + m = xs.length ∧ ∃ G2 acc don rst, Ext G1 H1 G2 H2 ∧ H2 D = some (.lst acc) ∧ G2 D = none ∧ Reps K G2 don acc ∧ don.length ≤ i ∧ compL fe fc (fun x => asgT tg tp x (killAll ρ tg)) (xs.drop i) = .ok rst ∧ don ++ rst = ys, ⟨xs.length, by omega, G1, [], [], ys, Ext.fresh e1.gh hD, upd_same, e1.gh.free hD, reps_nil.mpr rfl, Nat.le_refl _, by simpa using ec, rfl⟩, ?_⟩
      rintro i m H2 ⟨him, G2, acc, don, rst, e2, h2, g2, r2, hl, hc, hd⟩
      have ci : CI .bor G1 H1 G2 H2 := ⟨e2.gg e1.gh, e2.gh, e2.hh⟩
      by_cases hi : i < xs.length
      · refine .inr ⟨it.goes i G2 H2 hi ci, fun H3 => (i + 1) + (m - 1) = xs.length ∧ ∃ G2 acc don rst, Ext G1 H1 G2 H3 ∧ H3 D = some (.lst acc) ∧ G2 D = none ∧ Reps K G2 don acc ∧ don.length ≤ i + 1 ∧ compL fe fc (fun x => asgT tg tp x (killAll ρ tg)) (xs.drop (i + 1)) = .ok rst ∧ don ++ rst = ys, fun H3 h3 => ⟨m - 1, by omega, h3⟩, fun v H3 y => ?_⟩
        obtain ⟨G3, x, e3, hx, rx⟩ := it.yields i G2 H2 v H3 hi e2.gh ci y
        have dr : xs.drop i = x :: xs.drop (i + 1) := by
          rw [List.drop_eq_getElem_cons hi]
          have := List.getElem?_eq_getElem hi
          rw [hx] at this
          rw [Option.some.inj this]
        rw [dr] at hc
        unfold compL at hc
        have ow3 := ow_wipes (((ow.step e1).step e2).step e3) tg
        have h3D : H3 D = some (.lst acc) := e3.hh.lst h2
        have g3D : G3 D = none := by rw [e3.old _ _ h2 fun _ z => by cases z]; exact g2
        split at hc
        · cases hc
        · rename_i ρ1 ea
          refine ow_asgT ow3 rx ea fun vs ow4 => ⟨wipe_setS, ?_⟩
          split at hc
          · rename_i eco
            split at hc
            · rename_i y eel
              refine ⟨B, ρ1, G3, ow4, ?_⟩
              rw [eco]
              refine ⟨true, rfl, fun G5 H5 e5 => iteT ⟨B, ρ1, G5, ow4.step e5, ?_⟩⟩
              rw [eel]
              intro w G6 H6 e6 rw'
              cases ecl : compL fe fc (fun x => asgT tg tp x (killAll ρ tg)) (xs.drop (i + 1)) with
              | bad => rw [ecl] at hc; cases hc
              | exn c => exact absurd ecl compL_nx
              | ok rst' =>
                rw [ecl] at hc
                cases hc
                have e36 := (e3.trans e5).trans e6
                have h6D : H6 D = some (.lst acc) := e36.hh.lst h2
                have g6D : G6 D = none := by rw [e36.old _ _ h2 fun _ z => by cases z]; exact g2
                have e16 := e2.trans e36
                refine ⟨acc, h6D, ?_, by omega, G6, acc ++ [w], don ++ [y], rst', ⟨e16.hh.put hD h6D, fun b u q => ?_, e16.sg, e16.old, e16.nt⟩, upd_same, g6D, (r2.mono (e36.gg e2.gh)).snoc rw', by simp; omega, rfl, by simpa using hd⟩
                · rw [r2.length]
                  have := lim_line
                  omega
                · rw [upd_ne (ne_of_none q g6D)]
                  exact e16.gh b u q
            · cases hc
          · rename_i eco
            refine ⟨B, ρ1, G3, ow4, ?_⟩
            rw [eco]
            refine ⟨false, rfl, fun G5 H5 e5 => iteF ?_⟩
            have e35 := e3.trans e5
            exact ⟨by omega, G5, acc, don, rst, e2.trans e35, e35.hh.lst h2, by rw [e35.old _ _ h2 fun _ z => by cases z]; exact g2, r2.mono (e35.gg e2.gh), by omega, hc, hd⟩
          · cases hc
      · have ei : i = xs.length := by omega
        refine .inl ⟨by rw [ei]; exact it.stops G2 H2 ci, ?_⟩
        rw [ei, List.drop_length] at hc
        cases hc
        rw [List.append_nil] at hd
        subst hd
        exact k _ G2 H2 (e1.trans e2) ⟨D, acc, rfl, e1.hh.free hD, g2, h2, r2⟩
    · exact k.elim
theorem xok_blk (o : XOk Γ N sc so W X) {scope : Scope} (hk : scope.kind = .function) (s : Shared) (H : Hp) (C : Addr) (cl : List (Str × Addr)) (fp : List Addr) :
    XOk Γ N (relS scope sc) scope W0 (X.blk s H scope (compEnvC scope cl C X.env) fp) := by
  have e : (X.blk s H scope (compEnvC scope cl C X.env) fp).env.scope = relS scope sc := by
    rw [← o.hsc]
    rfl
  refine ⟨o.g, o.hN, o.nd, o.db, e, hk, fun h => o.calm h, fun x hx => ?_, fun h => o.room h, o.un, fun _ => takes0, fun h1 h2 => (let ⟨a, b, c, d⟩ := o.la h1 h2; ⟨a, b, c, d⟩), fun h => ⟨(let ⟨v, out, f, a, b, c⟩ := (o.ar h).fra; ⟨v, out, f, a, b, c⟩), fun u s' ⟨_, _, _, _, _, _, _, _, _, _, _, _, _, _, _, _, _, _, w⟩ => w.elim⟩⟩
  have st : ∀ k, k ≠ .free → scope.names.lookup x = some k → (X.blk s H scope (compEnvC scope cl C X.env) fp).env.scope.names.lookup x = some k := fun k hk h => by
    rw [e]
    exact lookup_relS_keep hk h
  unfold loc at hx
  split at hx
  · rename_i hl
    exact ⟨.inl (st _ (by decide) hl), .inr (st _ (by decide) hl)⟩
  · rename_i hl
    refine ⟨.inr (st _ (by decide) hl), .inl ?_⟩
    show (scope.names.lookup x == some .cell) = true
    rw [hl]
    rfl
  · cases hx
end
end Pf

set_option Elab.async false
set_option linter.all false
set_option maxRecDepth 100000
set_option autoImplicit false
set_option maxHeartbeats 4000000
/-! PfG: enumerate over zip of two lists -/
namespace PfE
open PySem
open PySem.Sem (wp)
section
variable {prog : Program} {w : World} {A : Around} {E : Value → Shared → Prop} {s : Shared}
theorem alive_none {a : Addr} {Q : Option Obj → Shared → Prop} (ho : s.heap.get? a = none) (h : Q none s) : wpAny (model prog w) A (loadIfAlive a) Q E s := by
  have h' : Q (s.heap.get? a) s := by rw [ho]; exact h
  exact fun _ _ _ => h'
/-- the zip's tuple is out, but gone -/
theorem free_dead {z TI TO T : Addr} {f : Bool} {Q : Bool → Shared → Prop} (hz : IsZipHeld s.heap z TI TO T f) (hT : s.heap.get? T = none) (h : Q true s) : wpAny (model prog w) A (Builtin.SmallTypes.ownedTupleIsFree (.ref z)) Q E s := by
  unfold Builtin.SmallTypes.ownedTupleIsFree
  refine wpAny_bind (wpAny_field hz rfl (x := rawInt T) rfl ?_)
  show wpAny _ _ (loadIfAlive ((T : Int).toNat) >>= _) _ _ _
  rw [Int.toNat_natCast]
  refine wpAny_bind (alive_none hT ?_)
  simp only [Option.isNone_none, if_true]
  exact wpAny_pure h
abbrev IsZipF (h : Heap) (z TI TO : Addr) (f0 : Value) (fl : Bool) : Prop :=
  h.get? z = some { cls := .type "zip", dict := none, data := .fields #[f0, .bool fl, .bool false, .ref TI, .ref TO], slots := #[] }
/-- the next pair, or the end, where the zip's last tuple is gone -/
theorem zip_dead {z TI TO T i1 i2 l1 l2 : Addr} {f : Bool} {i : Nat} {xs ys : Array Value} {a b : Value} {Q : Value → Shared → Prop} (hh : A.handled = none ∨ i < xs.size ∧ i < ys.size) (D : ZipApart z TI TO i1 i2 l1 l2)
    (hz : IsZipHeld s.heap z TI TO T f) (hT : s.heap.get? T = none) (hTI : IsPair s.heap TI (.ref i1) (.ref i2)) (hTO : IsPair s.heap TO a b)
    (g1 : s.heap.IsListIter i1 l1 i) (g2 : s.heap.IsListIter i2 l2 i) (m1 : s.heap.IsList l1 xs) (m2 : s.heap.IsList l2 ys)
    (yes : ∀ x y h', xs[i]? = some x → ys[i]? = some y → IsZip h' z TI TO (rawInt s.heap.objs.size) → IsPair h' TO x y → h'.IsListIter i1 l1 (i + 1) → h'.IsListIter i2 l2 (i + 1) → IsPair h' s.heap.objs.size x y →
      h'.objs.size = s.heap.objs.size + 1 → (∀ c o, c ∉ [z, TO, i1, i2] → s.heap.get? c = some o → h'.get? c = some o) → Q (.ref s.heap.objs.size) { s with heap := h' })
    (no : xs[i]? = none ∨ ys[i]? = none → ∀ h' e, (∀ c o, c ∉ [z, TO, i1, i2] → s.heap.get? c = some o → h'.get? c = some o) → (∃ o, h'.get? e = some o ∧ o.cls = .type "StopIteration") → E (.ref e) { s with heap := h' }) :
    wpAny (model prog w) A (Builtin.«zip.__next__» ⟨[.ref z], []⟩) (fun fin s' => ∃ v, fin = .done (.ret v) ∧ Q v s') E s := by
  have out : ∀ {c : Addr}, c ∉ [z, TO, i1, i2] → c ≠ z ∧ c ≠ TO ∧ c ≠ i1 ∧ c ≠ i2 := fun h => by
    simpa only [List.mem_cons, List.not_mem_nil, or_false, not_or] using h
  have stopNot : ∀ {h : Heap} {e : Addr} {f0 : Value}, IsZipF h z TI TO f0 f → (∃ o, h.get? e = some o ∧ o.cls = .type "StopIteration") → e ≠ z := fun q ⟨o, k, c⟩ n => by
    rw [n, q] at k
    cases k
    exact absurd c (by simp)
  refine wpAny_bind (m := field (.ref z) 2) (wpAny_field hz rfl (x := .bool false) rfl (wpAny_bind (m := field (.ref z) 3) (wpAny_field hz rfl (x := .ref TI) rfl (wpAny_bind (wpAny_seqItems hTI rfl (wpAny_bind (m := Builtin.SmallTypes.ownedTupleIsFree (.ref z)) (free_dead hz hT ?_)))))))
  simp only [if_true]
  refine wpAny_bind (wpAny_rule (wpAny_bind (wpAny_field hz rfl (x := .ref TO) rfl (wpAny_bind (wpAny_setField_rec hz (by simp) fun p1 hzp k1 => wpAny_bind ?_)))))
  have zp1 : IsZipF p1 z TI TO .ellipsis f := hzp
  clear hzp
  simp only [List.zipIdx_cons, List.zipIdx_nil, List.forIn_cons, List.forIn_nil]
  refine wpAny_bind (wpAny_bind (wpAny_onRaise (wpAny_bind (m := Builtin.SmallTypes.nextOf (.ref i1)) ?_)))
  have it1 := g1.extBut k1.extBut D.i1z
  have li1 := m1.extBut k1.extBut D.l1z
  cases ex : xs[i]? with
  | none =>
    have hh' : A.handled = none := hh.resolve_right fun c => by simp [Array.getElem?_eq_none_iff] at ex; omega
    refine wpAny_nextOf_list_end hh' it1 li1 ex fun p2 e k2 st => ?_
    have zp2 : IsZipF p2 z TI TO .ellipsis f := k2 _ _ D.i1z.symm zp1
    have ne := stopNot zp2 st
    obtain ⟨oe, ho, hc⟩ := st
    refine wpAny_setField_rec zp2 (by simp) fun p3 _ k3 => no (.inl ex) p3 e (fun c o hn q => ?_) ⟨oe, k3.extBut _ _ ne ho, hc⟩
    obtain ⟨n1, _, n3, _⟩ := out hn
    exact k3.extBut _ _ n1 (k2 _ _ n3 (k1.extBut _ _ n1 q))
  | some x =>
    refine wpAny_nextOf_list_item it1 li1 ex fun p2 j1 k2 => wpAny_pure ?_
    have to2 : IsPair p2 TO a b := k2.extBut _ _ D.TOi1 (k1.extBut _ _ D.TOz hTO)
    refine wpAny_bind (wpAny_seqItems to2 rfl (wpAny_bind (wpAny_updateSeq_pair to2 fun p3 hto k3 => wpAny_bind (wpAny_letGo (wpAny_pure (wpAny_bind (wpAny_bind (wpAny_onRaise (wpAny_bind (m := Builtin.SmallTypes.nextOf (.ref i2)) ?_)))))))))
    have to3 : IsPair p3 TO x b := hto
    clear hto
    have it2 := ((g2.extBut k1.extBut D.i2z).extBut k2.extBut D.i12.symm).extBut k3.extBut D.TOi2.symm
    have li2 := ((m2.extBut k1.extBut D.l2z).extBut k2.extBut D.l2i1).extBut k3.extBut D.l2TO
    have zp3 : IsZipF p3 z TI TO .ellipsis f := k3.extBut _ _ D.TOz.symm (k2.extBut _ _ D.i1z.symm zp1)
    have keep3 : ∀ c o, c ∉ [z, TO, i1, i2] → s.heap.get? c = some o → p3.get? c = some o := fun c o hn q =>
      have ⟨n1, n2, n3, _⟩ := out hn
      k3.extBut _ _ n2 (k2.extBut _ _ n3 (k1.extBut _ _ n1 q))
    cases ey : ys[i]? with
    | none =>
      have hh' : A.handled = none := hh.resolve_right fun c => by simp [Array.getElem?_eq_none_iff] at ey; omega
      refine wpAny_nextOf_list_end hh' it2 li2 ey fun p4 e k4 st => ?_
      have zp4 : IsZipF p4 z TI TO .ellipsis f := k4 _ _ D.i2z.symm zp3
      have ne := stopNot zp4 st
      obtain ⟨oe, ho, hc⟩ := st
      refine wpAny_setField_rec zp4 (by simp) fun p5 _ k5 => no (.inr ey) p5 e (fun c o hn q => ?_) ⟨oe, k5.extBut _ _ ne ho, hc⟩
      exact k5.extBut _ _ (out hn).1 (k4 _ _ (out hn).2.2.2 (keep3 c o hn q))
    | some y =>
      refine wpAny_nextOf_list_item it2 li2 ey fun p4 j2 k4 => wpAny_pure ?_
      have to4 : IsPair p4 TO x b := k4.extBut _ _ D.TOi2 to3
      refine wpAny_bind (wpAny_seqItems to4 rfl (wpAny_bind (wpAny_updateSeq_pair to4 fun p5 hto k5 => wpAny_bind (wpAny_letGo (wpAny_pure (wpAny_pure ?_))))))
      have to5 : IsPair p5 TO x y := hto
      clear hto
      refine wpAny_bind (wpAny_seqItems to5 rfl (wpAny_bind (wpAny_newTuple (wpAny_bind (m := Builtin.SmallTypes.ownedTupleHandOut (.ref z) (.ref p5.objs.size)) ?_))))
      have sz : p5.objs.size = s.heap.objs.size := by rw [k5.1, k4.1, k3.1, k2.1, k1.1]
      have zp5 : IsZipF p5 z TI TO .ellipsis f := k5.extBut _ _ D.TOz.symm (k4.extBut _ _ D.i2z.symm zp3)
      have j1' := ((j1.extBut k3.extBut D.TOi1.symm).extBut k4.extBut D.i12).extBut k5.extBut D.TOi1.symm
      have j2' := j2.extBut k5.extBut D.TOi2.symm
      have zl : z < p5.objs.size := Heap.lt_size zp5
      have zp6 : IsZipF (p5.push { cls := .type "tuple", data := .seq #[x, y] }) z TI TO .ellipsis f := Heap.get?_push_of_some _ zp5
      unfold Builtin.SmallTypes.ownedTupleHandOut
      refine wpAny_bind (wpAny_setField_rec zp6 (by simp) fun p7 zp7 k7 => ?_)
      have zp7' : IsZipF p7 z TI TO (rawInt p5.objs.size) f := zp7
      refine wpAny_setField_rec zp7' (by simp) fun p8 zp8 k8 => wpAny_pure ⟨_, rfl, ?_⟩
      have zp8' : IsZip p8 z TI TO (rawInt p5.objs.size) := zp8
      have up : ∀ c o, c ≠ z → p5.get? c = some o → p8.get? c = some o := fun c o n q => k8.extBut _ _ n (k7.extBut _ _ n (Heap.get?_push_of_some _ q))
      have new : IsPair p8 p5.objs.size x y := k8.extBut _ _ (Nat.ne_of_gt zl) (k7.extBut _ _ (Nat.ne_of_gt zl) (Heap.get?_push_size _ rfl))
      have sz8 : p8.objs.size = p5.objs.size + 1 := by rw [k8.1, k7.1, Heap.size_push]
      rw [sz] at zp8' new sz8
      show Q (.ref p5.objs.size) _
      rw [sz]
      exact yes x y p8 ex ey zp8' (up _ _ D.TOz to5) (j1'.at fun o q => up _ o D.i1z q) (j2'.at fun o q => up _ o D.i2z q) new sz8 fun c o hn q =>
        up c o (out hn).1 (k5.extBut _ _ (out hn).2.1 (k4.extBut _ _ (out hn).2.2.2 (keep3 c o hn q)))
/-- a zip between two turns, within another iterator -/
def ZOn (z TI TO i1 i2 l1 l2 : Addr) (i : Nat) (h : Heap) : Prop :=
  IsPair h TI (.ref i1) (.ref i2) ∧ (∃ a b, IsPair h TO a b) ∧ h.IsListIter i1 l1 i ∧ h.IsListIter i2 l2 i ∧ (IsZip h z TI TO .none ∨ ∃ T f, IsZipHeld h z TI TO T f)
theorem ZOn.zobj {z TI TO i1 i2 l1 l2 : Addr} {i : Nat} {h : Heap} (st : ZOn z TI TO i1 i2 l1 l2 i h) : ∃ f0 fl, IsZipF h z TI TO f0 fl := by
  obtain ⟨_, _, _, _, hz | ⟨T, f, hz⟩⟩ := st
  · exact ⟨_, _, hz⟩
  · exact ⟨_, _, hz⟩
theorem ZOn.frame {z TI TO i1 i2 l1 l2 : Addr} {i : Nat} {h h' : Heap} (st : ZOn z TI TO i1 i2 l1 l2 i h) (k : ∀ b ∈ [z, TI, TO, i1, i2], ∀ o, h.get? b = some o → h'.get? b = some o) : ZOn z TI TO i1 i2 l1 l2 i h' := by
  obtain ⟨hTI, ⟨a, b, hTO⟩, h1, h2, hz⟩ := st
  refine ⟨k TI (by simp) _ hTI, ⟨a, b, k TO (by simp) _ hTO⟩, h1.at fun o q => k i1 (by simp) o q, h2.at fun o q => k i2 (by simp) o q, ?_⟩
  rcases hz with hz | ⟨T, f, hz⟩
  · exact .inl (k z (by simp) _ hz)
  · exact .inr ⟨T, f, k z (by simp) _ hz⟩
theorem zon_item {z TI TO i1 i2 l1 l2 : Addr} {i : Nat} {xs ys : Array Value} {x y : Value} {Q : Value → Shared → Prop} (D : ZipApart z TI TO i1 i2 l1 l2) (st : ZOn z TI TO i1 i2 l1 l2 i s.heap)
    (hl1 : s.heap.IsList l1 xs) (hl2 : s.heap.IsList l2 ys) (hx : xs[i]? = some x) (hy : ys[i]? = some y)
    (hQ : ∀ h', ZOn z TI TO i1 i2 l1 l2 (i + 1) h' → IsPair h' s.heap.objs.size x y → h'.objs.size = s.heap.objs.size + 1 →
      (∀ c o, c ≠ z → c ≠ TO → c ≠ i1 → c ≠ i2 → s.heap.get? c = some o → h'.get? c = some o) → Q (.ref s.heap.objs.size) { s with heap := h' }) :
    wpAny (model prog w) A (Builtin.SmallTypes.nextOf (.ref z)) Q E s := by
  obtain ⟨f0, fl, hzo⟩ := st.zobj
  have hTy : s.TypeIs (.ref z) "zip" := ⟨_, hzo, rfl⟩
  unfold Builtin.SmallTypes.nextOf
  refine wpAny_bind (wpAny_callSpecial?_slot (name := Str.ofString "__next__") hTy F.slot_zip_next (wpAny_call_entry F.slot_zip_next hTy F.entry_zip_next ?_ (F.args_zip_next_1 _)))
  obtain ⟨hTI, ⟨a, b, hTO⟩, h1, h2, hz⟩ := st
  rcases hz with hz | ⟨T, f, hz⟩
  · exact zip_next_item D hz hTI hTO h1 h2 hl1 hl2 hx hy fun h' a1 a2 a3 a4 a5 a6 a7 => wpAny_pure (hQ h' ⟨a7 _ _ D.TIz D.TITO D.TIi1 D.TIi2 hTI, ⟨_, _, a2⟩, a3, a4, .inr ⟨_, _, a1⟩⟩ a5 a6 a7)
  · cases hT : s.heap.get? T with
    | none =>
      refine zip_dead (.inr ⟨(Array.getElem?_eq_some_iff.mp hx).1, (Array.getElem?_eq_some_iff.mp hy).1⟩) D hz hT hTI hTO h1 h2 hl1 hl2 (fun x' y' h' e1 e2 a1 a2 a3 a4 a5 a6 a7 => wpAny_pure ?_) fun c => by
        rcases c with c | c
        · rw [c] at hx; cases hx
        · rw [c] at hy; cases hy
      rw [hx] at e1
      rw [hy] at e2
      cases e1
      cases e2
      exact hQ h' ⟨a7 _ _ (by simp [D.TIz, D.TITO, D.TIi1, D.TIi2]) hTI, ⟨_, _, a2⟩, a3, a4, .inr ⟨_, _, a1⟩⟩ a5 a6 fun c o n1 n2 n3 n4 q => a7 c o (by simp [n1, n2, n3, n4]) q
    | some oT => exact zip_next_item_held D hz hT hTI h1 h2 hl1 hl2 hx hy fun h' a1 a3 a4 a5 a6 a7 => wpAny_pure (hQ h' ⟨a7 _ _ D.TIz D.TIi1 D.TIi2 hTI, ⟨a, b, a7 _ _ D.TOz D.TOi1 D.TOi2 hTO⟩, a3, a4, .inr ⟨_, _, a1⟩⟩ a5 a6 fun c o c1 c2 c3 c4 e => a7 c o c1 c3 c4 e)
theorem zon_end {z TI TO i1 i2 l1 l2 : Addr} {i : Nat} {xs ys : Array Value} {Q : Value → Shared → Prop} (hh : A.handled = none) (D : ZipApart z TI TO i1 i2 l1 l2) (st : ZOn z TI TO i1 i2 l1 l2 i s.heap)
    (hl1 : s.heap.IsList l1 xs) (hl2 : s.heap.IsList l2 ys) (hend : xs[i]? = none ∨ ys[i]? = none)
    (hE : ∀ h' e, (∀ c o, c ≠ z → c ≠ TO → c ≠ i1 → c ≠ i2 → s.heap.get? c = some o → h'.get? c = some o) → (∃ o, h'.get? e = some o ∧ o.cls = .type "StopIteration") → E (.ref e) { s with heap := h' }) :
    wpAny (model prog w) A (Builtin.SmallTypes.nextOf (.ref z)) Q E s := by
  obtain ⟨f0, fl, hzo⟩ := st.zobj
  have hTy : s.TypeIs (.ref z) "zip" := ⟨_, hzo, rfl⟩
  unfold Builtin.SmallTypes.nextOf
  refine wpAny_bind (wpAny_callSpecial?_slot (name := Str.ofString "__next__") hTy F.slot_zip_next (wpAny_call_entry F.slot_zip_next hTy F.entry_zip_next ?_ (F.args_zip_next_1 _)))
  obtain ⟨hTI, ⟨a, b, hTO⟩, h1, h2, hz⟩ := st
  rcases hz with hz | ⟨T, f, hz⟩
  · exact zip_next_end hh D hz hTI hTO h1 h2 hl1 hl2 hend hE
  · cases hT : s.heap.get? T with
    | none =>
      refine zip_dead (.inl hh) D hz hT hTI hTO h1 h2 hl1 hl2 (fun x y h' e1 e2 => ?_) fun _ h' e k st => hE h' e (fun c o n1 n2 n3 n4 q => k c o (by simp [n1, n2, n3, n4]) q) st
      rcases hend with c | c
      · rw [c] at e1; cases e1
      · rw [c] at e2; cases e2
    | some oT => exact zip_next_end_held hh D hz hT hTI h1 h2 hl1 hl2 hend fun h' e hk he => hE h' e (fun c o c1 _ c3 c4 x => hk c o c1 c3 c4 x) he
abbrev zfp (e z TI TO i1 i2 : Addr) : List Addr := [e, z, TI, TO, i1, i2]
theorem zfp_ne {e z TI TO i1 i2 c : Addr} (h : c ∉ zfp e z TI TO i1 i2) : c ≠ e ∧ c ≠ z ∧ c ≠ TI ∧ c ≠ TO ∧ c ≠ i1 ∧ c ≠ i2 := by
  refine ⟨?_, ?_, ?_, ?_, ?_, ?_⟩ <;> (intro q; exact h (by simp [q]))
theorem free_enum {e z : Addr} {j : Int} {old : Value} {Q : Bool → Shared → Prop} (he : IsEnum s.heap e z j old) (h : Q true s) : wpAny (model prog w) A (Builtin.SmallTypes.ownedTupleIsFree (.ref e)) Q E s := by
  unfold Builtin.SmallTypes.ownedTupleIsFree
  exact wpAny_bind (wpAny_field he rfl (x := .none) rfl (wpAny_pure h))
theorem enum_next_zip {e z TI TO i1 i2 l1 l2 : Addr} {i : Nat} {xs ys : Array Value} {x y old : Value} {Q : Option Value → Shared → Prop} (D : ZipApart z TI TO i1 i2 l1 l2)
    (he : IsEnum s.heap e z i old) (st : ZOn z TI TO i1 i2 l1 l2 i s.heap) (hl1 : s.heap.IsList l1 xs) (hl2 : s.heap.IsList l2 ys) (hx : xs[i]? = some x) (hy : ys[i]? = some y) (hef : e ∉ [z, TI, TO, i1, i2])
    (hQ : ∀ h', IsEnumOut h' e z ((i : Int) + 1) (.ref s.heap.objs.size) (s.heap.objs.size + 1) → ZOn z TI TO i1 i2 l1 l2 (i + 1) h' → IsPair h' s.heap.objs.size x y →
      h'.get? (s.heap.objs.size + 1) = some { cls := .type "tuple", data := .seq #[.int i s.toks, .ref s.heap.objs.size] } → h'.objs.size = s.heap.objs.size + 2 →
      (∀ b o, b ∉ zfp e z TI TO i1 i2 → s.heap.get? b = some o → h'.get? b = some o) → Q (some (.ref (s.heap.objs.size + 1))) { s with heap := h', toks := s.toks + 1 }) :
    wpAny (model prog w) A (pyNext (.ref e)) Q E s := by
  have hT : s.TypeIs (.ref e) "enumerate" := ⟨_, he, rfl⟩
  unfold pyNext
  refine wpAny_bind (wpAny_attempt (wpAny_callSpecial?_slot (name := Str.ofString "__next__") hT F.slot_enumerate_next (wpAny_call_entry F.slot_enumerate_next hT F.entry_enumerate_next ?_ (F.args_enumerate_next_1 _))))
  have en : e ≠ z ∧ e ≠ TI ∧ e ≠ TO ∧ e ≠ i1 ∧ e ≠ i2 := by
    refine ⟨?_, ?_, ?_, ?_, ?_⟩ <;> (intro q; exact hef (by simp [q]))
  have el : e < s.heap.objs.size := Heap.lt_size he
  refine wpAny_bind (m := field (.ref e) 2) (wpAny_field he rfl (x := .ref z) rfl (wpAny_bind (zon_item D st hl1 hl2 hx hy fun p1 st1 np sz1 k1 => ?_)))
  have e1 : IsEnum p1 e z i old := k1 _ _ en.1 en.2.2.1 en.2.2.2.1 en.2.2.2.2 he
  refine wpAny_bind (m := field (.ref e) 3) (wpAny_field e1 rfl (x := rawInt i) rfl (wpAny_bind (m := field (.ref e) 4) (wpAny_field e1 rfl (x := .none) rfl (wpAny_bind (m := mkInt i) (wpAny_mkInt ?_)))))
  refine wpAny_bind (m := setField (.ref e) 3 (rawInt ((i : Int) + 1))) (wpAny_setField_rec e1 (by simp) fun p2 e2 k2 => ?_)
  have e2' : IsEnum p2 e z ((i : Int) + 1) old := e2
  refine wpAny_bind (m := setField (.ref e) 4 .none) (wpAny_setField_rec e2' (by simp) fun p3 e3 k3 => ?_)
  have e3' : IsEnum p3 e z ((i : Int) + 1) old := e3
  have sz3 : p3.objs.size = s.heap.objs.size + 1 := by rw [k3.1, k2.1]; exact sz1
  refine wpAny_bind (m := newTuple [.int i s.toks, .ref s.heap.objs.size]) (wpAny_newTuple ?_)
  obtain ⟨p4, hp4⟩ : ∃ p4, p4 = p3.push { cls := .type "tuple", data := .seq #[.int i s.toks, .ref s.heap.objs.size] } := ⟨_, rfl⟩
  have e4 : IsEnum p4 e z ((i : Int) + 1) old := by rw [hp4]; exact Heap.get?_push_of_some _ e3'
  have t4 : p4.get? (s.heap.objs.size + 1) = some { cls := .type "tuple", data := .seq #[.int i s.toks, .ref s.heap.objs.size] } := by rw [hp4, ← sz3]; exact Heap.get?_push_size _ rfl
  have k4 : ∀ c o, c ≠ e → p1.get? c = some o → p4.get? c = some o := fun c o n q => by rw [hp4]; exact Heap.get?_push_of_some _ (k3.extBut c o n (k2.extBut c o n q))
  have sz4 : p4.objs.size = s.heap.objs.size + 2 := by rw [hp4, Heap.size_push, sz3]
  rw [sz3, ← hp4]
  refine wpAny_bind (m := Builtin.SmallTypes.ownedTupleIsFree (.ref e)) (free_enum e4 ?_)
  simp only [if_true]
  refine wpAny_bind (wpAny_rule (wpAny_bind (wpAny_field e4 rfl (x := old) rfl (wpAny_bind (wpAny_setField_rec e4 (by simp) fun p5 e5 k5 => ?_)))))
  have e5' : IsEnum p5 e z ((i : Int) + 1) (.ref s.heap.objs.size) := e5
  refine wpAny_bind (m := Builtin.SmallTypes.ownedTupleHandOut (.ref e) (.ref (s.heap.objs.size + 1))) ?_
  unfold Builtin.SmallTypes.ownedTupleHandOut
  refine wpAny_bind (wpAny_setField_rec e5' (by simp) fun p6 e6 k6 => ?_)
  have e6' : IsEnumOut p6 e z ((i : Int) + 1) (.ref s.heap.objs.size) (s.heap.objs.size + 1) := e6
  refine wpAny_setField_rec e6' (by simp) fun p7 e7 k7 => wpAny_bind (wpAny_letGo (wpAny_pure ⟨_, rfl, wpAny_pure ?_⟩))
  have k47 : ∀ c o, c ≠ e → p4.get? c = some o → p7.get? c = some o := fun c o n q => k7.extBut c o n (k6.extBut c o n (k5.extBut c o n q))
  have ne : ∀ {c : Addr}, s.heap.objs.size ≤ c → c ≠ e := fun h => Nat.ne_of_gt (Nat.lt_of_lt_of_le el h)
  refine hQ p7 e7 (st1.frame fun c hc o q => k47 c o (fun x => hef (x ▸ hc)) (k4 c o (fun x => hef (x ▸ hc)) q)) (k47 _ _ (ne (Nat.le_refl _)) (k4 _ _ (ne (Nat.le_refl _)) np)) (k47 _ _ (ne (Nat.le_succ _)) t4) (by rw [k7.1, k6.1, k5.1, sz4]) fun c o hc q => ?_
  obtain ⟨n1, n2, n3, n4, n5, n6⟩ := zfp_ne hc
  exact k47 _ _ n1 (k4 _ _ n1 (k1 _ _ n2 n4 n5 n6 q))
theorem enum_end_zip {e z TI TO i1 i2 l1 l2 : Addr} {i : Nat} {xs ys : Array Value} {old : Value} {Q : Option Value → Shared → Prop} (hh : A.in1.handled = none) (D : ZipApart z TI TO i1 i2 l1 l2)
    (he : IsEnum s.heap e z i old) (st : ZOn z TI TO i1 i2 l1 l2 i s.heap) (hl1 : s.heap.IsList l1 xs) (hl2 : s.heap.IsList l2 ys) (hend : xs[i]? = none ∨ ys[i]? = none)
    (hQ : ∀ h', (∀ b o, b ∉ zfp e z TI TO i1 i2 → s.heap.get? b = some o → h'.get? b = some o) → Q none { s with heap := h' }) : wpAny (model prog w) A (pyNext (.ref e)) Q E s := by
  have hT : s.TypeIs (.ref e) "enumerate" := ⟨_, he, rfl⟩
  unfold pyNext
  refine wpAny_bind (wpAny_attempt (wpAny_callSpecial?_slot (name := Str.ofString "__next__") hT F.slot_enumerate_next
    (wpAny_call_entry F.slot_enumerate_next hT F.entry_enumerate_next ?_ (F.args_enumerate_next_1 _))))
  show wpAny _ _ (field (.ref e) 2 >>= _) _ _ _
  refine wpAny_bind (wpAny_field he rfl (x := .ref z) rfl ?_)
  refine wpAny_bind (zon_end hh D st hl1 hl2 hend fun h' x hk hx' => ?_)
  obtain ⟨o, ho, hc⟩ := hx'
  refine wpAny_bind (wpAny_isInstance (T := "StopIteration") (b := true) ⟨o, ho, hc⟩ isSubtype_stop ?_)
  exact wpAny_pure (hQ _ fun b o hb q => let ⟨_, n2, _, n4, n5, n6⟩ := zfp_ne hb; hk b o n2 n4 n5 n6 q)
theorem meets_newZ (z TI TO : Addr) :
    Meets (Builtin.«enumerate.__new__» ⟨[.type "enumerate", .ref z], []⟩) (fun _ R s => IsZip s.heap z TI TO .none ∧
      R (.ok (.ret (.ref s.heap.objs.size))) { s with heap := s.heap.push (enObj z) }) :=
  .of_wp fun prog w A R s h => by
    obtain ⟨hp, g, d, tk, os⟩ := s
    obtain ⟨hl, h⟩ := h
    have hsub := sub_enumerate
    have hL : IsZip (Shared.heap ⟨hp, g, d, tk, os⟩) z TI TO .none := hl
    wp_walk using wpAny_loadPart' hl
    refine wpAny_stack_any fun st => wpAny_pure ?_
    split
    · rename_i c _ _ _ _ _
      cases (c == Value.type "enumerate") <;>
        (wp_walk using wpAny_loadPart' hl, wpAny_pyIter_zip hL
         exact ⟨_, rfl, h⟩)
    · wp_walk using wpAny_loadPart' hl, wpAny_pyIter_zip hL
      exact ⟨_, rfl, h⟩
theorem call_enumZ {z TI TO : Addr} {Q : Value → Shared → Prop} (hL : IsZip s.heap z TI TO .none)
    (h : ∀ h', IsEnum h' s.heap.objs.size z 0 .none → h'.objs.size = s.heap.objs.size + 1 →
      (∀ b o, s.heap.get? b = some o → h'.get? b = some o) → Q (.ref s.heap.objs.size) { s with heap := h' }) : wpAny (model prog w) A (call (.type "enumerate") [.ref z]) Q E s := by
  refine callType_new F.called_enumerate (by decide) (F.typeCall_enumerate_1 _) (F.newCall_enumerate_1 _) (fun obj => F.args_object_init_2 obj _) F.entry_enumerate_new (meets_newZ z TI TO) ⟨hL, ?_⟩
  have he : IsEnum (s.heap.push (enObj z)) s.heap.objs.size z 0 .none := Heap.get?_push_size s.heap (o := enObj z) rfl
  exact ⟨⟨_, he, rfl⟩, h _ he (Heap.size_push ..) fun b o x => Heap.get?_push_of_some _ x⟩
end
end PfE
namespace Pf
open PySem PySem.Spec PyProof.Rows L2
open Sem (wp)
/-- new pairs of the place and a new pair of both lists' items, at each turn -/
def Itez (K : PySem.W.Frag) (a b : Addr) : It :=
  ⟨fun i H => ∃ (xs ys : List V) (x y : V), SqL K H a xs ∧ SqL K H b ys ∧ xs[i]? = some x ∧ ys[i]? = some y,
    fun i H v H' => ∃ T T2 x y, v = .ref T2 ∧ H T = none ∧ T2 ≠ T ∧ H T2 = none ∧ H' = upd (upd H T (.tup [x, y])) T2 (.tup [.int (i : Nat), .ref T]) ∧ (∀ xs, SqL K H a xs → xs[i]? = some x) ∧ ∀ ys, SqL K H b ys → ys[i]? = some y,
    fun i H => ∃ xs ys : List V, SqL K H a xs ∧ SqL K H b ys ∧ (xs.length ≤ i ∨ ys.length ≤ i)⟩
theorem turn_enumZ {P : Program} {w : World} {K : PySem.W.Frag} {elts : List Expr} {kk : Nat} {tpos : Pos} {a b e z TI TO i1 i2 : Addr} (D : ZipApart z TI TO i1 i2 a b) (hef : e ∉ [z, TI, TO, i1, i2]) :
    Turn P w K (.Tuple elts kk tpos) (Itez K a b) (PfE.zfp e z TI TO i1 i2) e (fun i h => (∃ old, IsEnum h e z ((i : Nat) : Int) old) ∧ PfE.ZOn z TI TO i1 i2 a b i h) where
  mem := by simp
  obj := fun i h st c hc => by
    obtain ⟨⟨old, he⟩, st⟩ := st
    obtain ⟨f0, fl, hz⟩ := st.zobj
    obtain ⟨hTI, ⟨x, y, hTO⟩, ⟨o1, e1, _, d1⟩, ⟨o2, e2, _, d2⟩, _⟩ := st
    have e' : c = e ∨ c = z ∨ c = TI ∨ c = TO ∨ c = i1 ∨ c = i2 := by simpa using hc
    rcases e' with q | q | q | q | q | q
    · rw [q]; exact ⟨_, he, fun v q => nomatch q⟩
    · rw [q]; exact ⟨_, hz, fun v q => nomatch q⟩
    · rw [q]; exact ⟨_, hTI, fun v q => nomatch q⟩
    · rw [q]; exact ⟨_, hTO, fun v q => nomatch q⟩
    · rw [q]; exact ⟨o1, e1, fun v q => by rw [d1] at q; cases q⟩
    · rw [q]; exact ⟨o2, e2, fun v q => by rw [d2] at q; cases q⟩
  keep := fun i h h' st k => by
    obtain ⟨⟨old, he⟩, st⟩ := st
    exact ⟨⟨old, k e (by simp) _ he⟩, st.frame fun c hc o q => k c (List.mem_cons_of_mem _ hc) o q⟩
  item := by
    intro X hP hw hK hc i pins s σ H E I hf st hg
    subst hP hw hK
    obtain ⟨⟨old, he⟩, st⟩ := st
    obtain ⟨xs, ys, x, y, hqx, hqy, hx, hy⟩ := hg
    obtain ⟨its, rv, p, _⟩ := I.list hqx
    obtain ⟨its2, rv2, p2, _⟩ := I.list hqy
    obtain ⟨u, hu, ru⟩ := rv.get hx
    obtain ⟨u2, hu2, ru2⟩ := rv2.get hy
    have hel : e < s.heap.objs.size := Heap.lt_size he
    have lt : ∀ c ∈ PfE.zfp e z TI TO i1 i2, c < s.heap.objs.size := fun c hc => by
      obtain ⟨f0, fl, hz⟩ := st.zobj
      obtain ⟨hTI, ⟨x, y, hTO⟩, ⟨o1, e1, _, d1⟩, ⟨o2, e2, _, d2⟩, _⟩ := st
      have e' : c = e ∨ c = z ∨ c = TI ∨ c = TO ∨ c = i1 ∨ c = i2 := by simpa using hc
      rcases e' with q | q | q | q | q | q
      · rw [q]; exact hel
      · rw [q]; exact Heap.lt_size hz
      · rw [q]; exact Heap.lt_size hTI
      · rw [q]; exact Heap.lt_size hTO
      · rw [q]; exact Heap.lt_size e1
      · rw [q]; exact Heap.lt_size e2
    refine PfE.enum_next_zip D he st p.isList p2.isList (x := u) (y := u2) (by simpa using hu) (by simpa using hu2) hef fun h' ho st' hT hT2 hsz hk => ?_
    refine ⟨_, rfl, wpAny_letOwnedTupleGo_enum (s := { s with heap := h', toks := s.toks + 1 }) ho fun h'' he' sb => ?_⟩
    have gT : h''.get? s.heap.objs.size = some { cls := .type "tuple", data := .seq #[u, u2] } := (sb.2 _ (Nat.ne_of_gt hel)).trans hT
    have gT2 : h''.get? (s.heap.objs.size + 1) = some { cls := .type "tuple", data := .seq #[.int i s.toks, .ref s.heap.objs.size] } := (sb.2 _ (Nat.ne_of_gt (Nat.lt_succ_of_lt hel))).trans hT2
    obtain ⟨G, r1, r2⟩ := restrict h'' fun c => decide (c ≠ s.heap.objs.size + 1)
    have kG : ∀ c o, c ∉ PfE.zfp e z TI TO i1 i2 → s.heap.get? c = some o → G.get? c = some o := fun c o hb q => by
      rw [r1 c (decide_eq_true (Nat.ne_of_lt (Nat.lt_succ_of_lt (Heap.lt_size q))))]
      exact (sb.2 c (fun z => hb (by simp [z]))).trans (hk c o hb q)
    have uG : ∀ c o, G.get? c = some o → h''.get? c = some o := fun c o q => by
      by_cases hc : c = s.heap.objs.size + 1
      · rw [r2 c (by simp [hc])] at q
        cases q
      · rwa [r1 c (by simp [hc])] at q
    have gT' : G.get? s.heap.objs.size = some { cls := .type "tuple", data := .seq #[u, u2] } := by
      rw [r1 _ (by simp)]
      exact gT
    have nT : H s.heap.objs.size = none := I.hok.fresh (Nat.le_refl _)
    have nT2 : H (s.heap.objs.size + 1) = none := I.hok.fresh (Nat.le_succ _)
    have new : ObjOk X.prog X.w (upd H s.heap.objs.size (.tup [x, y])) G s.heap.objs.size (.tup [x, y]) :=
      ⟨by show 2 ≤ sizeLine; decide, [u, u2], .cons ru (.cons ru2 .nil), ⟨_, gT', rfl, _, rfl⟩⟩
    have I1 : Inv X pins σ (upd H s.heap.objs.size (.tup [x, y])) { s with heap := G, toks := s.toks + 1 } :=
      I.turnedNew (t' := s.toks + 1) (ch := PfE.zfp e z TI TO i1 i2) kG hf (Nat.le_refl _) new
    have n2 : upd H s.heap.objs.size (.tup [x, y]) (s.heap.objs.size + 1) = none := by
      rw [upd_ne (Nat.succ_ne_self _)]
      exact nT2
    have I2 := I1.laidN (h' := h'') (t' := s.toks + 1) (a := s.heap.objs.size + 1) (o := .tup [.int (i : Nat), .ref s.heap.objs.size]) uG (r2 _ (by simp)) n2
      ⟨(by decide : 2 ≤ sizeLine), [.int i s.toks, .ref s.heap.objs.size], .cons ⟨_, rfl⟩ (.cons rfl .nil), ⟨_, gT2, rfl, _, rfl⟩⟩
    refine ⟨.ref (s.heap.objs.size + 1), _, I2, rfl, ⟨_, _, x, y, rfl, nT, Nat.succ_ne_self _, nT2, rfl, fun l hl => by rw [I.list_inj hl hqx]; exact hx, fun l hl => by rw [I.list_inj hl hqy]; exact hy⟩, ⟨⟨.ref s.heap.objs.size, ?_⟩, ?_⟩, fun c hcm => ?_⟩
    · have e1 : ((i + 1 : Nat) : Int) = (i : Int) + 1 := by omega
      rw [e1]
      exact he'
    · exact st'.frame fun c hc o q => (sb.2 c (fun z => hef (z ▸ hc))).trans q
    · have := lt c hcm
      rw [upd_ne (Nat.ne_of_lt (Nat.lt_succ_of_lt this)), upd_ne (Nat.ne_of_lt this)]
      exact (hf c hcm).1
  done := by
    intro X hP hw hK hc i pins s σ H E I hf st hg
    subst hP hw hK
    obtain ⟨⟨old, he⟩, st⟩ := st
    obtain ⟨xs, ys, hqx, hqy, hend⟩ := hg
    obtain ⟨its, rv, p, _⟩ := I.list hqx
    obtain ⟨its2, rv2, p2, _⟩ := I.list hqy
    have l1 := rv.length
    have l2 := rv2.length
    have hn : its.toArray[i]? = none ∨ its2.toArray[i]? = none := by
      rcases hend with q | q
      · exact .inl (by simp; omega)
      · exact .inr (by simp; omega)
    exact PfE.enum_end_zip (show X.A.in1.handled = none from I.ok.hd hc) D he st p.isList p2.isList hn fun h' hk => ⟨rfl, I.turnedL (t' := s.toks) (ch := PfE.zfp e z TI TO i1 i2) hk hf⟩
  self := fun A i s Q E st h => by
    obtain ⟨⟨_, he⟩, _⟩ := st
    exact wpAny_pyIter_enum he h
def iEnumZ (X : Cx) (te : L2.St → Hp → (Addr → Addr → List V → List V → Hp → Prop) → Prop) : TI := fun σ H R => te σ H fun a b _ _ H1 => R (Itez X.K a b) H1
theorem pi_enumZ {X : Cx} {e : Expr} {te : L2.St → Hp → (Addr → Addr → List V → List V → Hp → Prop) → Prop} {p pos tpos : Pos} {elts : List Expr} {kk : Nat} (hg : Gl X "enumerate") (hm : X.mg "enumerate" = none) (he : PZp X e te) (na : starEach [e] X.env = (false, eval e X.env) :: starEach [] X.env) :
    PI X (.Tuple elts kk tpos) (.Call (.Name "enumerate" p) [e] [] pos) (iEnumZ X te) := by
  refine ⟨fun pins s σ H R I h => ?_⟩
  refine Call_ (ld_blt I hg hm PyProof.Rows.boot_enumerate (PyProof.Rows.callWith_type1 (args_cons (thn (he pins s σ H _ I h) fun x s1 ⟨h2, a, b, vs, us, H1, ex, a1, a2, a3, a4, a5, a6, a7, I2, l1, l2, q⟩ => args_nil ?_) na) na))
  subst ex
  obtain ⟨its1, v1, p1, z1⟩ := I2.list l1
  obtain ⟨its2, v2, p2, z2⟩ := I2.list l2
  have la : a < h2.objs.size := let ⟨_, e, _⟩ := p1.isList; Heap.lt_size e
  have lb : b < h2.objs.size := let ⟨_, e, _⟩ := p2.isList; Heap.lt_size e
  refine PfE.call_enumZ a1 fun h' he hsz hk => wpAny_pyIter_enum he ?_
  have k2 : ∀ c o, h2.get? c = some o → h'.get? c = some o := fun c o q => hk _ _ (a7 c o q)
  refine ⟨s1.heap.objs.size, PfE.zfp s1.heap.objs.size (h2.objs.size + 4) (h2.objs.size + 2) (h2.objs.size + 3) h2.objs.size (h2.objs.size + 1), _, _, H1, rfl, I2.kept (t' := s1.toks) k2,
    turn_enumZ (PySem.W.ktu_apart h2.objs.size a b la lb) ?_, ⟨⟨.none, he⟩, hk _ _ a2, ⟨_, _, hk _ _ a3⟩, a4.at fun o q => hk _ o q, a5.at fun o q => hk _ o q, .inl (hk _ _ a1)⟩, fun c hcm => ?_, q⟩
  · intro hm
    have hm : s1.heap.objs.size = h2.objs.size + 4 ∨ s1.heap.objs.size = h2.objs.size + 2 ∨ s1.heap.objs.size = h2.objs.size + 3 ∨ s1.heap.objs.size = h2.objs.size ∨ s1.heap.objs.size = h2.objs.size + 1 := by simpa using hm
    omega
  · have hle : h2.objs.size ≤ c := by
      have hcm : c = s1.heap.objs.size ∨ c = h2.objs.size + 4 ∨ c = h2.objs.size + 2 ∨ c = h2.objs.size + 3 ∨ c = h2.objs.size ∨ c = h2.objs.size + 1 := by simpa using hcm
      rcases hcm with z | z | z | z | z | z <;> rw [z]
      · rw [a6]; exact Nat.le_add_right _ _
      · exact Nat.le_add_right _ _
      · exact Nat.le_add_right _ _
      · exact Nat.le_add_right _ _
      · exact Nat.le_refl _
      · exact Nat.le_add_right _ _
    exact I2.fpOk hle (I2.hok.fresh hle)
theorem en_zip_len {xs ys : List PV} : (pEnum (pZip xs ys)).length = min xs.length ys.length := by simp [pEnum, pZip]
section
variable [Tbc] [Tlc] {Γ : Gt} {N : List Str} {sc so : Scope} {W : WX} {X : Cx}
theorem si_enumz (o : XOk Γ N sc so W X) {m : Mode} {e e2 : Expr} {p p2 pos pos2 tpos : Pos} {elts : List Expr} {kk : Nat} {f f2 : Env → R PV} (hm : m = .esc ∨ m = .bor) (hb : ("zip" : Str) ∈ Γ.bl) (hg : glb sc "zip" = true) (hb2 : ("enumerate" : Str) ∈ Γ.bl) (hg2 : glb sc "enumerate" = true) (ge : good e = true) (ge2 : good e2 = true) (he : SE Γ W X m e f) (he2 : SE Γ W X m e2 f2) :
    SI Γ W X m (.Tuple elts kk tpos) (.Call (.Name "enumerate" p2) [.Call (.Name "zip" p) [e, e2] [] pos] [] pos2) (fun ρ => (f ρ).bind fun x => (f2 ρ).bind fun y => pEnZ x y) := by
  refine PI.weak (pi_enumZ (o.gl hg2) (o.g.bl _ hb2) (pzp (o.gl hg) (o.g.bl _ hb) he he2 (good_star ge _ _) (good_star ge2 _ _) (by rw [good_star ge2]; rfl)) rfl) fun σ H R' ⟨B, ρ, G, ow, q⟩ => ?_
  have q := PK_bind.mp q
  refine ⟨B, ρ, G, ow, q.imp (fun x k v G1 H1 e1 r1 => ?_) fun _ z => z⟩
  refine ⟨B, ρ, G1, ow.step e1, (PK_bind.mp k).imp (fun y k u G2 H2 e2 r2 => ?_) fun _ z => Ke.step e1 z⟩
  have rm : RepM m X.K H G2 H2 x v := by
    rcases hm with rfl | rfl
    · exact Rep.mono (e2.gg e1.gh) r1
    · exact RepT.mono (e2.gg e1.gh) e2.hh r1
  cases x with
  | lst xs =>
    cases y with
    | lst ys =>
      obtain ⟨a, vs, rfl, h1, _⟩ := lst_of e2.gh rm
      obtain ⟨b, us, rfl, h2, _⟩ := lst_of e2.gh r2
      refine ⟨a, b, vs, us, rfl, rfl, SqL.of h1, SqL.of h2, k _ G2 H2 (e1.trans e2) ?_⟩
      have st : ∀ G3 H3, CI m G2 H2 G3 H3 → ∃ vs us, H3 a = some (.lst vs) ∧ Reps X.K G3 xs vs ∧ H3 b = some (.lst us) ∧ Reps X.K G3 ys us := fun G3 H3 c => by
        obtain ⟨a', vs', ea, ha, ra⟩ := seq_stay hm rm c
        obtain ⟨b', us', eb, hb', rb⟩ := seq_stay hm r2 c
        cases ea
        cases eb
        exact ⟨vs', us', ha, ra, hb', rb⟩
      refine ⟨fun i G3 H3 hi c => ?_, fun G3 H3 c => ?_, fun i G3 H3 w H4 hi sg c y => ?_⟩
      · rw [en_zip_len] at hi
        obtain ⟨vs', us', ha, ra, hb', rb⟩ := st G3 H3 c
        obtain ⟨v1, q1, _⟩ := ra.get (List.getElem?_eq_getElem (show i < xs.length by omega))
        obtain ⟨v2, q2, _⟩ := rb.get (List.getElem?_eq_getElem (show i < ys.length by omega))
        exact ⟨vs', us', v1, v2, SqL.of ha, SqL.of hb', q1, q2⟩
      · obtain ⟨vs', us', ha, ra, hb', rb⟩ := st G3 H3 c
        rw [en_zip_len]
        refine ⟨vs', us', SqL.of ha, SqL.of hb', ?_⟩
        rw [ra.length, rb.length]
        omega
      · obtain ⟨vs', us', ha, ra, hb', rb⟩ := st G3 H3 c
        obtain ⟨T, T2, x1, x2, rfl, hT, hne, hT2, rfl, y1, y2⟩ := y
        obtain ⟨p1, hp1, rp1⟩ := ra.get' (y1 _ (SqL.of ha))
        obtain ⟨p2, hp2, rp2⟩ := rb.get' (y2 _ (SqL.of hb'))
        obtain ⟨G5, e5, r5⟩ := pair_new (X := X) sg hT rp1 rp2
        have hT2' : upd H3 T (.tup [x1, x2]) T2 = none := by rw [upd_ne hne]; exact hT2
        obtain ⟨G6, e6, r6⟩ := pair_new (X := X) e5.gh hT2' (rep_int' (i := (i : Nat))) r5
        exact ⟨G6, _, e5.trans e6, enum_get (zip_get hp1 hp2), r6⟩
    | _ => exact k.elim
  | _ => cases y <;> exact k.elim
end
end Pf

set_option Elab.async false
set_option linter.all false
set_option maxRecDepth 100000
set_option autoImplicit false
set_option maxHeartbeats 4000000
/-! PfS: sorted(set(xs)) of a list of whole numbers, any number of them -/
namespace L2
open PySem PySem.Spec PyProof.Rows
section
variable {P : Program} {w : World} {A : Around} {E : Value → Shared → Prop} {s : Shared}
/-- a set, just made -/
abbrev set0 (w : World) : Obj := { cls := .type "set", dict := none, data := .set #[] 0 (.fresh 0 0 (!w.params.followText "set-order")) }
/-- what set(xs) leaves: a set of the numbers, all else as it was -/
def Made (w : World) (ns : List Int) (s s' : Shared) : Prop := ∃ h' tk c, s' = { s with heap := h', toks := tk } ∧ SetR w h' s.heap.objs.size (fun j => decide (j ∈ ns)) c ∧ c ≤ ns.length ∧ ∀ b o, s.heap.get? b = some o → h'.get? b = some o
set_option maxHeartbeats 3200000 in
theorem init_list {l : Addr} {items : Array Value} (ns : List Int) (hh : A.handled = none) (hl : s.heap.IsList l items) (hit : IntsAre items.toList ns) (hb : ns.length + 1 < scanBound) :
    wpAny (model P w) A (Builtin.«set.__init__» ⟨[.ref s.heap.objs.size, .ref l], []⟩) (fun fin s' => ∃ r, fin = .done (.ret r) ∧ r = .none ∧ Made w ns s s') E { s with heap := s.heap.push (set0 w) } := by
  have sz : items.size = ns.length := by
    have q := IntsAre.length hit
    rwa [Array.length_toList] at q
  have new : (s.heap.push (set0 w)).get? s.heap.objs.size = some (set0 w) := Heap.get?_push_size _ rfl
  have ty : Shared.TypeIs { s with heap := s.heap.push (set0 w) } (.ref s.heap.objs.size) "set" := ⟨_, new, rfl⟩
  obtain ⟨⟨oc, od, odt, osl⟩, ho, ec, n, ed⟩ := hl
  obtain rfl : oc = .type "list" := ec
  obtain rfl : odt = .seq items n := ed
  have old : (s.heap.push (set0 w)).get? l = some { cls := .type "list", dict := od, data := .seq items n, slots := osl } := Heap.get?_push_of_some _ ho
  have lst : (s.heap.push (set0 w)).IsList l items := ⟨_, old, rfl, n, rfl⟩
  have no1 := F.sub_list_set
  have no2 := F.sub_list_frozenset
  have no3 : (Value.type "list" == Value.type "dict") = false := by decide
  unfold Builtin.«set.__init__» noKeywords Builtin.Frozenset.updateFrom
  generalize hI : pyIter = I
  wp_walk
  subst hI
  refine wpAny_pyIter_list lst (wpAny_bind (wpAny_runValue ?_))
  have ll : l < s.heap.objs.size := Heap.lt_size ho
  have z1 : (s.heap.push (set0 w)).objs.size = s.heap.objs.size + 1 := Heap.size_push ..
  have apart : l ≠ (s.heap.push (set0 w)).objs.size := by rw [z1]; exact Nat.ne_of_lt (Nat.lt_succ_of_lt ll)
  have out : s.heap.objs.size ∉ [(s.heap.push (set0 w)).objs.size, l] := by
    rw [z1]
    intro hm
    rcases List.mem_cons.mp hm with q | q
    · exact absurd q (Nat.ne_of_lt (Nat.lt_succ_self _))
    · exact absurd (List.mem_singleton.mp q) (Nat.ne_of_gt ll)
  have vals : ∀ (i : Nat) (v : Value), items[i]? = some v → ∃ k t, ns[i]? = some k ∧ v = .int k t := fun i v hv => by
    have hi : i < ns.length := by rw [← sz]; exact (Array.getElem?_eq_some_iff.mp hv).1
    obtain ⟨t, e⟩ := IntsAre.int_at hit i v (by rw [Array.getElem?_toList]; exact hv)
    exact ⟨ns[i], t, List.getElem?_eq_getElem hi, by rw [e, List.getD_eq_getElem?_getD, List.getElem?_eq_getElem hi] <;> rfl⟩
  refine set_update_ints ((Walks.list (show A.in1.handled = none by simp [hh]) _ l apart items).toS) s.heap.objs.size out ns sz hb vals (items.size - 0) 0 { s with heap := (s.heap.push (set0 w)).push { cls := .type "list_iterator", data := .fields #[.ref l, .int 0 0] } } (by omega) (Nat.zero_le _)
    ⟨⟨_, Heap.get?_push_size _ rfl, rfl, rfl⟩, lst.push _⟩ ?init ?fin
  case init => exact ⟨0, Nat.le_refl 0, setR_new_at (Heap.get?_push_of_some _ new)⟩
  case fin =>
    intro s' c' mv hc' R'
    obtain ⟨h', g', d', tk', os'⟩ := s'
    obtain rfl : g' = s.gens := mv.gens
    obtain rfl : d' = s.drawn := mv.drawn
    obtain rfl : os' = s.os := mv.os
    rw [sz] at hc'
    refine wpAny_pure (show wpAny _ _ (ret Value.none) _ _ _ from wpAny_pure ⟨_, rfl, rfl, h', tk', c', rfl, R', hc', fun b o e => ?_⟩)
    have lb := Heap.lt_size e
    refine mv.heap b o (fun hm => ?_) (Heap.get?_push_of_some _ (Heap.get?_push_of_some _ e))
    rcases List.mem_cons.mp hm with q | q
    · exact Nat.ne_of_lt lb q
    · rw [List.mem_singleton.mp q, z1] at lb
      exact absurd lb (Nat.not_lt_of_le (Nat.le_succ _))
/-- set(xs) -/
theorem call_set_list1 {l : Addr} {items : Array Value} (ns : List Int) {Q : Value → Shared → Prop} (hh : A.handled = none) (hl : s.heap.IsList l items) (hit : IntsAre items.toList ns) (hb : ns.length + 1 < scanBound)
    (hQ : ∀ s', Made w ns s s' → Q (.ref s.heap.objs.size) s') : wpAny (model P w) A (call (.type "set") [.ref l]) Q E s := by
  obtain ⟨cc, rest, mro⟩ := F.called_set.mro
  have made := F.called_set.made
  have sub := F.called_set.sub
  have notT := F.called_set.notType
  have may := F.called_set.canCreate
  have argc := F.typeCall_set_1 (.ref l)
  refine wpAny_call (codeAny_of_tree (show wpAny _ _ (callAny (.type "set") _) _ _ _ from wpAny_pure ⟨Code.quiet_builtin _ (by decide +kernel), codeAny_builtin F.entry_type_call ?_⟩))
  rw [Around.under_plain (weight_type_call_type "set" [.ref l] []) rfl]
  repeat (any_goals (first | assumption | wp_step))
  refine codeAny_mono (code_set_led1 (.ref l) (E := E) (Q₁ := fun v t => v = .ref s.heap.objs.size ∧ t = { s with heap := s.heap.push (set0 w) }) ⟨rfl, rfl⟩) fun r1 s1 h1 => ?_
  match r1, h1 with
  | .error _, h1 => exact h1
  | .ok (.ret v), h1 =>
    obtain ⟨rfl, rfl⟩ := h1
    have ty : Shared.TypeIs { s with heap := s.heap.push (set0 w) } (.ref s.heap.objs.size) "set" := ⟨_, Heap.get?_push_size _ rfl, rfl⟩
    have look := F.called_set.init.lookup
    have bind := F.called_set.init.bind (.ref s.heap.objs.size)
    repeat (any_goals (first | assumption | wp_step))
    refine codeAny_mono (codeAny_call_builtin (R := wants (fun r s' => r = .none ∧ Made w ns s s') E) F.called_set.init.plain F.entry_set_init (check_set_init_1 ty (wpAny_mono (init_list (E := E) ns (by simpa using hh) hl hit hb) (fun f s' q => ?_) fun e s' q => q))) fun r2 s2 h2 => ?_
    · obtain ⟨r, rfl, q⟩ := q
      exact q
    · match r2, h2 with
      | .error _, h2 => exact h2
      | .ok (.ret v), h2 =>
        obtain ⟨rfl, m⟩ := h2
        have q := hQ _ m
        repeat (any_goals (first | assumption | wp_step))
      | .ok .next, h2 => exact h2.elim
      | .ok .brk, h2 => exact h2.elim
      | .ok .cont, h2 => exact h2.elim
  | .ok .next, h1 => exact h1.elim
  | .ok .brk, h1 => exact h1.elim
  | .ok .cont, h1 => exact h1.elim
theorem setR_small {h : Heap} {a : Addr} {S : Int → Bool} {n : Nat} (R : SetR w h a S n) : n < scanBound := by
  obtain ⟨o, es, ep, t, ho, hex, hd, g, nd, hm, hb, hf, hn, hr, hl⟩ := R
  omega
/-- sorted(s), any number of whole numbers -/
theorem sorted_setN {a : Addr} {S : Int → Bool} {n : Nat} {Q : Value → Shared → Prop} (R : SetR w s.heap a S n) (hh : A.handled = none)
    (hQ : ∀ s' p (out : List Value) (c : Nat) (ns : List Int), (∀ b o, s.heap.get? b = some o → s'.heap.get? b = some o) → s'.gens = s.gens → s'.os = s.os → s.heap.objs.size ≤ p →
      s'.heap.get? p = some (seqObj "list" out.toArray c) → IntsAre out ns → ns.Pairwise (· < ·) → (∀ k, k ∈ ns ↔ S k = true) → Q (.ref p) s') :
    wpAny (model P w) A (call (.builtin "sorted") [.ref a]) Q E s := by
  have small := setR_small R
  obtain ⟨o, es, ep, t, ho, hex, hd, g, nd, hm, hb, hf, hn, hr, hl⟩ := R
  refine Calls.call_function_entry kind_sorted plain_sorted entry_sorted (args_sorted1 _) ?_
  unfold Builtin.«sorted»
  refine wpAny_bind (m := checkCount "sorted" 1 1 _) (wpAny_pure (wpAny_bind (collect_set (A := A.in1) hh ⟨o, ho, hex.1, hd⟩ hf hb hr hl fun s1 vs k1 z1 g1 o1 pm => ?_)))
  have len : vs.length = n := by
    rw [pm.length_eq, List.length_map, Array.length_toList]
    exact hn
  have iv0 : IntsAre vs (vs.map Builtin.Re.reRawOf) := ints_of vs fun v hv => by
    obtain ⟨e, he, q⟩ := List.mem_map.mp (pm.mem_iff.mp hv)
    obtain ⟨k, tk, h1, _⟩ := g e he
    exact ⟨k, tk, q.symm.trans h1⟩
  have keys : (vs.map Builtin.Re.reRawOf).Perm (es.toList.map keyOf) := by
    have q := pm.map Builtin.Re.reRawOf
    rwa [List.map_map] at q
  have wide : vs.length ≤ sizeLine := by
    rw [len, sizeLine_eq]
    unfold scanBound at small
    omega
  have at1 : (s1.heap.push (seqObj "list" vs.toArray 0)).get? s1.heap.objs.size = some (seqObj "list" vs.toArray 0) := Heap.get?_push_size _ rfl
  refine wpAny_bind (wpAny_newList (wpAny_bind (wpAny_holding (wpAny_call_entry slot_list_sort ⟨_, at1, rfl⟩ entry_list_sort (SrtO.list_sort_ord SrtO.swo_int at1 wide (fun h2 => SrtO.ints_sortable iv0 h2) fun out h1 h2 => ⟨_, rfl, wpAny_pure ⟨_, rfl, ?_⟩⟩) (args_list_sort _)))) wide)
  obtain ⟨i1, i2, i3⟩ := SrtO.ints_out iv0 h1 h2
  obtain ⟨c, hc⟩ := sortedHeap_at (vs := vs) (out := out.toArray) at1
  have pk := i2.trans keys
  refine hQ _ s1.heap.objs.size out c _ (fun b u e => ?_) g1 o1 z1 hc i1 (lt_of_le_nodup _ i3 (pk.nodup_iff.mpr nd)) fun k => by rw [pk.mem_iff, ← hm k]
  have q := k1 b u e
  have lt := Heap.lt_size q
  show (sortedHeap (s1.heap.push (seqObj "list" vs.toArray 0)) s1.heap.objs.size vs out.toArray).get? b = some u
  rw [sortedHeap_old (Nat.ne_of_lt lt) (by rw [size_push']; exact Nat.lt_succ_of_lt lt)]
  exact Heap.get?_push_of_some _ q
end
end L2
namespace Pf
open PySem PySem.Spec PyProof.Rows L2
theorem insU_mem (x k : Int) : ∀ ys : List Int, k ∈ insU x ys ↔ k = x ∨ k ∈ ys
  | [] => by simp [insU]
  | y :: ys => by
    unfold insU
    split
    · simp
    · split
      · rename_i h
        subst h
        simp only [List.mem_cons]
        constructor
        · exact .inr
        · rintro (h | h)
          · exact .inl h
          · exact h
      · simp only [List.mem_cons, insU_mem x k ys]
        constructor
        · rintro (h | h | h)
          · exact .inr (.inl h)
          · exact .inl h
          · exact .inr (.inr h)
        · rintro (h | h | h)
          · exact .inr (.inl h)
          · exact .inl h
          · exact .inr (.inr h)
theorem srtU_mem (k : Int) : ∀ xs : List Int, k ∈ srtU xs ↔ k ∈ xs
  | [] => Iff.rfl
  | x :: xs => by rw [srtU, insU_mem, srtU_mem k xs, List.mem_cons]
theorem insU_up (x : Int) : ∀ {ys : List Int}, ys.Pairwise (· < ·) → (insU x ys).Pairwise (· < ·)
  | [], _ => by simp [insU]
  | y :: ys, h => by
    have k := List.pairwise_cons.mp h
    unfold insU
    split
    · rename_i hx
      refine List.pairwise_cons.mpr ⟨fun z hz => ?_, h⟩
      rcases List.mem_cons.mp hz with rfl | hz
      · exact hx
      · exact Int.lt_trans hx (k.1 z hz)
    · split
      · exact h
      · refine List.pairwise_cons.mpr ⟨fun z hz => ?_, insU_up x k.2⟩
        rcases (insU_mem x z ys).mp hz with rfl | hz
        · omega
        · exact k.1 z hz
theorem srtU_up : ∀ xs : List Int, (srtU xs).Pairwise (· < ·)
  | [] => .nil
  | x :: xs => insU_up x (srtU_up xs)
theorem up_uniq : ∀ {xs ys : List Int}, xs.Pairwise (· < ·) → ys.Pairwise (· < ·) → (∀ k, k ∈ xs ↔ k ∈ ys) → xs = ys
  | [], [], _, _, _ => rfl
  | [], y :: ys, _, _, h => absurd ((h y).mpr List.mem_cons_self) List.not_mem_nil
  | x :: xs, [], _, _, h => absurd ((h x).mp List.mem_cons_self) List.not_mem_nil
  | x :: xs, y :: ys, hx, hy, h => by
    have a := List.pairwise_cons.mp hx
    have b := List.pairwise_cons.mp hy
    have e : x = y := by
      rcases List.mem_cons.mp ((h x).mp List.mem_cons_self) with e | e
      · exact e
      · rcases List.mem_cons.mp ((h y).mpr List.mem_cons_self) with e' | e'
        · exact e'.symm
        · have := b.1 x e
          have := a.1 y e'
          omega
    subst e
    rw [up_uniq a.2 b.2 fun k => ⟨fun hk => ?_, fun hk => ?_⟩]
    · rcases List.mem_cons.mp ((h k).mp (List.mem_cons_of_mem _ hk)) with e | e
      · have := a.1 k hk
        omega
      · exact e
    · rcases List.mem_cons.mp ((h k).mpr (List.mem_cons_of_mem _ hk)) with e | e
      · have := b.1 k hk
        omega
      · exact e
def tSset (K : PySem.W.Frag) (te : TE) : TE := fun σ H Q => te σ H fun x H1 => ∃ a ns, x = .ref a ∧ SqL K H1 a (ns.map V.int) ∧ ns.length ≤ 4000 ∧ ∀ q, H1 q = none → Q (.ref q) (upd H1 q (.lst ((srtU ns).map V.int)))
theorem pe_sset {X : Cx} {e : Expr} {te : TE} {p p2 pos pos2 : Pos} (hc : X.calm = true) (hg : Gl X "set") (hm : X.mg "set" = none) (hg2 : Gl X "sorted") (hm2 : X.mg "sorted" = none) (he : PE X e te) (na : starEach [e] X.env = (false, eval e X.env) :: starEach [] X.env) :
    PE X (.Call (.Name "sorted" p2) [.Call (.Name "set" p) [e] [] pos] [] pos2) (tSset X.K te) := by
  refine ⟨fun pins s σ H Q I h => ?_⟩
  refine Call_ (ld_blt I hg2 hm2 PyProof.Rows.boot_sorted (PyProof.Rows.callWith_builtin1 (args_cons (Call_ (ld_blt I hg hm PyProof.Rows.boot_set (PyProof.Rows.callWith_type1 (args_cons (thn (he.run pins s σ H _ I h) fun v s1 ⟨x, H1, I1, r1, q1⟩ => args_nil ?_) na) na))) rfl) rfl))
  obtain ⟨a, ns, rfl, hl, hn, q⟩ := q1
  obtain rfl : v = .ref a := r1
  obtain ⟨its, rv, p', hz⟩ := I1.list hl
  refine call_set_list1 ns (I1.ok.hd hc) p'.isList (by simpa using rv.ints) (by unfold scanBound; omega) fun s2 ⟨h', tk, c, e2, R, hc', k⟩ => args_nil ?_
  subst e2
  refine sorted_setN (s := { s1 with heap := h', toks := tk }) R (I1.ok.hd hc) fun s3 q3 out c3 ms k3 g3 o3 z3 at3 i3 up3 m3 => ?_
  have lt : s1.heap.objs.size ≤ q3 := by
    exact Nat.le_trans (Nat.le_of_lt R.lt) z3
  have nq : H1 q3 = none := I1.hok.fresh lt
  obtain rfl : ms = srtU ns := up_uniq up3 (srtU_up ns) fun j => by rw [m3 j, srtU_mem]; simp
  have big : ((srtU ns).map V.int).length ≤ sizeLine := by
    rw [List.length_map]
    have : ∀ xs : List Int, (srtU xs).length ≤ xs.length := fun xs => by
      induction xs with
      | nil => exact Nat.le_refl 0
      | cons x xs ih =>
        have h2 : ∀ (x : Int) (ys : List Int), (insU x ys).length ≤ ys.length + 1 := fun x ys => by
          induction ys with
          | nil => exact Nat.le_refl _
          | cons y ys ih =>
            unfold insU
            split
            · exact Nat.le_refl _
            · split
              · exact Nat.le_succ _
              · exact Nat.succ_le_succ ih
        exact Nat.le_trans (h2 x _) (Nat.succ_le_succ ih)
    have := this ns
    rw [sizeLine_eq]
    omega
  have kk : ∀ b u, s1.heap.get? b = some u → s3.heap.get? b = some u := fun b u z => k3 b u (k b u z)
  have J : Inv X pins σ (upd H1 q3 (.lst ((srtU ns).map V.int))) { s1 with heap := s3.heap, gens := s3.gens, drawn := s3.drawn, toks := s3.toks } :=
    I1.call (ch := []) (Un.laid kk lt nq) (I1.hok.laid kk lt ⟨big, out, c3, vals_of_ints i3, at3⟩) (by rw [g3]; exact I1.bare) (fun _ z => nomatch z)
  have e3 : s3 = { s1 with heap := s3.heap, gens := s3.gens, drawn := s3.drawn, toks := s3.toks } := by
    cases s3
    cases s1
    cases o3
    rfl
  rw [e3]
  exact ⟨.ref q3, _, J, rfl, q q3 nq⟩
section
variable [Tbc] [Tlc] {Γ : Gt} {N : List Str} {sc so : Scope} {W : WX} {X : Cx}
theorem se_sset (o : XOk Γ N sc so W X) (hh : Γ.hot = false) {e : Expr} {p p2 pos pos2 : Pos} {f : Env → R PV} (hb : ("set" : Str) ∈ Γ.bl) (hg : glb sc "set" = true) (hb2 : ("sorted" : Str) ∈ Γ.bl) (hg2 : glb sc "sorted" = true) (ge : good e = true) (he : SE Γ W X .bor e f) :
    SE Γ W X .fre (.Call (.Name "sorted" p2) [.Call (.Name "set" p) [e] [] pos] [] pos2) (fun ρ => (f ρ).bind pSset) := by
  refine PE.weak (pe_sset (o.calm hh) (o.gl hg) (o.g.bl _ hb) (o.gl hg2) (o.g.bl _ hb2) he (good_star ge _ _)) fun σ H Q ⟨B, ρ, G, ow, q⟩ => ?_
  have q := PK_bind.mp q
  refine ⟨B, ρ, G, ow, q.imp (fun x k v G1 H1 e1 r1 => ?_) fun _ z => z⟩
  cases x with
  | lst xs =>
    obtain ⟨a, vs, rfl, h1, ra⟩ := lst_of e1.gh r1
    have kk : PK (match intsOf xs with
      | some ns => if ns.length ≤ 4000 then R.ok (PV.lst ((srtU ns).map .int)) else .bad
      | none => .bad) _ _ := k
    cases hi : intsOf xs with
    | none =>
      rw [hi] at kk
      exact kk.elim
    | some ns =>
      rw [hi] at kk
      have kk : PK (if ns.length ≤ 4000 then R.ok (PV.lst ((srtU ns).map .int)) else .bad) _ _ := kk
      split at kk
      · rename_i hl
        have ex := ints_rep (G := G1) hi
        subst ex
        have ev := reps_ints.mp ra
        subst ev
        exact ⟨a, ns, rfl, SqL.of h1, hl, fun q hq => kk _ _ _ (e1.trans (Ext.fresh e1.gh hq)) ⟨q, _, rfl, e1.hh.free hq, e1.gh.free hq, upd_same, reps_ints.mpr rfl⟩⟩
      · exact kk.elim
  | _ => exact k.elim
end
end Pf

set_option Elab.async false
set_option linter.all false
set_option maxRecDepth 100000
set_option autoImplicit false
set_option maxHeartbeats 2000000
/-! PfD: dicts of a slot's own, whose keys are tuples of numbers; places in lists -/
namespace Pf
open PySem PySem.Spec L2
variable [Tbc] [Tlc]

abbrev dtL (kvs : List (List Int × Int)) : List (List Key × V) := kvs.map fun p => (p.1.map Sum.inl, V.int p.2)
theorem inl_inj : ∀ {x y : List Int}, (x.map (Sum.inl : Int → Key)) = y.map Sum.inl ↔ x = y
  | [], [] => by simp
  | [], _ :: _ => by simp
  | _ :: _, [] => by simp
  | a :: x, b :: y => by simp [inl_inj (x := x) (y := y)]
theorem kV_inl (k : List Int) : (k.map (Sum.inl : Int → Key)).map kV = k.map V.int := by
  rw [List.map_map]
  rfl
theorem valV_dt (kvs : List (List Int × Int)) (k : List Int) : valV (dtL kvs) (k.map Sum.inl) = (dkGet kvs k).map V.int := by
  unfold valV dkGet dtL
  rw [List.find?_map, Option.map_map, Option.map_map]
  have : ((fun kv : List Key × V => decide (kv.1 = k.map Sum.inl)) ∘ fun p : List Int × Int => (p.1.map (Sum.inl : Int → Key), V.int p.2)) = fun p => decide (p.1 = k) := by
    funext p
    show decide (p.1.map Sum.inl = k.map Sum.inl) = decide (p.1 = k)
    simp only [inl_inj]
  rw [this]
  rfl
theorem putK_dt (kvs : List (List Int × Int)) (k : List Int) (v : Int) : putK (dtL kvs) (k.map Sum.inl) (.int v) = dtL (dkPut kvs k v) := by
  unfold putK dkPut dtL
  have e1 : ((kvs.map fun p : List Int × Int => (p.1.map (Sum.inl : Int → Key), V.int p.2)).any fun kv => decide (kv.1 = k.map Sum.inl)) = kvs.any fun p => decide (p.1 = k) := by
    rw [List.any_map]
    congr 1
    funext p
    show decide (p.1.map Sum.inl = k.map Sum.inl) = decide (p.1 = k)
    simp only [inl_inj]
  rw [e1]
  split
  · rw [List.map_map, List.map_map]
    refine List.map_congr_left fun p _ => ?_
    show (if p.1.map Sum.inl = k.map Sum.inl then (p.1.map (Sum.inl : Int → Key), V.int v) else (p.1.map Sum.inl, V.int p.2)) = (((if p.1 = k then (p.1, v) else p).1).map Sum.inl, V.int (if p.1 = k then (p.1, v) else p).2)
    simp only [inl_inj]
    split <;> rfl
  · rw [List.map_append]
    rfl
theorem intsOf_map : ∀ {xs : List PV} {k : List Int}, intsOf xs = some k → xs = k.map PV.int
  | [], k, h => by
    simp only [intsOf, Option.some.injEq] at h
    subst h
    rfl
  | x :: xs, k, h => by
    cases x with
    | int i =>
      simp only [intsOf, Option.map_eq_some_iff] at h
      obtain ⟨r, h1, h2⟩ := h
      subst h2
      rw [intsOf_map h1]
      rfl
    | _ => simp [intsOf] at h
theorem key_rep {K : PySem.W.Frag} {G : Hp} {x : PV} {v : V} {k : List Int} (h : tupInts x = some k) (r : Rep K G x v) : ∃ b, v = .ref b ∧ G b = some (.tup ((k.map (Sum.inl : Int → Key)).map kV)) := by
  unfold tupInts at h
  split at h
  · rename_i xs
    obtain ⟨b, vs, e, g, rs⟩ := rep_tup.mp r
    rw [intsOf_map h] at rs
    refine ⟨b, e, ?_⟩
    rw [kV_inl, g, reps_ints.mp rs]
  · cases h
theorem Ow.od {K : PySem.W.Frag} {B : Bd} {ρ : Env} {σ : L2.St} {G H : Hp} (o : Ow K B ρ σ G H) {i : Nat} {kvs : List (List Int × Int)} (h : ρ[i]? = some (.od kvs)) : ∃ a, σ[i]? = some (some (.ref a)) ∧ H a = some (.dT (dtL kvs)) ∧ G a = none ∧ B.H0 a = none := by
  obtain ⟨a, e, r⟩ := o.slot i _ h
  refine ⟨a, ?_, r⟩
  cases q : σ[i]? with
  | none => rw [q] at e; cases e
  | some z => rw [q] at e; exact congrArg some e
section
variable {Γ : Gt} {N : List Str} {sc so : Scope} {W : WX} {X : Cx}
def fDhas (neg : Bool) (f : Env → R PV) (i : Nat) : Env → R PV := fun ρ => (f ρ).bind fun x => (match ρ[i]?, tupInts x with
  | some (.od kvs), some k => .ok (.bl (neg != (dkGet kvs k).isSome))
  | _, _ => .bad)
theorem se_dhas (o : XOk Γ N sc so W X) {neg : Bool} {e : Expr} {f : Env → R PV} {i : Nat} {x : Str} {p pos : Pos} (hn : N[i]? = some x) (hv : vis sc x = true) (he : SE Γ W X .esc e f) :
    SE Γ W X .esc (.Compare e [if neg then .NotIn else .In] [.Name x p] pos) (fDhas neg f i) ∧ ST Γ W X (.Compare e [if neg then .NotIn else .In] [.Name x p] pos) (fDhas neg f i) := by
  have hu : X.A.units + 1 < cLine := by have := o.un; omega
  have key : ∀ (k : Hp → VK) (σ : L2.St) (H : Hp) (Q : VK), rdE Γ W X.K .esc (fDhas neg f i) σ H Q → rdE Γ W X.K .esc f σ H fun y H1 => ∃ a, σ[i]? = some (some (V.ref a)) ∧ ∃ ov, DGet H1 a y ov ∧ Q (.bl (neg != ov.isSome)) H1 := fun _ σ H Q ⟨B, ρ, G, ow, q⟩ => by
    refine ⟨B, ρ, G, ow, (PK_bind.mp q).imp (fun x k v G1 H1 e1 r1 => ?_) fun _ z => z⟩
    split at k
    · rename_i kvs ks h1 h2
      obtain ⟨a, ha, hd, _, _⟩ := (ow.step e1).od h1
      obtain ⟨b, rfl, hb⟩ := key_rep h2 (show Rep X.K G1 x v from r1)
      refine ⟨a, ha, _, DGet.t hd (e1.gh _ _ hb), ?_⟩
      rw [valV_dt, Option.isSome_map]
      exact k _ G1 H1 e1 (show Rep X.K G1 _ _ from rep_bl')
    · exact k.elim
  have va : PE X (.Name x p) (tVar i) := pe_var (o.Nx hn) (o.vis hv) (o.nodb hn).1 (o.nodb hn).2
  cases neg with
  | false =>
    refine ⟨PE.weak (pe_cmp (pc_din hu he va) rfl) fun σ H Q q => ?_, PT.weak (pt_cmp (pc_din hu he va) rfl) fun σ H Q ⟨B, ρ, G, ow, q⟩ => ?_⟩
    · obtain ⟨B, ρ, G, ow, z⟩ := key (fun _ => Q) σ H Q q
      exact ⟨B, ρ, G, ow, z.imp (fun x k v G1 H1 e1 r1 => by
        obtain ⟨a, ha, ov, hg, hq⟩ := k v G1 H1 e1 r1
        exact ⟨_, ha, a, ov, rfl, hg, by simpa using hq⟩) fun _ z => z⟩
    · obtain ⟨B, ρ, G, ow, z⟩ := key (fun _ v _ => True) σ H (fun v H' => ∃ d, v = .bl d ∧ Q d H') ⟨B, ρ, G, ow, q.imp (fun x k v G' H' e r => by
        obtain ⟨b, rfl, k⟩ := k
        exact ⟨b, rep_bl.mp (show Rep X.K G' _ _ from r), k G' H' e⟩) fun _ z => z⟩
      exact ⟨B, ρ, G, ow, z.imp (fun x k v G1 H1 e1 r1 => by
        obtain ⟨a, ha, ov, hg, hq⟩ := k v G1 H1 e1 r1
        exact ⟨_, ha, a, ov, rfl, hg, by simpa using hq⟩) fun _ z => z⟩
  | true =>
    refine ⟨PE.weak (pe_cmp (pc_dnotin hu he va) rfl) fun σ H Q q => ?_, PT.weak (pt_cmp (pc_dnotin hu he va) rfl) fun σ H Q ⟨B, ρ, G, ow, q⟩ => ?_⟩
    · obtain ⟨B, ρ, G, ow, z⟩ := key (fun _ => Q) σ H Q q
      exact ⟨B, ρ, G, ow, z.imp (fun x k v G1 H1 e1 r1 => by
        obtain ⟨a, ha, ov, hg, hq⟩ := k v G1 H1 e1 r1
        exact ⟨_, ha, a, ov, rfl, hg, by simpa using hq⟩) fun _ z => z⟩
    · obtain ⟨B, ρ, G, ow, z⟩ := key (fun _ v _ => True) σ H (fun v H' => ∃ d, v = .bl d ∧ Q d H') ⟨B, ρ, G, ow, q.imp (fun x k v G' H' e r => by
        obtain ⟨b, rfl, k⟩ := k
        exact ⟨b, rep_bl.mp (show Rep X.K G' _ _ from r), k G' H' e⟩) fun _ z => z⟩
      exact ⟨B, ρ, G, ow, z.imp (fun x k v G1 H1 e1 r1 => by
        obtain ⟨a, ha, ov, hg, hq⟩ := k v G1 H1 e1 r1
        exact ⟨_, ha, a, ov, rfl, hg, by simpa using hq⟩) fun _ z => z⟩
def fDget (i : Nat) (f : Env → R PV) : Env → R PV := fun ρ => (match ρ[i]? with
  | some (.od kvs) => (f ρ).bind fun x => (match tupInts x with
    | some k => (match dkGet kvs k with
      | some v => .ok (.int v)
      | none => .bad)
    | none => .bad)
  | _ => .bad)
theorem se_dget (o : XOk Γ N sc so W X) {e : Expr} {f : Env → R PV} {i : Nat} {x : Str} {p pos : Pos} (hn : N[i]? = some x) (hv : vis sc x = true) (ge : good e = true) (he : SE Γ W X .esc e f) :
    SE Γ W X .esc (.Subscript (.Name x p) e pos) (fDget i f) := by
  have hu : X.A.units + 1 < cLine := by have := o.un; omega
  have va : PE X (.Name x p) (tVar i) := pe_var (o.Nx hn) (o.vis hv) (o.nodb hn).1 (o.nodb hn).2
  refine PE.weak (pe_dget hu va he (good_ix ge)) fun σ H Q ⟨B, ρ, G, ow, q⟩ => ?_
  unfold fDget at q
  split at q
  · rename_i kvs h1
    obtain ⟨a, ha, hd, _, _⟩ := ow.od h1
    refine ⟨_, ha, B, ρ, G, ow, (PK_bind.mp q).imp (fun x k v G1 H1 e1 r1 => ?_) fun _ z => z⟩
    split at k
    · rename_i ks h2
      split at k
      · rename_i w h3
        obtain ⟨b, rfl, hb⟩ := key_rep h2 (show Rep X.K G1 x v from r1)
        obtain ⟨a', ha', hd', _, _⟩ := (ow.step e1).od h1
        rw [ha] at ha'
        cases ha'
        have g := DGet.t hd' (e1.gh _ _ hb)
        rw [valV_dt, h3] at g
        exact ⟨a, _, rfl, g, k _ G1 H1 e1 (show Rep X.K G1 _ _ from rep_int')⟩
      · exact k.elim
    · exact k.elim
  · exact q.elim
/-! ### a written dict of numbers, asked -/
def mDisp : List (Int × Int) → List (Option Expr) → List Expr → Bool
  | [], [], [] => true
  | (k, v) :: r, some (.Constant (.int k') _ _) :: ks, .Constant (.int v') _ _ :: vs => decide (k = k') && decide (v = v') && mDisp r ks vs
  | _, _, _ => false
theorem pps_of {X : Cx} {pos : Pos} : ∀ {kvs : List (Int × Int)} {ks : List (Option Expr)} {vs : List Expr}, mDisp kvs ks vs = true →
    PPs X pos ks vs (kvs.map fun p => (tC (.int p.1), tC (.int p.2))) ∧ ks.all (·.isSome) = true ∧ ks.length = kvs.length ∧ vs.length = kvs.length := by
  intro kvs
  induction kvs with
  | nil =>
    intro ks vs h
    match ks, vs, h with
    | [], [], _ => exact ⟨pps_nil, rfl, rfl, rfl⟩
  | cons p r ih =>
    intro ks vs h
    obtain ⟨k, v⟩ := p
    match ks, vs, h with
    | some (.Constant (.int k') _ _) :: ks, .Constant (.int v') _ _ :: vs, h =>
      have h : (decide (k = k') && decide (v = v') && mDisp r ks vs) = true := h
      simp only [Bool.and_eq_true, decide_eq_true_eq] at h
      obtain ⟨⟨rfl, rfl⟩, h3⟩ := h
      obtain ⟨h4, h5, h6, h7⟩ := ih h3
      exact ⟨pps_cons pe_int pe_int h4, by rw [List.all_cons, h5]; rfl, by rw [List.length_cons, List.length_cons, h6], by rw [List.length_cons, List.length_cons, h7]⟩
theorem tPairs_of : ∀ {kvs : List (Int × Int)} {σ : St} {H : Hp} {Q : List (V × V) → Hp → Prop}, Q (kvs.map fun p => (V.int p.1, V.int p.2)) H → tPairs (kvs.map fun p => (tC (.int p.1), tC (.int p.2))) σ H Q
  | [], _, _, _, h => h
  | p :: r, σ, H, Q, h => tPairs_of (kvs := r) (Q := fun ps H3 => Q ((V.int p.1, V.int p.2) :: ps) H3) h
abbrev dsL (kvs : List (Int × Int)) : List (Key × V) := kvs.map fun p => (Sum.inl p.1, V.int p.2)
theorem valV_ds (kvs : List (Int × Int)) (k : Int) : valV (dsL kvs) (Sum.inl k) = (dsV kvs k).map V.int := by
  unfold valV dsV dsL
  rw [List.find?_map, Option.map_map, Option.map_map]
  have : ((fun kv : Key × V => decide (kv.1 = Sum.inl k)) ∘ fun p : Int × Int => ((Sum.inl p.1 : Key), V.int p.2)) = fun p => decide (p.1 = k) := by
    funext p
    show decide ((Sum.inl p.1 : Key) = Sum.inl k) = decide (p.1 = k)
    simp
  rw [this]
  rfl
theorem mergeK_new : ∀ (more acc : List (Key × V)), ((acc ++ more).map (·.1)).Nodup → mergeK acc more = acc ++ more
  | [], acc, _ => by rw [List.append_nil]; rfl
  | p :: r, acc, h => by
    have e : putK acc p.1 p.2 = acc ++ [p] := by
      have : (acc.any fun kv => decide (kv.1 = p.1)) = false := by
        rw [List.any_eq_false]
        intro q hq e
        rw [List.map_append, List.nodup_append] at h
        exact h.2.2 _ (List.mem_map.mpr ⟨q, hq, rfl⟩) p.1 (by simp) (of_decide_eq_true e)
      unfold putK
      rw [this]
      rfl
    have := mergeK_new r (acc ++ [p]) (by rwa [List.append_assoc])
    rw [List.append_assoc] at this
    show mergeK (putK acc p.1 p.2) r = _
    rw [e]
    exact this
def fDsel (kvs : List (Int × Int)) (f : Env → R PV) : Env → R PV := fun ρ => (f ρ).bind fun x => (match x with
  | .int z => (match dsV kvs z with
    | some v => .ok (.int v)
    | none => .bad)
  | _ => .bad)
theorem se_dsel (o : XOk Γ N sc so W X) {kvs : List (Int × Int)} {ks : List (Option Expr)} {vs : List Expr} {e : Expr} {f : Env → R PV} {p pos : Pos} (hm : mDisp kvs ks vs = true) (h0 : kvs.length ≠ 0) (h15 : kvs.length ≤ 15) (nd : (kvs.map (·.1)).Nodup) (ge : good e = true) (he : SE Γ W X .esc e f) :
    SE Γ W X .esc (.Subscript (.Dict ks vs p) e pos) (fDsel kvs f) := by
  have hu : X.A.units + 1 < cLine := by have := o.un; omega
  obtain ⟨m1, m2, m3, m4⟩ := pps_of (X := X) (pos := p) hm
  refine PE.weak (pe_dget hu (pe_disp m1 m2 (by omega) (fun z => h0 (by rw [← m3, z]; rfl)) (by omega)) he (good_ix ge)) fun σ H Q ⟨B, ρ, G, ow, q⟩ => fun d hp => tPairs_of ⟨upd_same, dsL kvs, ?_, by simpa using h15, ?_⟩
  · unfold dsL
    rw [List.map_map]
    rfl
  · have nk : ((([] : List (Key × V)) ++ dsL kvs).map (·.1)).Nodup := by
      rw [List.nil_append]
      unfold dsL
      rw [List.map_map]
      have e : ((fun x : Key × V => x.1) ∘ fun p : Int × Int => ((Sum.inl p.1 : Key), V.int p.2)) = fun p => (Sum.inl p.1 : Key) := rfl
      rw [e]
      have := List.Pairwise.map (R := fun a c : Int => a ≠ c) (S := fun a c : Key => a ≠ c) (fun k : Int => (Sum.inl k : Key)) (fun a c h e => h (Sum.inl.inj e)) nd
      rwa [List.map_map] at this
    rw [mergeK_new _ _ nk, List.nil_append, upd_two]
    have e0 : Ext G H (upd G d (.dK (dsL kvs))) (upd H d (.dK (dsL kvs))) := Ext.new ow.gh hp
    refine ⟨B, ρ, _, ow.step e0, (PK_bind.mp q).imp (fun x k v G1 H1 e1 r1 => ?_) fun c z => ?_⟩
    · split at k
      · rename_i z
        split at k
        · rename_i w h3
          have hd : H1 d = some (.dK (dsL kvs)) := e1.gh _ _ (e1.sg _ _ upd_same)
          have g := DGet.k (k := Sum.inl z) hd
          rw [valV_ds, h3] at g
          have r1 : Rep X.K G1 (.int z) v := r1
          rw [rep_int.mp r1]
          exact ⟨d, _, rfl, g, k _ G1 H1 (e0.trans e1) (show Rep X.K G1 _ _ from rep_int')⟩
        · exact k.elim
      · exact k.elim
    · exact Ke.step e0 z
def fDlen (i : Nat) : Env → R PV := fun ρ => (match ρ[i]? with
  | some (.od kvs) => .ok (.int kvs.length)
  | _ => .bad)
theorem se_dlen (o : XOk Γ N sc so W X) {i : Nat} {x : Str} {p p2 pos : Pos} (hb : ("len" : Str) ∈ Γ.bl) (hg : glb sc "len" = true) (hn : N[i]? = some x) (hv : vis sc x = true) :
    SE Γ W X .esc (.Call (.Name "len" p2) [.Name x p] [] pos) (fDlen i) := by
  have va : PE X (.Name x p) (tVar i) := pe_var (o.Nx hn) (o.vis hv) (o.nodb hn).1 (o.nodb hn).2
  refine PE.weak (pe_callB call_len_dT (o.gl hg) (o.g.bl _ hb) PySem.boot_len (pa_cons va pa_nil)) fun σ H Q ⟨B, ρ, G, ow, q⟩ => ?_
  unfold fDlen at q
  split at q
  · rename_i kvs h1
    obtain ⟨a, ha, hd, _, _⟩ := ow.od h1
    refine ⟨_, ha, a, _, rfl, hd, ?_⟩
    rw [show (dtL kvs).length = kvs.length by simp [dtL]]
    exact q _ G H (Ext.refl ow.gh) (show Rep X.K G _ _ from rep_int')
  · exact q.elim
def fDkeys (i : Nat) : Env → R PV := fun ρ => (match ρ[i]? with
  | some (.od kvs) => .ok (.lst (kvs.map fun p => .tup (p.1.map .int)))
  | _ => .bad)
/-- the keys' tuples are settled -/
theorem keys_settle {K : PySem.W.Frag} {H : Hp} : ∀ {kvs : List (List Int × Int)} {bs : List Addr} {G : Hp}, Same G H → IsKeys H (dtL kvs) bs → ∃ G', Ext G H G' H ∧ (∀ b vs, (∀ us, vs ≠ HO.tup us) → G' b = some vs → G b = some vs) ∧ Reps K G' (kvs.map fun p => .tup (p.1.map .int)) (bs.map V.ref)
  | [], bs, G, s, h => by
    cases h
    exact ⟨G, Ext.refl s, fun _ _ _ q => q, reps_nil.mpr rfl⟩
  | p :: kvs, bs, G, s, h => by
    cases h with
    | cons hb ht =>
      rename_i b bs'
      have e1 := Ext.settleT s hb
      obtain ⟨G', e2, l2, r2⟩ := keys_settle (K := K) e1.gh ht
      refine ⟨G', e1.trans e2, fun c vs nt q => ?_, reps_cons.mpr ⟨_, _, rfl, rep_tup.mpr ⟨b, _, rfl, e2.sg _ _ upd_same, ?_⟩, r2⟩⟩
      · have q1 := l2 c vs nt q
        by_cases hc : c = b
        · subst hc
          rw [upd_same] at q1
          exact absurd (Option.some.inj q1).symm (nt _)
        · rwa [upd_ne hc] at q1
      · show Reps K G' (p.1.map PV.int) ((p.1.map (Sum.inl : Int → Key)).map kV)
        rw [kV_inl]
        exact reps_ints.mpr rfl
theorem se_dkeys (o : XOk Γ N sc so W X) (hh : Γ.hot = false) {i : Nat} {x : Str} {p p2 pos : Pos} (hb : ("list" : Str) ∈ Γ.bl) (hg : glb sc "list" = true) (hn : N[i]? = some x) (hv : vis sc x = true) :
    SE Γ W X .fre (.Call (.Name "list" p2) [.Name x p] [] pos) (fDkeys i) := by
  have va : PE X (.Name x p) (tVar i) := pe_var (o.Nx hn) (o.vis hv) (o.nodb hn).1 (o.nodb hn).2
  refine PE.weak (pe_callTy (call_list_dT (o.calm hh)) (o.gl hg) (o.g.bl _ hb) (by decide +kernel) (pa_cons va pa_nil)) fun σ H Q ⟨B, ρ, G, ow, q⟩ => ?_
  unfold fDkeys at q
  split at q
  · rename_i kvs h1
    obtain ⟨a, ha, hd, _, _⟩ := ow.od h1
    refine ⟨_, ha, a, _, rfl, Rd.of hd, fun l bs hl hk => ?_⟩
    obtain ⟨G', e1, l1, r1⟩ := keys_settle (K := X.K) ow.gh hk
    have e2 : Ext G' H G' (upd H l (.lst (bs.map V.ref))) := Ext.fresh e1.gh hl
    exact q _ G' _ (e1.trans e2) ⟨l, _, rfl, hl, e1.gh.free hl, upd_same, r1⟩
  · exact q.elim
/-! ### xs.index(x) -/
theorem pIdxL_some {x : PV} : ∀ {ys : List PV} {n m : Nat}, pIdxL x ys n = some m → ∃ j z, m = n + j ∧ ys[j]? = some z ∧ pyEq z x = true ∧ ∀ (k : Nat) (z' : PV), k < j → ys[k]? = some z' → pyEq z' x = false
  | [], n, m, h => by simp [pIdxL] at h
  | y :: ys, n, m, h => by
    simp only [pIdxL] at h
    split at h
    · rename_i hy
      cases h
      exact ⟨0, y, rfl, rfl, hy, fun k _ hk => absurd hk (Nat.not_lt_zero k)⟩
    · rename_i hy
      obtain ⟨j, z, e, hz, hp, hn⟩ := pIdxL_some h
      refine ⟨j + 1, z, by omega, by simpa using hz, hp, fun k z' hk hz' => ?_⟩
      cases k with
      | zero =>
        simp only [List.getElem?_cons_zero, Option.some.injEq] at hz'
        subst hz'
        simpa using hy
      | succ k => exact hn k z' (by omega) (by simpa using hz')
theorem pIdx_nx (x y : PV) (c : Nat) : pIdx x y ≠ .exn c := by
  unfold pIdx
  split
  · split
    · split <;> (intro h; cases h)
    · intro h
      cases h
  · intro h
    cases h
theorem se_idx {es : List Expr} {b : Expr} {lp apos cpos : Pos} {fa fb : Env → R PV} (gb : good b = true) (hline : (apos.endLine == cpos.line) = true) (ha : SE Γ W X .bor (.List es lp) fa) (hb : SE Γ W X .bor b fb) :
    SE Γ W X .esc (.Call (.Attribute (.List es lp) "index" apos) [b] [] cpos) (fun ρ => (fa ρ).bind fun x => (match x with
      | .lst ys => (fb ρ).bind fun y => pIdx (.lst ys) y
      | _ => .bad)) := by
  have hfew : ((backTo cpos (starEach [b] X.env)).all (fun x => !x.1) && (backToKw cpos (keywordEach [] X.env)).all (fun x => x.1.isSome) && decide (([b] : List Expr).length + ([] : List Keyword).length + (if ([] : List Keyword).isEmpty then 0 else 1) < 30)) = true := by
    rw [good_star gb]
    rfl
  refine PE.weak (pe_bm PySem.F.plainAttrs_list PySem.F.slot_list_index PySem.F.type_list_index mt_index ha (pa_cons hb pa_nil (good_star gb _ _)) rfl hfew hline (good_star gb _ _) rfl) fun σ H Q ⟨B, ρ, G, ow, q⟩ => ?_
  refine ⟨B, ρ, G, ow, (PK_bind.mp q).imp (fun x k v G1 H1 e1 r1 => ?_) fun _ z => z⟩
  cases x with
  | lst ys =>
    have k := PK_bind.mp k
    obtain ⟨a, vs, rfl, h1, rs⟩ := RepT.lst (show RepT X.K G1 H1 _ _ from r1)
    refine ⟨.inl ⟨rfl, _, SqL.of h1⟩, B, ρ, G1, ow.step e1, k.imp (fun y k u G2 H2 e2 r2 => ?_) fun _ z => Ke.step e1 z⟩
    have k : PK (if flat y && ys.all flat then (match pIdxL y ys 0 with
      | some n => R.ok (PV.int (n : Nat))
      | none => .bad) else .bad) _ _ := k
    split at k
    · rename_i hf
      rw [Bool.and_eq_true] at hf
      split at k
      · rename_i m hm
        obtain ⟨j, z, ej, hz, hp, hnone⟩ := pIdxL_some hm
        rw [Nat.zero_add] at ej
        subst ej
        have ry : Rep X.K G2 y u := by
          have f1 := hf.1
          cases y <;> first | (simp only [flat, Bool.false_eq_true] at f1; done) | exact r2
        have rs2 := rs.mono (e2.gg e1.gh)
        obtain ⟨w, hw, rw_⟩ := rs2.get hz
        have fz : ∀ {k : Nat} {z' : PV}, ys[k]? = some z' → flat z' = true := fun h => List.all_eq_true.mp hf.2 _ (List.mem_of_getElem? h)
        refine ⟨a, vs, u, m, w, rfl, rfl, SqL.of (e2.hh.lst h1), flat_rep hf.1 ry, flats_rep hf.2 rs2, hw, ?_, fun n w' hn hw' => ?_, k _ G2 H2 (e1.trans e2) (show Rep X.K G2 _ _ from rep_int')⟩
        · rw [eqV_rep hf.1 (fz hz) ry rw_]
          exact hp
        · obtain ⟨z', hz', rz'⟩ := rs2.get' hw'
          rw [eqV_rep hf.1 (fz hz') ry rz']
          exact hnone n z' hn hz'
      · exact k.elim
    · exact k.elim
  | _ => exact k.elim
end
end Pf

set_option Elab.async false
set_option linter.all false
set_option maxRecDepth 100000
set_option autoImplicit false
/-! PfW: texts put together and parted -/
namespace Pf
open PySem PySem.Spec L2
theorem strsOf_eq : ∀ {xs : List PV} {ss : List Str}, strsOf xs = some ss → xs = ss.map PV.str
  | [], ss, h => by cases h; rfl
  | x :: xs, ss, h => by
    cases x <;> first | (simp only [strsOf, reduceCtorEq] at h; done) | skip
    rename_i i
    simp only [strsOf] at h
    cases e : strsOf xs with
    | none => rw [e] at h; cases h
    | some ms =>
      rw [e] at h
      cases h
      rw [strsOf_eq e]
      rfl
section
variable [Tbc] [Tlc] {Γ : Gt} {N : List Str} {sc so : Scope} {W : WX} {X : Cx}
theorem joi_ex {fa fb : Env → R PV} : ∃ r, MtR X "str.join" r ∧ ∀ σ H Q, rdE Γ W X.K .esc (fun ρ => (fa ρ).bind fun x => (match x with
      | .str s => (fb ρ).bind fun y => pJoin (.str s) y
      | _ => .bad)) σ H Q → tBM X.K "str" r (rdE Γ W X.K .bor fa) (tCons (rdE Γ W X.K .bor fb) tNil) σ H Q := by
  refine ⟨_, mt_join, fun σ H Q ⟨B, ρ, G, ow, q⟩ => ?_⟩
  refine ⟨B, ρ, G, ow, (PK_bind.mp q).imp (fun x k v G1 H1 e1 r1 => ?_) fun _ z => z⟩
  cases x with
  | str a =>
    have rv : v = .str a := RepT.str (show RepT X.K G1 H1 _ _ from r1)
    subst rv
    have k := PK_bind.mp k
    refine ⟨rfl, B, ρ, G1, ow.step e1, k.imp (fun y k u G2 H2 e2 r2 => ?_) fun _ z => Ke.step e1 z⟩
    cases y with
    | lst ys =>
      obtain ⟨p, vs, rfl, h1, rs⟩ := RepT.lst (show RepT X.K G2 H2 _ _ from r2)
      replace k : PK (match strsOf ys with
        | some ss => if (ss.map (·.length)).sum + ss.length * a.length ≤ 16777216 then R.ok (PV.str (Txt.join a ss)) else .bad
        | none => .bad) _ _ := k
      cases es : strsOf ys with
      | none => rw [es] at k; exact k.elim
      | some ss =>
        rw [es] at k
        replace k : PK (if (ss.map (·.length)).sum + ss.length * a.length ≤ 16777216 then R.ok (PV.str (Txt.join a ss)) else .bad) _ _ := k
        split at k
        · rename_i hl
          have := strsOf_eq es
          subst this
          have := reps_strs.mp rs
          subst this
          exact ⟨a, p, ss, rfl, rfl, .inl (SqL.of h1), hl, k _ G2 H2 (e1.trans e2) (show Rep X.K G2 _ _ from rep_str')⟩
        · exact k.elim
    | tup ys =>
      obtain ⟨p, vs, rfl, h1, rs⟩ := RepT.tup (show RepT X.K G2 H2 _ _ from r2)
      replace k : PK (match strsOf ys with
        | some ss => if (ss.map (·.length)).sum + ss.length * a.length ≤ 16777216 then R.ok (PV.str (Txt.join a ss)) else .bad
        | none => .bad) _ _ := k
      cases es : strsOf ys with
      | none => rw [es] at k; exact k.elim
      | some ss =>
        rw [es] at k
        replace k : PK (if (ss.map (·.length)).sum + ss.length * a.length ≤ 16777216 then R.ok (PV.str (Txt.join a ss)) else .bad) _ _ := k
        split at k
        · rename_i hl
          have := strsOf_eq es
          subst this
          have := reps_strs.mp rs
          subst this
          exact ⟨a, p, ss, rfl, rfl, .inr (SqT.of (e2.gh _ _ h1)), hl, k _ G2 H2 (e1.trans e2) (show Rep X.K G2 _ _ from rep_str')⟩
        · exact k.elim
    | _ => exact k.elim
  | _ => exact k.elim
theorem se_joi {e f : Expr} {apos cpos : Pos} {fa fb : Env → R PV} (hbase : attributeBase e "join" X.env (eval e X.env) = eval e X.env) (gb : good f = true) (hline : (apos.endLine == cpos.line) = true) (ha : SE Γ W X .bor e fa) (hb : SE Γ W X .bor f fb) :
    SE Γ W X .esc (.Call (.Attribute e "join" apos) [f] [] cpos) (fun ρ => (fa ρ).bind fun x => (match x with
      | .str s => (fb ρ).bind fun y => pJoin (.str s) y
      | _ => .bad)) := by
  have hfew : ((backTo cpos (starEach [f] X.env)).all (fun x => !x.1) && (backToKw cpos (keywordEach [] X.env)).all (fun x => x.1.isSome) && decide (([f] : List Expr).length + ([] : List Keyword).length + (if ([] : List Keyword).isEmpty then 0 else 1) < 30)) = true := by
    rw [good_star gb]
    rfl
  obtain ⟨r, hm, hw⟩ := joi_ex (Γ := Γ) (W := W) (X := X) (fa := fa) (fb := fb)
  exact PE.weak (pe_bm PySem.F.plainAttrs_str PySem.F.slot_str_join PySem.F.type_str_join hm ha (pa_cons hb pa_nil (good_star gb _ _)) hbase hfew hline (good_star gb _ _) rfl) hw
/-- a written text's method: behind it a token is out -/
theorem pe_bm1 {c : Str} {j : Nat} {c0 apos cpos : Pos} {name : Str} {id : String} {e : Expr} {es : List Expr} {r : V → List V → Hp → VK → Prop} {to : TE} {t : TA} (slot : Slot "str" name id) (hty : typeOf (.builtin id) = pure (.type "method_descriptor")) (hm : MtR X id r)
    (ho : ∀ σ H Q, to σ H Q → Q (.str c) H) (ha : PA X (e :: es) t)
    (hbase : attributeBase (.Constant (.str c) j c0) name X.env (eval (.Constant (.str c) j c0) X.env) = eval (.Constant (.str c) j c0) X.env)
    (hfew : ((backTo cpos (starEach (e :: es) X.env)).all (fun x => !x.1) && (backToKw cpos (keywordEach [] X.env)).all (fun x => x.1.isSome) && decide ((e :: es).length + ([] : List Keyword).length + (if ([] : List Keyword).isEmpty then 0 else 1) < 30)) = true)
    (hline : (apos.endLine == cpos.line) = true) (hs : starEach (e :: es) X.env = (false, eval e X.env) :: starEach es X.env) (hplain : (backTo cpos (starEach es X.env)).any (·.1) = false)
    {pins : List (Addr × Obj)} {s : Shared} {σ : L2.St} {H : Hp} {Q : VK} (I : Inv X pins σ H s) (h : tBM X.K "str" r to t σ H Q) :
    wpAny (model X.prog X.w) X.A (eval (.Call (.Attribute (.Constant (.str c) j c0) name apos) (e :: es) [] cpos) X.env) (fun v s1 => 1 ≤ s1.toks ∧ EP X pins σ Q v s1) X.xe s := by
  refine PySem.wpAny_Call_method_late hbase hfew hline rfl (Calls.Constant_str ?_)
  obtain ⟨ty, q1⟩ := ho σ H _ h
  have I1 : Inv X pins σ H { s with toks := s.toks + 1 } := I.tok (s.toks + 1)
  obtain ⟨h1, h2⟩ := tyV_is I1 (show RelV (.str c) (.str c s.toks) from ⟨_, rfl⟩) ty
  refine ⟨"str", id, PySem.F.plainAttrs_str, slot, hty, h1, h2, ?_⟩
  have hA := ha.run cpos pins { s with toks := s.toks + 1 } σ H _ I1 q1
  rw [hs] at hA ⊢
  refine wpAny_mono (PySem.wpAny_toks (Calls.callWith_builtin (by show (false || (backTo cpos (starEach es X.env)).any (·.1)) = false; rw [hplain] <;> rfl) (Calls.evalArgs_plain
    (thn hA fun us s2 ⟨vs, H2, I2, r2, q2⟩ => hm pins s2 σ H2 (.str c) vs (.str c s.toks) us Q I2 ⟨_, rfl⟩ r2 q2)))) (fun v s1 q => ⟨?_, q.2⟩) fun _ _ z => z.2
  have : s.toks + 1 ≤ s1.toks := q.1
  omega
theorem se_joi1 {c : Str} {j : Nat} {c0 apos cpos : Pos} {f : Expr} {fb : Env → R PV} (hbase : attributeBase (.Constant (.str c) j c0) "join" X.env (eval (.Constant (.str c) j c0) X.env) = eval (.Constant (.str c) j c0) X.env) (gb : good f = true) (hline : (apos.endLine == cpos.line) = true) (hb : SE Γ W X .bor f fb)
    {pins : List (Addr × Obj)} {s : Shared} {σ : L2.St} {H : Hp} {Q : VK} (I : Inv X pins σ H s) (h : rdE Γ W X.K .esc (fun ρ => (fb ρ).bind fun y => pJoin (.str c) y) σ H Q) :
    wpAny (model X.prog X.w) X.A (eval (.Call (.Attribute (.Constant (.str c) j c0) "join" apos) [f] [] cpos) X.env) (fun v s1 => 1 ≤ s1.toks ∧ EP X pins σ Q v s1) X.xe s := by
  have hfew : ((backTo cpos (starEach [f] X.env)).all (fun x => !x.1) && (backToKw cpos (keywordEach [] X.env)).all (fun x => x.1.isSome) && decide (([f] : List Expr).length + ([] : List Keyword).length + (if ([] : List Keyword).isEmpty then 0 else 1) < 30)) = true := by
    rw [good_star gb]
    rfl
  obtain ⟨r, hm, hw⟩ := joi_ex (Γ := Γ) (W := W) (X := X) (fa := fun _ => .ok (.str c)) (fb := fb)
  refine pe_bm1 PySem.F.slot_str_join PySem.F.type_str_join hm (fun σ H Q ⟨B, ρ, G, ow, q⟩ => ?_) (pa_cons hb pa_nil (good_star gb _ _)) hbase hfew hline (good_star gb _ _) rfl I (hw σ H Q h)
  exact q _ G H (Ext.refl ow.gh) (Rep.toT ow.gh (show Rep X.K G _ _ from rep_str'))
theorem se_spl {e f : Expr} {apos cpos : Pos} {fa fb : Env → R PV} (hbase : attributeBase e "split" X.env (eval e X.env) = eval e X.env) (gb : good f = true) (hline : (apos.endLine == cpos.line) = true) (ha : SE Γ W X .bor e fa) (hb : SE Γ W X .bor f fb) :
    SE Γ W X .fre (.Call (.Attribute e "split" apos) [f] [] cpos) (fun ρ => (fa ρ).bind fun x => (match x with
      | .str s => (fb ρ).bind fun y => pSplt (.str s) y
      | _ => .bad)) := by
  have hfew : ((backTo cpos (starEach [f] X.env)).all (fun x => !x.1) && (backToKw cpos (keywordEach [] X.env)).all (fun x => x.1.isSome) && decide (([f] : List Expr).length + ([] : List Keyword).length + (if ([] : List Keyword).isEmpty then 0 else 1) < 30)) = true := by
    rw [good_star gb]
    rfl
  refine PE.weak (pe_bm PySem.F.plainAttrs_str PySem.F.slot_str_split PySem.F.type_str_split mt_split ha (pa_cons hb pa_nil (good_star gb _ _)) hbase hfew hline (good_star gb _ _) rfl) fun σ H Q ⟨B, ρ, G, ow, q⟩ => ?_
  refine ⟨B, ρ, G, ow, (PK_bind.mp q).imp (fun x k v G1 H1 e1 r1 => ?_) fun _ z => z⟩
  cases x with
  | str a =>
    have rv : v = .str a := RepT.str (show RepT X.K G1 H1 _ _ from r1)
    subst rv
    have k := PK_bind.mp k
    refine ⟨rfl, B, ρ, G1, ow.step e1, k.imp (fun y k u G2 H2 e2 r2 => ?_) fun _ z => Ke.step e1 z⟩
    cases y with
    | str b =>
      have rv : u = .str b := RepT.str (show RepT X.K G2 H2 _ _ from r2)
      subst rv
      replace k : PK (if (b.length == 0) = false ∧ a.length ≤ LIM then R.ok (PV.lst ((Txt.split a b).map .str)) else .bad) _ _ := k
      split at k
      · rename_i hl
        refine ⟨a, b, rfl, rfl, hl.1, ?_, fun p hp => ?_⟩
        · have := lim_line
          have : LIM + 2 ≤ sizeLine := by decide
          have := hl.2
          omega
        · exact k _ _ _ ((e1.trans e2).trans (Ext.fresh e2.gh hp)) ⟨p, _, rfl, (e1.trans e2).hh.free hp, e2.gh.free hp, upd_same, reps_strs.mpr rfl⟩
      · exact k.elim
    | _ => exact k.elim
  | _ => exact k.elim
end
end Pf

set_option Elab.async false
set_option linter.all false
set_option maxRecDepth 100000
set_option autoImplicit false
/-! PfR: a list of texts joined from behind -/
namespace Pf
open PySem PySem.Spec L2 PyProof.Rows
open PySem.Builtin.Str PySem.Builtin
section
variable {prog : Program} {w : World} {A : Around} {E Q : Value → Shared → Prop} {s : Shared} {x : Str} {t : Tok} {it l : Addr} {items : Array Value} {ys : List Str}
theorem join_rev (hh : A.handled = none) (hit : s.heap.IsRevIter it l ((items.size : Int) - 1)) (hl : s.heap.IsList l items) (hne : l ≠ it) (hn : items.size ≤ sizeLine)
    (hv : ∀ acc : Array Value, ItemsOf (fun i v => items[items.size - 1 - i]? = some v) acc items.size → StrsAre acc.toList ys)
    (hok : (ys.map (·.length)).sum + ys.length * x.length ≤ 16777216)
    (hQ : ∀ (h' : Heap) (k : Nat) (t' : Tok), (∀ b o, b ≠ it → s.heap.get? b = some o → h'.get? b = some o) → Q (.str (Txt.join x ys) t') { s with heap := h', toks := k }) :
    wpAny (model prog w) A (call (.builtin "str.join") [.str x t, .ref it]) Q E s := by
  refine wpAny_call (codeAny_call_builtin F.slot_str_join.plain F.entry_str_join
    (F.slot_str_join.check _ _ _ _ _ _ _ _
      (typeIs_str _ _ _) (F.args_str_join_2 _ _) ?_))
  rw [PySem.join_tree_other]
  refine wpAny_bind (wpAny_typeOf (hit.typeIs) ?_)
  show wpAny _ A.in1 ((pyIter (.ref it)).tryCatch _ >>= fun i2 => collect i2 >>= fun is2 => joinTail x is2) _ _ s
  refine wpAny_bind (wpAny_tryCatch (wpAny_pyIter_revIter hit ?_))
  refine wpAny_bind (RT.collect_rev (A := A.in1) hh hit hl hne hn fun h' tk acc hk hacc => ?_)
  obtain ⟨l2, e1, e2⟩ := strsAre_values (hv acc hacc)
  rw [e1]
  have hok2 : JoinOk x (l2.map (·.1)) = true := by
    rw [e2]
    exact joinOk_of hok
  unfold JoinOk at hok2
  rw [Bool.not_eq_true'] at hok2
  have g : Gives (joinTail x (strValues l2)) (joinMade x l2) := by
    have g0 := gives_joinTail x l2 hok2
    rcases l2 with _ | ⟨p, _ | ⟨q, r⟩⟩ <;> exact g0
  refine g prog w A (wants Q E) _ (post_join l2 ⟨joinFit_length hok2, fun t' k => ?_⟩)
  rw [e2]
  exact hQ h' k t' hk
end
section
variable {X : Cx}
def tJrv (K : PySem.W.Frag) (c : Str) (te : TE) : TE := fun σ H Q => te σ H fun v H1 => ∃ (a : Addr) (ys : List Str), v = .ref a ∧ SqL K H1 a (ys.map V.str) ∧ (ys.reverse.map (·.length)).sum + ys.reverse.length * c.length ≤ 16777216 ∧ Q (.str (Txt.join c ys.reverse)) H1
theorem pe_jrv {c : Str} {j : Nat} {c0 apos cpos p2 pos2 : Pos} {e : Expr} {te : TE} (hc : X.calm = true) (hg : Gl X "reversed") (hm : X.mg "reversed" = none) (he : PE X e te) (hs : starEach [e] X.env = (false, eval e X.env) :: starEach [] X.env) (hline : (apos.endLine == cpos.line) = true) :
    PE X (.Call (.Attribute (.Constant (.str c) j c0) "join" apos) [.Call (.Name "reversed" p2) [e] [] pos2] [] cpos) (tJrv X.K c te) := by
  refine ⟨fun pins s σ H Q I h => ?_⟩
  refine PySem.wpAny_Call_method_late rfl rfl hline rfl (Calls.Constant_str ?_)
  have I0 : Inv X pins σ H { s with toks := s.toks + 1 } := I.tok (s.toks + 1)
  obtain ⟨h1, h2⟩ := tyV_is I0 (show RelV (.str c) (.str c s.toks) from ⟨_, rfl⟩) (show tyV X.K "str" (.str c) H from rfl)
  refine ⟨"str", "str.join", PySem.F.plainAttrs_str, PySem.F.slot_str_join, PySem.F.type_str_join, h1, h2, ?_⟩
  refine Calls.callWith_builtin rfl (Calls.evalArgs_plain ?_)
  refine Calls.spliced_cons (Call_ (ld_blt I0 hg hm PyProof.Rows.boot_reversed (PyProof.Rows.callWith_type1 (args_cons (thn (he.run pins _ σ H _ I0 h) fun u s1 ⟨v, H1, I1, r1, q1⟩ => args_nil ?_) hs) hs rfl)))
  obtain ⟨a, ys, ev, hq, hz2, q⟩ := q1
  subst ev
  obtain rfl : u = Value.ref a := r1
  obtain ⟨its, rv, p', hz⟩ := I1.list hq
  refine call_reversed_list p'.isList (Calls.spliced_nil ?_)
  have k0 : ∀ b o, s1.heap.get? b = some o → (s1.heap.push (revObj a ((its.toArray.size : Int) - 1))).get? b = some o := fun b o e => Heap.get?_push_of_some _ e
  have I2 : Inv X pins σ H1 { s1 with heap := s1.heap.push (revObj a ((its.toArray.size : Int) - 1)) } := I1.kept (t' := s1.toks) k0
  obtain ⟨f0, f1, f2, f3, f4, f5⟩ := I1.fpOk (H' := H1) (b := s1.heap.objs.size) (Nat.le_refl _) (I1.hok.fresh (Nat.le_refl _))
  have hl := p'.isList
  obtain ⟨ol, hol, _⟩ := id hl
  have hne : a ≠ s1.heap.objs.size := Nat.ne_of_lt (Heap.lt_size hol)
  have hn : its.toArray.size ≤ sizeLine := by
    rw [List.size_toArray, ← rv.length]
    exact hz
  refine join_rev (s := { s1 with heap := s1.heap.push (revObj a ((its.toArray.size : Int) - 1)) }) (ys := ys.reverse) (I1.ok.hd hc) ⟨_, Heap.get?_push_size _ rfl, rfl, rfl⟩ (hl.push _) hne hn (fun acc hi => ?_) hz2 fun h' tk t' hk => ?_
  · refine strs_of_vals ?_
    rw [List.map_reverse]
    exact RT.vals_rev rv hi
  · exact ⟨.str _, H1, I2.turned (t' := tk) (fun b o hb e => hk b o hb e) f0 f1 f3 f4 f5, ⟨t', rfl⟩, q⟩
end
section
variable [Tbc] [Tlc] {Γ : Gt} {N : List Str} {sc so : Scope} {W : WX} {X : Cx}
theorem se_jrv {c : Str} {j : Nat} {c0 apos cpos p2 pos2 : Pos} {e : Expr} {fa : Env → R PV} (hc : X.calm = true) (hg : Gl X "reversed") (hm : X.mg "reversed" = none) (ge : good e = true) (hline : (apos.endLine == cpos.line) = true) (ha : SE Γ W X .bor e fa) :
    SE Γ W X .esc (.Call (.Attribute (.Constant (.str c) j c0) "join" apos) [.Call (.Name "reversed" p2) [e] [] pos2] [] cpos) (fun ρ => (fa ρ).bind fun y => pJrv c y) := by
  refine PE.weak (pe_jrv hc hg hm ha (good_star ge _ _) hline) fun σ H Q ⟨B, ρ, G, ow, q⟩ => ⟨B, ρ, G, ow, (PK_bind.mp q).imp (fun y k u G2 H2 e2 r2 => ?_) fun _ z => z⟩
  cases y with
  | lst ys =>
    obtain ⟨p, vs, rfl, h1, rs⟩ := RepT.lst (show RepT X.K G2 H2 _ _ from r2)
    replace k : PK (match strsOf ys.reverse with
      | some ss => if (ss.map (·.length)).sum + ss.length * c.length ≤ 16777216 then R.ok (PV.str (Txt.join c ss)) else .bad
      | none => .bad) _ _ := k
    cases es : strsOf ys.reverse with
    | none => rw [es] at k; exact k.elim
    | some ss =>
      rw [es] at k
      replace k : PK (if (ss.map (·.length)).sum + ss.length * c.length ≤ 16777216 then R.ok (PV.str (Txt.join c ss)) else .bad) _ _ := k
      split at k
      · rename_i hl
        have e3 : ys = ss.reverse.map PV.str := by
          rw [List.map_reverse, ← strsOf_eq es, List.reverse_reverse]
        subst e3
        have := reps_strs.mp rs
        subst this
        refine ⟨p, ss.reverse, rfl, SqL.of h1, by rw [List.reverse_reverse]; exact hl, ?_⟩
        rw [List.reverse_reverse]
        exact k _ G2 H2 e2 (show Rep X.K G2 _ _ from rep_str')
      · exact k.elim
  | _ => exact k.elim
end
end Pf

set_option Elab.async false
set_option linter.all false
set_option maxRecDepth 100000
set_option autoImplicit false
set_option maxHeartbeats 4000000
/-! PfC: comprehensions whose element may raise -/
namespace Pf
open PySem PySem.Spec L2 PyProof.Rows
section
variable {M : Model} {A : Around} {E : Value → Shared → Prop} {s : Shared} {Q : Unit → Shared → Prop}
/-- only the frame counts -/
theorem note_same {e : Value} {v w : PySem.Env} (h : v.frame = w.frame) : noteFrame e v = noteFrame e w := by
  unfold noteFrame PySem.frameOf
  rw [h]
/-- noted at another place, it is noted here -/
theorem note_over {base : Heap} {v : PySem.Env} {out : List PySem.Env} {a L L' : Addr} {Z : Obj → Prop} (hZ : HandSPX.Steady Z) (hfr : A.frames = some (v :: out)) (hf : v.frame = some L) (hne : L' ≠ L) (hh : HandSPX.HeldZ base (v :: out) a Z L' s.heap)
    (hQ : ∀ h', HandSPX.HeldZ base (v :: out) a Z L h' → s.heap.UpToSlots h' → Q () { s with heap := h' }) : wpAny M A (noteFrame (.ref a) v) Q E s := by
  obtain ⟨k1, k2, k3, oe, vs, T, oT, ts, he, hz, hd, g1, hnT, hTe, hT, hdT, g3⟩ := hh
  have sz1 := (Array.getElem?_eq_some_iff.mp g1).1
  have sz3 := (Array.getElem?_eq_some_iff.mp g3).1
  unfold noteFrame
  simp only [hf]
  refine wpAny_bind (wpAny_field he hd g1 ?_)
  rw [if_pos (show (Value.ref T != Value.none) = true from by simp)]
  refine wpAny_bind (wpAny_field hT hdT g3 ?_)
  rw [if_neg (show ¬ ((rawInt L' == rawInt L) = true) from fun q => hne (Int.ofNat.inj (by simpa [rawInt] using q)))]
  refine wpAny_bind (wpAny_setField hT hdT sz3 ?_)
  have oth : ∀ b, b ≠ T → (s.heap.update T (Obj.mapFields (·.setIfInBounds 3 Value.none))).get? b = s.heap.get? b := fun b hb => Heap.get?_update_other _ _ (Ne.symm hb)
  have nT : ∀ b o, s.heap.get? b = some o → (∀ us, o.data ≠ .fields us) → b ≠ T := fun b o hb hn q => by
    subst q
    rw [hT] at hb
    cases hb
    exact hn ts hdT
  refine HandSPX.wpAny_entryZ hZ hfr (k3.of_keeps fun b o hb hn => ⟨o, (oth b (nT b o hb hn)).trans hb, rfl⟩) hf ((oth a (Ne.symm hTe)).trans he) (fun b o hb => (oth b fun q => ?_).trans (k1 b o hb)) k2 hd sz1 hz fun h' hN => ?_
  · subst q
    rw [hnT] at hb
    cases hb
  · exact hQ h' ⟨hN.1, k2, hN.2.1, hN.2.2.1⟩ fun b o hb hn => hN.2.2.2 b o ((oth b (nT b o hb hn)).trans hb) hn
end
abbrev Xb (X : Cx) (s : Shared) (H : Hp) (scope : Scope) (ce : PySem.Env) (fp : List Addr) (xe : Value → Shared → Prop) : Cx := { X with s_0 := s, H_0 := H, env := ce, outer := X.stack, ex := fp, fn := fun x => scope.names.lookup x == some .cell, pn := [], xe := xe }
theorem inv_xb {X : Cx} {s : Shared} {H : Hp} {scope : Scope} {ce : PySem.Env} {fp : List Addr} {xe : Value → Shared → Prop} {pins : List (Addr × Obj)} {σ : L2.St} {H' : Hp} {s' : Shared} (I : Inv (X.blk s H scope ce fp) pins σ H' s') : Inv (Xb X s H scope ce fp xe) pins σ H' s' :=
  ⟨⟨I.ok.mod, I.ok.kind, I.ok.glob, I.ok.blt, I.ok.above, I.ok.inj, I.ok.has, I.ok.cab, I.ok.hd, I.ok.frames, I.ok.stk, I.ok.exf, I.ok.bs, I.ok.bsz, I.ok.noex, I.ok.exfs, I.ok.funs, I.ok.frf⟩, I.os, I.bare, I.base, I.loc, I.cell, I.free, I.freeC, I.pin, I.hok, I.len⟩
theorem frames_but {B h h' : Heap} : ∀ {l : List PySem.Env}, h.FunFrames B l → (∀ L ∈ frs l, h'.get? L = h.get? L) → h'.FunFrames B l
  | [], _, _ => trivial
  | v :: l, w, k => by
    obtain ⟨w1, ⟨L, o, w2, w3, w4, w5⟩, w6⟩ := w
    exact ⟨w1, ⟨L, o, w2, w3, (k L (List.mem_filterMap.mpr ⟨v, List.mem_cons_self, w2⟩)).trans w4, w5⟩, frames_but w6 fun b hb => k b (by
      obtain ⟨e, he, q⟩ := List.mem_filterMap.mp hb
      exact List.mem_filterMap.mpr ⟨e, List.mem_cons_of_mem _ he, q⟩)⟩
/-- out of the block -/
theorem blk_go {X : Cx} {W : WX} {pins pins' : List (Addr × Obj)} {σ σ' : L2.St} {H3 H' : Hp} {s3 sI s2 : Shared} {scope : Scope} {ce : PySem.Env} {fp : List Addr} {xe : Value → Shared → Prop} {v : PySem.Env} {out : List PySem.Env} {f a : Addr} {B : Heap} {cls : Value} {d : Option Addr}
    (I3 : Inv X pins σ H3 s3) (hst : X.stack = v :: out) (hf : X.env.frame = some f) (air : ∀ u s', Air X W u s' → X.xe u s') (cL : ce.locals = s3.heap.objs.size) (cf : ce.frame = some f) (f3 : ∀ b ∈ fp, FpOk X pins H3 b ∧ b < s3.heap.objs.size)
    (I' : Inv (Xb X s3 H3 scope ce fp xe) pins' σ' H' sI) (nb : ∀ b o, sI.heap.get? b = some o → b ∉ frs X.stack → B.get? b = some o) (up : sI.heap.UpToSlots s2.heap) (hh : HandSPX.HeldZ B X.stack a (Zc cls d) f s2.heap) (na : H' a = none) (os : s2.os = sI.os) (ag : AllBare s2.gens) (w : W cls d σ H') :
    CompFails (model X.prog X.w) X.A X.xe ce (.ref a) s2 := by
  have frIn : ∀ b ∈ frs X.stack, ∃ o, s3.heap.get? b = some o ∧ ∀ us, o.data ≠ .fields us := fun b hb => (I3.stack.mem hb).2
  have cF : ce.locals ∉ frs X.stack := fun hm => by
    obtain ⟨o, e, _⟩ := frIn _ hm
    have := Heap.lt_size e
    rw [cL] at this
    exact Nat.lt_irrefl _ this
  have ltC : ∀ {b : Addr} {o : Obj}, s3.heap.get? b = some o → b ≠ ce.locals := fun {b o} e q => by
    have := Heap.lt_size e
    rw [q, cL] at this
    exact Nat.lt_irrefl _ this
  obtain ⟨m, hn, _⟩ := I'.loc
  have hn : sI.heap.Ns ce.locals m := hn
  obtain ⟨oC, es, ep, hoC, hdC, rC⟩ := hn
  have hC2 : s2.heap.get? ce.locals = some oC := hh.1 _ _ (nb _ _ hoC cF)
  refine ⟨m, ⟨oC, es, ep, hC2, hdC, rC⟩, fun h3 m' hn' sb => ?_⟩
  obtain ⟨B', b1, b2⟩ := restrict B fun b => decide (b ≠ ce.locals)
  have bB : ∀ {b o}, B.get? b = some o → b ≠ ce.locals → B'.get? b = some o := fun {b o} e q => by
    rw [b1 b (decide_eq_true q)]
    exact e
  have Bb : ∀ {b o}, B'.get? b = some o → B.get? b = some o ∧ b ≠ ce.locals := fun {b o} e => by
    by_cases q : b = ce.locals
    · rw [b2 b (by simp [q])] at e
      cases e
    · rw [b1 b (decide_eq_true q)] at e
      exact ⟨e, q⟩
  have Bn : ∀ {b}, B.get? b = none → B'.get? b = none := fun {b} e => by
    cases q : B'.get? b with
    | none => rfl
    | some o =>
      rw [(Bb q).1] at e
      cases e
  obtain ⟨k1, k2, k3, oe, vs, T, oT, ts, he, hz, hd, g1, hnT, hTe, hT, hdT, g3⟩ := hh
  have aC : a ≠ ce.locals := fun q => by
    rw [q, hC2] at he
    cases he
    rw [hdC] at hd
    cases hd
  have TC : T ≠ ce.locals := fun q => by
    rw [q, hC2] at hT
    cases hT
    rw [hdC] at hdT
    cases hdT
  have hh3 : HandSPX.HeldZ B' X.stack a (Zc cls d) f h3 := by
    refine ⟨fun b o e => (sb.2 b (Bb e).2).trans (k1 b o (Bb e).1), Bn k2, frames_but (funFrames_none k3 fun L hL => Bn (k3.mem hL).1) fun L hL => sb.2 L fun q => cF (q ▸ hL), oe, vs, T, oT, ts, (sb.2 a aC).trans he, hz, hd, g1, Bn hnT, hTe, (sb.2 T TC).trans hT, hdT, g3⟩
  unfold PySem.passOn
  refine wpAny_bind (wpAny_field ((sb.2 a aC).trans he) hd g1 ?_)
  rw [if_neg (show ¬ ((Value.ref T == Value.none) = true) from by simp)]
  rw [cf]
  refine wpAny_bind (HandSPX.setFlight_onZ hh3 fun h4 hh4 k4 => ?_)
  refine wpAny_throw ?_
  obtain ⟨G, gg1, gg2⟩ := restrict h4 fun b => (B'.get? b).isSome || decide (b ∈ frs X.stack)
  have st4 : B'.StaysIn h4 := hh4.1
  have gB : ∀ b o, B'.get? b = some o → G.get? b = some o := fun b o e => by
    rw [gg1 b (by simp [e])]
    exact st4 b o e
  have gF : ∀ b, b ∈ frs X.stack → G.get? b = h4.get? b := fun b hb => gg1 b (by simp [hb])
  have og : ∀ b o, G.get? b = some o → h4.get? b = some o ∧ ((B'.get? b).isSome = true ∨ b ∈ frs X.stack) := fun b o e => by
    by_cases q : ((B'.get? b).isSome || decide (b ∈ frs X.stack)) = true
    · rw [gg1 b q] at e
      exact ⟨e, by simpa [Bool.or_eq_true] using q⟩
    · rw [gg2 b (by simpa using q)] at e
      cases e
  have frG : ∀ b o, s3.heap.get? b = some o → b ∈ frs X.stack → b ∉ fp → ∃ sl, G.get? b = some { o with slots := sl } := fun b o e hb hx => by
    obtain ⟨o', e', hd'⟩ := frIn b hb
    rw [e] at e'
    cases e'
    obtain ⟨sl, q⟩ := I'.base.slot b o e (I3.stkFree b hb) hb hx
    obtain ⟨sl2, q2⟩ := up b _ q hd'
    obtain ⟨sl3, q3⟩ := k4 b _ ((sb.2 b (ltC e)).trans q2) hd'
    exact ⟨sl3, by rw [gF b hb]; exact q3⟩
  have hokB : HOk X.prog X.w H' B' := fun b o q => (I'.hok b o q).stay (fun c u hc r => by
    have cn : H' c ≠ none := by
      rcases hc with hc | hc
      · rw [hc, q]
        simp
      · rw [hc]
        simp
    refine bB (nb c u r fun hm => cn ?_) fun z => cn (by rw [z]; exact I'.free)
    exact I'.stkFree c hm) (fun _ r => r) fun _ _ r => r
  refine air _ _ ⟨a, B', { s3 with heap := G, gens := s2.gens, drawn := s2.drawn, toks := s2.toks }, pins, σ, H', cls, d, f, rfl, hf, ?_, fun b o e hb => ?_, Heap.UpToSlots.of_keeps fun b o e => (og b o e).1, hh4, na, os.trans I'.os, ag, w⟩
  · refine I3.call' (ch := fp) rfl ⟨fun b o e n hb hx => gB b o (bB (nb b o (I'.base.keep b o e n hb hx) hb) (ltC e)), fun b o e n hb hx => frG b o e hb hx, fun b o e n hx => I'.base.free b o e n hx, fun b o e hx => ?_, I'.base.tups, I'.base.frzs, I'.base.tbls⟩ (hokB.kept gB) ag fun b hb => ⟨(f3 b hb).1.2.2.2.1, (f3 b hb).1.2.1, (f3 b hb).1.2.2.2.2.1, (f3 b hb).1.2.2.2.2.2⟩
    by_cases hb : b ∈ frs X.stack
    · obtain ⟨sl, q⟩ := frG b o e hb hx
      exact ⟨_, q⟩
    · obtain ⟨o', q⟩ := I'.base.there b o e hx
      exact ⟨o', gB b o' (bB (nb b o' q hb) (ltC e))⟩
  · obtain ⟨e', z⟩ := og b o e
    rcases z with z | z
    · obtain ⟨o', q⟩ := Option.isSome_iff_exists.mp z
      have := st4 b o' q
      rw [e'] at this
      cases this
      exact q
    · exact absurd z hb
/-- the block's own way out -/
abbrev xeB (X : Cx) (ce : PySem.Env) : Value → Shared → Prop := notedBy (model X.prog X.w) X.A ce fun e s' => CompFails (model X.prog X.w) X.A X.xe ce e s'
section
variable {X : Cx} {W : WX} {pins : List (Addr × Obj)} {σ : L2.St} {H3 : Hp} {s3 : Shared} {scope : Scope} {ce : PySem.Env} {fp : List Addr}
theorem blk_takes (I3 : Inv X pins σ H3 s3) (fa : Fra X) (air : ∀ u s', Air X W u s' → X.xe u s') (cL : ce.locals = s3.heap.objs.size) (cf : ce.frame = X.env.frame) (f3 : ∀ b ∈ fp, FpOk X pins H3 b ∧ b < s3.heap.objs.size) :
    Takes (Xb X s3 H3 scope ce fp (xeB X ce)) (fun c d _ H' => W c d σ H') := by
  obtain ⟨v, out, f, hst, hv, hf⟩ := fa
  intro u s' ⟨a, B, sI, pins', σ', H', cls, d, eu, I', nb, up, sky, na, os, ag, w⟩
  subst eu
  have hfr : X.A.frames = some (v :: out) := by rw [I3.ok.frames, hst]
  have cf2 : ce.frame = some f := cf.trans hf
  have ne : ce.locals ≠ f := fun q => by
    have hm : f ∈ frs X.stack := by
      rw [hst]
      exact List.mem_filterMap.mpr ⟨v, List.mem_cons_self, hv⟩
    obtain ⟨_, o, e, _⟩ := I3.stack.mem hm
    have := Heap.lt_size e
    rw [← q, cL] at this
    exact Nat.lt_irrefl _ this
  have go : ∀ h', HandSPX.HeldZ B (v :: out) a (Zc cls d) f h' → s'.heap.UpToSlots h' → CompFails (model X.prog X.w) X.A X.xe ce (.ref a) { s' with heap := h' } := fun h' hh up' =>
    blk_go I3 hst hf air cL cf2 f3 I' nb (up.trans up') (by rw [hst]; exact hh) na os ag w
  have sky : Sky B X.stack a (Zc cls d) ce.locals s'.heap := sky
  rw [hst] at sky
  show wpAny (model X.prog X.w) X.A (noteFrame (.ref a) ce) _ _ s'
  rw [note_same (cf2.trans hv.symm)]
  rcases sky with ⟨st, en, ff, oe, vs, he, hz, hd, h1⟩ | fl | hl
  · exact HandSPX.look_newZ Zc.steady hfr ff hv he st en hd h1 hz go
  · exact HandSPX.looks_onZ Zc.steady hfr hv fl go
  · exact note_over Zc.steady hfr hv ne hl go
theorem blk_air (I3 : Inv X pins σ H3 s3) (fa : Fra X) (air : ∀ u s', Air X W u s' → X.xe u s') (cL : ce.locals = s3.heap.objs.size) (cf : ce.frame = X.env.frame) (f3 : ∀ b ∈ fp, FpOk X pins H3 b ∧ b < s3.heap.objs.size) :
    ∀ u s', Air (Xb X s3 H3 scope ce fp (xeB X ce)) (fun c d _ H' => W c d σ H') u s' → xeB X ce u s' := by
  obtain ⟨v, out, f, hst, hv, hf⟩ := fa
  intro u s' ⟨a, B, sI, pins', σ', H', cls, d, f', eu, hf', I', nb, up, hh, na, os, ag, w⟩
  subst eu
  have cf2 : ce.frame = some f := cf.trans hf
  have hf' : ce.frame = some f' := hf'
  have ef : f' = f := Option.some.inj (hf'.symm.trans cf2)
  subst ef
  exact HandSPX.againZ cf2 hh.2.2.2 (blk_go I3 hst hf air cL cf2 f3 I' nb up hh na os ag w)
theorem blk_fra (fa : Fra X) (cf : ce.frame = X.env.frame) {xe : Value → Shared → Prop} : Fra (Xb X s3 H3 scope ce fp xe) := by
  obtain ⟨v, out, f, hst, hv, hf⟩ := fa
  exact ⟨v, out, f, hst, hv, cf.trans hf⟩
end
theorem fra_blk {X : Cx} (fa : Fra X) {scope : Scope} (s : Shared) (H : Hp) (C : Addr) (cl : List (Str × Addr)) (fp : List Addr) (xe : Value → Shared → Prop) : Fra (Xb X s H scope (compEnvC scope cl C X.env) fp xe) := by
  obtain ⟨v, out, f, hst, hv, hf⟩ := fa
  exact ⟨v, out, f, hst, hv, hf⟩
/-- a comprehension whose element may raise -/
def tLx (wi : TI) (g : TG) (te : L2.St → TE) (vs : List Nat) : TE := fun σ H Q => wi σ H fun J H1 => ∀ D, H1 D = none → ∃ Wt : Nat → Nat → Hp → Prop, (∃ m, Wt 0 m (upd H1 D (.lst []))) ∧ ∀ i m H2, Wt i m H2 →
  (J.stop i H2 ∧ Q (.ref D) H2) ∨ (J.go i H2 ∧ ∃ Nx : Hp → Prop, (∀ H', Nx H' → ∃ m', m' < m ∧ Wt (i + 1) m' H') ∧ ∀ x H', J.yld i H2 x H' → g x (wipe σ vs) H' fun σ2 H4 => wipe σ2 vs = wipe σ vs ∧
    te σ σ2 H4 fun y H5 => ∃ acc, H5 D = some (.lst acc) ∧ acc.length < sizeLine ∧ Nx (upd H5 D (.lst (acc ++ [y]))))
theorem pe_lcx {X : Cx} {W : WX} {elt tg iter : Expr} {scope : Scope} {own : List (Str × Nat)} {pos : Pos} {wi : TI} {g : TG} {te : L2.St → TE} (calm : X.calm = true) (nd : X.N.Nodup) (pi : PI X tg iter wi) (bo : BlkOk X.N X.env.scope scope own) (fa : Fra X) (air : ∀ u s', Air X W u s' → X.xe u s')
    (hg : ∀ (s : Shared) (H : Hp) (C : Addr) (cl : List (Str × Addr)) (fp : List Addr) (xe : Value → Shared → Prop), PG (Xb X s H scope (compEnvC scope cl C X.env) fp xe) tg g)
    (he : ∀ (σ : L2.St) (s : Shared) (H : Hp) (C : Addr) (cl : List (Str × Addr)) (fp : List Addr) (xe : Value → Shared → Prop), Takes (Xb X s H scope (compEnvC scope cl C X.env) fp xe) (fun c d _ H' => W c d σ H') →
      (∀ u s', Air (Xb X s H scope (compEnvC scope cl C X.env) fp xe) (fun c d _ H' => W c d σ H') u s' → xe u s') → Fra (Xb X s H scope (compEnvC scope cl C X.env) fp xe) → PE (Xb X s H scope (compEnvC scope cl C X.env) fp xe) elt (te σ))
    (fs : ∀ x, foldedSetIterable iter X.env x = pure x := by intro _; rfl) :
    PE X (.ListComp elt [⟨tg, iter, [], 0⟩] scope pos) (tLx wi g te (own.map (·.2))) := by
  refine ⟨fun pins s σ H Q I h => ?_⟩
  rw [eval_ListComp]
  have cap : ∀ y ∈ scope.names, y.2 = .free → ∃ c, X.env.cells.lookup y.1 = some c := fun y hy e => (bo.free y hy e).elim (fun k => I.ok.has _ (.inl k)) (fun k => I.ok.has _ (.inr k))
  refine comprehension_at (use := none) rfl fs (closure_ok cap) bo.kind (fun y hy e => (bo.uniq y hy).trans (by rw [e])) (thn (pi.run pins s σ H _ I h) fun w1 s1 g1 => thn g1 fun w2 s2 g2 => ?_)
  obtain ⟨it, fp, tn, J, H2, ew, I2, T, st2, f2, q⟩ := g2
  subst ew
  refine wpAny_newObj_type (newEnv_comp ?_) (Nat.zero_le _)
  obtain ⟨D, eD⟩ : ∃ D, s2.heap.objs.size = D := ⟨_, rfl⟩
  rw [eD]
  have nD : H2 D = none := I2.hok.fresh (Nat.le_of_eq eD)
  obtain ⟨Wt, ⟨m0, w0⟩, turn⟩ := q D nD
  generalize e3 : ({ s2 with heap := s2.heap.push { cls := Value.type "list", data := Data.seq ([] : List Value).toArray } } : Shared) = s3
  have h3 : s3.heap = s2.heap.push { cls := .type "list", data := .seq ([] : List Value).toArray } := by rw [← e3]
  have up3 : ∀ b o, s2.heap.get? b = some o → s3.heap.get? b = some o := fun b o e => by
    rw [h3]
    exact Heap.get?_push_of_some _ e
  have I3 : Inv X pins σ (upd H2 D (.lst [])) s3 := by
    rw [← e3]
    refine I2.laid (t' := s2.toks) (fun b o e => Heap.get?_push_of_some _ e) (Nat.le_of_eq eD) ⟨Nat.zero_le _, [], 0, .nil, ?_⟩
    rw [← eD]
    exact Heap.get?_push_size _ rfl
  have szf : ∀ b ∈ fp, b < s2.heap.objs.size := fun b hb => (let ⟨_, e, _⟩ := T.obj _ _ st2 b hb; Heap.lt_size e)
  have f3 : ∀ b ∈ fp, FpOk X pins (upd H2 D (.lst [])) b ∧ b < s3.heap.objs.size := fun b hb => by
    have lt := szf b hb
    refine ⟨⟨?_, (f2 b hb).2⟩, by rw [h3, Heap.size_push]; exact Nat.lt_succ_of_lt lt⟩
    rw [upd_ne (fun z => by rw [z, eD] at lt; exact Nat.lt_irrefl _ lt)]
    exact (f2 b hb).1
  have st3 : tn 0 s3.heap := T.keep _ _ _ st2 fun b _ o e => up3 b o e
  have I4 := block_start I3 bo nd f3
  obtain ⟨ce, ece⟩ : ∃ ce, compEnvC scope (cellsFrom (s3.heap.objs.size + 1) scope.names (cloFrom X.env.cells scope.names [])) s3.heap.objs.size X.env = ce := ⟨_, rfl⟩
  have cL : ce.locals = s3.heap.objs.size := by rw [← ece]; rfl
  have cf : ce.frame = X.env.frame := by rw [← ece]; rfl
  have pg := hg s3 (upd H2 D (.lst [])) s3.heap.objs.size (cellsFrom (s3.heap.objs.size + 1) scope.names (cloFrom X.env.cells scope.names [])) fp (xeB X ce)
  have pe := he σ s3 (upd H2 D (.lst [])) s3.heap.objs.size (cellsFrom (s3.heap.objs.size + 1) scope.names (cloFrom X.env.cells scope.names [])) fp (xeB X ce)
  rw [ece] at I4 pg pe
  have pe := pe (blk_takes I3 fa air cL cf f3) (blk_air I3 fa air cL cf f3) (blk_fra fa cf)
  have gl : ∃ s4 : Shared, { s3 with heap := pushCells (s3.heap.push { cls := .type "dict", data := .dict #[] }) scope.names } = s4 := ⟨_, rfl⟩
  obtain ⟨s4, e4⟩ := gl
  rw [e4] at I4
  obtain ⟨H3, eH⟩ : ∃ H3, upd H2 D (.lst []) = H3 := ⟨_, rfl⟩
  rw [eH] at I3 I4 pg pe w0 f3
  have nfp : ∀ b ∈ fp, H3 b = none := fun b hb => (f3 b hb).1.1
  have st4 : tn 0 s4.heap := T.keep _ _ _ st3 fun b _ o e => by
    rw [← e4]
    exact pushCells_keeps _ _ _ _ (Heap.get?_push_of_some _ e)
  show codeAny (model X.prog X.w) X.A (.compStart (.ListComp elt [⟨tg, iter, [], 0⟩] scope pos) 0 (.ref it) (.ref D) (compEnvC scope (cellsFrom (s3.heap.objs.size + 1) scope.names (cloFrom X.env.cells scope.names [])) s3.heap.objs.size X.env))
    (compEnds (model X.prog X.w) X.A X.xe none (EP X pins σ Q) (.ref D) (compEnvC scope (cellsFrom (s3.heap.objs.size + 1) scope.names (cloFrom X.env.cells scope.names [])) s3.heap.objs.size X.env)) { s3 with heap := pushCells (s3.heap.push { cls := .type "dict", data := .dict #[] }) scope.names }
  rw [ece, e4]
  have it0 : ∀ {σ' : L2.St} {H' : Hp} {t : Shared}, Inv (Xb X s3 H3 scope ce fp (xeB X ce)) [] σ' H' t → (∀ b ∈ fp, H' b = none) → ∀ b ∈ fp, FpOk (Xb X s3 H3 scope ce fp (xeB X ce)) [] H' b := fun {σ' H' t} I' hn b hb =>
    ⟨hn b hb, (I'.ok.exf b hb).1, I'.ok.exfs b hb, .inl hb, fun x c e => (I'.ok.exf b hb).2 x c e, fun p hp => absurd (show p ∈ ([] : List (Addr × Obj)) ++ [] from hp) (by simp)⟩
  have loop : codeAny (model X.prog X.w) X.A (.compLoop (.ListComp elt [⟨tg, iter, [], 0⟩] scope pos) 0 (.ref it) (.ref D) ce) (compEnds (model X.prog X.w) X.A X.xe none (EP X pins σ Q) (.ref D) ce) s4 := by
    refine compLoop_any (fun n t => ∃ i H', Inv (Xb X s3 H3 scope ce fp (xeB X ce)) [] (wipe σ (own.map (·.2))) H' t ∧ tn i t.heap ∧ (∀ b ∈ fp, H' b = none) ∧ Wt i n H') ?_ m0 ⟨0, H3, inv_xb I4, st4, nfp, w0⟩
    rintro n t5 ⟨i, H5, I5, st5, n5, w5⟩
    rcases turn i n H5 w5 with ⟨stop, qq⟩ | ⟨go, Nx, hNx, step⟩
    · have td := T.done (Xb X s3 H3 scope ce fp (xeB X ce)) rfl rfl rfl calm i [] t5 _ H5 (fun _ _ => False) I5 (it0 I5 n5) st5 stop
      refine thnF td fun r t6 ⟨hr, I6⟩ => ?_
      subst hr
      have I7 : Inv X pins σ H5 t6 := I3.call' (ch := fp) I6.os I6.base I6.hok I6.bare fun b hb => (let z := (f3 b hb).1; ⟨z.2.2.2.1, z.2.1, z.2.2.2.2.1, z.2.2.2.2.2⟩)
      have nC : H5 s3.heap.objs.size = none := cL ▸ (show H5 ce.locals = none from I6.free)
      obtain ⟨m, hn, _⟩ := I6.loc
      have hn : t6.heap.Ns ce.locals m := hn
      obtain ⟨z0, z1, z2, z3, z4, z5⟩ := I3.fpOk (Nat.le_refl _) nC
      rw [← cL] at z0 z1 z2 z3 z4 z5
      exact ⟨m, hn, fun h' sb => ⟨.ref D, H5, I7.turned (t' := t6.toks) (fun b o hb e => (sb.2 b hb).trans e) z0 z1 z3 z4 z5, rfl, qq⟩⟩
    · have ti := T.item (Xb X s3 H3 scope ce fp (xeB X ce)) rfl rfl rfl calm i [] t5 _ H5 (fun _ _ => False) I5 (it0 I5 n5) st5 go
      refine thnF ti fun r t6 ⟨u, hr, h6⟩ => ?_
      subst hr
      refine thnF h6 fun _ t7 ⟨x, H7, I7, r7, y7, st7, n7⟩ => ?_
      refine thn (pg.run _ t7 _ H7 x u _ (I7.pinned (it0 I7 n7) (T.obj _ _ st7)) r7 (step x H7 y7)) fun _ t8 ⟨σ8, H8, I8, hw8, q8⟩ => ?_
      refine wpAny_tests_nil ?_
      simp only [if_true]
      refine thn (pe.run _ t8 σ8 H8 _ I8 q8) fun z t10 ⟨yv, H10, I10, r10, acc, hD10, hz10, nx⟩ => ?_
      refine app_ok (X := Xb X s3 H3 scope ce fp (xeB X ce)) I10 hD10 hz10 r10 fun t11 I11 => ?_
      obtain ⟨m', hm, w'⟩ := hNx _ nx
      have pin' : ∀ b ∈ fp, ∀ o, t7.heap.get? b = some o → t11.heap.get? b = some o ∧ upd H10 D (.lst (acc ++ [yv])) b = none := fun b hb o e =>
        (let z := I11.pin (b, o) (List.mem_append_right _ (List.mem_append_right _ (mem_pinsAt hb e))); ⟨z.1, z.2.1⟩)
      have hl : (wipe σ (own.map (·.2))).length = σ8.length := by rw [← hw8, wipe_length]
      refine ⟨m', hm, i + 1, _, (I11.unpinned (pins := [])).weak hl (fun j v e => ?_), T.keep _ _ _ st7 fun b hb o e => (pin' b hb o e).1, fun b hb => ?_, w'⟩
      · rw [← hw8] at e
        exact (wipe_some e).1
      · obtain ⟨o, e, _⟩ := T.obj _ _ st7 b hb
        exact (pin' b hb o e).2
  exact codeAny_compStart_list loop (T.self X.A 0 _ _ _ st4 loop)
section
variable [Tbc] [Tlc] {Γ : Gt} {N : List Str} {sc so : Scope} {W : WX} {X : Cx}
theorem comp_rdX {K : PySem.W.Frag} {fi : Env → R (List PV)} {fe : Env → R PV} {tg : List Nat} {tp : Bool} {own : List (Str × Nat)} (hown : own.map (·.2) = tg) (σ : L2.St) (H : Hp) (Q : VK)
    (h : rdE Γ W K .fre (fun ρ => (fi ρ).bind fun xs => if xs.length ≤ LIM then (compLX fe (fun x => asgT tg tp x (killAll ρ tg)) xs).bind fun ys => .ok (PV.lst ys) else .bad) σ H Q) :
    tLx (rdI Γ W K .bor fi) (rdG K tg tp) (fun σ => rdE Γ (fun c d _ H' => W c d σ H') K .esc fe) (own.map (·.2)) σ H Q := by
  rw [hown]
  obtain ⟨B, ρ, G, ow, q⟩ := h
  refine ⟨B, ρ, G, ow, (PK_bind.mp q).imp (fun xs k J G1 H1 e1 it D hD => ?_) fun _ z => z⟩
  split at k
  rotate_left
  · exact k.elim
  rename_i hlim
  obtain ⟨R0, hR⟩ : ∃ R0, R0 = compLX fe (fun x => asgT tg tp x (killAll ρ tg)) xs := ⟨_, rfl⟩
  rw [← hR] at k
  have k := PK_bind.mp k
  have nb : R0 ≠ .bad := fun e => by
    rw [e] at k
    exact k
  refine ⟨fun i m H2 => i + m = xs.length ∧ ∃ G2 acc don, Ext G1 H1 G2 H2 ∧ H2 D = some (.lst acc) ∧ G2 D = none ∧ Reps K G2 don acc ∧ don.length ≤ i ∧ R0 = (compLX fe (fun x => asgT tg tp x (killAll ρ tg)) (xs.drop i)).bind fun ys => .ok (don ++ ys), ⟨xs.length, by omega, G1, [], [], Ext.fresh e1.gh hD, upd_same, e1.gh.free hD, reps_nil.mpr rfl, Nat.le_refl _, ?_⟩, ?_⟩
  · rw [List.drop_zero, ← hR]
    cases R0 <;> rfl
  rintro i m H2 ⟨him, G2, acc, don, e2, h2, g2, r2, hl, hc⟩
  have ci : CI .bor G1 H1 G2 H2 := ⟨e2.gg e1.gh, e2.gh, e2.hh⟩
  by_cases hi : i < xs.length
  · refine .inr ⟨it.goes i G2 H2 hi ci, fun H3 => (i + 1) + (m - 1) = xs.length ∧ ∃ G2 acc don, Ext G1 H1 G2 H3 ∧ H3 D = some (.lst acc) ∧ G2 D = none ∧ Reps K G2 don acc ∧ don.length ≤ i + 1 ∧ R0 = (compLX fe (fun x => asgT tg tp x (killAll ρ tg)) (xs.drop (i + 1))).bind fun ys => .ok (don ++ ys), fun H3 h3 => ⟨m - 1, by omega, h3⟩, fun v H3 y => ?_⟩
    obtain ⟨G3, x, e3, hx, rx⟩ := it.yields i G2 H2 v H3 hi e2.gh ci y
    have dr : xs.drop i = x :: xs.drop (i + 1) := by
      rw [List.drop_eq_getElem_cons hi]
      have := List.getElem?_eq_getElem hi
      rw [hx] at this
      rw [Option.some.inj this]
    rw [dr] at hc
    unfold compLX at hc
    have ow3 := ow_wipes (((ow.step e1).step e2).step e3) tg
    have h3D : H3 D = some (.lst acc) := e3.hh.lst h2
    split at hc
    · exact absurd hc nb
    · rename_i ρ1 ea
      refine ow_asgT ow3 rx ea fun vs ow4 => ⟨wipe_setS, ?_⟩
      refine ⟨B, ρ1, G3, ow4, ?_⟩
      cases ef : fe ρ1 with
      | bad =>
        rw [ef] at hc
        exact absurd hc nb
      | exn c =>
        rw [ef] at hc
        have hc : R0 = .exn c := hc
        rw [hc] at k
        have k : Ke Γ W σ G1 H1 c := Ke.step e1 k
        exact fun G' H' e' => k G' H' ((e2.trans e3).trans e')
      | ok y =>
        rw [ef] at hc
        intro w G6 H6 e6 rw'
        have e36 := e3.trans e6
        have h6D : H6 D = some (.lst acc) := e36.hh.lst h2
        have g6D : G6 D = none := by rw [e36.old _ _ h2 fun _ z => by cases z]; exact g2
        have e16 := e2.trans e36
        refine ⟨acc, h6D, ?_, by omega, G6, acc ++ [w], don ++ [y], ⟨e16.hh.put hD h6D, fun b u q => ?_, e16.sg, e16.old, e16.nt⟩, upd_same, g6D, (r2.mono (e36.gg e2.gh)).snoc rw', by simp; omega, ?_⟩
        · rw [r2.length]
          have := lim_line
          omega
        · rw [upd_ne (ne_of_none q g6D)]
          exact e16.gh b u q
        · rw [hc]
          show ((compLX fe _ (xs.drop (i + 1))).bind fun ys => R.ok (y :: ys)).bind _ = _
          cases compLX fe (fun x => asgT tg tp x (killAll ρ tg)) (xs.drop (i + 1)) with
          | ok z =>
            show R.ok (don ++ (y :: z)) = R.ok (don ++ [y] ++ z)
            rw [List.append_assoc]
            rfl
          | exn c => rfl
          | bad => rfl
  · have ei : i = xs.length := by omega
    refine .inl ⟨by rw [ei]; exact it.stops G2 H2 ci, ?_⟩
    rw [ei, List.drop_length] at hc
    have hc : R0 = .ok (don ++ []) := hc
    rw [List.append_nil] at hc
    rw [hc] at k
    exact k _ G2 H2 (e1.trans e2) ⟨D, acc, rfl, e1.hh.free hD, g2, h2, r2⟩
theorem xok_blkX (o : XOk Γ N sc so W X) {scope : Scope} (hk : scope.kind = .function) (s : Shared) (H : Hp) (C : Addr) (cl : List (Str × Addr)) (fp : List Addr) (xe : Value → Shared → Prop) {W' : WX} (tk : Takes (Xb X s H scope (compEnvC scope cl C X.env) fp xe) W') (ar : AirOk (Xb X s H scope (compEnvC scope cl C X.env) fp xe) W') :
    XOk Γ N (relS scope sc) scope W' (Xb X s H scope (compEnvC scope cl C X.env) fp xe) := by
  have b := xok_blk o hk s H C cl fp
  exact ⟨b.g, b.hN, b.nd, b.db, b.hsc, b.kd, b.calm, b.fn, b.room, b.un, fun _ => tk, fun h1 h2 => (let ⟨a, b, c, d⟩ := b.la h1 h2; ⟨a, b, c, d⟩), fun _ => ar⟩
end
end Pf

set_option Elab.async false
set_option linter.all false
set_option maxRecDepth 100000
set_option autoImplicit false
set_option maxHeartbeats 4000000
/-! Pf8: a core expression that matches a written one computes what that one does -/
namespace Pf
open PySem PySem.Spec L2
variable [Tbc] [Tlc]

/-- the names that a def may meet -/
structure Nm where
  N : List Str
  fn : List (Str × Bool)
  bl : List Str
  cn : List Str
  ec : Ec
  hot : Bool
  fno : List Str
  fnl : List Str
  tl : Option Str
  lm : Bool
def PXs.len : PXs → Nat
  | .nil => 0
  | .cons _ es => es.len + 1
def PX.isF (nm : Nm) : PX → Bool
  | .lst _ => true
  | .comp _ _ _ _ _ => true
  | .lrg _ => true
  | .lzip _ _ => true
  | .sset _ => true
  | .stp _ _ _ => true
  | .spl _ _ => true
  | .compX _ _ _ _ => true
  | .dkeys _ => true
  | .bin _ _ _ => true
  | .sl _ _ _ => true
  | .bi _ _ => true
  | .call k es => (match nm.fn[k]? with
    | some p => p.2
    | none => false) && !es.hasB
  | _ => false
def PX.isX : PX → Bool
  | .compX _ _ _ _ => true
  | _ => false
def PX.isT : PX → Bool
  | .bvar _ => false
  | .ife _ _ _ => false
  | .comp _ _ _ _ _ => false
  | .lrg _ => false
  | .lzip _ _ => false
  | .sset _ => false
  | .stp _ _ _ => false
  | .spl _ _ => false
  | .compX _ _ _ _ => false
  | .dkeys _ => false
  | .lst _ => false
  | .tup _ => false
  | .bin _ _ _ => false
  | .neg _ => false
  | .sl _ _ _ => false
  | .and a b => a.isT && b.isT
  | .or a b => a.isT && b.isT
  | .loc _ a => a.isT
  | _ => true
def PX.isTrue : PX → Bool
  | .bl true => true
  | _ => false
def PIt.hasB : PIt → Bool
  | .seq e => e.isB
  | .enum e => e.isB
  | .zip a b => a.isB || b.isB
  | .enumz a b => a.isB || b.isB
  | .rev e => e.isB
  | _ => false
def opB : Operator → Option BOp
  | .Add => some .add | .Sub => some .sub | .Mult => some .mul | .FloorDiv => some .fdiv | .Mod => some .mod | .Pow => some .pow
  | _ => none
def opC : CmpOp → Option COp
  | .Eq => some .eq | .NotEq => some .ne | .Lt => some .lt | .LtE => some .le | .Gt => some .gt | .GtE => some .ge | .In => some .isIn | .NotIn => some .notIn | .Is => some .isN | .IsNot => some .notN
def COp.isIs : COp → Bool
  | .isN => true
  | .notN => true
  | _ => false
theorem opB_eq {o : Operator} {b : BOp} (h : opB o = some b) : o = binOp b := by
  cases o <;> first | (simp only [opB, reduceCtorEq] at h; done) | (simp only [opB, Option.some.injEq] at h; subst h; rfl)
theorem opC_eq {o : CmpOp} {b : COp} (h : opC o = some b) : o = cmpOp b := by
  cases o <;> (simp only [opC, Option.some.injEq] at h; subst h; rfl)
def isTupE : Expr → Bool
  | .Tuple _ _ _ => true
  | _ => false
def mCl1 (nm : Nm) (sc : Scope) (d : Option Nat) (y : Str) : Bool := match d with
  | some k => nm.ec.ex.contains (y, k) && glb sc y
  | none => decide (y = "ValueError") && decide (y ∈ nm.bl) && glb sc y
def mClN (nm : Nm) (sc : Scope) : List (Option Nat) → List Expr → Bool
  | [], [] => true
  | d :: ds, .Name y _ :: es => mCl1 nm sc d y && mClN nm sc ds es
  | _, _ => false
def mCls (nm : Nm) (sc : Scope) (cs : List (Option Nat)) : Expr → Bool
  | .Name y _ => (match cs with
    | [d] => mCl1 nm sc d y
    | _ => false)
  | .Tuple es _ _ => mClN nm sc cs es && decide (cs.length ≤ LIM)
  | _ => false
def mTys (nm : Nm) (sc : Scope) : List Ty → List Expr → Bool
  | [], [] => true
  | t :: ts, .Name y _ :: es => decide (y = tyName t) && decide (y ∈ nm.bl) && glb sc y && mTys nm sc ts es
  | _, _ => false
def notBool : Expr → Bool
  | .BoolOp _ _ _ => false
  | _ => true
/-- no parameter at all -/
def noPar : Arguments → Bool
  | ⟨[], [], none, [], [], none, []⟩ => true
  | _ => false
mutual
/-- a lambda's body: calls of names, and of such calls -/
def mL (nm : Nm) (sc : Scope) : PX → Expr → Bool
  | .var i, .Name x _ => decide (nm.N[i]? = some x) && vis sc x
  | .call k es, .Call (.Name x _) (f :: fs) [] _ => (match nm.fn[k]? with
    | some p => decide (p.1 = x)
    | none => false) && glb sc x && mLs nm sc es (f :: fs) && !es.hasB
  | _, _ => false
def mLs (nm : Nm) (sc : Scope) : PXs → List Expr → Bool
  | .nil, [] => true
  | .cons x xs, e :: es => mL nm sc x e && mLs nm sc xs es
  | _, _ => false
end
section
variable (nm : Nm)
mutual
def mE (sc so : Scope) : PX → Expr → Bool
  | .var i, .Name x _ => decide (nm.N[i]? = some x) && vis sc x
  | .bvar i, .Name x _ => decide (nm.N[i]? = some x) && vis sc x
  | .non, .Constant .none _ _ => true
  | .bl b, .Constant (.bool c) _ _ => b == c
  | .int i, .Constant (.int j) _ _ => decide (i = j)
  | .str s, .Constant (.str t) _ _ => decide (s = t)
  | .con k, .Name x _ => decide (nm.cn[k]? = some x) && glb sc x
  | .bin o a b, .BinOp e op f _ => decide (opB op = some o) && mE sc so a e && mE sc so b f
  | .neg a, .UnaryOp .USub e _ => mE sc so a e
  | .not a, .UnaryOp .Not e _ => mE sc so a e && !a.isB && a.isT
  | .cmp o a b, .Compare e [op] [f] _ => decide (opC op = some o) && mE sc so a e && mE sc so b f && (!o.isIs || !b.isB)
  | .chain o1 o2 a b c, .Compare e [op1, op2] [f, g] _ => decide (opC op1 = some o1) && decide (opC op2 = some o2) && mE sc so a e && mE sc so b f && mE sc so c g && !o1.isIs && !o2.isIs
  | .and a b, .BoolOp .And (e :: f :: r) pos => mE sc so a e && !a.isB && (match r with
    | [] => mE sc so b f && !b.isB
    | g :: r' => mE sc so b (.BoolOp .And (f :: g :: r') pos) && !b.isB)
  | .or a b, .BoolOp .Or (e :: f :: r) pos => mE sc so a e && !a.isB && (match r with
    | [] => mE sc so b f && !b.isB
    | g :: r' => mE sc so b (.BoolOp .Or (f :: g :: r') pos) && !b.isB)
  | .ife c a b, .IfExp e f g _ => mE sc so c e && mE sc so a f && mE sc so b g && c.isT && !a.isB && !b.isB
  | .tup es, .Tuple fs _ _ => mEs sc so es fs && !es.hasB && decide (es.len ≤ LIM)
  | .lst es, .List fs _ => mEs sc so es fs && !es.hasB && decide (es.len ≤ LIM)
  | .sl a lo hi, .Subscript e (.Slice lo' hi' none _) _ => mE sc so a e && (match lo' with
    | none => lo.isN
    | some f => mE sc so lo f && !lo.isN) && (match hi' with
    | none => hi.isN
    | some f => mE sc so hi f && !hi.isN)
  | .ix a i, .Subscript e f _ => mE sc so a e && mE sc so i f
  | .call k es, .Call (.Name x _) (f :: fs) [] _ => (match nm.fn[k]? with
    | some p => decide (p.1 = x)
    | none => false) && glb sc x && mEs sc so es (f :: fs) && !nm.hot
  | .bi b es, .Call (.Name x _) (f :: fs) [] _ => decide (biName b = x) && decide (x ∈ nm.bl) && decide (b ≠ .range1) && decide (b ≠ .range2) && glb sc x && mEs sc so es (f :: fs) && !nm.hot
  | .isa a t, .Call (.Name x _) [e, .Name y _] [] _ => decide (x = "isinstance") && decide (y = tyName t) && decide (x ∈ nm.bl) && decide (y ∈ nm.bl) && glb sc x && glb sc y && mE sc so a e
  | .dic [], .Dict [] [] _ => true
  | .dic [(k, v)], .Dict [some (.Constant (.int k') _ _)] [.Constant (.int v') _ _] _ => decide (k = k') && decide (v = v')
  | .call0 k, .Call (.Name x _) [] [] _ => (match nm.fn[k]? with
    | some p => decide (p.1 = x) && !p.2
    | none => false) && glb sc x && !nm.hot
  | .lam k a, .Call (.Name x _) [.Lambda params body scope _] [] _ => decide (nm.fn.length + nm.fno.length ≤ k) && decide (nm.fnl[k - (nm.fn.length + nm.fno.length)]? = some x) && glb sc x && !nm.hot && nm.lm && LamX.lamSB sc scope && noPar params && mL nm scope a body
  | .isx a cs rs, .Call (.Name x _) [e, y] [] _ => decide (x = "isinstance") && decide (x ∈ nm.bl) && glb sc x && mE sc so a e && mCls nm sc cs y && decide (rs = nm.ec.rs) && cs.all (fun d => nm.ec.kn.contains d && nm.ec.rs.all fun c => nm.ec.kp.contains (c, d))
  | .isas a ts, .Call (.Name x _) [e, .Tuple fs _ _] [] _ => decide (x = "isinstance") && decide (x ∈ nm.bl) && glb sc x && mE sc so a e && mTys nm sc ts fs && decide (ts ≠ []) && decide (ts.length ≤ LIM)
  | .loc _ a, .Compare e ops es pos => !a.isB && mE sc so a (.Compare e ops es pos)
  | .lzip a b, .Call (.Name y _) [.Call (.Name x _) [e, f] [] _] [] _ => decide (x = "zip") && decide (x ∈ nm.bl) && glb sc x && decide (y = "list") && decide (y ∈ nm.bl) && glb sc y && mE sc so a e && mE sc so b f && !nm.hot
  | .stp a lo st, .Subscript e (.Slice (some l) none (some t) _) _ => mE sc so a e && mE sc so lo l && mE sc so st t
  | .sset a, .Call (.Name y _) [.Call (.Name x _) [e] [] _] [] _ => decide (x = "set") && decide (x ∈ nm.bl) && glb sc x && decide (y = "sorted") && decide (y ∈ nm.bl) && glb sc y && mE sc so a e && !nm.hot
  | .dhas false a i, .Compare e [.In] [.Name x _] _ => decide (nm.N[i]? = some x) && vis sc x && mE sc so a e && !a.isB
  | .dhas true a i, .Compare e [.NotIn] [.Name x _] _ => decide (nm.N[i]? = some x) && vis sc x && mE sc so a e && !a.isB
  | .dget i a, .Subscript (.Name x _) e _ => decide (nm.N[i]? = some x) && vis sc x && mE sc so a e && !a.isB
  | .dsel kvs a, .Subscript (.Dict ks vs _) e _ => mDisp kvs ks vs && decide (kvs.length ≠ 0) && decide (kvs.length ≤ 15) && decide ((kvs.map (·.1)).Nodup) && mE sc so a e && !a.isB
  | .dlen i, .Call (.Name y _) [.Name x _] [] _ => decide (y = "len") && decide (y ∈ nm.bl) && glb sc y && decide (nm.N[i]? = some x) && vis sc x
  | .dkeys i, .Call (.Name y _) [.Name x _] [] _ => decide (y = "list") && decide (y ∈ nm.bl) && glb sc y && decide (nm.N[i]? = some x) && vis sc x && !nm.hot
  | .jrv c a, .Call (.Attribute (.Constant (.str c') _ _) m ap) [.Call (.Name rv _) [f] [] _] [] cp => decide (m = "join") && decide (c' = c) && (ap.endLine == cp.line) && decide (rv = "reversed") && decide (rv ∈ nm.bl) && glb sc rv && mE sc so a f && !nm.hot
  | .joi a b, .Call (.Attribute (.Constant c k cq) m ap) [f] [] cp => decide (m = "join") && (ap.endLine == cp.line) && mE sc so a (.Constant c k cq) && mE sc so b f
  | .spl a b, .Call (.Attribute (.Name x cq) m ap) [f] [] cp => decide (m = "split") && (ap.endLine == cp.line) && mE sc so a (.Name x cq) && mE sc so b f
  | .idx a b, .Call (.Attribute (.List es lp) m ap) [f] [] cp => decide (m = "index") && (ap.endLine == cp.line) && mE sc so a (.List es lp) && mE sc so b f
  | .lrg a, .Call (.Name y _) [.Call (.Name x _) [e] [] _] [] _ => decide (x = "range") && decide (x ∈ nm.bl) && glb sc x && decide (y = "list") && decide (y ∈ nm.bl) && glb sc y && mE sc so a e && !nm.hot
  | .compX el tg tp it, .ListComp e [⟨t, i, ifs, a⟩] scope _ => !nm.hot && decide (a = 0) && mI sc so it t i && mTgt nm.N scope tg tp t && blkC nm.N sc scope (tg.map fun j => (nm.N.getD j "", j)) &&
      mE (relS scope sc) scope el e && !el.isB && (match ifs with
        | [] => true
        | _ => false)
  | .comp el tg tp it c, .ListComp e [⟨t, i, ifs, a⟩] scope _ => !nm.hot && decide (a = 0) && mI sc so it t i && mTgt nm.N scope tg tp t && blkC nm.N sc scope (tg.map fun j => (nm.N.getD j "", j)) &&
      mE (relS scope sc) scope el e && !el.isB && (match ifs with
        | [] => c.isTrue
        | [g] => mE (relS scope sc) scope c g && c.isT
        | _ => false)
  | _, _ => false
def mEs (sc so : Scope) : PXs → List Expr → Bool
  | .nil, [] => true
  | .cons x xs, e :: es => mE sc so x e && mEs sc so xs es
  | _, _ => false
def mI (sc so : Scope) : PIt → Expr → Expr → Bool
  | .rng1 a, _, .Call (.Name x _) [e] [] _ => decide (x = "range") && decide (x ∈ nm.bl) && glb sc x && mE sc so a e
  | .rng2 a b, _, .Call (.Name x _) [e, f] [] _ => decide (x = "range") && decide (x ∈ nm.bl) && glb sc x && mE sc so a e && mE sc so b f
  | .rng3 a b c, _, .Call (.Name x _) [e, f, g] [] _ => decide (x = "range") && decide (x ∈ nm.bl) && glb sc x && mE sc so a e && mE sc so b f && mE sc so c g
  | .enum a, t, .Call (.Name x _) [e] [] _ => decide (x = "enumerate") && decide (x ∈ nm.bl) && glb sc x && mE sc so a e && isTupE t
  | .enumz a b, t, .Call (.Name y _) [.Call (.Name x _) [e, f] [] _] [] _ => decide (x = "zip") && decide (x ∈ nm.bl) && glb sc x && decide (y = "enumerate") && decide (y ∈ nm.bl) && glb sc y && mE sc so a e && mE sc so b f && isTupE t
  | .zip a b, t, .Call (.Name x _) [e, f] [] _ => decide (x = "zip") && decide (x ∈ nm.bl) && glb sc x && mE sc so a e && mE sc so b f && isTupE t
  | .rev a, _, .Call (.Name x _) [e] [] _ => decide (x = "reversed") && decide (x ∈ nm.bl) && glb sc x && mE sc so a e
  | .seq a, _, e => mE sc so a e
  | _, _, _ => false
end
end
theorem good_mE {nm : Nm} {sc so : Scope} {x : PX} {e : Expr} (h : mE nm sc so x e = true) : good e = true := by
  unfold mE at h
  split at h <;> first | rfl | (exact absurd h Bool.false_ne_true)
theorem good_mEs {nm : Nm} {sc so : Scope} : ∀ {xs : PXs} {es : List Expr}, mEs nm sc so xs es = true → es.all good = true ∧ es.length = xs.len
  | .nil, [], _ => ⟨rfl, rfl⟩
  | .nil, _ :: _, h => by simp [mEs] at h
  | .cons _ _, [], h => by simp [mEs] at h
  | .cons x xs, e :: es, h => by
    simp only [mEs, Bool.and_eq_true] at h
    obtain ⟨h1, h2⟩ := good_mEs h.2
    exact ⟨by rw [List.all_cons, good_mE h.1, h1]; rfl, by simp [h2, PXs.len]⟩
theorem len_evEs {fs : List Sem1} {cs : List PV} : ∀ {xs : PXs} {ρ : Env} {vs : List PV}, evEs fs cs xs ρ = .ok vs → vs.length = xs.len
  | .nil, ρ, vs, h => by
    simp only [evEs] at h
    cases h
    rfl
  | .cons x xs, ρ, vs, h => by
    simp only [evEs] at h
    cases e : evE fs cs x ρ with
    | bad => rw [e] at h; cases h
    | exn c => rw [e] at h; cases h
    | ok v =>
      rw [e] at h
      simp only [R.bind_ok] at h
      cases e2 : evEs fs cs xs ρ with
      | bad => rw [e2] at h; cases h
      | exn c => rw [e2] at h; cases h
      | ok us =>
        rw [e2] at h
        cases h
        simp [len_evEs e2, PXs.len]

section
variable (Γ : Gt) (nm : Nm) (W : WX) (X : Cx) (fs : List Sem1) (cs : List PV)
structure Snd (x : PX) (e : Expr) : Prop where
  esc : x.isB = false → SE Γ W X .esc e (evE fs cs x)
  bor : SE Γ W X .bor e (evE fs cs x)
  fre : x.isF nm = true → SE Γ W X .fre e (evE fs cs x)
  tst : x.isT = true → ST Γ W X e (evE fs cs x)
  tsw : x.isT = true → ∀ op vs pos, e = .BoolOp op vs pos → SW Γ W X e (evE fs cs x)
structure SndA (xs : PXs) (es : List Expr) : Prop where
  bor : SA Γ W X es (evEs fs cs xs)
  esc : xs.hasB = false → SAE Γ W X es (evEs fs cs xs)
structure SndI (it : PIt) (t e : Expr) : Prop where
  bor : SI Γ W X .bor t e (evI fs cs it)
  esc : it.hasB = false → SI Γ W X .esc t e (evI fs cs it)
end
theorem good_mI {nm : Nm} {sc so : Scope} {it : PIt} {t e : Expr} (h : mI nm sc so it t e = true) : good e = true := by
  unfold mI at h
  split at h <;> first | rfl | (exact good_mE h) | (exact absurd h Bool.false_ne_true)
theorem isTup_eq {t : Expr} (h : isTupE t = true) : ∃ es k p, t = .Tuple es k p := by
  cases t <;> first | exact ⟨_, _, _, rfl⟩ | (cases h; done)
section
variable {Γ : Gt} {nm : Nm} {W : WX} {X : Cx} {fs : List Sem1} {cs : List PV} {x : PX} {e : Expr}
theorem no_tsw (h : notBool e = true) {f : Env → R PV} : ∀ op vs pos, e = .BoolOp op vs pos → SW Γ W X e f := fun op vs pos q => by
  subst q
  cases h
theorem Snd.ofEsc (h : SE Γ W X .esc e (evE fs cs x)) (hf : x.isF nm = false) (hn : notBool e = true) (ht : ST Γ W X e (evE fs cs x)) : Snd Γ nm W X fs cs x e :=
  ⟨fun _ => h, h.bor_of, fun q => (by rw [hf] at q; cases q), fun _ => ht, fun _ => no_tsw hn⟩
theorem Snd.ofEsc' (h : SE Γ W X .esc e (evE fs cs x)) (hf : x.isF nm = false) (hn : notBool e = true) (ht : x.isT = false) : Snd Γ nm W X fs cs x e :=
  ⟨fun _ => h, h.bor_of, fun q => (by rw [hf] at q; cases q), fun q => (by rw [ht] at q; cases q), fun _ => no_tsw hn⟩
theorem Snd.ofSW (h : SE Γ W X .esc e (evE fs cs x)) (hf : x.isF nm = false) (hw : x.isT = true → SW Γ W X e (evE fs cs x)) : Snd Γ nm W X fs cs x e :=
  ⟨fun _ => h, h.bor_of, fun q => (by rw [hf] at q; cases q), fun q => (hw q).pt, fun q _ _ _ _ => hw q⟩
theorem Snd.ofEscV (h : SE Γ W X .esc e (evE fs cs x)) (hf : x.isF nm = false) (hn : notBool e = true) (hw : ∀ whole, isTrue e X.env whole = (do let v ← whole; standAt e.pos; holding [v] (truthy v))) : Snd Γ nm W X fs cs x e :=
  Snd.ofEsc h hf hn (st_val h hw)
theorem Snd.ofFre (h : SE Γ W X .fre e (evE fs cs x)) (hn : notBool e = true) (ht : x.isT = true → ST Γ W X e (evE fs cs x)) : Snd Γ nm W X fs cs x e :=
  ⟨fun _ => h.esc_of, h.esc_of.bor_of, fun _ => h, ht, fun _ => no_tsw hn⟩
end

section
variable {Γ : Gt} {nm : Nm}
structure Nm.Of (nm : Nm) (Γ : Gt) : Prop where
  fn : nm.fn = Γ.fns.map fun n => (n.name, n.fr)
  bl : nm.bl = Γ.bl
  cn : nm.cn = Γ.cn.map (·.1)
  ec : nm.ec = Γ.ec
  hot : nm.hot = Γ.hot
  fno : nm.fno = Γ.fno.map (·.name)
  fnl : nm.fnl = Γ.fnl.map (·.name)
  tl : nm.tl = Γ.tl.map (·.1)
  lm : nm.lm = Γ.lm
def tlS : Option (Str × R PV) → List Sem1
  | some p => [fun _ => p.2]
  | none => []
abbrev fsOf (Γ : Gt) : List Sem1 := Γ.fns.map (·.sem) ++ (Γ.fno.map (·.sem) ++ (Γ.fnl.map (fun n => encL n.sem) ++ tlS Γ.tl))
/-! ### classes of errors -/
def clVV (cl : Nat → Addr) : Option Nat → V
  | none => .ty "ValueError"
  | some d => .ref (cl d)
theorem cls_v (cl : Nat → Addr) : ∀ d, ClsV (clVV cl d) (clV cl d)
  | none => .ty _
  | some d => .own _
theorem cls_vs (cl : Nat → Addr) : ∀ cs : List (Option Nat), Paired ClsV (cs.map (clVV cl)) (cs.map (clV cl))
  | [] => .nil
  | d :: ds => .cons (cls_v cl d) (cls_vs cl ds)
theorem callOr {X : Cx} {f : Value} {r1 r2 : List V → Hp → VK → Prop} (h1 : CallR X f r1) (h2 : CallR X f r2) : CallR X f (fun xs H Q => r1 xs H Q ∨ r2 xs H Q) :=
  fun pins s σ H xs us Q I r h => h.elim (h1 pins s σ H xs us Q I r) (h2 pins s σ H xs us Q I r)
theorem kit_any {K : PySem.W.Frag} {t : Value} {cl : Nat → Addr} (f : Option Nat → Bool) : ∀ cs : List (Option Nat), (∀ d ∈ cs, PySem.W.kitOne K t (clV cl d) = some (f d)) → PySem.W.kitAny K t (cs.map (clV cl)) = some (cs.any f)
  | [], _ => rfl
  | d :: ds, h => by
    have h1 := h d (List.mem_cons_self ..)
    have ih := kit_any f ds fun e he => h e (List.mem_cons_of_mem _ he)
    show PySem.W.kitAny K t (clV cl d :: ds.map (clV cl)) = _
    unfold PySem.W.kitAny
    rw [h1]
    cases e : f d with
    | true => simp [e]
    | false => simp [e, ih]
section
variable {N : List Str} {sc so : Scope} {W : WX} {X : Cx}
theorem pe_cl1 (o : XOk Γ N sc so W X) (hnm : nm.Of Γ) {d : Option Nat} {y : Str} {p : Pos} (h : mCl1 nm sc d y = true) : PE X (.Name y p) (tC (clVV Γ.cl d)) := by
  cases d with
  | some k =>
    simp only [mCl1, Bool.and_eq_true] at h
    have E := o.g.ec.ex (y, k) (by rw [← hnm.ec]; exact List.contains_iff_mem.mp h.1)
    exact pe_glob (o.gl h.2) E.gm rfl E.db
  | none =>
    simp only [mCl1, Bool.and_eq_true, decide_eq_true_eq] at h
    obtain ⟨⟨h1, h2⟩, h3⟩ := h
    subst h1
    exact pe_bltn (o.gl h3) (o.g.bl _ (by rw [← hnm.bl]; exact h2)) (show bootBuiltins "ValueError" = some (.type "ValueError") by decide +kernel) rfl (by decide +kernel) (by decide +kernel)
theorem pa_clN (o : XOk Γ N sc so W X) (hnm : nm.Of Γ) : ∀ {cs : List (Option Nat)} {es : List Expr}, mClN nm sc cs es = true → PA X es (fun _ H Q => Q (cs.map (clVV Γ.cl)) H)
  | [], [], _ => PA.weak pa_nil fun _ _ _ h => h
  | [], _ :: _, h => by simp [mClN] at h
  | d :: ds, [], h => by simp [mClN] at h
  | d :: ds, e :: es, h => by
    cases e with
    | Name y p =>
      simp only [mClN, Bool.and_eq_true] at h
      exact PA.weak (pa_cons (pe_cl1 o hnm h.1) (pa_clN o hnm h.2) rfl) fun _ _ _ q => q
    | _ => simp [mClN] at h
theorem pIsx_nx (cs : List (Option Nat)) (rs : List Nat) (x : PV) : pIsx cs rs x = .bad ∨ (x = .non ∧ pIsx cs rs x = .ok (.bl false)) ∨ ∃ c, x = .exc c ∧ rs.contains c = true ∧ pIsx cs rs x = .ok (.bl (cs.any (subX c))) := by
  cases x with
  | non => exact .inr (.inl ⟨rfl, rfl⟩)
  | exc c =>
    cases e : rs.contains c with
    | true => exact .inr (.inr ⟨c, rfl, e, by simp [pIsx, List.contains_iff_mem.mp e]⟩)
    | false =>
      refine .inl ?_
      show (if rs.contains c = true then _ else _) = _
      rw [e]
      rfl
  | _ => exact .inl rfl
theorem se_isx (o : XOk Γ N sc so W X) (hnm : nm.Of Γ) {cs : List (Option Nat)} {rs : List Nat} {e y : Expr} {p pos : Pos} {fa : Env → R PV} (hb : ("isinstance" : Str) ∈ Γ.bl) (hg : glb sc "isinstance" = true) (hm : mCls nm sc cs y = true) (hrs : rs = Γ.ec.rs)
    (hk : ∀ d ∈ cs, d ∈ Γ.ec.kn ∧ ∀ c ∈ Γ.ec.rs, (c, d) ∈ Γ.ec.kp) (ge : good e = true) (gy : good y = true) (ha : SE Γ W X .bor e fa) :
    SE Γ W X .esc (.Call (.Name "isinstance" p) [e, y] [] pos) (fun ρ => (fa ρ).bind fun x => pIsx cs rs x) := by
  have at_ : ∀ c, c ∈ Γ.ec.rs → ∀ {G : Hp} {v : V}, Rep X.K G (.exc c) v → ∃ a, v = .ref a ∧ G a = some (ExQ (Γ.cl c) a) := fun c hc {G v} r => by
    obtain ⟨a, C, e1, e2, e3⟩ := rep_exc.mp r
    have e4 := o.g.ec.ns c hc
    unfold clsIs at e2 e4
    rw [e2] at e4
    cases e4
    exact ⟨a, e1, e3⟩
  have fin : ∀ {G1 H1 G2 H2 : Hp} {Q : VK} {b : Bool}, Ext G1 H1 G2 H2 → (∀ v G' H', Ext G1 H1 G' H' → RepM .esc X.K H1 G' H' (.bl b) v → Q v H') → Q (.bl b) H2 := fun {G1 H1 G2 H2 Q b} ex k => k _ G2 H2 ex (show Rep X.K G2 _ _ from rep_bl')
  unfold mCls at hm
  split at hm
  · rename_i yn yp
    split at hm
    · rename_i d
      refine PE.weak (pe_callB (callOr call_isX1 call_isi) (o.gl hg) (o.g.bl _ hb) (by decide +kernel) (pa_cons ha (pa_cons (pe_cl1 o hnm hm) pa_nil rfl) (good_star ge _ _)) (by decide) (by decide) (good_star ge _ _)) fun σ H Q ⟨B, ρ, G, ow, q⟩ => ⟨B, ρ, G, ow, (PK_bind.mp q).imp (fun x k v G1 H1 e1 r1 => ?_) fun _ z => z⟩
      have hd := hk d (List.mem_cons_self ..)
      rcases pIsx_nx [d] rs x with e | ⟨rfl, e⟩ | ⟨c, rfl, hc, e⟩
      · rw [e] at k
        exact k.elim
      · rw [e] at k
        refine .inr ⟨v, _, .type "NoneType", _, false, rfl, cls_v Γ.cl d, ?_, o.g.ec.kn d hd.1, k _ G1 H1 e1 (show Rep X.K G1 _ _ from rep_bl')⟩
        rw [(show RepT X.K G1 H1 .non v from r1).non]
        exact .base .non
      · rw [e] at k
        have hc' : c ∈ Γ.ec.rs := by
          rw [← hrs]
          exact List.contains_iff_mem.mp hc
        obtain ⟨a, rfl, ga⟩ := at_ c hc' (show Rep X.K G1 (.exc c) v from r1)
        refine .inl ⟨a, _, _, _, _, rfl, e1.gh _ _ ga, o.g.ec.xc c hc', cls_v Γ.cl d, o.g.ec.kp (c, d) (hd.2 c hc'), k _ G1 H1 e1 (show Rep X.K G1 _ _ from ?_)⟩
        show Rep X.K G1 (.bl ([d].any (subX c))) (.bl (subX c d))
        rw [List.any_cons, List.any_nil, Bool.or_false]
        exact rep_bl'
    · cases hm
  · rename_i es kk tpos
    rw [Bool.and_eq_true, decide_eq_true_eq] at hm
    refine PE.weak (pe_callB (callOr call_isXT call_isiT) (o.gl hg) (o.g.bl _ hb) (by decide +kernel) (pa_cons ha (pa_cons (pe_tup (pa_clN o hnm hm.1)) pa_nil rfl) (good_star ge _ _)) (by decide) (by decide) (good_star ge _ _)) fun σ H Q ⟨B, ρ, G, ow, q⟩ => ⟨B, ρ, G, ow, (PK_bind.mp q).imp (fun x k v G1 H1 e1 r1 => ?_) fun _ z => z⟩
    refine ⟨by rw [List.length_map]; exact Nat.le_trans hm.2 lim_line, fun tp hp => ?_⟩
    have ex : Ext G1 H1 G1 (upd H1 tp (.tup (cs.map (clVV Γ.cl)))) := Ext.fresh e1.gh hp
    rcases pIsx_nx cs rs x with e | ⟨rfl, e⟩ | ⟨c, rfl, hc, e⟩
    · rw [e] at k
      exact k.elim
    · rw [e] at k
      refine .inr ⟨v, tp, _, .type "NoneType", _, false, rfl, upd_same, cls_vs Γ.cl cs, ?_, ?_, k _ G1 _ (e1.trans ex) (show Rep X.K G1 _ _ from rep_bl')⟩
      · rw [(show RepT X.K G1 H1 .non v from r1).non]
        exact .base .non
      · rw [kit_any (fun _ => false) cs fun d hd => o.g.ec.kn d (hk d hd).1]
        simp
    · rw [e] at k
      have hc' : c ∈ Γ.ec.rs := by
        rw [← hrs]
        exact List.contains_iff_mem.mp hc
      obtain ⟨a, rfl, ga⟩ := at_ c hc' (show Rep X.K G1 (.exc c) v from r1)
      have ha1 := e1.gh _ _ ga
      exact .inl ⟨a, _, tp, _, _, _, rfl, ex.hh.k _ _ ha1 (fun _ z => nomatch (show HO.ext _ = HO.tbl _ from z)), o.g.ec.xc c hc', upd_same, cls_vs Γ.cl cs, kit_any (subX c) cs fun d hd => o.g.ec.kp (c, d) ((hk d hd).2 c hc'), k _ G1 _ (e1.trans ex) (show Rep X.K G1 _ _ from rep_bl')⟩
  · cases hm
end
/-! ### a value of one of some builtin types -/
def isaB (t : Ty) (x : PV) : Bool := match pIsa t x with
  | .ok (.bl b) => b
  | _ => false
theorem pIsas_is (x : PV) : ∀ ts : List Ty, pIsas ts x = .bad ∨ ((∀ t ∈ ts, pIsa t x = .ok (.bl (isaB t x))) ∧ pIsas ts x = .ok (.bl (ts.any fun t => isaB t x)))
  | [] => .inr ⟨fun _ h => (nomatch h), rfl⟩
  | t :: ts => by
    rcases pIsa_is t x with e | ⟨b, e⟩
    · refine .inl ?_
      show (pIsa t x).bind _ = _
      rw [e]
      rfl
    · have eb : isaB t x = b := by
        unfold isaB
        rw [e]
      rcases pIsas_is x ts with e2 | ⟨h, e2⟩
      · refine .inl ?_
        show (pIsa t x).bind _ = _
        rw [e, R.bind_ok, e2]
        rfl
      · refine .inr ⟨fun u hu => ?_, ?_⟩
        · rcases List.mem_cons.mp hu with rfl | z
          · rw [eb]
            exact e
          · exact h u z
        · show (pIsa t x).bind _ = _
          rw [e, R.bind_ok, e2, R.bind_ok, List.any_cons, eb]
theorem kit_anyT {K : PySem.W.Frag} {t : Value} (f : Ty → Bool) : ∀ ts : List Ty, (∀ d ∈ ts, PySem.W.kitOne K t (.type (tyStr d)) = some (f d)) → PySem.W.kitAny K t (ts.map fun d => .type (tyStr d)) = some (ts.any f)
  | [], _ => rfl
  | d :: ds, h => by
    have h1 := h d (List.mem_cons_self ..)
    have ih := kit_anyT f ds fun e he => h e (List.mem_cons_of_mem _ he)
    show PySem.W.kitAny K t (.type (tyStr d) :: ds.map fun d => .type (tyStr d)) = _
    unfold PySem.W.kitAny
    rw [h1]
    cases e : f d with
    | true => simp [e]
    | false => simp [e, ih]
theorem cls_tys : ∀ ts : List Ty, Paired ClsV (ts.map fun t => V.ty (tyStr t)) (ts.map fun t => Value.type (tyStr t))
  | [] => .nil
  | _ :: ts => .cons (.ty _) (cls_tys ts)
section
variable {Γ : Gt} {nm : Nm} {N : List Str} {sc so : Scope} {W : WX} {X : Cx}
theorem pa_tyN (o : XOk Γ N sc so W X) (hnm : nm.bl = Γ.bl) : ∀ {ts : List Ty} {es : List Expr}, mTys nm sc ts es = true → PA X es (fun _ H Q => Q (ts.map fun t => V.ty (tyStr t)) H)
  | [], [], _ => PA.weak pa_nil fun _ _ _ h => h
  | [], _ :: _, h => by simp [mTys] at h
  | d :: ds, [], h => by simp [mTys] at h
  | d :: ds, e :: es, h => by
    cases e with
    | Name y p =>
      simp only [mTys, Bool.and_eq_true, decide_eq_true_eq] at h
      obtain ⟨⟨⟨h1, h2⟩, h3⟩, h4⟩ := h
      subst h1
      have pt : PE X (.Name (tyName d) p) (tC (.ty (tyStr d))) := pe_bltn (o.gl h3) (o.g.bl _ (by rw [← hnm]; exact h2)) (ty_boot d) rfl (ty_names d).1 (ty_names d).2
      exact PA.weak (pa_cons pt (pa_tyN o hnm h4) rfl) fun _ _ _ q => q
    | _ => simp [mTys] at h
theorem se_isas (o : XOk Γ N sc so W X) (hnm : nm.bl = Γ.bl) {ts : List Ty} {e : Expr} {fs : List Expr} {p pos tpos : Pos} {kk : Nat} {fa : Env → R PV} (hb : ("isinstance" : Str) ∈ Γ.bl) (hg : glb sc "isinstance" = true) (hm : mTys nm sc ts fs = true) (h0 : ts ≠ []) (hl : ts.length ≤ LIM)
    (ge : good e = true) (ha : SE Γ W X .bor e fa) : SE Γ W X .esc (.Call (.Name "isinstance" p) [e, .Tuple fs kk tpos] [] pos) (fun ρ => (fa ρ).bind fun x => pIsas ts x) := by
  refine PE.weak (pe_callB call_isiT (o.gl hg) (o.g.bl _ hb) (by decide +kernel) (pa_cons ha (pa_cons (pe_tup (pa_tyN o hnm hm)) pa_nil rfl) (good_star ge _ _)) (by decide) (by decide) (good_star ge _ _)) fun σ H Q ⟨B, ρ, G, ow, q⟩ => ⟨B, ρ, G, ow, (PK_bind.mp q).imp (fun x k v G1 H1 e1 r1 => ?_) fun _ z => z⟩
  refine ⟨by rw [List.length_map]; exact Nat.le_trans hl lim_line, fun tp hp => ?_⟩
  have ex : Ext G1 H1 G1 (upd H1 tp (.tup (ts.map fun t => V.ty (tyStr t)))) := Ext.fresh e1.gh hp
  rcases pIsas_is x ts with e | ⟨h, e⟩
  · rw [e] at k
    exact k.elim
  · rw [e] at k
    obtain ⟨t0, ht0⟩ := List.exists_mem_of_ne_nil _ h0
    have q0 := h t0 ht0
    refine ⟨v, tp, _, .type (kindStr x), _, ts.any fun t => isaB t x, rfl, upd_same, cls_tys ts, tyX_of (e1.gh.trans (same_upd hp)) (RepT.mono (Same.refl _) ex.hh r1) (fun z ez => ?_) (fun z ez => ?_), kit_anyT (fun t => isaB t x) ts fun d hd => kit_ty (isa_kit (h d hd)), k _ G1 _ (e1.trans ex) (show Rep X.K G1 _ _ from rep_bl')⟩
    · subst ez
      cases t0 <;> cases q0
    · subst ez
      cases t0 <;> cases q0
/-! ### an owned list that stands still while a flat value is told -/
theorem Ext.unloc {G H G2 H2 : Hp} {a : Addr} {u : HO} (h1 : H a = some u) (h2 : G a = none) (e : Ext (upd G a u) H G2 H2) : Ext G H (del G2 a) H2 := by
  refine ⟨e.hh, fun b x q => ?_, fun b x q => ?_, fun b x q m => ?_, fun b ps q => ?_⟩
  · unfold del at q
    split at q
    · cases q
    · exact e.gh b x q
  · have hb : b ≠ a := ne_of_none q h2
    unfold del
    rw [if_neg hb]
    exact e.sg b x (by rw [upd_ne hb]; exact q)
  · unfold del
    split
    · rename_i hb
      rw [hb, h2]
    · rename_i hb
      rw [e.old b x q m, upd_ne hb]
  · unfold del at q
    split at q
    · cases q
    · rename_i hb
      have := e.nt b ps q
      rwa [upd_ne hb] at this
theorem se_loc {i : Nat} {e : Expr} {f : Env → R PV} (h : SE Γ W X .esc e f) : SE Γ W X .esc e (fun ρ => match ρ[i]? with
    | some (.ow xs) => (f (ρ.set i (.sh (.lst xs)))).bind fun x => if flat x then .ok x else .bad
    | _ => .bad) := by
  refine PE.weak h fun σ H Q ⟨B, ρ, G, ow, q⟩ => ?_
  dsimp only at q
  split at q
  · rename_i xs hx
    obtain ⟨a, vs, h1, h2, o'⟩ := ow.freezeE hx
    refine ⟨B, _, _, o', (PK_bind.mp q).imp (fun x k v G1 H1 e1 r1 => ?_) fun c z G1 H1 e1 => z _ H1 (e1.unloc h1 h2)⟩
    by_cases hf : flat x = true
    · rw [if_pos hf] at k
      exact k v _ H1 (e1.unloc h1 h2) (show Rep X.K _ x v from Rep.flat_any (show Rep X.K G1 x v from r1) hf)
    · rw [if_neg hf] at k
      exact k.elim
  · exact q.elim
theorem st_loc {i : Nat} {e : Expr} {f : Env → R PV} (h : ST Γ W X e f) : ST Γ W X e (fun ρ => match ρ[i]? with
    | some (.ow xs) => (f (ρ.set i (.sh (.lst xs)))).bind fun x => if flat x then .ok x else .bad
    | _ => .bad) := by
  refine PT.weak h fun σ H Q ⟨B, ρ, G, ow, q⟩ => ?_
  dsimp only at q
  split at q
  · rename_i xs hx
    obtain ⟨a, vs, h1, h2, o'⟩ := ow.freezeE hx
    refine ⟨B, _, _, o', (PK_bind.mp q).imp (fun x k => ?_) fun c z G1 H1 e1 => z _ H1 (e1.unloc h1 h2)⟩
    by_cases hf : flat x = true
    · rw [if_pos hf] at k
      obtain ⟨b, eb, k⟩ := k
      exact ⟨b, eb, fun G1 H1 e1 => k _ H1 (e1.unloc h1 h2)⟩
    · rw [if_neg hf] at k
      exact k.elim
  · exact q.elim
end
theorem fn_at' (h : nm.fn = Γ.fns.map fun n => (n.name, n.fr)) {k : Nat} {p : Str × Bool} (e : nm.fn[k]? = some p) : ∃ n, n ∈ Γ.fns ∧ n.name = p.1 ∧ n.fr = p.2 ∧ (fsOf Γ).getD k (fun _ => .bad) = n.sem := by
  rw [h, List.getElem?_map] at e
  cases q : Γ.fns[k]? with
  | none => rw [q] at e; cases e
  | some n =>
    rw [q] at e
    cases e
    exact ⟨n, List.mem_of_getElem? q, rfl, rfl, by rw [List.getD_eq_getElem?_getD, List.getElem?_append_left (by rw [List.length_map]; exact (List.getElem?_eq_some_iff.mp q).1), List.getElem?_map, q]; rfl⟩
theorem fn_at (h : nm.Of Γ) {k : Nat} {p : Str × Bool} (e : nm.fn[k]? = some p) : ∃ n, n ∈ Γ.fns ∧ n.name = p.1 ∧ n.fr = p.2 ∧ (fsOf Γ).getD k (fun _ => .bad) = n.sem := fn_at' h.fn e
theorem fnl_at (h : nm.Of Γ) {k : Nat} {x : Str} (hk : nm.fn.length + nm.fno.length ≤ k) (e : nm.fnl[k - (nm.fn.length + nm.fno.length)]? = some x) : ∃ n, n ∈ Γ.fnl ∧ n.name = x ∧ (fsOf Γ).getD k (fun _ => .bad) = encL n.sem := by
  have l1 : nm.fn.length = Γ.fns.length := by rw [h.fn, List.length_map]
  have l2 : nm.fno.length = Γ.fno.length := by rw [h.fno, List.length_map]
  rw [h.fnl, List.getElem?_map] at e
  cases q : Γ.fnl[k - (nm.fn.length + nm.fno.length)]? with
  | none => rw [q] at e; cases e
  | some n =>
    rw [q] at e
    cases e
    refine ⟨n, List.mem_of_getElem? q, rfl, ?_⟩
    rw [l1, l2] at q hk
    have lt := (List.getElem?_eq_some_iff.mp q).1
    rw [List.getD_eq_getElem?_getD, List.getElem?_append_right (by rw [List.length_map]; omega), List.getElem?_append_right (by rw [List.length_map, List.length_map]; omega), List.length_map, List.length_map, show k - Γ.fns.length - Γ.fno.length = k - (Γ.fns.length + Γ.fno.length) by omega,
      List.getElem?_append_left (by rw [List.length_map]; exact lt), List.getElem?_map, q]
    rfl
theorem tl_at (h : nm.Of Γ) {k : Nat} {a : Str} (hk : k = nm.fn.length + nm.fno.length + nm.fnl.length) (e : nm.tl = some a) : ∃ r, Γ.tl = some (a, r) ∧ (fsOf Γ).getD k (fun _ => .bad) = fun _ => r := by
  have l1 : nm.fn.length = Γ.fns.length := by rw [h.fn, List.length_map]
  have l2 : nm.fno.length = Γ.fno.length := by rw [h.fno, List.length_map]
  have l3 : nm.fnl.length = Γ.fnl.length := by rw [h.fnl, List.length_map]
  rw [h.tl] at e
  cases q : Γ.tl with
  | none => rw [q] at e; cases e
  | some p =>
    rw [q] at e
    cases e
    refine ⟨p.2, rfl, ?_⟩
    rw [l1, l2, l3] at hk
    subst hk
    rw [List.getD_eq_getElem?_getD, List.getElem?_append_right (by rw [List.length_map]; omega), List.getElem?_append_right (by rw [List.length_map, List.length_map]; omega), List.getElem?_append_right (by rw [List.length_map, List.length_map, List.length_map]; omega), List.length_map, List.length_map, List.length_map,
      show Γ.fns.length + Γ.fno.length + Γ.fnl.length - Γ.fns.length - Γ.fno.length - Γ.fnl.length = 0 by omega, q]
    rfl
theorem fno_at (h : nm.Of Γ) {k : Nat} {x : Str} (hk : nm.fn.length ≤ k) (e : nm.fno[k - nm.fn.length]? = some x) : ∃ n, n ∈ Γ.fno ∧ n.name = x ∧ (fsOf Γ).getD k (fun _ => .bad) = n.sem := by
  have hl : nm.fn.length = Γ.fns.length := by rw [h.fn, List.length_map]
  rw [h.fno, List.getElem?_map] at e
  cases q : Γ.fno[k - nm.fn.length]? with
  | none => rw [q] at e; cases e
  | some n =>
    rw [q] at e
    cases e
    refine ⟨n, List.mem_of_getElem? q, rfl, ?_⟩
    rw [hl] at q hk
    rw [List.getD_eq_getElem?_getD, List.getElem?_append_right (by rw [List.length_map]; exact hk), List.length_map, List.getElem?_append_left (by rw [List.length_map]; exact (List.getElem?_eq_some_iff.mp q).1), List.getElem?_map, q]
    rfl
theorem cn_at (h : nm.Of Γ) {k : Nat} {x : Str} (e : nm.cn[k]? = some x) : ∃ v, Γ.cn[k]? = some (x, v) ∧ (Γ.cn.map (·.2))[k]? = some v := by
  rw [h.cn, List.getElem?_map] at e
  cases q : Γ.cn[k]? with
  | none => rw [q] at e; cases e
  | some p =>
    rw [q] at e
    cases e
    exact ⟨p.2, rfl, by rw [List.getElem?_map, q]; rfl⟩
theorem own_names {N : List Str} : ∀ tg : List Nat, (tg.map fun j => (N.getD j ("" : Str), j)).map (·.2) = tg
  | [] => rfl
  | i :: is => by
    rw [List.map_cons, List.map_cons, own_names is]
abbrev csOf (Γ : Gt) : List PV := Γ.cn.map (·.2)
/-! ### lambdas -/
section
variable {N : List Str} {sc so : Scope} {W : WX} {X : Cx}
mutual
theorem sL {nm : Nm} {Γ : Gt} (hf : nm.fn = Γ.fns.map fun n => (n.name, n.fr)) (hh : Γ.hot = false) {sc so : Scope} {W : WX} {X : Cx} (o : XOk Γ nm.N sc so W X) : ∀ (x : PX) (e : Expr), mL nm sc x e = true → SE Γ W X .esc e (evE (fsOf Γ) (csOf Γ) x) ∧ good e = true
  | .var i, e, h => by
    unfold mL at h
    split at h
    all_goals first
      | (exact absurd h Bool.false_ne_true)
      | (rename_i q; cases q; done)
      | (rename_i q; cases q)
    simp only [Bool.and_eq_true, decide_eq_true_eq] at h
    exact ⟨se_var o h.1 h.2, rfl⟩
  | .call k es, e, h => by
    unfold mL at h
    split at h
    all_goals first
      | (exact absurd h Bool.false_ne_true)
      | (rename_i q; cases q; done)
      | (rename_i q; cases q)
    simp only [Bool.and_eq_true, Bool.not_eq_true'] at h
    obtain ⟨⟨⟨h1, h2⟩, h3⟩, h4⟩ := h
    split at h1
    · rename_i p hp
      rw [decide_eq_true_eq] at h1
      obtain ⟨n, hn, nn, nf, ns⟩ := fn_at' hf hp
      have ex : n.name = _ := nn.trans h1
      subst ex
      have e1 : evE (fsOf Γ) (csOf Γ) (.call k es) = fun ρ => (evEs (fsOf Γ) (csOf Γ) es ρ).bind fun xs => n.sem xs := by
        funext ρ
        simp only [evE, h4, Bool.false_eq_true, if_false]
        rw [← ns]
      obtain ⟨s1, s2⟩ := sLs hf hh o es _ h3
      refine ⟨?_, rfl⟩
      rw [e1]
      cases hfr : n.fr
      · have := fun p pos => se_call (p := p) (pos := pos) o hh hn s2 h2 s1
        simp only [hfr] at this
        exact this _ _
      · have := fun p pos => se_call (p := p) (pos := pos) o hh hn s2 h2 s1
        simp only [hfr] at this
        exact (this _ _).esc_of
    · cases h1
  | .bvar _, e, h => by simp [mL] at h
  | .non, e, h => by simp [mL] at h
  | .bl _, e, h => by simp [mL] at h
  | .int _, e, h => by simp [mL] at h
  | .str _, e, h => by simp [mL] at h
  | .con _, e, h => by simp [mL] at h
  | .bin _ _ _, e, h => by simp [mL] at h
  | .neg _, e, h => by simp [mL] at h
  | .cmp _ _ _, e, h => by simp [mL] at h
  | .chain _ _ _ _ _, e, h => by simp [mL] at h
  | .and _ _, e, h => by simp [mL] at h
  | .or _ _, e, h => by simp [mL] at h
  | .not _, e, h => by simp [mL] at h
  | .ife _ _ _, e, h => by simp [mL] at h
  | .tup _, e, h => by simp [mL] at h
  | .lst _, e, h => by simp [mL] at h
  | .ix _ _, e, h => by simp [mL] at h
  | .sl _ _ _, e, h => by simp [mL] at h
  | .bi _ _, e, h => by simp [mL] at h
  | .isa _ _, e, h => by simp [mL] at h
  | .comp _ _ _ _ _, e, h => by simp [mL] at h
  | .isx _ _ _, e, h => by simp [mL] at h
  | .dic _, e, h => by simp [mL] at h
  | .call0 _, e, h => by simp [mL] at h
  | .lrg _, e, h => by simp [mL] at h
  | .lzip _ _, e, h => by simp [mL] at h
  | .sset _, e, h => by simp [mL] at h
  | .stp _ _ _, e, h => by simp [mL] at h
  | .dhas _ _ _, e, h => by simp [mL] at h
  | .dget _ _, e, h => by simp [mL] at h
  | .dlen _, e, h => by simp [mL] at h
  | .dsel _ _, e, h => by simp [mL] at h
  | .dkeys _, e, h => by simp [mL] at h
  | .idx _ _, e, h => by simp [mL] at h
  | .joi _ _, e, h => by simp [mL] at h
  | .jrv _ _, e, h => by simp [mL] at h
  | .compX _ _ _ _, e, h => by simp [mL] at h
  | .spl _ _, e, h => by simp [mL] at h
  | .isas _ _, e, h => by simp [mL] at h
  | .loc _ _, e, h => by simp [mL] at h
  | .lam _ _, e, h => by simp [mL] at h
theorem sLs {nm : Nm} {Γ : Gt} (hf : nm.fn = Γ.fns.map fun n => (n.name, n.fr)) (hh : Γ.hot = false) {sc so : Scope} {W : WX} {X : Cx} (o : XOk Γ nm.N sc so W X) : ∀ (xs : PXs) (es : List Expr), mLs nm sc xs es = true → SAE Γ W X es (evEs (fsOf Γ) (csOf Γ) xs) ∧ es.all good = true
  | .nil, [], _ => by
    have e1 : evEs (fsOf Γ) (csOf Γ) .nil = fun _ => .ok [] := by
      funext ρ
      simp only [evEs]
    rw [e1]
    exact ⟨sae_nil, rfl⟩
  | .nil, _ :: _, h => by simp [mLs] at h
  | .cons _ _, [], h => by simp [mLs] at h
  | .cons x xs, e :: es, h => by
    simp only [mLs, Bool.and_eq_true] at h
    obtain ⟨a1, a2⟩ := sL hf hh o x e h.1
    obtain ⟨b1, b2⟩ := sLs hf hh o xs es h.2
    have e1 : evEs (fsOf Γ) (csOf Γ) (.cons x xs) = fun ρ => (evE (fsOf Γ) (csOf Γ) x ρ).bind fun v => (evEs (fsOf Γ) (csOf Γ) xs ρ).bind fun vs => .ok (v :: vs) := by
      funext ρ
      simp only [evEs]
    rw [e1]
    exact ⟨sae_cons a2 a1 b1, by rw [List.all_cons, a2, b2]; rfl⟩
end
theorem acts_mono {P : Program} {w : World} {K : PySem.W.Frag} {mg : Str → Option Value} {base : Heap} {A : Around} {stack : List PySem.Env} {s : Shared} {H : Hp} {x : Str} {sg : Scope} {g : Addr} {cdg : Value} {a : Str} {f c1 : Addr} {q : Str} {tl tl' : XK → Hp → VK → Prop}
    (h : Acts P w K mg base A stack s H N x sg g cdg a f c1 q tl) (w' : ∀ E H Q, tl' E H Q → tl E H Q) : Acts P w K mg base A stack s H N x sg g cdg a f c1 q tl' := fun W pn xe p1 p2 tk => PE.weak (h W pn xe p1 p2 tk) fun σ H Q ⟨h1, h2, h3⟩ => ⟨h1, h2, w' _ _ _ h3⟩
theorem se_lam (o : XOk Γ N sc so W X) (hl : Γ.lm = true) (hh : Γ.hot = false) {n : FnL} (hn : n ∈ Γ.fnl) (hg : glb sc n.name = true) {params : Arguments} {body : Expr} {scope : Scope} (L : LamX.LamS sc scope) (np : noPar params = true) {f : Env → R PV} {p lpos pos : Pos}
    (hb : ∀ (W' : WX) (X' : Cx), X'.K = X.K → XOk { Γ with k := Γ.k - 2, lm := false } N scope scope W' X' → SE { Γ with k := Γ.k - 2, lm := false } W' X' .esc body f) :
    SE Γ W X .esc (.Call (.Name n.name p) [.Lambda params body scope lpos] [] pos) (fun ρ => lamR (encL n.sem) (f ρ)) := by
  obtain ⟨two, fl, lo, c, P, TB, ec, mT, uq⟩ := o.la hl hh
  have F := fl n hn
  obtain ⟨st, fd, Ng, a, F1, Sg, hbd, hN, hv, d1, d2, body_⟩ := F.ex
  have LX : LamX.LamS X.env.scope scope := by
    rw [o.hsc]
    exact L
  have np' : params = ⟨[], [], none, [], [], none, []⟩ := by
    unfold noPar at np
    split at np
    · rfl
    · cases np
  subst np'
  refine PE.weak (call_lam (k := Γ.k - 2) (t := fun E => rdE { Γ with k := Γ.k - 2, lm := false } (fun cls d _ H => E cls d H) X.K .esc f)
    (TT := fun tl H Q => ∃ (G : Hp) (r : R PV), Same G H ∧ Clean G H ∧ (∀ E H1 Q', tlR X.K Γ.cl r G H E H1 Q' → tl E H1 Q') ∧ PK (n.sem r) (fun x => ∀ v G' H', Ext G H G' H' → Rep X.K G' x v → Q v H') (fun _ => False))
    (o.gl hg) F.gm F1 Sg hbd hN hv (fun cdv s H Q f' c1 tl hr hc act ht => ?_) TB ec mT uq (by rw [show Γ.k - 2 + 2 = Γ.k by omega]; exact o.room hh) LX rfl (fun _ _ _ _ _ => rfl) (fun A outer s H E f' c1 hr => ?_) F.db d1 d2) fun σ H Q ⟨B, ρ, G, ow, q⟩ => ⟨ow.cl.tb, fun H1 sT => ?_⟩
  · obtain ⟨G, r, sG, cG, ht, hk⟩ := ht
    exact body_ cdv X.A X.stack s G H Q r f' c1 _ hr sG cG hc (acts_mono act ht) hk
  · refine hb _ _ rfl ?_
    refine ⟨lo, o.hN, o.nd, o.db, rfl, LX.kind, fun _ => rfl, fun x hx => ?_, fun _ => hr, (room66 hr), fun _ => takes_of rfl rfl rfl rfl, fun z => (nomatch z), fun _ => airOk_top (takes_of rfl rfl rfl rfl) rfl rfl⟩
    unfold loc at hx
    split at hx
    · rename_i q
      exact absurd rfl (LX.own _ (PySem.mem_of_lookup q)).1
    · rename_i q
      exact absurd rfl (LX.own _ (PySem.mem_of_lookup q)).2
    · cases hx
  · have sG : Same G H1 := fun b u hb' => sT.k _ _ (ow.gh _ _ hb') fun ps z => ow.cl.nt b ps (by rw [hb', z])
    have e0 : Ext G H G H1 := ⟨sT, sG, Same.refl _, fun _ _ _ _ => rfl, fun _ _ h => h⟩
    have q : PK (lamR (encL n.sem) (f ρ)) _ _ := q
    have fin : ∀ r, r ≠ .bad → lamR (encL n.sem) r = n.sem r := fun r hr => by
      cases r <;> first | rfl | (exact absurd rfl hr)
    have nb : f ρ ≠ .bad := fun z => by
      rw [z] at q
      exact q
    rw [fin _ nb] at q
    refine ⟨G, f ρ, sG, e0.clean ow.cl, fun E H2 Q' ⟨G1, e1, h1⟩ => ⟨B, ρ, G1, ow.step (e0.trans e1), h1.imp (fun x k v G' H' e r => k v G' H' e r) fun c k G' H' e => k G' H' e⟩, ?_⟩
    cases e : n.sem (f ρ) with
    | bad => rw [e] at q; exact q
    | exn c => exact absurd e (F.nx _ _)
    | ok x =>
      rw [e] at q
      exact fun v G' H' e2 r => q v G' H' (e0.trans e2) r
end
mutual
theorem sE (hnm : nm.Of Γ) : ∀ (x : PX) (e : Expr) {sc so : Scope} {W : WX} {X : Cx}, XOk Γ nm.N sc so W X → mE nm sc so x e = true → Snd Γ nm W X (fsOf Γ) (csOf Γ) x e
  | .var i, e, sc, so, W, X, o, h => by
    unfold mE at h
    split at h
    all_goals first
      | (exact absurd h Bool.false_ne_true)
      | (rename_i q; cases q; done)
      | (rename_i q; cases q)
    simp only [Bool.and_eq_true, decide_eq_true_eq] at h
    exact Snd.ofEscV (se_var o h.1 h.2) rfl rfl (fun _ => rfl)
  | .bvar i, e, sc, so, W, X, o, h => by
    unfold mE at h
    split at h
    all_goals first
      | (exact absurd h Bool.false_ne_true)
      | (rename_i q; cases q; done)
      | (rename_i q; cases q)
    simp only [Bool.and_eq_true, decide_eq_true_eq] at h
    exact ⟨(fun q => nomatch q), se_bvar o h.1 h.2, (fun q => nomatch q), (fun q => nomatch q), (fun q => nomatch q)⟩
  | .non, e, sc, so, W, X, o, h => by
    unfold mE at h
    split at h
    all_goals first
      | (exact absurd h Bool.false_ne_true)
      | (rename_i q; cases q; done)
      | (rename_i q; cases q)
    exact Snd.ofEscV se_non rfl rfl (fun _ => rfl)
  | .bl b, e, sc, so, W, X, o, h => by
    unfold mE at h
    split at h
    all_goals first
      | (exact absurd h Bool.false_ne_true)
      | (rename_i q; cases q; done)
      | (rename_i q; cases q)
    simp only [beq_iff_eq] at h
    subst h
    exact Snd.ofEscV se_bl rfl rfl (fun _ => rfl)
  | .int i, e, sc, so, W, X, o, h => by
    unfold mE at h
    split at h
    all_goals first
      | (exact absurd h Bool.false_ne_true)
      | (rename_i q; cases q; done)
      | (rename_i q; cases q)
    simp only [decide_eq_true_eq] at h
    subst h
    exact Snd.ofEscV se_int rfl rfl (fun _ => rfl)
  | .str s, e, sc, so, W, X, o, h => by
    unfold mE at h
    split at h
    all_goals first
      | (exact absurd h Bool.false_ne_true)
      | (rename_i q; cases q; done)
      | (rename_i q; cases q)
    simp only [decide_eq_true_eq] at h
    subst h
    exact Snd.ofEscV se_str rfl rfl (fun _ => rfl)
  | .con k, e, sc, so, W, X, o, h => by
    unfold mE at h
    split at h
    all_goals first
      | (exact absurd h Bool.false_ne_true)
      | (rename_i q; cases q; done)
      | (rename_i q; cases q)
    simp only [Bool.and_eq_true, decide_eq_true_eq] at h
    obtain ⟨v, hv, hc⟩ := cn_at hnm h.1
    have e1 : evE (fsOf Γ) (csOf Γ) (.con k) = fun _ => .ok v := by
      funext ρ
      simp only [evE, hc]
    refine Snd.ofEscV ?_ rfl rfl (fun _ => rfl)
    rw [e1]
    exact se_con o hv h.2
  | .bin op a b, e, sc, so, W, X, o, h => by
    unfold mE at h
    split at h
    all_goals first
      | (exact absurd h Bool.false_ne_true)
      | (rename_i q; cases q; done)
      | (rename_i q; cases q)
    simp only [Bool.and_eq_true, decide_eq_true_eq] at h
    have eo := opB_eq h.1.1
    subst eo
    have ha := sE hnm a _ o h.1.2
    have hb := sE hnm b _ o h.2
    have e1 : evE (fsOf Γ) (csOf Γ) (.bin op a b) = fun ρ => (evE (fsOf Γ) (csOf Γ) a ρ).bind fun x => (evE (fsOf Γ) (csOf Γ) b ρ).bind fun y => pBin op x y := by
      funext ρ
      simp only [evE]
    refine Snd.ofFre ?_ rfl (fun q => nomatch q)
    rw [e1]
    exact se_bin ha.bor hb.bor
  | .neg a, e, sc, so, W, X, o, h => by
    unfold mE at h
    split at h
    all_goals first
      | (exact absurd h Bool.false_ne_true)
      | (rename_i q; cases q; done)
      | (rename_i q; cases q)
    have ha := sE hnm a _ o h
    have e1 : evE (fsOf Γ) (csOf Γ) (.neg a) = fun ρ => (evE (fsOf Γ) (csOf Γ) a ρ).bind pNeg := by
      funext ρ
      simp only [evE]
    refine Snd.ofEsc' ?_ rfl rfl rfl
    rw [e1]
    exact se_neg ha.bor
  | .not a, e, sc, so, W, X, o, h => by
    unfold mE at h
    split at h
    all_goals first
      | (exact absurd h Bool.false_ne_true)
      | (rename_i q; cases q; done)
      | (rename_i q; cases q)
    simp only [Bool.and_eq_true, Bool.not_eq_true'] at h
    have ha := sE hnm a _ o h.1.1
    have e1 : evE (fsOf Γ) (csOf Γ) (.not a) = fun ρ => (evE (fsOf Γ) (csOf Γ) a ρ).bind pNot := by
      funext ρ
      simp only [evE]
    refine Snd.ofEsc ?_ rfl rfl ?_
    · rw [e1]
      exact se_not (ha.esc h.1.2)
    · rw [e1]
      exact st_not (ha.tst h.2)
  | .cmp op a b, e, sc, so, W, X, o, h => by
    unfold mE at h
    split at h
    all_goals first
      | (exact absurd h Bool.false_ne_true)
      | (rename_i q; cases q; done)
      | (rename_i q; cases q)
    simp only [Bool.and_eq_true, decide_eq_true_eq, Bool.or_eq_true, Bool.not_eq_true'] at h
    have eo := opC_eq h.1.1.1
    subst eo
    have ha := sE hnm a _ o h.1.1.2
    have hb := sE hnm b _ o h.1.2
    have e1 : evE (fsOf Γ) (csOf Γ) (.cmp op a b) = fun ρ => (evE (fsOf Γ) (csOf Γ) a ρ).bind fun x => (evE (fsOf Γ) (csOf Γ) b ρ).bind fun y => pCmp op x y := by
      funext ρ
      simp only [evE]
    refine Snd.ofFre ?_ rfl fun _ => ?_
    · rw [e1]
      exact (se_cmp o (good_mE h.1.2) ha.bor hb.bor).1
    · rw [e1]
      exact (se_cmp o (good_mE h.1.2) ha.bor hb.bor).2
  | .chain p q' a b c, e, sc, so, W, X, o, h => by
    unfold mE at h
    split at h
    all_goals first
      | (exact absurd h Bool.false_ne_true)
      | (rename_i q; cases q; done)
      | (rename_i q; cases q)
    simp only [Bool.and_eq_true, decide_eq_true_eq, Bool.not_eq_true'] at h
    obtain ⟨⟨⟨⟨⟨⟨h1, h2⟩, h3⟩, h4⟩, h5⟩, h6⟩, h7⟩ := h
    have eo := opC_eq h1
    subst eo
    have eo := opC_eq h2
    subst eo
    have ha := sE hnm a _ o h3
    have hb := sE hnm b _ o h4
    have hc := sE hnm c _ o h5
    have ni : ∀ {z : COp}, z.isIs = false → z ≠ .isN ∧ z ≠ .notN := fun {z} hz => ⟨fun e => (by subst e; cases hz), fun e => (by subst e; cases hz)⟩
    have key : ∀ ρ, evE (fsOf Γ) (csOf Γ) (.chain p q' a b c) ρ = ((evE (fsOf Γ) (csOf Γ) a ρ).bind fun x => (evE (fsOf Γ) (csOf Γ) b ρ).bind fun y => (pCmp p x y).bind fun r => match r with
          | .bl true => (evE (fsOf Γ) (csOf Γ) c ρ).bind fun z => pCmp q' y z
          | .bl false => .ok (.bl false)
          | _ => .bad) := fun ρ => by
      simp only [evE]
      all_goals rfl
    exact Snd.ofFre (se_chain o (good_mE h5) ha.bor hb.bor hc.bor (ni h6) (ni h7) key).1 rfl fun _ => (se_chain o (good_mE h5) ha.bor hb.bor hc.bor (ni h6) (ni h7) key).2
  | .and a b, e, sc, so, W, X, o, h => by
    unfold mE at h
    split at h
    all_goals first
      | (exact absurd h Bool.false_ne_true)
      | (rename_i q; cases q; done)
      | (rename_i q; cases q)
    simp only [Bool.and_eq_true, Bool.not_eq_true'] at h
    obtain ⟨⟨h1, h2⟩, h3⟩ := h
    have ha := sE hnm a _ o h1
    have key : ∀ ρ, evE (fsOf Γ) (csOf Γ) (.and a b) ρ = (evE (fsOf Γ) (csOf Γ) a ρ).bind fun x => match x with
        | .bl true => evE (fsOf Γ) (csOf Γ) b ρ
        | .bl false => .ok (.bl false)
        | _ => .bad := fun ρ => by
      simp only [evE]
      all_goals rfl
    split at h3
    · simp only [Bool.and_eq_true, Bool.not_eq_true'] at h3
      have hb := sE hnm b _ o h3.1
      refine Snd.ofSW (se_and key (ha.esc h2) (se_one (hb.esc h3.2))) rfl fun q => ?_
      have q : (a.isT && b.isT) = true := q
      rw [Bool.and_eq_true] at q
      exact sw_and key (ha.tst q.1) (sw_and1 (hb.tst q.2))
    · simp only [Bool.and_eq_true, Bool.not_eq_true'] at h3
      have hb := sE hnm b _ o h3.1
      refine Snd.ofSW (se_and key (ha.esc h2) (hb.esc h3.2)) rfl fun q => ?_
      have q : (a.isT && b.isT) = true := q
      rw [Bool.and_eq_true] at q
      exact sw_and key (ha.tst q.1) (hb.tsw q.2 _ _ _ rfl)
  | .or a b, e, sc, so, W, X, o, h => by
    unfold mE at h
    split at h
    all_goals first
      | (exact absurd h Bool.false_ne_true)
      | (rename_i q; cases q; done)
      | (rename_i q; cases q)
    simp only [Bool.and_eq_true, Bool.not_eq_true'] at h
    obtain ⟨⟨h1, h2⟩, h3⟩ := h
    have ha := sE hnm a _ o h1
    have key : ∀ ρ, evE (fsOf Γ) (csOf Γ) (.or a b) ρ = (evE (fsOf Γ) (csOf Γ) a ρ).bind fun x => match x with
        | .bl true => .ok (.bl true)
        | .bl false => evE (fsOf Γ) (csOf Γ) b ρ
        | _ => .bad := fun ρ => by
      simp only [evE]
      all_goals rfl
    split at h3
    · simp only [Bool.and_eq_true, Bool.not_eq_true'] at h3
      have hb := sE hnm b _ o h3.1
      refine Snd.ofSW (se_or key (ha.esc h2) (se_one (hb.esc h3.2))) rfl fun q => ?_
      have q : (a.isT && b.isT) = true := q
      rw [Bool.and_eq_true] at q
      exact sw_or key (ha.tst q.1) (sw_or1 (hb.tst q.2))
    · simp only [Bool.and_eq_true, Bool.not_eq_true'] at h3
      have hb := sE hnm b _ o h3.1
      refine Snd.ofSW (se_or key (ha.esc h2) (hb.esc h3.2)) rfl fun q => ?_
      have q : (a.isT && b.isT) = true := q
      rw [Bool.and_eq_true] at q
      exact sw_or key (ha.tst q.1) (hb.tsw q.2 _ _ _ rfl)
  | .ife c a b, e, sc, so, W, X, o, h => by
    unfold mE at h
    split at h
    all_goals first
      | (exact absurd h Bool.false_ne_true)
      | (rename_i q; cases q; done)
      | (rename_i q; cases q)
    simp only [Bool.and_eq_true, Bool.not_eq_true'] at h
    obtain ⟨⟨⟨⟨⟨h1, h2⟩, h3⟩, h4⟩, h5⟩, h6⟩ := h
    have hc := sE hnm c _ o h1
    have ha := sE hnm a _ o h2
    have hb := sE hnm b _ o h3
    refine Snd.ofEsc' (se_ife (fun ρ => ?_) (hc.tst h4) (ha.esc h5) (hb.esc h6)) rfl rfl rfl
    simp only [evE]
    all_goals rfl
  | .tup es, e, sc, so, W, X, o, h => by
    unfold mE at h
    split at h
    all_goals first
      | (exact absurd h Bool.false_ne_true)
      | (rename_i q; cases q; done)
      | (rename_i q; cases q)
    simp only [Bool.and_eq_true, Bool.not_eq_true', decide_eq_true_eq] at h
    have ha := sA hnm es _ o h.1.1
    have gl := (good_mEs h.1.1).2
    have e1 : evE (fsOf Γ) (csOf Γ) (.tup es) = fun ρ => (evEs (fsOf Γ) (csOf Γ) es ρ).bind fun xs => .ok (.tup xs) := by
      funext ρ
      simp only [evE]
    refine Snd.ofEsc' ?_ rfl rfl rfl
    rw [e1]
    exact se_tup (by rw [gl]; exact h.2) (fun ρ xs q => by rw [gl]; exact len_evEs q) (ha.esc h.1.2)
  | .lst es, e, sc, so, W, X, o, h => by
    unfold mE at h
    split at h
    all_goals first
      | (exact absurd h Bool.false_ne_true)
      | (rename_i q; cases q; done)
      | (rename_i q; cases q)
    simp only [Bool.and_eq_true, Bool.not_eq_true', decide_eq_true_eq] at h
    have ha := sA hnm es _ o h.1.1
    have gl := (good_mEs h.1.1).2
    have e1 : evE (fsOf Γ) (csOf Γ) (.lst es) = fun ρ => (evEs (fsOf Γ) (csOf Γ) es ρ).bind fun xs => .ok (.lst xs) := by
      funext ρ
      simp only [evE]
    refine Snd.ofFre ?_ rfl (fun q => nomatch q)
    rw [e1]
    exact se_lst (by rw [gl]; exact h.2) (fun ρ xs q => by rw [gl]; exact len_evEs q) (ha.esc h.1.2)
  | .ix a i, e, sc, so, W, X, o, h => by
    unfold mE at h
    split at h
    all_goals first
      | (exact absurd h Bool.false_ne_true)
      | (rename_i q; cases q; done)
      | (rename_i q; cases q)
    simp only [Bool.and_eq_true] at h
    have ha := sE hnm a _ o h.1
    have hi := sE hnm i _ o h.2
    have e1 : evE (fsOf Γ) (csOf Γ) (.ix a i) = fun ρ => (evE (fsOf Γ) (csOf Γ) a ρ).bind fun x => (evE (fsOf Γ) (csOf Γ) i ρ).bind fun y => pIx x y := by
      funext ρ
      simp only [evE]
    refine Snd.ofEscV ?_ rfl rfl (fun _ => rfl)
    rw [e1]
    exact se_ix (good_mE h.2) ha.bor hi.bor
  | .sl a lo hi, e, sc, so, W, X, o, h => by
    unfold mE at h
    split at h
    all_goals first
      | (exact absurd h Bool.false_ne_true)
      | (rename_i q; cases q; done)
      | (rename_i q; cases q)
    rename_i lo1 hi1 _ _
    simp only [Bool.and_eq_true] at h
    obtain ⟨⟨h1, h2⟩, h3⟩ := h
    have ha := sE hnm a _ o h1
    have hl : SO Γ W X lo1 (fun ρ => (evE (fsOf Γ) (csOf Γ) lo ρ).bind (pPart lo.isN)) := by
      split at h2
      · have e2 : (fun ρ => (evE (fsOf Γ) (csOf Γ) lo ρ).bind (pPart lo.isN)) = fun _ => (R.ok PV.non).bind (pPart true) := by
          funext ρ
          rw [h2]
          cases lo <;> first | (cases h2; done) | simp only [evE]
        rw [e2]
        exact so_none
      · simp only [Bool.and_eq_true, Bool.not_eq_true'] at h2
        rw [h2.2]
        exact so_some (sE hnm lo _ o h2.1).bor
    have hh : SO Γ W X hi1 (fun ρ => (evE (fsOf Γ) (csOf Γ) hi ρ).bind (pPart hi.isN)) := by
      split at h3
      · have e2 : (fun ρ => (evE (fsOf Γ) (csOf Γ) hi ρ).bind (pPart hi.isN)) = fun _ => (R.ok PV.non).bind (pPart true) := by
          funext ρ
          rw [h3]
          cases hi <;> first | (cases h3; done) | simp only [evE]
        rw [e2]
        exact so_none
      · simp only [Bool.and_eq_true, Bool.not_eq_true'] at h3
        rw [h3.2]
        exact so_some (sE hnm hi _ o h3.1).bor
    have e1 : evE (fsOf Γ) (csOf Γ) (.sl a lo hi) = fun ρ => (evE (fsOf Γ) (csOf Γ) a ρ).bind fun x => ((evE (fsOf Γ) (csOf Γ) lo ρ).bind (pPart lo.isN)).bind fun l => ((evE (fsOf Γ) (csOf Γ) hi ρ).bind (pPart hi.isN)).bind fun h => pSl x l h := by
      funext ρ
      simp only [evE]
      cases evE (fsOf Γ) (csOf Γ) a ρ <;> simp only [R.bind_ok, R.bind_exn, R.bind_bad]
      cases evE (fsOf Γ) (csOf Γ) lo ρ <;> simp only [R.bind_ok, R.bind_exn, R.bind_bad]
      rename_i z
      cases pPart lo.isN z <;> simp only [R.bind_ok, R.bind_exn, R.bind_bad]
      cases evE (fsOf Γ) (csOf Γ) hi ρ <;> simp only [R.bind_ok, R.bind_exn, R.bind_bad]
    refine Snd.ofFre ?_ rfl (fun q => nomatch q)
    rw [e1]
    exact se_sl ha.bor hl hh
  | .call k es, e, sc, so, W, X, o, h => by
    unfold mE at h
    split at h
    all_goals first
      | (exact absurd h Bool.false_ne_true)
      | (rename_i q; cases q; done)
      | (rename_i q; cases q)
    rename_i p1 f1 fs1 p2
    simp only [Bool.and_eq_true, Bool.not_eq_true'] at h
    obtain ⟨⟨⟨h1, h2⟩, h3⟩, hh⟩ := h
    rw [hnm.hot] at hh
    split at h1
    · rename_i p hp
      simp only [decide_eq_true_eq] at h1
      obtain ⟨n, hn, nn, nf, ns⟩ := fn_at hnm hp
      have ha := sA hnm es _ o h3
      have gl := (good_mEs h3).1
      have ex : n.name = _ := nn.trans h1
      subst ex
      cases hB : es.hasB with
      | false =>
        have e1 : evE (fsOf Γ) (csOf Γ) (.call k es) = fun ρ => (evEs (fsOf Γ) (csOf Γ) es ρ).bind fun xs => n.sem xs := by
          funext ρ
          simp only [evE, hB, Bool.false_eq_true, if_false]
          rw [← ns]
        have k1 : SE Γ W X (if n.fr then .fre else .esc) (.Call (.Name n.name p1) (f1 :: fs1) [] p2) (evE (fsOf Γ) (csOf Γ) (.call k es)) := by
          rw [e1]
          exact se_call o hh hn gl h2 (ha.esc hB)
        have ff : (PX.call k es).isF nm = n.fr := by
          show ((match nm.fn[k]? with
            | some p => p.2
            | none => false) && !es.hasB) = n.fr
          rw [hp, hB, nf]
          exact Bool.and_true _
        cases hf : n.fr with
        | true =>
          rw [hf] at k1
          exact Snd.ofFre k1 rfl fun _ => st_val (SE.esc_of k1) fun _ => rfl
        | false =>
          rw [hf] at k1
          exact Snd.ofEscV k1 (by rw [ff, hf]) rfl (fun _ => rfl)
      | true =>
        have e1 : evE (fsOf Γ) (csOf Γ) (.call k es) = fun ρ => (evEs (fsOf Γ) (csOf Γ) es ρ).bind fun xs => flatR (n.sem xs) := by
          funext ρ
          simp only [evE, hB, if_true]
          rw [← ns]
        refine Snd.ofEscV ?_ ?_ rfl (fun _ => rfl)
        · rw [e1]
          exact se_callB o hh hn gl h2 ha.bor
        · show (_ && !es.hasB) = false
          rw [hB]
          exact Bool.and_false _
    · exact absurd h1 Bool.false_ne_true
  | .bi f es, e, sc, so, W, X, o, h => by
    unfold mE at h
    split at h
    all_goals first
      | (exact absurd h Bool.false_ne_true)
      | (rename_i q; cases q; done)
      | (rename_i q; cases q)
    rename_i p1 f1 fs1 p2
    simp only [Bool.and_eq_true, decide_eq_true_eq, Bool.not_eq_true'] at h
    obtain ⟨⟨⟨⟨⟨⟨h1, h2⟩, h3⟩, h4⟩, h5⟩, h6⟩, hh⟩ := h
    rw [hnm.hot] at hh
    subst h1
    have ha := sA hnm es _ o h6
    have gl := (good_mEs h6).1
    have e1 : evE (fsOf Γ) (csOf Γ) (.bi f es) = fun ρ => (evEs (fsOf Γ) (csOf Γ) es ρ).bind fun xs => pBi f xs := by
      funext ρ
      simp only [evE]
    have k1 : SE Γ W X .fre (.Call (.Name (biName f) p1) (f1 :: fs1) [] p2) (evE (fsOf Γ) (csOf Γ) (.bi f es)) := by
      rw [e1]
      exact se_bi o hh h3 h4 (by rw [← hnm.bl]; exact h2) h5 gl ha.bor
    exact Snd.ofFre k1 rfl fun _ => st_val (SE.esc_of k1) fun _ => rfl
  | .isa a t, e, sc, so, W, X, o, h => by
    unfold mE at h
    split at h
    all_goals first
      | (exact absurd h Bool.false_ne_true)
      | (rename_i q; cases q; done)
      | (rename_i q; cases q)
    simp only [Bool.and_eq_true, decide_eq_true_eq] at h
    obtain ⟨⟨⟨⟨⟨⟨h1, h2⟩, h3⟩, h4⟩, h5⟩, h6⟩, h7⟩ := h
    subst h1 h2
    have ha := sE hnm a _ o h7
    have e1 : evE (fsOf Γ) (csOf Γ) (.isa a t) = fun ρ => (evE (fsOf Γ) (csOf Γ) a ρ).bind fun x => pIsa t x := by
      funext ρ
      simp only [evE]
    refine Snd.ofEscV ?_ rfl rfl (fun _ => rfl)
    rw [e1]
    exact se_isa o (by rw [← hnm.bl]; exact h3) h5 (by rw [← hnm.bl]; exact h4) h6 (good_mE h7) ha.bor
  | .dic kvs, e, sc, so, W, X, o, h => by
    unfold mE at h
    split at h
    all_goals first
      | (exact absurd h Bool.false_ne_true)
      | (rename_i q; cases q; done)
      | (rename_i q; cases q)
    · have e1 : evE (fsOf Γ) (csOf Γ) (.dic []) = fun ρ => .ok (.dk [] []) := by
        funext ρ
        simp [evE]
      refine Snd.ofEscV ?_ rfl rfl (fun _ => rfl)
      rw [e1]
      exact se_dic0
    · simp only [Bool.and_eq_true, decide_eq_true_eq] at h
      obtain ⟨h1, h2⟩ := h
      subst h1 h2
      have e1 : ∀ k v, evE (fsOf Γ) (csOf Γ) (.dic [(k, v)]) = fun ρ => .ok (.dk [Sum.inl k] [.int v]) := fun k v => by
        funext ρ
        simp [evE]
      refine Snd.ofEscV ?_ rfl rfl (fun _ => rfl)
      rw [e1]
      exact se_dic1
  | .call0 k, e, sc, so, W, X, o, h => by
    unfold mE at h
    split at h
    all_goals first
      | (exact absurd h Bool.false_ne_true)
      | (rename_i q; cases q; done)
      | (rename_i q; cases q)
    simp only [Bool.and_eq_true, Bool.not_eq_true'] at h
    obtain ⟨⟨h1, h2⟩, hh⟩ := h
    rw [hnm.hot] at hh
    split at h1
    · rename_i p hp
      simp only [Bool.and_eq_true, decide_eq_true_eq, Bool.not_eq_true'] at h1
      obtain ⟨n, hn, nn, nf, ns⟩ := fn_at hnm hp
      have ex : n.name = _ := nn.trans h1.1
      subst ex
      have e1 : evE (fsOf Γ) (csOf Γ) (.call0 k) = fun ρ => n.sem [] := by
        funext ρ
        simp only [evE]
        rw [← ns]
      refine Snd.ofEscV ?_ rfl rfl (fun _ => rfl)
      rw [e1]
      exact se_call0 o hh hn (nf.trans h1.2) h2
    · exact absurd h1 Bool.false_ne_true
  | .lam k a, e, sc, so, W, X, o, h => by
    unfold mE at h
    split at h
    all_goals first
      | (exact absurd h Bool.false_ne_true)
      | (rename_i q; cases q; done)
      | (rename_i q; cases q)
    simp only [Bool.and_eq_true, Bool.not_eq_true', decide_eq_true_eq] at h
    obtain ⟨⟨⟨⟨⟨⟨⟨h1, h2⟩, h3⟩, h4⟩, h5⟩, h6⟩, h7⟩, h8⟩ := h
    rw [hnm.hot] at h4
    rw [hnm.lm] at h5
    obtain ⟨n, hn, nn, ns⟩ := fnl_at hnm h1 h2
    subst nn
    have e1 : evE (fsOf Γ) (csOf Γ) (.lam k a) = fun ρ => lamR (encL n.sem) (evE (fsOf Γ) (csOf Γ) a ρ) := by
      funext ρ
      simp only [evE]
      rw [← ns]
    refine Snd.ofEscV ?_ rfl rfl (fun _ => rfl)
    rw [e1]
    exact se_lam o h5 h4 hn h3 (LamX.lamS_by h6) h7 fun W' X' _ o' => (sL (Γ := { Γ with k := Γ.k - 2, lm := false }) hnm.fn h4 o' a _ h8).1
  | .isx a cs rs, e, sc, so, W, X, o, h => by
    unfold mE at h
    split at h
    all_goals first
      | (exact absurd h Bool.false_ne_true)
      | (rename_i q; cases q; done)
      | (rename_i q; cases q)
    simp only [Bool.and_eq_true, decide_eq_true_eq] at h
    obtain ⟨⟨⟨⟨⟨⟨h1, h2⟩, h3⟩, h4⟩, h5⟩, h6⟩, h7⟩ := h
    subst h1
    have ha := sE hnm a _ o h4
    have e1 : evE (fsOf Γ) (csOf Γ) (.isx a cs rs) = fun ρ => (evE (fsOf Γ) (csOf Γ) a ρ).bind fun x => pIsx cs rs x := by
      funext ρ
      simp only [evE]
    refine Snd.ofEscV ?_ rfl rfl (fun _ => rfl)
    rw [e1]
    have gy : ∀ {y : Expr}, mCls nm sc cs y = true → good y = true := fun {y} q => by
      cases y <;> first | rfl | (simp only [mCls, Bool.false_eq_true] at q; done)
    refine se_isx o hnm (by rw [← hnm.bl]; exact h2) h3 h5 (by rw [h6, hnm.ec]) (fun d hd => ?_) (good_mE h4) (gy h5) ha.bor
    have := List.all_eq_true.mp h7 d hd
    rw [Bool.and_eq_true] at this
    rw [← hnm.ec]
    exact ⟨List.contains_iff_mem.mp this.1, fun c hc => List.contains_iff_mem.mp (List.all_eq_true.mp this.2 c hc)⟩
  | .isas a ts, e, sc, so, W, X, o, h => by
    unfold mE at h
    split at h
    all_goals first
      | (exact absurd h Bool.false_ne_true)
      | (rename_i q; cases q; done)
      | (rename_i q; cases q)
    simp only [Bool.and_eq_true, decide_eq_true_eq] at h
    obtain ⟨⟨⟨⟨⟨⟨h1, h2⟩, h3⟩, h4⟩, h5⟩, h6⟩, h7⟩ := h
    subst h1
    have ha := sE hnm a _ o h4
    have e1 : evE (fsOf Γ) (csOf Γ) (.isas a ts) = fun ρ => (evE (fsOf Γ) (csOf Γ) a ρ).bind fun x => pIsas ts x := by
      funext ρ
      simp only [evE]
    refine Snd.ofEscV ?_ rfl rfl (fun _ => rfl)
    rw [e1]
    exact se_isas o hnm.bl (by rw [← hnm.bl]; exact h2) h3 h5 h6 h7 (good_mE h4) ha.bor
  | .loc i a, e, sc, so, W, X, o, h => by
    unfold mE at h
    split at h
    all_goals first
      | (exact absurd h Bool.false_ne_true)
      | (rename_i q; cases q; done)
      | (rename_i q; cases q)
    simp only [Bool.and_eq_true, Bool.not_eq_true'] at h
    have ha := sE hnm a _ o h.2
    have e1 : evE (fsOf Γ) (csOf Γ) (.loc i a) = fun ρ => match ρ[i]? with
        | some (.ow xs) => (evE (fsOf Γ) (csOf Γ) a (ρ.set i (.sh (.lst xs)))).bind fun x => if flat x then .ok x else .bad
        | _ => .bad := by
      funext ρ
      simp only [evE]
      all_goals rfl
    refine ⟨fun _ => ?_, SE.bor_of ?_, (fun q => nomatch q), fun q => ?_, fun _ => no_tsw rfl⟩
    · rw [e1]
      exact se_loc (ha.esc h.1)
    · rw [e1]
      exact se_loc (ha.esc h.1)
    · rw [e1]
      exact st_loc (ha.tst q)
  | .lzip a b, e, sc, so, W, X, o, h => by
    unfold mE at h
    split at h
    all_goals first
      | (exact absurd h Bool.false_ne_true)
      | (rename_i q; cases q; done)
      | (rename_i q; cases q)
    simp only [Bool.and_eq_true, decide_eq_true_eq, Bool.not_eq_true'] at h
    obtain ⟨⟨⟨⟨⟨⟨⟨⟨h1, h2⟩, h3⟩, h4⟩, h5⟩, h6⟩, h7⟩, h8⟩, hh⟩ := h
    rw [hnm.hot] at hh
    subst h1 h4
    have ha := sE hnm a _ o h7
    have hb := sE hnm b _ o h8
    have e1 : evE (fsOf Γ) (csOf Γ) (.lzip a b) = fun ρ => (evE (fsOf Γ) (csOf Γ) a ρ).bind fun x => (evE (fsOf Γ) (csOf Γ) b ρ).bind fun y => pLZ x y := by
      funext ρ
      simp only [evE]
    refine Snd.ofFre ?_ rfl (fun q => nomatch q)
    rw [e1]
    exact se_lzip o hh (by rw [← hnm.bl]; exact h2) h3 (by rw [← hnm.bl]; exact h5) h6 (good_mE h7) (good_mE h8) ha.bor hb.bor
  | .sset a, e, sc, so, W, X, o, h => by
    unfold mE at h
    split at h
    all_goals first
      | (exact absurd h Bool.false_ne_true)
      | (rename_i q; cases q; done)
      | (rename_i q; cases q)
    simp only [Bool.and_eq_true, decide_eq_true_eq, Bool.not_eq_true'] at h
    obtain ⟨⟨⟨⟨⟨⟨⟨h1, h2⟩, h3⟩, h4⟩, h5⟩, h6⟩, h7⟩, hh⟩ := h
    rw [hnm.hot] at hh
    subst h1 h4
    have ha := sE hnm a _ o h7
    have e1 : evE (fsOf Γ) (csOf Γ) (.sset a) = fun ρ => (evE (fsOf Γ) (csOf Γ) a ρ).bind pSset := by
      funext ρ
      simp only [evE]
    refine Snd.ofFre ?_ rfl (fun q => nomatch q)
    rw [e1]
    exact se_sset o hh (by rw [← hnm.bl]; exact h2) h3 (by rw [← hnm.bl]; exact h5) h6 (good_mE h7) ha.bor
  | .stp a lo st, e, sc, so, W, X, o, h => by
    unfold mE at h
    split at h
    all_goals first
      | (exact absurd h Bool.false_ne_true)
      | (rename_i q; cases q; done)
      | (rename_i q; cases q)
    simp only [Bool.and_eq_true] at h
    obtain ⟨⟨h1, h2⟩, h3⟩ := h
    have ha := sE hnm a _ o h1
    have hl := sE hnm lo _ o h2
    have ht := sE hnm st _ o h3
    have e1 : evE (fsOf Γ) (csOf Γ) (.stp a lo st) = fun ρ => (evE (fsOf Γ) (csOf Γ) a ρ).bind fun x => (evE (fsOf Γ) (csOf Γ) lo ρ).bind fun l => (pPart false l).bind fun l' => (evE (fsOf Γ) (csOf Γ) st ρ).bind fun t => (pPart false t).bind fun t' => (match l', t' with
      | some i, some j => pStpR x i j
      | _, _ => .bad) := by
      funext ρ
      simp only [evE]
      all_goals rfl
    refine Snd.ofFre ?_ rfl (fun q => nomatch q)
    rw [e1]
    exact se_stp ha.bor hl.bor ht.bor
  | .dhas neg a i, e, sc, so, W, X, o, h => by
    cases neg with
    | false =>
      unfold mE at h
      split at h
      all_goals first
        | (exact absurd h Bool.false_ne_true)
        | (rename_i q; cases q; done)
        | (rename_i q; cases q)
      simp only [Bool.and_eq_true, decide_eq_true_eq, Bool.not_eq_true'] at h
      obtain ⟨⟨⟨h1, h2⟩, h3⟩, h4⟩ := h
      have ha := sE hnm a _ o h3
      have e1 : evE (fsOf Γ) (csOf Γ) (.dhas false a i) = fDhas false (evE (fsOf Γ) (csOf Γ) a) i := by
        funext ρ
        simp only [evE, fDhas]
        all_goals rfl
      refine Snd.ofEsc ?_ rfl rfl ?_
      · rw [e1]
        exact (se_dhas o (neg := false) h1 h2 (ha.esc h4)).1
      · rw [e1]
        exact (se_dhas o (neg := false) h1 h2 (ha.esc h4)).2
    | true =>
      unfold mE at h
      split at h
      all_goals first
        | (exact absurd h Bool.false_ne_true)
        | (rename_i q; cases q; done)
        | (rename_i q; cases q)
      simp only [Bool.and_eq_true, decide_eq_true_eq, Bool.not_eq_true'] at h
      obtain ⟨⟨⟨h1, h2⟩, h3⟩, h4⟩ := h
      have ha := sE hnm a _ o h3
      have e1 : evE (fsOf Γ) (csOf Γ) (.dhas true a i) = fDhas true (evE (fsOf Γ) (csOf Γ) a) i := by
        funext ρ
        simp only [evE, fDhas]
        all_goals rfl
      refine Snd.ofEsc ?_ rfl rfl ?_
      · rw [e1]
        exact (se_dhas o (neg := true) h1 h2 (ha.esc h4)).1
      · rw [e1]
        exact (se_dhas o (neg := true) h1 h2 (ha.esc h4)).2
  | .dget i a, e, sc, so, W, X, o, h => by
    unfold mE at h
    split at h
    all_goals first
      | (exact absurd h Bool.false_ne_true)
      | (rename_i q; cases q; done)
      | (rename_i q; cases q)
    simp only [Bool.and_eq_true, decide_eq_true_eq, Bool.not_eq_true'] at h
    obtain ⟨⟨⟨h1, h2⟩, h3⟩, h4⟩ := h
    have ha := sE hnm a _ o h3
    have e1 : evE (fsOf Γ) (csOf Γ) (.dget i a) = fDget i (evE (fsOf Γ) (csOf Γ) a) := by
      funext ρ
      simp only [evE, fDget]
      all_goals rfl
    refine Snd.ofEscV ?_ rfl rfl (fun _ => rfl)
    rw [e1]
    exact se_dget o h1 h2 (good_mE h3) (ha.esc h4)
  | .dsel kvs a, e, sc, so, W, X, o, h => by
    unfold mE at h
    split at h
    all_goals first
      | (exact absurd h Bool.false_ne_true)
      | (rename_i q; cases q; done)
      | (rename_i q; cases q)
    simp only [Bool.and_eq_true, decide_eq_true_eq, Bool.not_eq_true'] at h
    obtain ⟨⟨⟨⟨⟨h1, h2⟩, h3⟩, h4⟩, h5⟩, h6⟩ := h
    have ha := sE hnm a _ o h5
    have e1 : evE (fsOf Γ) (csOf Γ) (.dsel kvs a) = fDsel kvs (evE (fsOf Γ) (csOf Γ) a) := by
      funext ρ
      simp only [evE, fDsel]
      all_goals rfl
    refine Snd.ofEscV ?_ rfl rfl (fun _ => rfl)
    rw [e1]
    exact se_dsel o h1 h2 h3 h4 (good_mE h5) (ha.esc h6)
  | .dlen i, e, sc, so, W, X, o, h => by
    unfold mE at h
    split at h
    all_goals first
      | (exact absurd h Bool.false_ne_true)
      | (rename_i q; cases q; done)
      | (rename_i q; cases q)
    simp only [Bool.and_eq_true, decide_eq_true_eq] at h
    obtain ⟨⟨⟨⟨h1, h2⟩, h3⟩, h4⟩, h5⟩ := h
    subst h1
    have e1 : evE (fsOf Γ) (csOf Γ) (.dlen i) = fDlen i := by
      funext ρ
      simp only [evE, fDlen]
      all_goals rfl
    refine Snd.ofEscV ?_ rfl rfl (fun _ => rfl)
    rw [e1]
    exact se_dlen o (by rw [← hnm.bl]; exact h2) h3 h4 h5
  | .dkeys i, e, sc, so, W, X, o, h => by
    unfold mE at h
    split at h
    all_goals first
      | (exact absurd h Bool.false_ne_true)
      | (rename_i q; cases q; done)
      | (rename_i q; cases q)
    simp only [Bool.and_eq_true, decide_eq_true_eq, Bool.not_eq_true'] at h
    obtain ⟨⟨⟨⟨⟨h1, h2⟩, h3⟩, h4⟩, h5⟩, hh⟩ := h
    rw [hnm.hot] at hh
    subst h1
    have e1 : evE (fsOf Γ) (csOf Γ) (.dkeys i) = fDkeys i := by
      funext ρ
      simp only [evE, fDkeys]
      all_goals rfl
    refine Snd.ofFre ?_ rfl (fun q => nomatch q)
    rw [e1]
    exact se_dkeys o hh (by rw [← hnm.bl]; exact h2) h3 h4 h5
  | .idx a b, e, sc, so, W, X, o, h => by
    unfold mE at h
    split at h
    all_goals first
      | (exact absurd h Bool.false_ne_true)
      | (rename_i q; cases q; done)
      | (rename_i q; cases q)
    simp only [Bool.and_eq_true, decide_eq_true_eq] at h
    obtain ⟨⟨⟨h1, h2⟩, h3⟩, h4⟩ := h
    subst h1
    have ha := sE hnm a _ o h3
    have hb := sE hnm b _ o h4
    have e1 : evE (fsOf Γ) (csOf Γ) (.idx a b) = fun ρ => (evE (fsOf Γ) (csOf Γ) a ρ).bind fun x => (match x with
      | .lst ys => (evE (fsOf Γ) (csOf Γ) b ρ).bind fun y => pIdx (.lst ys) y
      | _ => .bad) := by
      funext ρ
      simp only [evE]
      all_goals rfl
    refine Snd.ofEscV ?_ rfl rfl (fun _ => rfl)
    rw [e1]
    exact se_idx (good_mE h4) h2 ha.bor hb.bor
  | .jrv c a, e, sc, so, W, X, o, h => by
    unfold mE at h
    split at h
    all_goals first
      | (exact absurd h Bool.false_ne_true)
      | (rename_i q; cases q; done)
      | (rename_i q; cases q)
    simp only [Bool.and_eq_true, decide_eq_true_eq, Bool.not_eq_true'] at h
    obtain ⟨⟨⟨⟨⟨⟨⟨h1, h2⟩, h3⟩, h4⟩, h5⟩, h6⟩, h7⟩, hh⟩ := h
    subst h1
    have h2 := h2.symm
    subst h2
    subst h4
    rw [hnm.hot] at hh
    rw [hnm.bl] at h5
    have ha := sE hnm a _ o h7
    have e1 : evE (fsOf Γ) (csOf Γ) (.jrv c a) = fun ρ => (evE (fsOf Γ) (csOf Γ) a ρ).bind fun y => pJrv c y := by
      funext ρ
      simp only [evE]
    refine Snd.ofEscV ?_ rfl rfl (fun _ => rfl)
    rw [e1]
    exact se_jrv (o.calm hh) (o.gl h6) (o.g.bl _ h5) (good_mE h7) h3 ha.bor
  | .joi a b, e, sc, so, W, X, o, h => by
    unfold mE at h
    split at h
    all_goals first
      | (exact absurd h Bool.false_ne_true)
      | (rename_i q; cases q; done)
      | (rename_i q; cases q)
    simp only [Bool.and_eq_true, decide_eq_true_eq] at h
    obtain ⟨⟨⟨h1, h2⟩, h3⟩, h4⟩ := h
    subst h1
    have ha := sE hnm a _ o h3
    have hb := sE hnm b _ o h4
    have e1 : evE (fsOf Γ) (csOf Γ) (.joi a b) = fun ρ => (evE (fsOf Γ) (csOf Γ) a ρ).bind fun x => (match x with
      | .str s => (evE (fsOf Γ) (csOf Γ) b ρ).bind fun y => pJoin (.str s) y
      | _ => .bad) := by
      funext ρ
      simp only [evE]
      all_goals rfl
    refine Snd.ofEscV ?_ rfl rfl (fun _ => rfl)
    rw [e1]
    exact se_joi rfl (good_mE h4) h2 ha.bor hb.bor
  | .spl a b, e, sc, so, W, X, o, h => by
    unfold mE at h
    split at h
    all_goals first
      | (exact absurd h Bool.false_ne_true)
      | (rename_i q; cases q; done)
      | (rename_i q; cases q)
    simp only [Bool.and_eq_true, decide_eq_true_eq] at h
    obtain ⟨⟨⟨h1, h2⟩, h3⟩, h4⟩ := h
    subst h1
    have ha := sE hnm a _ o h3
    have hb := sE hnm b _ o h4
    have e1 : evE (fsOf Γ) (csOf Γ) (.spl a b) = fun ρ => (evE (fsOf Γ) (csOf Γ) a ρ).bind fun x => (match x with
      | .str s => (evE (fsOf Γ) (csOf Γ) b ρ).bind fun y => pSplt (.str s) y
      | _ => .bad) := by
      funext ρ
      simp only [evE]
      all_goals rfl
    refine Snd.ofFre ?_ rfl (fun q => nomatch q)
    rw [e1]
    exact se_spl rfl (good_mE h4) h2 ha.bor hb.bor
  | .lrg a, e, sc, so, W, X, o, h => by
    unfold mE at h
    split at h
    all_goals first
      | (exact absurd h Bool.false_ne_true)
      | (rename_i q; cases q; done)
      | (rename_i q; cases q)
    simp only [Bool.and_eq_true, decide_eq_true_eq, Bool.not_eq_true'] at h
    obtain ⟨⟨⟨⟨⟨⟨⟨h1, h2⟩, h3⟩, h4⟩, h5⟩, h6⟩, h7⟩, hh⟩ := h
    rw [hnm.hot] at hh
    subst h1 h4
    have ha := sE hnm a _ o h7
    have e1 : evE (fsOf Γ) (csOf Γ) (.lrg a) = fun ρ => (evE (fsOf Γ) (csOf Γ) a ρ).bind fun x => (pInt x).bind fun n => if n ≤ 1000000 ∧ -1000000 ≤ n then .ok (.lst (rngL 0 n.toNat)) else .bad := by
      funext ρ
      simp only [evE]
    refine Snd.ofFre ?_ rfl (fun q => nomatch q)
    rw [e1]
    exact se_lrg o hh (by rw [← hnm.bl]; exact h2) h3 (by rw [← hnm.bl]; exact h5) h6 (good_mE h7) ha.bor
  | .compX el tg tp it, e, sc, so, W, X, o, h => by
    unfold mE at h
    split at h
    all_goals first
      | (exact absurd h Bool.false_ne_true)
      | (rename_i q; cases q; done)
      | (rename_i q; cases q)
    simp only [Bool.and_eq_true, decide_eq_true_eq, Bool.not_eq_true'] at h
    obtain ⟨⟨⟨⟨⟨⟨⟨hh, h1⟩, h2⟩, h3⟩, h4⟩, h5⟩, h6⟩, h7⟩ := h
    rw [hnm.hot] at hh
    subst h1
    have hI := sI hnm it _ _ o h2
    have gi := good_mI h2
    have bk := blkOk_by h4
    have e1 : evE (fsOf Γ) (csOf Γ) (.compX el tg tp it) = fun ρ => (evI (fsOf Γ) (csOf Γ) it ρ).bind fun xs => if xs.length ≤ LIM then (compLX (evE (fsOf Γ) (csOf Γ) el) (fun x => asgT tg tp x (killAll ρ tg)) xs).bind fun ys => .ok (.lst ys) else .bad := by
      funext ρ
      simp only [evE]
    refine Snd.ofFre ?_ rfl (fun q => nomatch q)
    rw [e1]
    split at h7
    rotate_left
    · cases h7
    exact PE.weak (pe_lcx (W := W) (wi := rdI Γ W X.K .bor (evI (fsOf Γ) (csOf Γ) it)) (g := rdG X.K tg tp) (te := fun σ => rdE Γ (fun c d _ H' => W c d σ H') X.K .esc (evE (fsOf Γ) (csOf Γ) el)) (o.calm hh) (by rw [o.hN]; exact o.nd) hI.bor (by rw [o.hN, o.hsc]; exact bk) (o.ar hh).fra (o.ar hh).air
      (fun s H C cl fp xe => pg_tgt (xok_blkX (W' := W0) o bk.kind s H C cl fp xe takes0 ⟨fra_blk (o.ar hh).fra s H C cl fp xe, fun u s' ⟨_, _, _, _, _, _, _, _, _, _, _, _, _, _, _, _, _, _, w⟩ => w.elim⟩) hh h3)
      (fun σ s H C cl fp xe tk air fra => (sE hnm el _ (xok_blkX o bk.kind s H C cl fp xe tk ⟨fra, air⟩) h5).esc h6) (good_fold gi _)) (comp_rdX (own_names tg))
  | .comp el tg tp it c, e, sc, so, W, X, o, h => by
    unfold mE at h
    split at h
    all_goals first
      | (exact absurd h Bool.false_ne_true)
      | (rename_i q; cases q; done)
      | (rename_i q; cases q)
    simp only [Bool.and_eq_true, decide_eq_true_eq, Bool.not_eq_true'] at h
    obtain ⟨⟨⟨⟨⟨⟨⟨hh, h1⟩, h2⟩, h3⟩, h4⟩, h5⟩, h6⟩, h7⟩ := h
    rw [hnm.hot] at hh
    subst h1
    have hI := sI hnm it _ _ o h2
    have gi := good_mI h2
    have bk := blkOk_by h4
    have e1 : evE (fsOf Γ) (csOf Γ) (.comp el tg tp it c) = fun ρ => (evI (fsOf Γ) (csOf Γ) it ρ).bind fun xs => (compL (evE (fsOf Γ) (csOf Γ) el) (evE (fsOf Γ) (csOf Γ) c) (fun x => asgT tg tp x (killAll ρ tg)) xs).bind fun ys => if xs.length ≤ LIM then .ok (.lst ys) else .bad := by
      funext ρ
      simp only [evE]
    refine Snd.ofFre ?_ rfl (fun q => nomatch q)
    rw [e1]
    refine PE.weak (pe_lc (wi := rdI Γ W X.K .bor (evI (fsOf Γ) (csOf Γ) it)) (g := rdG X.K tg tp) (tt := rdT Γ W0 X.K (evE (fsOf Γ) (csOf Γ) c)) (te := rdE Γ W0 X.K .esc (evE (fsOf Γ) (csOf Γ) el)) (o.calm hh) (by rw [o.hN]; exact o.nd) hI.bor (by rw [o.hN, o.hsc]; exact bk) (fun s H C cl fp => pg_tgt (xok_blk o bk.kind s H C cl fp) hh h3) (fun s H C cl fp => ?_) (fun s H C cl fp => (sE hnm el _ (xok_blk o bk.kind s H C cl fp) h5).esc h6) (good_fold gi _)) (comp_rd (own_names tg))
    split at h7
    · cases c <;> first | (cases h7; done) | skip
      rename_i b
      cases b
      · cases h7
      · refine ⟨fun pins s σ H Q I ⟨B, ρ, G, ow, q⟩ => pts_nil.run pins s σ H Q I ?_⟩
        simp only [evE] at q
        obtain ⟨b, eb, q⟩ := q
        cases eb
        exact q G H (Ext.refl ow.gh)
    · simp only [Bool.and_eq_true] at h7
      exact pts_one ((sE hnm c _ (xok_blk o bk.kind s H C cl fp) h7.1).tst h7.2)
    · cases h7
theorem sA (hnm : nm.Of Γ) : ∀ (xs : PXs) (es : List Expr) {sc so : Scope} {W : WX} {X : Cx}, XOk Γ nm.N sc so W X → mEs nm sc so xs es = true → SndA Γ W X (fsOf Γ) (csOf Γ) xs es
  | .nil, es, sc, so, W, X, o, h => by
    cases es with
    | cons _ _ => simp [mEs] at h
    | nil => exact ⟨sa_nil, fun _ => sae_nil⟩
  | .cons x xs, es, sc, so, W, X, o, h => by
    cases es with
    | nil => simp [mEs] at h
    | cons e es =>
      simp only [mEs, Bool.and_eq_true] at h
      have ha := sE hnm x e o h.1
      have hr := sA hnm xs es o h.2
      have e1 : evEs (fsOf Γ) (csOf Γ) (.cons x xs) = fun ρ => (evE (fsOf Γ) (csOf Γ) x ρ).bind fun v => (evEs (fsOf Γ) (csOf Γ) xs ρ).bind fun vs => .ok (v :: vs) := by
        funext ρ
        simp only [evEs]
      refine ⟨?_, fun q => ?_⟩
      · rw [e1]
        exact sa_cons (good_mE h.1) ha.bor hr.bor
      · have q : (x.isB || xs.hasB) = false := q
        rw [Bool.or_eq_false_iff] at q
        rw [e1]
        exact sae_cons (good_mE h.1) (ha.esc q.1) (hr.esc q.2)
theorem sI (hnm : nm.Of Γ) : ∀ (it : PIt) (t e : Expr) {sc so : Scope} {W : WX} {X : Cx}, XOk Γ nm.N sc so W X → mI nm sc so it t e = true → SndI Γ W X (fsOf Γ) (csOf Γ) it t e
  | .seq a, t, e, sc, so, W, X, o, h => by
    unfold mI at h
    have ha := sE hnm a _ o h
    have e1 : evI (fsOf Γ) (csOf Γ) (.seq a) = fun ρ => (evE (fsOf Γ) (csOf Γ) a ρ).bind pSeq := by
      funext ρ
      simp only [evI]
    refine ⟨?_, fun q => ?_⟩
    · rw [e1]
      exact si_seq (.inr rfl) ha.bor
    · rw [e1]
      exact si_seq (.inl rfl) (ha.esc q)
  | .rng1 a, t, e, sc, so, W, X, o, h => by
    unfold mI at h
    split at h
    all_goals first
      | (exact absurd h Bool.false_ne_true)
      | (rename_i q; cases q; done)
      | (rename_i q; cases q)
    simp only [Bool.and_eq_true, decide_eq_true_eq] at h
    obtain ⟨⟨⟨h1, h2⟩, h3⟩, h4⟩ := h
    subst h1
    have ha := sE hnm a _ o h4
    have e1 : evI (fsOf Γ) (csOf Γ) (.rng1 a) = fun ρ => (evE (fsOf Γ) (csOf Γ) a ρ).bind fun x => (pInt x).bind fun n => if inSpan n then .ok (rngL 0 n.toNat) else .bad := by
      funext ρ
      simp only [evI]
    rw [hnm.bl] at h2
    refine ⟨?_, fun q => ?_⟩
    · rw [e1]
      exact si_rng1 o h2 h3 (good_mE h4) ha.bor
    · rw [e1]
      exact si_rng1 o h2 h3 (good_mE h4) ha.bor
  | .rng2 a b, t, e, sc, so, W, X, o, h => by
    unfold mI at h
    split at h
    all_goals first
      | (exact absurd h Bool.false_ne_true)
      | (rename_i q; cases q; done)
      | (rename_i q; cases q)
    simp only [Bool.and_eq_true, decide_eq_true_eq] at h
    obtain ⟨⟨⟨⟨h1, h2⟩, h3⟩, h4⟩, h5⟩ := h
    subst h1
    have ha := sE hnm a _ o h4
    have hb := sE hnm b _ o h5
    have e1 : evI (fsOf Γ) (csOf Γ) (.rng2 a b) = fun ρ => (evE (fsOf Γ) (csOf Γ) a ρ).bind fun x => (evE (fsOf Γ) (csOf Γ) b ρ).bind fun y => (pInt x).bind fun i => (pInt y).bind fun j => if inSpan i && inSpan j then .ok (rngL i (j - i).toNat) else .bad := by
      funext ρ
      simp only [evI]
    rw [hnm.bl] at h2
    refine ⟨?_, fun q => ?_⟩
    · rw [e1]
      exact si_rng2 o h2 h3 (good_mE h4) (good_mE h5) ha.bor hb.bor
    · rw [e1]
      exact si_rng2 o h2 h3 (good_mE h4) (good_mE h5) ha.bor hb.bor
  | .rng3 a b c, t, e, sc, so, W, X, o, h => by
    unfold mI at h
    split at h
    all_goals first
      | (exact absurd h Bool.false_ne_true)
      | (rename_i q; cases q; done)
      | (rename_i q; cases q)
    simp only [Bool.and_eq_true, decide_eq_true_eq] at h
    obtain ⟨⟨⟨⟨⟨h1, h2⟩, h3⟩, h4⟩, h5⟩, h6⟩ := h
    subst h1
    have ha := sE hnm a _ o h4
    have hb := sE hnm b _ o h5
    have hc := sE hnm c _ o h6
    have e1 : evI (fsOf Γ) (csOf Γ) (.rng3 a b c) = fun ρ => (evE (fsOf Γ) (csOf Γ) a ρ).bind fun x => (evE (fsOf Γ) (csOf Γ) b ρ).bind fun y => (evE (fsOf Γ) (csOf Γ) c ρ).bind fun z => pRng3 x y z := by
      funext ρ
      simp only [evI]
      rfl
    rw [hnm.bl] at h2
    refine ⟨?_, fun q => ?_⟩
    · rw [e1]
      exact si_rng3 o h2 h3 (good_mE h4) (good_mE h5) (good_mE h6) ha.bor hb.bor hc.bor
    · rw [e1]
      exact si_rng3 o h2 h3 (good_mE h4) (good_mE h5) (good_mE h6) ha.bor hb.bor hc.bor
  | .enum a, t, e, sc, so, W, X, o, h => by
    unfold mI at h
    split at h
    all_goals first
      | (exact absurd h Bool.false_ne_true)
      | (rename_i q; cases q; done)
      | (rename_i q; cases q)
    simp only [Bool.and_eq_true, decide_eq_true_eq] at h
    obtain ⟨⟨⟨⟨h1, h2⟩, h3⟩, h4⟩, h5⟩ := h
    subst h1
    have ha := sE hnm a _ o h4
    have e1 : evI (fsOf Γ) (csOf Γ) (.enum a) = fun ρ => (evE (fsOf Γ) (csOf Γ) a ρ).bind pEnumR := by
      funext ρ
      simp only [evI]
      rfl
    rw [hnm.bl] at h2
    obtain ⟨tes, tk, tp, rfl⟩ := isTup_eq h5
    refine ⟨?_, fun q => ?_⟩
    · rw [e1]
      exact si_enum o (.inr rfl) h2 h3 (good_mE h4) ha.bor
    · rw [e1]
      exact si_enum o (.inl rfl) h2 h3 (good_mE h4) (ha.esc q)
  | .zip a b, t, e, sc, so, W, X, o, h => by
    unfold mI at h
    split at h
    all_goals first
      | (exact absurd h Bool.false_ne_true)
      | (rename_i q; cases q; done)
      | (rename_i q; cases q)
    simp only [Bool.and_eq_true, decide_eq_true_eq] at h
    obtain ⟨⟨⟨⟨⟨h1, h2⟩, h3⟩, h4⟩, h5⟩, h6⟩ := h
    subst h1
    have ha := sE hnm a _ o h4
    have hb := sE hnm b _ o h5
    have e1 : evI (fsOf Γ) (csOf Γ) (.zip a b) = fun ρ => (evE (fsOf Γ) (csOf Γ) a ρ).bind fun x => (evE (fsOf Γ) (csOf Γ) b ρ).bind fun y => pZipR x y := by
      funext ρ
      simp only [evI]
      rfl
    rw [hnm.bl] at h2
    obtain ⟨tes, tk, tp, rfl⟩ := isTup_eq h6
    refine ⟨?_, fun q => ?_⟩
    · rw [e1]
      exact si_zip o (.inr rfl) h2 h3 (good_mE h4) (good_mE h5) ha.bor hb.bor
    · rw [e1]
      have q : (a.isB || b.isB) = false := q
      rw [Bool.or_eq_false_iff] at q
      exact si_zip o (.inl rfl) h2 h3 (good_mE h4) (good_mE h5) (ha.esc q.1) (hb.esc q.2)
  | .enumz a b, t, e, sc, so, W, X, o, h => by
    unfold mI at h
    split at h
    all_goals first
      | (exact absurd h Bool.false_ne_true)
      | (rename_i q; cases q; done)
      | (rename_i q; cases q)
    simp only [Bool.and_eq_true, decide_eq_true_eq] at h
    obtain ⟨⟨⟨⟨⟨⟨⟨⟨h1, h2⟩, h3⟩, k1⟩, k2⟩, k3⟩, h4⟩, h5⟩, h6⟩ := h
    subst h1 k1
    have ha := sE hnm a _ o h4
    have hb := sE hnm b _ o h5
    have e1 : evI (fsOf Γ) (csOf Γ) (.enumz a b) = fun ρ => (evE (fsOf Γ) (csOf Γ) a ρ).bind fun x => (evE (fsOf Γ) (csOf Γ) b ρ).bind fun y => pEnZ x y := by
      funext ρ
      simp only [evI]
    rw [hnm.bl] at h2 k2
    obtain ⟨tes, tk, tp, rfl⟩ := isTup_eq h6
    refine ⟨?_, fun q => ?_⟩
    · rw [e1]
      exact si_enumz o (.inr rfl) h2 h3 k2 k3 (good_mE h4) (good_mE h5) ha.bor hb.bor
    · rw [e1]
      have q : (a.isB || b.isB) = false := q
      rw [Bool.or_eq_false_iff] at q
      exact si_enumz o (.inl rfl) h2 h3 k2 k3 (good_mE h4) (good_mE h5) (ha.esc q.1) (hb.esc q.2)
  | .rev a, t, e, sc, so, W, X, o, h => by
    unfold mI at h
    split at h
    all_goals first
      | (exact absurd h Bool.false_ne_true)
      | (rename_i q; cases q; done)
      | (rename_i q; cases q)
    simp only [Bool.and_eq_true, decide_eq_true_eq] at h
    obtain ⟨⟨⟨h1, h2⟩, h3⟩, h4⟩ := h
    subst h1
    have ha := sE hnm a _ o h4
    have e1 : evI (fsOf Γ) (csOf Γ) (.rev a) = fun ρ => (evE (fsOf Γ) (csOf Γ) a ρ).bind pRevR := by
      funext ρ
      simp only [evI]
      rfl
    rw [hnm.bl] at h2
    refine ⟨?_, fun q => ?_⟩
    · rw [e1]
      exact si_rev o (.inr rfl) h2 h3 (good_mE h4) ha.bor
    · rw [e1]
      exact si_rev o (.inl rfl) h2 h3 (good_mE h4) (ha.esc q)
end
end
end Pf

set_option Elab.async false
set_option linter.all false
set_option maxRecDepth 100000
set_option autoImplicit false
set_option maxHeartbeats 4000000
/-! Pf9: statements; a def -/
namespace Pf
open PySem PySem.Spec L2
variable [Tbc] [Tlc]

section
variable (Γ : Gt) (W : WX) (K : PySem.W.Frag) (fr : Bool)
def PostS (B : Bd) (r : RS) (D : Ends) : Prop := match r with
  | .next ρ => ∀ σ G H, Ow K B ρ σ G H → D.nx σ H
  | .brk ρ => ∀ σ G H, Ow K B ρ σ G H → D.bk σ H
  | .cnt ρ => ∀ σ G H, Ow K B ρ σ G H → D.ct σ H
  | .ret v => ∀ w G H, Ext B.G0 B.H0 G H → RepM (if fr then .fre else .esc) K B.H0 G H v w → D.rt w H
  | .exn c ρ => ∀ σ G H, Ow K B ρ σ G H → W (.ref (Γ.cl c)) none σ H
  | .bad => False
def rdS (f : Env → RS) : TS := fun D σ H => ∃ (B : Bd) (ρ : Env) (G : Hp), Ow K B ρ σ G H ∧ PostS Γ W K fr B (f ρ) D
end
def SS (Γ : Gt) (W : WX) (fr : Bool) (X : Cx) (st : Stmt) (f : Env → RS) : Prop := L2.PS X st (rdS Γ W X.K fr f)
def SSs (Γ : Gt) (W : WX) (fr : Bool) (X : Cx) (st : List Stmt) (f : Env → RS) : Prop := PSs X st (rdS Γ W X.K fr f)
section
variable {Γ : Gt} {N : List Str} {sc so : Scope} {W : WX} {X : Cx} {fr : Bool}
theorem PS.weak {st : Stmt} {t t' : TS} (p : L2.PS X st t) (w : ∀ D σ H, t' D σ H → t D σ H) : L2.PS X st t' := ⟨fun pins s σ H D I h => p.run pins s σ H D I (w D σ H h)⟩
theorem PSs.weak {st : List Stmt} {t t' : TS} (p : PSs X st t) (w : ∀ D σ H, t' D σ H → t D σ H) : PSs X st t' := ⟨fun pins s σ H D I h => p.run pins s σ H D I (w D σ H h)⟩
/-- an expression ahead, by its answer -/
theorem of_rd {K : PySem.W.Frag} {m : Mode} {B : Bd} {ρ : Env} {σ : L2.St} {G H : Hp} {r : R PV} {k : PV → RS} {D : Ends} {Q : VK} {f : Env → R PV} (ow : Ow K B ρ σ G H) (er : f ρ = r) (h : PostS Γ W K fr B (RS.of r ρ k) D)
    (hq : ∀ x v G' H', Ext G H G' H' → RepM m K H G' H' x v → PostS Γ W K fr B (k x) D → Q v H') : rdE Γ W K m f σ H Q := by
  refine ⟨B, ρ, G, ow, ?_⟩
  rw [er]
  cases r with
  | ok x => exact fun v G' H' e rv => hq x v G' H' e rv h
  | exn c => exact fun G' H' e => h σ G' H' (ow.step e)
  | bad => exact h
/-! ### blocks -/
theorem sss_nil : SSs Γ W fr X [] (fun ρ => .next ρ) := PSs.weak pss_nil fun D σ H ⟨B, ρ, G, ow, q⟩ => q σ G H ow
theorem sss_cons {st : Stmt} {rest : List Stmt} {f g : Env → RS} (h1 : SS Γ W fr X st f) (h2 : SSs Γ W fr X rest g) : SSs Γ W fr X (st :: rest) (fun ρ => (f ρ).then g) := by
  refine PSs.weak (pss_cons h1 h2) fun D σ H ⟨B, ρ, G, ow, q⟩ => ⟨B, ρ, G, ow, ?_⟩
  have q : PostS Γ W X.K fr B ((f ρ).then g) D := q
  cases e : f ρ with
  | next ρ1 =>
    rw [e] at q
    exact fun σ1 G1 H1 o1 => ⟨B, ρ1, G1, o1, q⟩
  | brk ρ1 => rw [e] at q; exact q
  | cnt ρ1 => rw [e] at q; exact q
  | ret v => rw [e] at q; exact q
  | exn c ρ1 => rw [e] at q; exact q
  | bad => rw [e] at q; exact q
theorem sss_frz {rest : List Stmt} {g : Env → RS} (i : Nat) (h2 : SSs Γ W fr X rest g) : SSs Γ W fr X rest (fun ρ => (match ρ[i]? with
    | some (.ow xs) => RS.next (ρ.set i (.sh (.lst xs)))
    | _ => .next ρ).then g) := by
  refine PSs.weak h2 fun D σ H ⟨B, ρ, G, ow, q⟩ => ?_
  have q : PostS Γ W X.K fr B ((match ρ[i]? with
    | some (.ow xs) => RS.next (ρ.set i (.sh (.lst xs)))
    | _ => .next ρ).then g) D := q
  split at q
  · rename_i xs hx
    obtain ⟨G', o'⟩ := ow.freeze hx
    exact ⟨B, _, G', o', q⟩
  · exact ⟨B, ρ, G, ow, q⟩
theorem sss_kil {rest : List Stmt} {g : Env → RS} (i : Nat) (h2 : SSs Γ W fr X rest g) : SSs Γ W fr X rest (fun ρ => (RS.next (ρ.set i .no)).then g) :=
  PSs.weak h2 fun D σ H ⟨B, ρ, G, ow, q⟩ => ⟨B, _, G, ow.kill i, q⟩

/-! ### stores -/
theorem new_root {K : PySem.W.Frag} {B : Bd} {ρ : Env} {σ : L2.St} {G H : Hp} {a : Addr} (o : Ow K B ρ σ G H) (ha : H a = none) : B.H0 a = none ∧ ∀ (j : Nat) (ys : List PV), ρ[j]? = some (.ow ys) → σ[j]? ≠ some (some (.ref a)) := by
  refine ⟨o.ext.hh.free ha, fun j ys hj e => ?_⟩
  obtain ⟨b, vs, e', h1, _⟩ := o.ow hj
  rw [e] at e'
  cases e'
  rw [ha] at h1
  cases h1
theorem setName {K : PySem.W.Frag} {B : Bd} {ρ : Env} {σ : L2.St} {G H : Hp} {i : Nat} {x : PV} {v : V} {D : Ends} (o : Ow K B ρ σ G H) (r : Rep K G x v) (h : PostS Γ W K fr B (if i < ρ.length then .next (ρ.set i (.sh x)) else .bad) D) : D.nx (σ.set i (some v)) H := by
  split at h
  · rename_i hi
    exact h _ G H (o.setSh hi r)
  · exact h.elim
theorem setOwn {K : PySem.W.Frag} {B : Bd} {ρ : Env} {σ : L2.St} {G H G1 H1 : Hp} {i : Nat} {x : PV} {v : V} {D : Ends} (o : Ow K B ρ σ G H) (e : Ext G H G1 H1) (r : RepM .fre K H G1 H1 x v) (h : PostS Γ W K fr B (setOwR ρ i x) D) : D.nx (σ.set i (some v)) H1 := by
  unfold setOwR at h
  split at h
  · split at h
    · rename_i hi
      obtain ⟨a, vs, rfl, h0, g1, h1, r1⟩ := r
      obtain ⟨n1, n2⟩ := new_root o h0
      exact h _ G1 H1 ((o.step e).setOw hi h1 g1 n1 r1 fun j ys hj _ => n2 j ys hj)
    · exact h.elim
  · exact h.elim
theorem ss_set (o : XOk Γ N sc so W X) {i : Nat} {x : Str} {e : Expr} {p pos : Pos} {f : Env → R PV} (hn : N[i]? = some x) (hl : loc so x = true) (hs : swapsWith e (some (.Name x p)) pos.line X.env = pure false) (he : SE Γ W X .esc e f) :
    SS Γ W fr X (.Assign [.Name x p] e pos) (fun ρ => RS.of (f ρ) ρ fun v => if i < ρ.length then .next (ρ.set i (.sh v)) else .bad) := by
  obtain ⟨l1, l2⟩ := o.loc hl
  refine PS.weak (ps_set (i := i) (by rw [o.hN]; exact o.nd) (o.Nx hn) l1 he hs l2) fun D σ H ⟨B, ρ, G, ow, q⟩ => ?_
  exact of_rd ow rfl q fun x v G' H' ex rv hk => setName (ow.step ex) rv hk
theorem ss_seto (o : XOk Γ N sc so W X) {i : Nat} {x : Str} {e : Expr} {p pos : Pos} {f : Env → R PV} (hn : N[i]? = some x) (hl : loc so x = true) (hs : swapsWith e (some (.Name x p)) pos.line X.env = pure false) (he : SE Γ W X .fre e f) :
    SS Γ W fr X (.Assign [.Name x p] e pos) (fun ρ => RS.of (f ρ) ρ fun v => setOwR ρ i v) := by
  obtain ⟨l1, l2⟩ := o.loc hl
  refine PS.weak (ps_set (i := i) (by rw [o.hN]; exact o.nd) (o.Nx hn) l1 he hs l2) fun D σ H ⟨B, ρ, G, ow, q⟩ => ?_
  exact of_rd ow rfl q fun x v G' H' ex rv hk => setOwn ow ex rv hk
/-- a comprehension's parts -/
structure Parts (Γ : Gt) (W : WX) (X : Cx) (el t i : Expr) (ifs : List Expr) (scope : Scope) (tg : List Nat) (tp : Bool) (N : List Str) (fi : Env → R (List PV)) (fe fc : Env → R PV) : Prop where
  pi : PI X t i (rdI Γ W X.K .bor fi)
  bk : BlkOk X.N X.env.scope scope (tg.map fun j => (N.getD j "", j))
  pg : ∀ (s : Shared) (H : Hp) (C : Addr) (cl : List (Str × Addr)) (fp : List Addr), PG (X.blk s H scope (compEnvC scope cl C X.env) fp) t (rdG X.K tg tp)
  pt : ∀ (s : Shared) (H : Hp) (C : Addr) (cl : List (Str × Addr)) (fp : List Addr), PTs (X.blk s H scope (compEnvC scope cl C X.env) fp) ifs (rdT Γ W0 X.K fc)
  pe : ∀ (s : Shared) (H : Hp) (C : Addr) (cl : List (Str × Addr)) (fp : List Addr), PE (X.blk s H scope (compEnvC scope cl C X.env) fp) el (rdE Γ W0 X.K .esc fe)
  fd : ∀ x, foldedSetIterable i X.env x = pure x
theorem ss_setLc {k : Env → PV → RS} (o : XOk Γ N sc so W X) (hh : Γ.hot = false) {i : Nat} {y : Str} {py pos spos : Pos} {el t it : Expr} {ifs : List Expr} {scope : Scope} {tg : List Nat} {tp : Bool} {fi : Env → R (List PV)} {fe fc f : Env → R PV} (hn : N[i]? = some y) (hl : sc.names.lookup y = some .local)
    (hp : (py.line == pos.line) = true) (ha : (scope.names.any fun (n, k) => n == y && (k == .local || k == .cell)) = false) (P : Parts Γ W X el t it ifs scope tg tp N fi fe fc)
    (hf : f = fun ρ => (fi ρ).bind fun xs => (compL fe fc (fun x => asgT tg tp x (killAll ρ tg)) xs).bind fun ys => if xs.length ≤ LIM then .ok (.lst ys) else .bad)
    (hk : ∀ B ρ σ G H G1 H1 x v D, Ow X.K B ρ σ G H → Ext G H G1 H1 → RepM .fre X.K H G1 H1 x v → PostS Γ W X.K fr B (k ρ x) D → D.nx (σ.set i (some v)) H1) :
    SS Γ W fr X (.Assign [.Name y py] (.ListComp el [⟨t, it, ifs, 0⟩] scope pos) spos) (fun ρ => RS.of (f ρ) ρ (k ρ)) := by
  have hl' : X.env.scope.names.lookup y = some .local := by rw [o.hsc]; exact hl
  have sw : swapsWith (.ListComp el [⟨t, it, ifs, 0⟩] scope pos) (some (.Name y py)) spos.line X.env = pure true := sw_true (by rw [o.hsc]; exact o.kd) hl' hp ha
  refine PS.weak (ps_setLc (i := i) (o.calm hh) (by rw [o.hN]; exact o.nd) (o.Nx hn) hl' sw P.pi P.bk P.pg P.pt P.pe P.fd) fun D σ H ⟨B, ρ, G, ow, q⟩ => ?_
  refine comp_rd (own_names tg) σ H _ ?_
  rw [← hf]
  exact of_rd ow rfl q fun x v G' H' ex rv hk' => hk B ρ σ G H G' H' x v D ow ex rv hk'
theorem sw_cell {elt : Expr} {gs : List Comprehension} {scope : Scope} {pos py : Pos} {y : Str} {l : Nat} {env : PySem.Env} (hy : env.scope.names.lookup y = some .cell) : swapsWith (.ListComp elt gs scope pos) (some (.Name y py)) l env = pure false := by
  have ky : env.kindOf y = some .cell := hy
  unfold swapsWith
  simp only [ky, Expr.pos]
  have : (some NameKind.cell == some NameKind.local) = false := by decide
  simp only [this, Bool.and_false, Bool.false_and]
/-- a, b, .. = e -/
theorem ss_unp (o : XOk Γ N sc so W X) (hh : Γ.hot = false) {tg : List Nat} {es : List Expr} {k : Nat} {p pos : Pos} {e : Expr} {f : Env → R PV} (hm : mNames N so tg es = true) (hs : swapsWith e (some (.Tuple es k p)) pos.line X.env = pure false) (hw : swappedStores [.Tuple es k p] e X.env = pure none) (he : SE Γ W X .esc e f) :
    SS Γ W fr X (.Assign [.Tuple es k p] e pos) (fun ρ => RS.of (f ρ) ρ fun v => match asgT tg true v ρ with
      | some ρ' => .next ρ'
      | none => .bad) := by
  have pg : PG X (.Tuple es k p) (rdG X.K tg true) := pg_tgt o hh (tp := true) (by unfold mTgt; rw [if_pos rfl]; exact hm)
  refine PS.weak (ps_asg he pg hs hw rfl) fun D σ H ⟨B, ρ, G, ow, q⟩ => ?_
  refine of_rd ow rfl q fun x v G' H' ex rv hk => ?_
  split at hk
  · rename_i ρ' ea
    exact ow_asgT (ow.step ex) rv ea fun vs o' => hk _ G' H' o'
  · exact hk.elim
/-! ### a call that is given an owned list for good -/
def rdM (Γ : Gt) (W : WX) (K : PySem.W.Frag) (j : Nat) (f : Env → R (List PV)) : TA := fun σ H Q => ∃ (B : Bd) (ρ : Env) (G : Hp), Ow K B ρ σ G H ∧
  PK (f ρ) (fun xs => ∀ us G' H', Ext G H G' H' → Reps K G' xs us → ∀ w, σ[j]? = some (some w) → Q (us ++ [w]) H') (Ke Γ W σ G H) ∧ ((∃ w, σ[j]? = some (some w)) ∨ ∃ c, f ρ = .exn c)
theorem sam_nil (o : XOk Γ N sc so W X) {j : Nat} {x : Str} {p : Pos} (hn : N[j]? = some x) (hv : vis sc x = true) : PA X [.Name x p] (rdM Γ W X.K j (fun _ => .ok [])) := by
  refine PA.weak (pa_cons (pe_var (pos := p) (o.Nx hn) (o.vis hv) (o.nodb hn).1 (o.nodb hn).2) pa_nil rfl) fun σ H Q ⟨B, ρ, G, ow, q, hw⟩ => ?_
  obtain ⟨w, hw⟩ := hw.resolve_right fun ⟨c, z⟩ => nomatch z
  exact ⟨w, hw, q [] G H (Ext.refl ow.gh) (reps_nil.mpr rfl) w hw⟩
theorem sam_cons {j : Nat} {e : Expr} {es : List Expr} {fa : Env → R PV} {fb : Env → R (List PV)} (ge : good e = true) (ha : SE Γ W X .esc e fa) (hb : PA X es (rdM Γ W X.K j fb)) : PA X (e :: es) (rdM Γ W X.K j (fun ρ => (fa ρ).bind fun x => (fb ρ).bind fun xs => .ok (x :: xs))) := by
  refine PA.weak (pa_cons ha hb (good_star ge es _)) fun σ H Q ⟨B, ρ, G, ow, q, hw⟩ => ⟨B, ρ, G, ow, ?_⟩
  simp only at q hw
  cases ea : fa ρ with
  | bad => rw [ea] at q; exact q
  | exn c => rw [ea] at q; exact q
  | ok x =>
    rw [ea] at q hw
    rw [R.bind_ok] at q hw
    intro v G1 H1 e1 r1
    refine ⟨B, ρ, G1, ow.step e1, (PK_bind.mp q).imp (fun xs k vs G2 H2 e2 r2 => ?_) (fun _ z => Ke.step e1 z), hw.imp id fun ⟨c, z⟩ => ?_⟩
    · exact k (v :: vs) G2 H2 (e1.trans e2) (reps_cons.mpr ⟨v, vs, rfl, Rep.mono (e2.gg e1.gh) r1, r2⟩)
    · cases eb : fb ρ with
      | bad => rw [eb] at z; cases z
      | exn c2 => exact ⟨c2, rfl⟩
      | ok xs => rw [eb] at z; cases z
theorem del_ne {H : Hp} {p b : Addr} (h : b ≠ p) : del H p b = H b := if_neg h
theorem del_same {H : Hp} {p : Addr} : del H p p = none := if_pos rfl
theorem tabs_del {H : Hp} {p : Addr} {vs : List V} (h : H p = some (.lst vs)) (t : LamX.Tabs Tbc.T H) : LamX.Tabs Tbc.T (del H p) := fun x hx => by
  obtain ⟨ps, q1, q2, q3⟩ := t x hx
  refine ⟨ps, ?_, q2, fun pos cv hc => ?_⟩
  · rw [del_ne fun z => ?_]
    · exact q1
    · rw [z, h] at q1
      cases q1
  · obtain ⟨c, e1, e2⟩ := q3 pos cv hc
    refine ⟨c, e1, ?_⟩
    rw [del_ne fun z => ?_]
    · exact e2
    · rw [z, h] at e2
      cases e2
theorem sameT_del {H0 H : Hp} {p : Addr} {vs : List V} (s : SameT H0 H) (n : H0 p = none) (h : H p = some (.lst vs)) : SameT H0 (del H p) :=
  ⟨fun b o e hn => by rw [del_ne (ne_of_none e n)]; exact s.k b o e hn, fun b ps e => by rw [del_ne (ne_of_none e n)]; exact s.t b ps e, fun t => tabs_del h (s.tb t)⟩
/-- behind the call: the slot is left, the list is no longer asked for -/
theorem Ow.moved {K : PySem.W.Frag} {B : Bd} {ρ : Env} {σ : L2.St} {G H G' H' : Hp} {j : Nat} {zs : List PV} {p : Addr} (o : Ow K B ρ σ G H) (h : ρ[j]? = some (.ow zs)) (hp : σ[j]? = some (some (.ref p))) (e : Ext G (del H p) G' H') : Ow K B (ρ.set j .no) σ G' H' := by
  obtain ⟨a, vs, ha, h1, h2, h3, _⟩ := o.ow h
  rw [hp] at ha
  cases ha
  have k := o.kill j
  have ng : ∀ b u, G b = some u → b ≠ p := fun b u q => ne_of_none q h2
  have n0 : ∀ b u, B.H0 b = some u → b ≠ p := fun b u q => ne_of_none q h3
  have gg : Same G G' := e.sg
  refine ⟨⟨(sameT_del o.ext.hh h3 h1).trans e.hh, e.gh, o.ext.sg.trans e.sg, fun b u q m => ?_, fun b ps q => o.ext.nt b ps (e.nt b ps q)⟩, e.clean ⟨o.cl.nt, tabs_del h1 o.cl.tb⟩, o.low.trans gg, k.len, fun i s hs => ?_, k.apart⟩
  · obtain ⟨u', q', m'⟩ := (sameT_del o.ext.hh h3 h1).thereN q m
    rw [e.old b u' q' m']
    exact o.ext.old b u q m
  · have q := k.slot i s hs
    cases s with
    | no => exact q
    | fn => exact q
    | sh x =>
      obtain ⟨v, ev, r⟩ := q
      exact ⟨v, ev, r.mono gg⟩
    | od kvs =>
      obtain ⟨a, ea, g1, g2, g3⟩ := q
      have hap : a ≠ p := fun z => by
        subst z
        rw [h1] at g1
        cases g1
      have hd : del H p a = some (dtOf kvs) := by rw [del_ne hap]; exact g1
      exact ⟨a, ea, e.hh.k _ _ hd fun _ z => (by cases z), by rw [e.old _ _ hd fun _ z => by cases z]; exact g2, g3⟩
    | ow ys =>
      obtain ⟨a, us, ea, g1, g2, g3, r⟩ := q
      have hij : i ≠ j := fun z => by
        subst z
        have hi : i < ρ.length := (List.getElem?_eq_some_iff.mp h).1
        rw [List.getElem?_set_self hi] at hs
        cases hs
      have hρ : ρ[i]? = some (.ow ys) := by
        rw [List.getElem?_set_ne (Ne.symm hij)] at hs
        exact hs
      have hap : a ≠ p := fun z => by
        subst z
        obtain ⟨b', _, e', _⟩ := o.ow hρ
        refine hij (o.apart i j ys zs a hρ h ?_ hp)
        rw [e'] at ea ⊢
        exact congrArg some ea
      have hd : del H p a = some (.lst us) := by rw [del_ne hap]; exact g1
      exact ⟨a, us, ea, e.hh.lst hd, by rw [e.old _ _ hd fun _ z => by cases z]; exact g2, g3, r.mono gg⟩
theorem ss_unpM (o : XOk Γ N sc so W X) (hh : Γ.hot = false) {n : Fn} (hn : n ∈ Γ.fno) {tg : List Nat} {ts : List Expr} {k j : Nat} {p p2 p3 pos : Pos} {e : Expr} {es : List Expr} {f : Env → R (List PV)} (hm : mNames N so tg ts = true) (ge : (e :: es).all good = true) (hg : glb sc n.name = true)
    (hs : swapsWith (.Call (.Name n.name p2) (e :: es) [] p3) (some (.Tuple ts k p)) pos.line X.env = pure false) (ha : PA X (e :: es) (rdM Γ W X.K j f)) :
    SS Γ W fr X (.Assign [.Tuple ts k p] (.Call (.Name n.name p2) (e :: es) [] p3) pos) (fun ρ => RS.ofL (f ρ) ρ fun xs => (match ρ[j]? with
      | some (.ow zs) => RS.of (n.sem (xs ++ [.lst zs])) (ρ.set j .no) fun v => (match asgT tg true v (ρ.set j .no) with
        | some ρ' => .next ρ'
        | none => .bad)
      | _ => .bad)) := by
  have pg : PG X (.Tuple ts k p) (rdG X.K tg true) := pg_tgt o hh (tp := true) (by unfold mTgt; rw [if_pos rfl]; exact hm)
  simp only [List.all_cons, Bool.and_eq_true] at ge
  have F := o.g.fno n hn
  have pc : PE X (.Call (.Name n.name p2) (e :: es) [] p3) (tCallS (spO X.K Γ.cl n.ps.length n.sem) (WE W) (rdM Γ W X.K j f)) := pe_callS F.ok (o.room hh) (o.gl hg) F.gm F.kp F.bd (fun σ => passAt (o.tk hh) σ) ha F.db (good_star ge.1 es _) (good_any ge.2)
  refine PS.weak (ps_asg pc pg hs rfl rfl) fun D σ H ⟨B, ρ, G, ow, q⟩ => ?_
  have q : PostS Γ W X.K fr B (RS.ofL (f ρ) ρ fun xs => (match ρ[j]? with
      | some (.ow zs) => RS.of (n.sem (xs ++ [.lst zs])) (ρ.set j .no) fun v => (match asgT tg true v (ρ.set j .no) with
        | some ρ' => .next ρ'
        | none => .bad)
      | _ => .bad)) D := q
  cases er : f ρ with
  | bad => rw [er] at q; exact q.elim
  | exn c =>
    rw [er] at q
    refine ⟨B, ρ, G, ow, ?_, .inr ⟨c, er⟩⟩
    rw [er]
    exact fun G' H' e' => q σ G' H' (ow.step e')
  | ok xs =>
    rw [er] at q
    simp only [RS.ofL_ok] at q
    split at q
    · rename_i zs hz
      obtain ⟨a, vs, hσ, h1, h2, h3, r⟩ := ow.ow hz
      refine ⟨B, ρ, G, ow, ?_, .inl ⟨.ref a, hσ⟩⟩
      rw [er]
      intro us G1 H1 e1 r1 w hw
      rw [hσ] at hw
      cases hw
      have o1 := ow.step e1
      obtain ⟨a', vs', hσ', g1, g2, g3, rz⟩ := o1.ow hz
      rw [hσ] at hσ'
      cases hσ'
      refine ⟨?_, G1, xs, us, a, zs, vs', rfl, e1.gh, o1.cl, r1, g1, g2, rz, ?_⟩
      · rw [List.length_append, r1.length, List.length_singleton]
        have := F.len (xs ++ [.lst zs]) fun eb => by
          rw [eb] at q
          exact q
        rw [List.length_append, List.length_singleton] at this
        exact this
      · cases es2 : n.sem (xs ++ [.lst zs]) with
        | bad => rw [es2] at q; exact q.elim
        | exn c =>
          rw [es2] at q
          exact fun G' H' e2 => q σ G' H' (o1.moved hz hσ e2)
        | ok x =>
          rw [es2] at q
          simp only [RS.of_ok] at q
          intro v G' H' e2 rv
          split at q
          · rename_i ρ' ea
            exact ow_asgT (o1.moved hz hσ e2) rv ea fun vs o' => q _ G' H' o'
          · exact q.elim
    · exact q.elim
/-- the address of an owned list, as its name is read -/
theorem root_at {K : PySem.W.Frag} {B : Bd} {ρ : Env} {σ : L2.St} {G H : Hp} {i : Nat} {xs : List PV} {Q : VK} (o : Ow K B ρ σ G H) (h : ρ[i]? = some (.ow xs)) (q : ∀ a vs, σ[i]? = some (some (.ref a)) → H a = some (.lst vs) → Reps K G xs vs → Q (.ref a) H) : tVar i σ H Q := by
  obtain ⟨a, vs, e, h1, _, _, r⟩ := o.ow h
  exact ⟨.ref a, e, q a vs e h1 r⟩
/-- a store into an owned list: the reading of its parts -/
theorem put_rd {K : PySem.W.Frag} {B : Bd} {ρ : Env} {σ : L2.St} {G H : Hp} {i : Nat} {x : PV} {v : V} {fk : Env → R PV} {k : Env → RS} {D : Ends} {Q : L2.St → Hp → Prop} (o : Ow K B ρ σ G H) (r : Rep K G x v) (h : PostS Γ W K fr B (putAt ρ i (fk ρ) x k) D)
    (hQ : ∀ ρ1 G1 H1, Ow K B ρ1 σ G1 H1 → Same G G1 → PostS Γ W K fr B (k ρ1) D → Q σ H1) : gSub (tVar i) (rdE Γ W K .bor fk) rSetL v σ H Q := by
  unfold putAt at h
  split at h
  · rename_i xs hx
    obtain ⟨a, vs, ha, h1, h2, h3, rx⟩ := o.ow hx
    refine ⟨.ref a, ha, ?_⟩
    refine of_rd o rfl h fun z u G' H' ex rz hk => ?_
    split at hk
    · rename_i n
      split at hk
      · rename_i j hj
        have o' := o.step ex
        obtain ⟨a', vs', ha', h1', _, _, rx'⟩ := o'.ow hx
        rw [ha] at ha'
        cases ha'
        refine ⟨a, vs', n, j, rfl, int_of rz, h1', by rw [rx'.length]; exact hj, ?_⟩
        exact hQ _ G' _ (o'.write hx ha (rx'.set j (r.mono (ex.gg o.gh)))) (ex.gg o.gh) hk
      · exact hk.elim
    · exact hk.elim
  · exact h.elim
theorem slot_get {K : PySem.W.Frag} {B : Bd} {ρ : Env} {σ : L2.St} {G H : Hp} {i : Nat} (o : Ow K B ρ σ G H) : True := trivial
theorem pe_slot (o : XOk Γ N sc so W X) {i : Nat} {x : Str} {p : Pos} (hn : N[i]? = some x) (hv : vis sc x = true) : PE X (.Name x p) (tVar i) := pe_var (o.Nx hn) (o.vis hv) (o.nodb hn).1 (o.nodb hn).2
theorem good_sub {o i : Expr} {pos : Pos} (gi : good i = true) (env : PySem.Env) : ∀ v, assign (.Subscript o i pos) env v = (do
      let ov ← holding [v] (eval o env)
      let iv ← holding [v, ov] (eval i env)
      standAt pos
      holding [v, ov, iv] (setItem ov iv v)
      release [v, ov, iv] []) := by
  intro v
  cases i <;> first | rfl | (simp only [good, Bool.false_eq_true] at gi; done)
theorem ss_setix (o : XOk Γ N sc so W X) {i : Nat} {x : Str} {ix e : Expr} {p p2 pos : Pos} {f fk : Env → R PV} (hn : N[i]? = some x) (hv : vis sc x = true) (gi : good ix = true) (hs : swapsWith e (some (.Subscript (.Name x p) ix p2)) pos.line X.env = pure false) (he : SE Γ W X .esc e f) (hi : SE Γ W X .bor ix fk) :
    SS Γ W fr X (.Assign [.Subscript (.Name x p) ix p2] e pos) (fun ρ => RS.of (f ρ) ρ fun v => putAt ρ i (fk ρ) v fun ρ' => .next ρ') := by
  refine PS.weak (ps_asg he (pg_sub (pe_slot o hn hv) hi set_list (good_sub gi _)) hs rfl rfl) fun D σ H ⟨B, ρ, G, ow, q⟩ => ?_
  refine of_rd ow rfl q fun x v G' H' ex rv hk => ?_
  exact put_rd (ow.step ex) rv hk fun ρ1 G1 H1 o1 _ h1 => h1 σ G1 H1 o1
/-- lines[k], lines[l] = a, b -/
theorem ss_swp (o : XOk Γ N sc so W X) (hh : Γ.hot = false) {i : Nat} {x : Str} {k l a b : Expr} {p1 p2 p3 p4 pt pv pos : Pos} {k1 k2 : Nat} {fk fl fa fb : Env → R PV} (hn : N[i]? = some x) (hv : vis sc x = true) (gk : good k = true) (gl : good l = true) (ga : good a = true) (gb : good b = true)
    (ha : SE Γ W X .esc a fa) (hb : SE Γ W X .esc b fb) (hk : SE Γ W X .bor k fk) (hl : SE Γ W X .bor l fl) :
    SS Γ W fr X (.Assign [.Tuple [.Subscript (.Name x p1) k p2, .Subscript (.Name x p3) l p4] k1 pt] (.Tuple [a, b] k2 pv) pos)
      (fun ρ => RS.of (fa ρ) ρ fun v => RS.of (fb ρ) ρ fun w => putAt ρ i (fk ρ) v fun ρ1 => putAt ρ1 i (fl ρ1) w fun ρ2 => .next ρ2) := by
  have hw : swappedStores [.Tuple [.Subscript (.Name x p1) k p2, .Subscript (.Name x p3) l p4] k1 pt] (.Tuple [a, b] k2 pv) X.env = pure none := by
    unfold swappedStores
    simp only [List.length_cons, List.length_nil, List.filterMap_cons, List.filterMap_nil]
    cases X.env.blockKind <;> (cases a <;> first | (simp only [good, Bool.false_eq_true] at ga; done) | skip) <;> (cases b <;> first | (simp only [good, Bool.false_eq_true] at gb; done) | rfl)
  refine PS.weak (ps_asg (pe_tup (pa_cons ha (pa_cons hb pa_nil (good_star gb _ _)) (good_star ga _ _))) (pg_tup (n := 2) (o.calm hh) (pgs_cons (pg_sub (pe_slot o hn hv) hk set_list (good_sub gk _)) (pgs_cons (pg_sub (pe_slot o hn hv) hl set_list (good_sub gl _)) pgs_nil rfl) rfl) rfl rfl) rfl hw rfl) fun D σ H ⟨B, ρ, G, ow, q⟩ => ?_
  refine of_rd ow rfl q fun v1 u1 G1 H1 e1 r1 q => ?_
  refine of_rd (ow.step e1) rfl q fun v2 u2 G2 H2 e2 r2 q => ?_
  refine ⟨(by decide : 2 ≤ sizeLine), fun T hT => ?_⟩
  have oT := ((ow.step e1).step e2).step (Ext.new (o := .tup [u1, u2]) e2.gh hT)
  have sT : Same G2 (upd G2 T (.tup [u1, u2])) := same_upd (e2.gh.free hT)
  refine ⟨T, [u1, u2], rfl, .inl (.inl upd_same), rfl, u1, [u2], rfl, ?_⟩
  refine put_rd oT ((Rep.mono (e2.gg e1.gh) r1).mono sT) q fun ρ1 G3 H3 o3 s3 q => ?_
  refine ⟨u2, [], rfl, ?_⟩
  exact put_rd o3 ((Rep.mono sT r2).mono s3) q fun ρ2 G4 H4 o4 _ q => ⟨rfl, q σ G4 H4 o4⟩
/-- a, b = e1, e2 with local names -/
theorem ss_par (o : XOk Γ N sc so W X) (hh : Γ.hot = false) {i j : Nat} {x y : Str} {a b : Expr} {px py pt pv pos : Pos} {k1 k2 : Nat} {fa fb : Env → R PV} (hi : N[i]? = some x) (hj : N[j]? = some y) (hij : i ≠ j) (hx : sc.names.lookup x = some .local) (hy : sc.names.lookup y = some .local) (hxy : x ≠ y)
    (hline : py.line = px.line) (ga : good a = true) (gb : good b = true) (hf : [a, b].all (foldedForSure 8) = false) (hc : [a, b].all (constantsAlone 8) = false) (ha : SE Γ W X .esc a fa) (hb : SE Γ W X .esc b fb) :
    SS Γ W fr X (.Assign [.Tuple [.Name x px, .Name y py] k1 pt] (.Tuple [a, b] k2 pv) pos)
      (fun ρ => RS.of (fa ρ) ρ fun v => RS.of (fb ρ) ρ fun w => if i < ρ.length ∧ j < ρ.length then .next ((ρ.set i (.sh v)).set j (.sh w)) else .bad) := by
  have hx' : X.env.scope.names.lookup x = some .local := by rw [o.hsc]; exact hx
  have hy' : X.env.scope.names.lookup y = some .local := by rw [o.hsc]; exact hy
  have kx : X.env.kindOf x = some .local := hx'
  have ky : X.env.kindOf y = some .local := hy'
  have bk : X.env.blockKind = .function := by
    unfold PySem.Env.blockKind
    rw [o.hsc, o.kd]
    rfl
  have hw : swappedStores [.Tuple [.Name x px, .Name y py] k1 pt] (.Tuple [a, b] k2 pv) X.env = pure (some [x, y]) := by
    unfold swappedStores
    have st : ([a, b].any fun
      | .Starred .. => true
      | _ => false) = false := by
      cases a <;> first | (simp only [good, Bool.false_eq_true] at ga; done) | (cases b <;> first | (simp only [good, Bool.false_eq_true] at gb; done) | rfl)
    have ne : (x == y) = false := by simpa using hxy
    simp only [List.length_cons, List.length_nil, List.filterMap_cons, List.filterMap_nil, kx, ky, bk, st, hf, hc, hline, Expr.pos, List.head?_cons, Option.map_some, Option.getD_some, beq_self_eq_true, Bool.and_true, if_true]
    have dd : (([x, y] : List Str).eraseDups.length != [x, y].length) = false := by
      have nyx : (y == x) = false := by
        rw [beq_eq_false_iff_ne]
        exact fun e => hxy e.symm
      simp [List.eraseDups_cons, nyx]
    simp only [List.length_cons, List.length_nil] at dd
    simp [dd]
    rintro (h | h)
    · cases a <;> first | (simp only [good, Bool.false_eq_true] at ga; done) | (cases h; done)
    · cases b <;> first | (simp only [good, Bool.false_eq_true] at gb; done) | (cases h; done)
  refine PS.weak (ps_par (i := i) (j := j) (o.calm hh) (by rw [o.hN]; exact o.nd) (o.Nx hi) (o.Nx hj) hij hx' hy' (pa_cons ha (pa_cons hb pa_nil (good_star gb _ _)) (good_star ga _ _)) hw rfl) fun D σ H ⟨B, ρ, G, ow, q⟩ => ?_
  refine of_rd ow rfl q fun v1 u1 G1 H1 e1 r1 q => ?_
  refine of_rd (ow.step e1) rfl q fun v2 u2 G2 H2 e2 r2 q => ?_
  split at q
  · rename_i hl
    exact ⟨u1, u2, rfl, q _ G2 H2 ((((ow.step e1).step e2).setSh hl.1 (Rep.mono (e2.gg e1.gh) r1)).setSh (by simpa using hl.2) r2)⟩
  · exact q.elim
/-- xs.append(e) -/
theorem ss_app (o : XOk Γ N sc so W X) {i : Nat} {x : Str} {e : Expr} {p apos cpos pos : Pos} {f : Env → R PV} (hn : N[i]? = some x) (hv : vis sc x = true) (ge : good e = true) (hline : (apos.endLine == cpos.line) = true) (he : SE Γ W X .esc e f) :
    SS Γ W fr X (.Expr (.Call (.Attribute (.Name x p) "append" apos) [e] [] cpos) pos) (fun ρ => match ρ[i]? with
      | some (.ow xs) => RS.of (f ρ) ρ fun v => if xs.length ≤ LIM then .next (ρ.set i (.ow (xs ++ [v]))) else .bad
      | _ => .bad) := by
  have hfew : ((backTo cpos (starEach [e] X.env)).all (fun x => !x.1) && (backToKw cpos (keywordEach [] X.env)).all (fun x => x.1.isSome) && decide (([e] : List Expr).length + ([] : List Keyword).length + (if ([] : List Keyword).isEmpty then 0 else 1) < 30)) = true := by
    rw [good_star ge]
    rfl
  refine PS.weak (ps_expr (pe_bm PySem.F.plainAttrs_list PySem.F.slot_list_append PySem.F.type_list_append mt_append (pe_slot o hn hv) (pa_cons he pa_nil (good_star ge _ _)) rfl hfew hline (good_star ge _ _) rfl) rfl) fun D σ H ⟨B, ρ, G, ow, q⟩ => ?_
  have q : PostS Γ W X.K fr B (match ρ[i]? with
      | some (.ow xs) => RS.of (f ρ) ρ fun v => if xs.length ≤ LIM then .next (ρ.set i (.ow (xs ++ [v]))) else .bad
      | _ => .bad) D := q
  split at q
  · rename_i xs hx
    obtain ⟨a, vs, ha, h1, h2, h3, rx⟩ := ow.ow hx
    refine ⟨.ref a, ha, .inl ⟨rfl, _, SqL.of h1⟩, ?_⟩
    refine of_rd ow rfl q fun v u G' H' ex rv hk => ?_
    split at hk
    · rename_i hl
      have o' := ow.step ex
      obtain ⟨a', vs', ha', h1', _, _, rx'⟩ := o'.ow hx
      rw [ha] at ha'
      cases ha'
      refine ⟨a, vs', u, rfl, rfl, h1', ?_, hk _ G' _ (o'.write hx ha (rx'.snoc rv))⟩
      rw [rx'.length]
      have := lim_line
      have : LIM < sizeLine := by decide
      omega
    · exact hk.elim
  · exact q.elim
/-- xs.extend(e) -/
theorem ss_ext (o : XOk Γ N sc so W X) {i : Nat} {x : Str} {e : Expr} {p apos cpos pos : Pos} {f : Env → R PV} (hn : N[i]? = some x) (hv : vis sc x = true) (ge : good e = true) (hline : (apos.endLine == cpos.line) = true) (he : SE Γ W X .esc e f) :
    SS Γ W fr X (.Expr (.Call (.Attribute (.Name x p) "extend" apos) [e] [] cpos) pos) (fun ρ => match ρ[i]? with
      | some (.ow xs) => RS.of (f ρ) ρ fun v => extTo ρ i xs v
      | _ => .bad) := by
  have hfew : ((backTo cpos (starEach [e] X.env)).all (fun x => !x.1) && (backToKw cpos (keywordEach [] X.env)).all (fun x => x.1.isSome) && decide (([e] : List Expr).length + ([] : List Keyword).length + (if ([] : List Keyword).isEmpty then 0 else 1) < 30)) = true := by
    rw [good_star ge]
    rfl
  refine PS.weak (ps_expr (pe_bm PySem.F.plainAttrs_list PySem.F.slot_list_extend PySem.F.type_list_extend mt_extend (pe_slot o hn hv) (pa_cons he pa_nil (good_star ge _ _)) rfl hfew hline (good_star ge _ _) rfl) rfl) fun D σ H ⟨B, ρ, G, ow, q⟩ => ?_
  have q : PostS Γ W X.K fr B (match ρ[i]? with
      | some (.ow xs) => RS.of (f ρ) ρ fun v => extTo ρ i xs v
      | _ => .bad) D := q
  split at q
  · rename_i xs hx
    obtain ⟨a, vs, ha, h1, h2, h3, rx⟩ := ow.ow hx
    refine ⟨.ref a, ha, .inl ⟨rfl, _, SqL.of h1⟩, ?_⟩
    refine of_rd ow rfl q fun v u G' H' ex rv hk => ?_
    cases v with
    | lst ys =>
      have hk : PostS Γ W X.K fr B (if xs.length + ys.length ≤ LIM then RS.next (ρ.set i (.ow (xs ++ ys))) else .bad) D := hk
      split at hk
      · rename_i hl
        have o' := ow.step ex
        obtain ⟨a', vs', ha', h1', _, _, rx'⟩ := o'.ow hx
        rw [ha] at ha'
        cases ha'
        obtain ⟨b, us, rfl, hb, ry⟩ := rep_lst.mp rv
        refine ⟨a, b, vs', us, rfl, rfl, h1', ex.gh _ _ hb, ?_, hk _ G' _ (o'.write hx ha (rx'.append ry))⟩
        rw [rx'.length, ry.length]
        exact Nat.le_trans hl lim_line
      · exact hk.elim
    | _ => exact hk.elim
  · exact q.elim
/-- xs.pop() -/
theorem ss_pop (o : XOk Γ N sc so W X) {i : Nat} {x : Str} {p apos cpos pos : Pos} (hn : N[i]? = some x) (hv : vis sc x = true) (hline : (apos.endLine == cpos.line) = true) :
    SS Γ W fr X (.Expr (.Call (.Attribute (.Name x p) "pop" apos) [] [] cpos) pos) (fun ρ => match ρ[i]? with
      | some (.ow xs) => if xs = [] then .bad else .next (ρ.set i (.ow xs.dropLast))
      | _ => .bad) := by
  refine PS.weak (ps_expr (pe_bm0 PySem.F.plainAttrs_list PySem.F.slot_list_pop PySem.F.type_list_pop mt_pop (pe_slot o hn hv) rfl hline) rfl) fun D σ H ⟨B, ρ, G, ow, q⟩ => ?_
  have q : PostS Γ W X.K fr B (match ρ[i]? with
      | some (.ow xs) => if xs = [] then .bad else .next (ρ.set i (.ow xs.dropLast))
      | _ => .bad) D := q
  split at q
  · rename_i xs hx
    split at q
    · exact q.elim
    · rename_i hne
      obtain ⟨a, vs, ha, h1, h2, h3, rx⟩ := ow.ow hx
      have hl := rx.length
      have hpos : 0 < xs.length := List.length_pos_iff.mpr hne
      refine ⟨.ref a, ha, .inl ⟨rfl, _, SqL.of h1⟩, a, vs, vs[vs.length - 1]'(by omega), rfl, rfl, h1, List.getElem?_eq_getElem _, q σ G _ (ow.write hx ha ?_)⟩
      rw [List.dropLast_eq_take, List.dropLast_eq_take, hl]
      exact rx.take _
  · exact q.elim
/-- xs.clear() -/
theorem ss_clr (o : XOk Γ N sc so W X) {i : Nat} {x : Str} {p apos cpos pos : Pos} (hn : N[i]? = some x) (hv : vis sc x = true) (hline : (apos.endLine == cpos.line) = true) :
    SS Γ W fr X (.Expr (.Call (.Attribute (.Name x p) "clear" apos) [] [] cpos) pos) (fun ρ => match ρ[i]? with
      | some (.ow _) => .next (ρ.set i (.ow []))
      | _ => .bad) := by
  refine PS.weak (ps_expr (pe_bm0 PySem.F.plainAttrs_list PySem.F.slot_list_clear PySem.F.type_list_clear mt_clear (pe_slot o hn hv) rfl hline) rfl) fun D σ H ⟨B, ρ, G, ow, q⟩ => ?_
  have q : PostS Γ W X.K fr B (match ρ[i]? with
      | some (.ow _) => .next (ρ.set i (.ow []))
      | _ => .bad) D := q
  split at q
  · rename_i xs hx
    obtain ⟨a, vs, ha, h1, h2, h3, rx⟩ := ow.ow hx
    exact ⟨.ref a, ha, .inl ⟨rfl, _, SqL.of h1⟩, a, vs, rfl, rfl, h1, q σ G _ (ow.write hx ha (reps_nil.mpr rfl))⟩
  · exact q.elim
/-- xs.append(ys.pop(k)) -/
theorem ss_appP (o : XOk Γ N sc so W X) {i j : Nat} {x y : Str} {ie : Expr} {p apos cpos p2 apos2 cpos2 pos : Pos} {f : Env → R PV} (hij : i ≠ j) (hn : N[i]? = some x) (hv : vis sc x = true) (hm : N[j]? = some y) (hw : vis sc y = true) (ge : good ie = true) (hline : (apos.endLine == cpos.line) = true) (hline2 : (apos2.endLine == cpos2.line) = true) (he : SE Γ W X .esc ie f) :
    SS Γ W fr X (.Expr (.Call (.Attribute (.Name x p) "append" apos) [.Call (.Attribute (.Name y p2) "pop" apos2) [ie] [] cpos2] [] cpos) pos) (fun ρ => match ρ[i]?, ρ[j]? with
      | some (.ow xs), some (.ow ys) => RS.of (f ρ) ρ fun k => popTo ρ i j xs ys k
      | _, _ => .bad) := by
  have hfew2 : ((backTo cpos2 (starEach [ie] X.env)).all (fun x => !x.1) && (backToKw cpos2 (keywordEach [] X.env)).all (fun x => x.1.isSome) && decide (([ie] : List Expr).length + ([] : List Keyword).length + (if ([] : List Keyword).isEmpty then 0 else 1) < 30)) = true := by
    rw [good_star ge]
    rfl
  have inner := pe_bm PySem.F.plainAttrs_list PySem.F.slot_list_pop PySem.F.type_list_pop (mt_popAt (X := X)) (pe_slot (p := p2) o hm hw) (pa_cons he pa_nil (good_star ge _ _)) rfl hfew2 hline2 (good_star ge _ _) rfl
  refine PS.weak (ps_expr (pe_bm PySem.F.plainAttrs_list PySem.F.slot_list_append PySem.F.type_list_append mt_append (pe_slot o hn hv) (pa_cons inner pa_nil rfl) rfl rfl hline rfl rfl) rfl) fun D σ H ⟨B, ρ, G, ow, q⟩ => ?_
  have q : PostS Γ W X.K fr B (match ρ[i]?, ρ[j]? with
      | some (.ow xs), some (.ow ys) => RS.of (f ρ) ρ fun k => popTo ρ i j xs ys k
      | _, _ => .bad) D := q
  split at q
  · rename_i xs ys hx hy
    obtain ⟨a, vs, ha, h1, h2, h3, rx⟩ := ow.ow hx
    obtain ⟨b, us, hb, k1, k2, k3, ry⟩ := ow.ow hy
    refine ⟨.ref a, ha, .inl ⟨rfl, _, SqL.of h1⟩, ?_⟩
    refine ⟨.ref b, hb, .inl ⟨rfl, _, SqL.of k1⟩, ?_⟩
    refine of_rd ow rfl q fun k u G' H' ex rv hk => ?_
    unfold popTo at hk
    split at hk
    · rename_i z
      split at hk
      · rename_i hl
        split at hk
        · rename_i v hv
          have o' := ow.step ex
          obtain ⟨b', us', hb', k1', _, _, ry'⟩ := o'.ow hy
          rw [hb] at hb'
          cases hb'
          obtain ⟨w, hw', rw'⟩ := ry'.get hv
          have hlen : z.toNat < us'.length := (List.getElem?_eq_some_iff.mp hw').1
          have ow1 := o'.write (ys := ys.eraseIdx z.toNat) (us := us'.eraseIdx z.toNat) hy hb (by
            rw [List.eraseIdx_eq_take_drop_succ, List.eraseIdx_eq_take_drop_succ]
            exact (ry'.take _).append (ry'.drop _))
          have hx1 : (ρ.set j (.ow (ys.eraseIdx z.toNat)))[i]? = some (.ow xs) := by rw [List.getElem?_set_ne (by omega)]; exact hx
          obtain ⟨a', vs', ha', h1', _, _, rx'⟩ := ow1.ow hx1
          rw [ha] at ha'
          cases ha'
          refine ⟨b, us', z, z.toNat, w, rfl, by rw [int_of rv], k1', by omega, by omega, ?_, hw', ?_⟩
          · have hz : ¬ z < 0 := by omega
            simp only [seqIndex?, hz, if_false, decide_eq_true (show 0 ≤ z by omega), decide_eq_true (show z < (us'.length : Int) by omega), Bool.and_self, if_true]
          · refine ⟨a, vs', w, rfl, rfl, h1', ?_, hk _ G' _ (ow1.write hx1 ha (rx'.snoc rw'))⟩
            rw [rx'.length]
            have := lim_line
            have : LIM < sizeLine := by decide
            omega
        · exact hk.elim
      · exact hk.elim
    · exact hk.elim
  · exact q.elim
/-! ### what a call tells is new when nothing handed in holds a list -/
/-- the settled part without its lists -/
def noL (G : Hp) : Hp := fun b => match G b with
  | some (.lst _) => none
  | z => z
theorem noL_same (G : Hp) : Same (noL G) G := fun b o h => by
  unfold noL at h
  split at h
  · cases h
  · exact h
theorem noL_clean {G H : Hp} (c : Clean G H) : Clean (noL G) H := ⟨fun b ps h => c.nt b ps (noL_same _ _ _ h), c.tb⟩
theorem noL_keep {G : Hp} {b : Addr} {o : HO} (h : G b = some o) (hn : ∀ vs, o ≠ .lst vs) : noL G b = some o := by
  unfold noL
  split
  · rename_i vs e
    rw [h] at e
    exact absurd (Option.some.inj e) (hn vs)
  · exact h
theorem seqT_nol {K : PySem.W.Frag} {G G2 : Hp} {a : Addr} {vs : List V} (s : ∀ b o, G b = some o → (∀ us, o ≠ .lst us) → G2 b = some o) (h : SqT K G a vs) : SqT K G2 a vs := by
  rcases h with (h | ⟨o, h⟩) | h
  · exact .inl (.inl (s _ _ h fun _ => by simp))
  · exact .inl (.inr ⟨o, s _ _ h fun _ => by simp⟩)
  · exact .inr h
mutual
theorem nol_rep {K : PySem.W.Frag} {G G2 : Hp} (s : ∀ b o, G b = some o → (∀ us, o ≠ .lst us) → G2 b = some o) : ∀ {x : PV} {v : V}, nol x = true → Rep K G x v → Rep K G2 x v
  | .non, _, _, h => by simpa [Rep] using h
  | .bl _, _, _, h => by simpa [Rep] using h
  | .int _, _, _, h => by simpa [Rep] using h
  | .str _, _, _, h => by simpa [Rep] using h
  | .tup xs, v, n, h => by
    obtain ⟨a, vs, e, g, r⟩ := rep_tup.mp h
    exact rep_tup.mpr ⟨a, vs, e, s _ _ g fun _ z => (by cases z), nols_rep s (by simpa [nol] using n) r⟩
  | .lst _, _, n, _ => by simp [nol] at n
  | .rl _, _, n, _ => by simp [nol] at n
  | .dk _ _, _, n, _ => by simp [nol] at n
  | .exc _, _, n, _ => by simp [nol] at n
theorem nols_rep {K : PySem.W.Frag} {G G2 : Hp} (s : ∀ b o, G b = some o → (∀ us, o ≠ .lst us) → G2 b = some o) : ∀ {xs : List PV} {vs : List V}, nols xs = true → Reps K G xs vs → Reps K G2 xs vs
  | [], _, _, h => by simpa [Reps] using h
  | x :: xs, vs, n, h => by
    simp only [nols, Bool.and_eq_true] at n
    obtain ⟨v, r, e, h1, h2⟩ := reps_cons.mp h
    exact reps_cons.mpr ⟨v, r, e, nol_rep s n.1 h1, nols_rep s n.2 h2⟩
end
/-- the settled part behind such a call: no new list in it -/
def mrg (H G G' : Hp) : Hp := fun b => match H b with
  | some (.tup _) => G' b
  | some _ => G b
  | none => noL G' b
theorem mrg_ext {G H G' H' : Hp} (gh : Same G H) (n : ∀ b ps, G b ≠ some (.tbl ps)) (e : Ext (noL G) H G' H') : Ext G H (mrg H G G') H' := by
  refine ⟨e.hh, fun b o h => ?_, fun b o h => ?_, fun b o h m => ?_, fun b ps h => ?_⟩
  · unfold mrg at h
    split at h
    · exact e.gh _ _ h
    · exact e.hh.low gh n _ _ h
    · exact e.gh _ _ (noL_same _ _ _ h)
  · have hH := gh b o h
    unfold mrg
    split
    · rename_i xs hz
      rw [hH] at hz
      cases hz
      exact e.sg b _ (noL_keep h fun _ z => by cases z)
    · exact h
    · rename_i hz
      rw [hH] at hz
      cases hz
  · unfold mrg
    split
    · rename_i xs hz
      rw [h] at hz
      cases hz
      exact absurd rfl (m _)
    · rfl
    · rename_i hz
      rw [h] at hz
      cases hz
  · unfold mrg at h
    split at h
    · exact noL_same _ _ _ (e.nt b ps h)
    · exact h
    · exact noL_same _ _ _ (e.nt b ps (noL_same _ _ _ h))
theorem mrg_keep {G H G' H' : Hp} (e : Ext (noL G) H G' H') : ∀ b o, G' b = some o → (∀ us, o ≠ .lst us) → mrg H G G' b = some o := fun b o h hn => by
  unfold mrg
  split
  · exact h
  · rename_i z hz nt
    rw [e.old _ _ nt fun xs q => hz xs q] at h
    exact noL_same _ _ _ h
  · exact noL_keep h hn
theorem old_lst {G H G' H' : Hp} (e : Ext G H G' H') {p : Addr} {vs : List V} {z : HO} (h : G' p = some (.lst vs)) (q : H p = some z) : G' p = G p := by
  refine e.old _ _ q fun xs ez => ?_
  subst ez
  have h1 := e.hh.k _ _ q fun _ z => by cases z
  rw [e.gh _ _ h] at h1
  cases h1
theorem mrg_new {G H G' H' : Hp} (e : Ext (noL G) H G' H') {p : Addr} {vs : List V} (h : G' p = some (.lst vs)) : H p = none ∧ mrg H G G' p = none := by
  have h0 : H p = none := by
    cases q : H p with
    | none => rfl
    | some z =>
      rw [old_lst e h q] at h
      unfold noL at h
      split at h
      · cases h
      · rename_i hz
        exact absurd h (hz vs)
  refine ⟨h0, ?_⟩
  unfold mrg
  rw [h0]
  show noL G' p = none
  unfold noL
  rw [h]
theorem flat_nol {x : PV} (h : flat x = true) : nol x = true := by
  cases x <;> first | rfl | (simp [flat] at h; done)
/-- found, clean = asked(..): a list that is told is the name's own -/
theorem ss_unpF (o : XOk Γ N sc so W X) (hh : Γ.hot = false) {n : Fn} (hn : n ∈ Γ.fns) (hf : n.fr = false) {i j : Nat} {ts : List Expr} {k : Nat} {p p2 p3 pos : Pos} {e : Expr} {es : List Expr} {f : Env → R (List PV)} (hij : i ≠ j) (hm : mNames N so [i, j] ts = true) (ge : (e :: es).all good = true) (hg : glb sc n.name = true)
    (hs : swapsWith (.Call (.Name n.name p2) (e :: es) [] p3) (some (.Tuple ts k p)) pos.line X.env = pure false) (ha : SAE Γ W X (e :: es) f) :
    SS Γ W fr X (.Assign [.Tuple ts k p] (.Call (.Name n.name p2) (e :: es) [] p3) pos) (fun ρ => RS.ofL (f ρ) ρ fun xs => if nols xs then RS.of (n.sem xs) ρ fun v => unpTo ρ i j v else .bad) := by
  have pg : PG X (.Tuple ts k p) (rdG X.K [i, j] true) := pg_tgt o hh (tp := true) (by unfold mTgt; rw [if_pos rfl]; exact hm)
  refine PS.weak (ps_asg (callee o hh hn ge hg ha) pg hs rfl rfl) fun D σ H ⟨B, ρ, G, ow, q⟩ => ?_
  have q : PostS Γ W X.K fr B (RS.ofL (f ρ) ρ fun xs => if nols xs then RS.of (n.sem xs) ρ fun v => unpTo ρ i j v else .bad) D := q
  refine ⟨B, ρ, G, ow, ?_⟩
  cases er : f ρ with
  | bad => rw [er] at q; exact q.elim
  | exn c =>
    rw [er] at q
    exact fun G' H' e' => q σ G' H' (ow.step e')
  | ok xs =>
    rw [er] at q
    simp only [RS.ofL_ok] at q
    split at q
    · rename_i hnl
      intro us G1 H1 e1 r1
      have o1 := ow.step e1
      have gh1 := o1.gh
      refine ⟨?_, noL G1, xs, (noL_same G1).trans gh1, noL_clean o1.cl, nols_rep (fun b z hz hl => noL_keep hz hl) hnl r1, ?_⟩
      · rw [r1.length]
        refine (o.g.fn n hn).len xs fun eb => ?_
        rw [eb] at q
        exact q
      · cases es2 : n.sem xs with
        | bad => rw [es2] at q; exact q.elim
        | exn c =>
          rw [es2] at q
          exact fun G' H' e2 => q σ _ H' (o1.step (mrg_ext gh1 o1.cl.nt e2))
        | ok v =>
          rw [es2] at q
          simp only [RS.of_ok] at q
          intro u G' H' e2 rv
          rw [hf] at rv
          replace rv : Rep X.K G' v u := rv
          have o2 := o1.step (mrg_ext gh1 o1.cl.nt e2)
          unfold unpTo at q
          split at q
          · rename_i x y
            split at q
            · rename_i hc
              simp only [Bool.and_eq_true, decide_eq_true_eq] at hc
              obtain ⟨a, vs, rfl, hsq, hr⟩ := rep_tup.mp rv
              obtain ⟨w1, r2, rfl, g1, hr⟩ := reps_cons.mp hr
              obtain ⟨w2, r3, rfl, g2, hr⟩ := reps_cons.mp hr
              have := reps_nil.mp hr
              subst this
              have sq' : SqT X.K H' a [w1, w2] := SqT.of (e2.gh _ _ hsq)
              have y2 : Rep X.K (mrg H1 G1 G') y w2 := nol_rep (mrg_keep e2) (flat_nol hc.2) g2
              split at q
              · rename_i zs
                split at q
                · rename_i hz
                  obtain ⟨b, ws, rfl, gb, rz⟩ := rep_lst.mp g1
                  obtain ⟨n1, n2⟩ := mrg_new e2 gb
                  have h0 : B.H0 b = none := o1.ext.hh.free n1
                  have o3 := o2.setOw (i := i) (xs := zs) (a := b) hc.1.1 (e2.gh _ _ gb) n2 h0 (nols_rep (mrg_keep e2) hz rz) fun j' ys hj' _ hσ => by
                    obtain ⟨a', vs', ha', h1', _⟩ := o1.ow hj'
                    rw [hσ] at ha'
                    cases ha'
                    rw [n1] at h1'
                    cases h1'
                  have o4 := o3.setSh (i := j) (x := y) (by simpa using hc.1.2) y2
                  exact ⟨a, [.ref b, w2], rfl, .inl sq', rfl, q _ _ H' o4⟩
                · exact q.elim
              · split at q
                · rename_i hx
                  have o3 := o2.setSh (i := i) (x := x) hc.1.1 (nol_rep (mrg_keep e2) (flat_nol hx) g1)
                  have o4 := o3.setSh (i := j) (x := y) (by simpa using hc.1.2) y2
                  exact ⟨a, [w1, w2], rfl, .inl sq', rfl, q _ _ H' o4⟩
                · exact q.elim
            · exact q.elim
          · exact q.elim
    · exact q.elim
/-! ### a list in a told list is changed, and the told one is forgotten -/
def mrgA (H G G' : Hp) : Hp := fun b => match H b with
  | some (.tup _) => G' b
  | some _ => G b
  | none => G' b
theorem mrgA_ext {G H G' H' : Hp} (gh : Same G H) (n : ∀ b ps, G b ≠ some (.tbl ps)) (e : Ext (noL G) H G' H') : Ext G H (mrgA H G G') H' := by
  refine ⟨e.hh, fun b o h => ?_, fun b o h => ?_, fun b o h m => ?_, fun b ps h => ?_⟩
  · unfold mrgA at h
    split at h
    · exact e.gh _ _ h
    · exact e.hh.low gh n _ _ h
    · exact e.gh _ _ h
  · have hH := gh b o h
    unfold mrgA
    split
    · rename_i xs hz
      rw [hH] at hz
      cases hz
      exact e.sg b _ (noL_keep h fun _ z => by cases z)
    · exact h
    · rename_i hz
      rw [hH] at hz
      cases hz
  · unfold mrgA
    split
    · rename_i xs hz
      rw [h] at hz
      cases hz
      exact absurd rfl (m _)
    · rfl
    · rename_i hz
      rw [h] at hz
      cases hz
  · unfold mrgA at h
    split at h
    · exact noL_same _ _ _ (e.nt b ps h)
    · exact h
    · exact noL_same _ _ _ (e.nt b ps h)
theorem mrgA_same {G H G' H' : Hp} (e : Ext (noL G) H G' H') : Same G' (mrgA H G G') := fun b o h => by
  unfold mrgA
  split
  · exact h
  · rename_i z hz nt
    rw [e.old _ _ nt fun xs q => hz xs q] at h
    exact noL_same _ _ _ h
  · exact h
theorem Ow.anyNo {K : PySem.W.Frag} {B : Bd} {ρ : Env} {σ : L2.St} {G H : Hp} (o : Ow K B ρ σ G H) {i : Nat} (h : ρ[i]? = some .no) (x : Option V) : Ow K B ρ (σ.set i x) G H := by
  have hi : i < ρ.length := (List.getElem?_eq_some_iff.mp h).1
  have hi' : i < σ.length := by rw [o.len]; exact hi
  have ne : ∀ j zs, ρ[j]? = some (.ow zs) → j ≠ i := fun j zs hj e => by
    subst e
    rw [h] at hj
    cases hj
  refine ⟨o.ext, o.cl, o.low, by simp [o.len], fun j s hj => ?_, fun j k xs ys a h1 h2 h3 h4 => ?_⟩
  · rw [getD_set hi']
    by_cases e : j = i
    · subst e
      rw [h] at hj
      cases hj
      trivial
    · rw [if_neg e]
      exact o.slot j s hj
  · rw [List.getElem?_set_ne (Ne.symm (ne j xs h1))] at h3
    rw [List.getElem?_set_ne (Ne.symm (ne k ys h2))] at h4
    exact o.apart j k xs ys a h1 h2 h3 h4
theorem sss_scr (o : XOk Γ N sc so W X) (hh : Γ.hot = false) {n : Fn} (hn : n ∈ Γ.fns) (hf : n.fr = false) {i : Nat} {y : Str} {k0 k1 : Nat} {z : Int} {p p2 p3 p4 p5 p6 p7 apos cpos pos pos2 pos3 : Pos} {c e : Expr} {es : List Expr} {f : Env → R (List PV)} {fc : Env → R PV} {rest : List Stmt} {g : Env → RS}
    (hi : N[i]? = some y) (hl : loc so y = true) (hv : vis sc y = true) (ge : (e :: es).all good = true) (hg : glb sc n.name = true) (hs : swapsWith (.Call (.Name n.name p2) (e :: es) [] p3) (some (.Name y p)) pos.line X.env = pure false) (ha : SAE Γ W X (e :: es) f) (hline : (apos.endLine == cpos.line) = true)
    (hc : ST Γ W X c fc) (hfc : ∀ (ρ : Env) (zs : List PV), ρ[i]? = some (.sh (.lst zs)) → fc ρ = .ok (.bl (decide ((0 : Int) < (zs.length : Int))))) (h2 : SSs Γ W fr X rest g) :
    SSs Γ W fr X (.Assign [.Name y p] (.Call (.Name n.name p2) (e :: es) [] p3) pos :: .If c [.Expr (.Call (.Attribute (.Subscript (.Name y p4) (.Constant (.int 0) k0 p5) p6) "append" apos) [.Constant (.int z) k1 p7] [] cpos) pos2] [] pos3 :: rest) (fun ρ => (RS.ofL (f ρ) ρ fun xs => if nols xs then RS.of (n.sem xs) ρ fun v => scrTo ρ i v else .bad).then g) := by
  obtain ⟨l1, l2⟩ := o.loc hl
  have body := pss_cons (ps_expr (pos := pos2) (pe_bm (cpos := cpos) PySem.F.plainAttrs_list PySem.F.slot_list_append PySem.F.type_list_append (mt_append (X := X)) (pe_ix (pos := p6) ix_list (pe_slot (p := p4) o hi hv) (pe_int (i := 0) (j := k0) (pos := p5)) (good_ix rfl)) (pa_cons (pe_int (i := z) (j := k1) (pos := p7)) pa_nil rfl) rfl rfl hline rfl rfl) rfl) (pss_nil (X := X))
  refine PSs.weak (pss_cons (ps_set (i := i) (by rw [o.hN]; exact o.nd) (o.Nx hi) l1 (callee o hh hn ge hg ha) hs l2) (pss_cons (ps_if hc body pss_nil) h2)) fun D σ H ⟨B, ρ, G, ow, q⟩ => ?_
  have q : PostS Γ W X.K fr B ((RS.ofL (f ρ) ρ fun xs => if nols xs then RS.of (n.sem xs) ρ fun v => scrTo ρ i v else .bad).then g) D := q
  refine ⟨B, ρ, G, ow, ?_⟩
  cases er : f ρ with
  | bad => rw [er] at q; exact q.elim
  | exn c =>
    rw [er] at q
    exact fun G' H' e' => q σ G' H' (ow.step e')
  | ok xs =>
    rw [er] at q
    simp only [RS.ofL_ok] at q
    split at q
    · rename_i hnl
      intro us G1 H1 e1 r1
      have o1 := ow.step e1
      have gh1 := o1.gh
      refine ⟨?_, noL G1, xs, (noL_same G1).trans gh1, noL_clean o1.cl, nols_rep (fun b z hz hl => noL_keep hz hl) hnl r1, ?_⟩
      · rw [r1.length]
        refine (o.g.fn n hn).len xs fun eb => ?_
        rw [eb] at q
        exact q
      · cases es2 : n.sem xs with
        | bad => rw [es2] at q; exact q.elim
        | exn c =>
          rw [es2] at q
          exact fun G' H' e2 => q σ _ H' (o1.step (mrg_ext gh1 o1.cl.nt e2))
        | ok v =>
          rw [es2] at q
          simp only [RS.of_ok] at q
          intro u G' H' e2 rv
          rw [hf] at rv
          replace rv : Rep X.K G' v u := rv
          unfold scrTo at q
          split at q
          · rename_i zs
            split at q
            · rename_i hz
              simp only [Bool.and_eq_true, decide_eq_true_eq] at hz
              obtain ⟨a, vs, rfl, ga, rz⟩ := rep_lst.mp rv
              have hi1 : i < ρ.length := hz.1
              have eA := mrgA_ext gh1 o1.cl.nt e2
              have oA := (o1.step eA).setSh (i := i) hi1 (Rep.mono (mrgA_same e2) rv)
              have fin : ∀ Hf : Hp, SameT H1 Hf → rdS Γ W X.K fr g D (σ.set i (some (.ref a))) Hf := fun Hf hs2 => by
                have o3 := ((o1.step ⟨hs2, hs2.low gh1 o1.cl.nt, Same.refl _, fun _ _ _ _ => rfl, fun _ _ h => h⟩).kill i).anyNo (i := i) (by rw [List.getElem?_set_self hi1]) (some (.ref a))
                exact ⟨B, _, G1, o3, q⟩
              refine ⟨B, ρ.set i (.sh (.lst zs)), _, oA, ?_⟩
              rw [hfc _ zs (by rw [List.getElem?_set_self hi1])]
              refine ⟨_, rfl, fun G3 H3 e3 => ?_⟩
              have sH : SameT H1 H3 := e2.hh.trans e3.hh
              have a3 : H3 a = some (.lst vs) := e3.hh.lst (e2.gh _ _ ga)
              by_cases h0 : (0 : Int) < (zs.length : Int)
              · rw [decide_eq_true h0]
                refine iteT ?_
                cases zs with
                | nil => simp at h0
                | cons w zs =>
                  have hw := hz.2
                  rw [List.all_cons, Bool.and_eq_true] at hw
                  cases w with
                  | lst ys =>
                    obtain ⟨w1, r2, rfl, g1, _⟩ := reps_cons.mp rz
                    obtain ⟨b, ws, rfl, gb, ry⟩ := rep_lst.mp g1
                    have b3 : H3 b = some (.lst ws) := e3.hh.lst (e2.gh _ _ gb)
                    have b1 := (mrg_new e2 gb).1
                    have hlen : ys.length ≤ LIM := by simpa [isL] using hw.1
                    refine ⟨.ref a, ?_, ?_⟩
                    · rw [List.getElem?_set_self (by rw [← o1.len] at hi1; exact hi1)]
                    · refine ⟨a, .ref b :: r2, 0, .ref b, rfl, rfl, SqL.of a3, by
                        have : ixN (V.ref b :: r2).length 0 = some 0 := by
                          unfold ixN
                          rw [if_pos (by decide), if_pos (by rw [List.length_cons]; omega)]
                          rfl
                        unfold atI
                        rw [this]
                        rfl, ?_⟩
                      refine ⟨.inl ⟨rfl, _, SqL.of b3⟩, b, ws, .int z, rfl, rfl, b3, ?_, ?_⟩
                      · rw [ry.length]
                        have := lim_line
                        have : LIM < sizeLine := by decide
                        omega
                      · exact fin _ (sH.put b1 b3)
                  | _ => simp [isL] at hw
              · rw [decide_eq_false h0]
                exact iteF (fin H3 sH)
            · exact q.elim
          · exact q.elim
    · exact q.elim
/-! ### lists in a told tuple are changed, and it is forgotten -/
theorem sss_wrk (o : XOk Γ N sc so W X) (hh : Γ.hot = false) {n : Fn} (hn : n ∈ Γ.fns) (hf : n.fr = false) {i : Nat} {y : Str} {k0 k1 k2 : Nat} {z : Int} {p p2 p3 p4 p5 p6 p7 q4 q5 q6 apos cpos apos2 cpos2 pos pos2 pos3 pos4 : Pos} {c e : Expr} {body : List Stmt} {es : List Expr} {f : Env → R (List PV)} {fc : Env → R PV} {rest : List Stmt} {g : Env → RS}
    (hi : N[i]? = some y) (hl : loc so y = true) (hv : vis sc y = true) (ge : (e :: es).all good = true) (hg : glb sc n.name = true) (hs : swapsWith (.Call (.Name n.name p2) (e :: es) [] p3) (some (.Name y p)) pos.line X.env = pure false) (ha : SAE Γ W X (e :: es) f) (hline : (apos.endLine == cpos.line) = true) (hline2 : (apos2.endLine == cpos2.line) = true)
    (hc : ST Γ W X c fc) (hb : SSs Γ W fr X body (fun _ => .ret (.bl false))) (h2 : SSs Γ W fr X rest g) :
    SSs Γ W fr X (.Assign [.Name y p] (.Call (.Name n.name p2) (e :: es) [] p3) pos :: .If c body [] pos3 :: .Expr (.Call (.Attribute (.Subscript (.Name y p4) (.Constant (.int 0) k0 p5) p6) "append" apos) [.Constant (.int z) k1 p7] [] cpos) pos2 :: .Expr (.Call (.Attribute (.Subscript (.Name y q4) (.Constant (.int 1) k2 q5) q6) "clear" apos2) [] [] cpos2) pos4 :: rest) (fun ρ => (RS.ofL (f ρ) ρ fun xs => if nols xs then RS.of (n.sem xs) ρ fun v => wrkTo ρ i v fc else .bad).then g) := by
  obtain ⟨l1, l2⟩ := o.loc hl
  have a1 := ps_expr (pos := pos2) (pe_bm (cpos := cpos) PySem.F.plainAttrs_list PySem.F.slot_list_append PySem.F.type_list_append (mt_append (X := X)) (pe_ix (pos := p6) ix_tup (pe_slot (p := p4) o hi hv) (pe_int (i := 0) (j := k0) (pos := p5)) (good_ix rfl)) (pa_cons (pe_int (i := z) (j := k1) (pos := p7)) pa_nil rfl) rfl rfl hline rfl rfl) rfl
  have a2 := ps_expr (pos := pos4) (pe_bm0 (cpos := cpos2) PySem.F.plainAttrs_list PySem.F.slot_list_clear PySem.F.type_list_clear (mt_clear (X := X)) (pe_ix (pos := q6) ix_tup (pe_slot (p := q4) o hi hv) (pe_int (i := 1) (j := k2) (pos := q5)) (good_ix rfl)) rfl hline2) rfl
  refine PSs.weak (pss_cons (ps_set (i := i) (by rw [o.hN]; exact o.nd) (o.Nx hi) l1 (callee o hh hn ge hg ha) hs l2) (pss_cons (ps_if hc hb pss_nil) (pss_cons a1 (pss_cons a2 h2)))) fun D σ H ⟨B, ρ, G, ow, q⟩ => ?_
  have q : PostS Γ W X.K fr B ((RS.ofL (f ρ) ρ fun xs => if nols xs then RS.of (n.sem xs) ρ fun v => wrkTo ρ i v fc else .bad).then g) D := q
  refine ⟨B, ρ, G, ow, ?_⟩
  cases er : f ρ with
  | bad => rw [er] at q; exact q.elim
  | exn c =>
    rw [er] at q
    exact fun G' H' e' => q σ G' H' (ow.step e')
  | ok xs =>
    rw [er] at q
    simp only [RS.ofL_ok] at q
    split at q
    · rename_i hnl
      intro us G1 H1 e1 r1
      have o1 := ow.step e1
      have gh1 := o1.gh
      refine ⟨?_, noL G1, xs, (noL_same G1).trans gh1, noL_clean o1.cl, nols_rep (fun b z hz hl => noL_keep hz hl) hnl r1, ?_⟩
      · rw [r1.length]
        refine (o.g.fn n hn).len xs fun eb => ?_
        rw [eb] at q
        exact q
      · cases es2 : n.sem xs with
        | bad => rw [es2] at q; exact q.elim
        | exn c =>
          rw [es2] at q
          exact fun G' H' e2 => q σ _ H' (o1.step (mrg_ext gh1 o1.cl.nt e2))
        | ok v =>
          rw [es2] at q
          simp only [RS.of_ok] at q
          intro u G' H' e2 rv
          rw [hf] at rv
          replace rv : Rep X.K G' v u := rv
          unfold wrkTo at q
          split at q
          · rename_i zs ys r
            split at q
            · rename_i hz
              simp only [Bool.and_eq_true, decide_eq_true_eq] at hz
              obtain ⟨a, vs, rfl, ga, rz⟩ := rep_tup.mp rv
              obtain ⟨w1, t1, rfl, g1, rz2⟩ := reps_cons.mp rz
              obtain ⟨w2, t2, rfl, g2, rz3⟩ := reps_cons.mp rz2
              obtain ⟨b1, x1, rfl, gb1, ry1⟩ := rep_lst.mp g1
              obtain ⟨b2, x2, rfl, gb2, ry2⟩ := rep_lst.mp g2
              have hi1 : i < ρ.length := hz.1
              have hi2 : i < σ.length := by rw [← o1.len] at hi1; exact hi1
              have eA := mrgA_ext gh1 o1.cl.nt e2
              have oA := (o1.step eA).setSh (i := i) hi1 (Rep.mono (mrgA_same e2) rv)
              have n1 := (mrg_new e2 gb1).1
              have n2 := (mrg_new e2 gb2).1
              refine ⟨B, ρ.set i (.sh (.tup (.lst zs :: .lst ys :: r))), _, oA, ?_⟩
              cases ec : fc (ρ.set i (.sh (.tup (.lst zs :: .lst ys :: r)))) with
              | bad => rw [ec] at q; exact q.elim
              | exn c =>
                rw [ec] at q
                exact fun G3 H3 e3 => q _ G3 H3 (oA.step e3)
              | ok u =>
                rw [ec] at q
                simp only [RS.of_ok] at q
                unfold RS.ifB at q
                split at q
                · exact ⟨true, rfl, fun G3 H3 e3 => iteT ⟨B, _, G3, oA.step e3, q⟩⟩
                · refine ⟨false, rfl, fun G3 H3 e3 => iteF ?_⟩
                  have sH : SameT H1 H3 := e2.hh.trans e3.hh
                  have gA : mrgA H1 G1 G' a = some (.tup (.ref b1 :: .ref b2 :: t2)) := mrgA_same e2 a _ ga
                  have hA : H3 a = some (.tup (.ref b1 :: .ref b2 :: t2)) := e3.gh _ _ (e3.sg _ _ gA)
                  have hb1 : H3 b1 = some (.lst x1) := e3.hh.lst (e2.gh _ _ gb1)
                  have hb2 : H3 b2 = some (.lst x2) := e3.hh.lst (e2.gh _ _ gb2)
                  have fin : ∀ Hf : Hp, SameT H1 Hf → rdS Γ W X.K fr g D (σ.set i (some (.ref a))) Hf := fun Hf hs2 => by
                    have o3 := ((o1.step ⟨hs2, hs2.low gh1 o1.cl.nt, Same.refl _, fun _ _ _ _ => rfl, fun _ _ h => h⟩).kill i).anyNo (i := i) (by rw [List.getElem?_set_self hi1]) (some (.ref a))
                    exact ⟨B, _, G1, o3, q⟩
                  have at0 : atI (V.ref b1 :: .ref b2 :: t2) 0 = some (.ref b1) := by
                    have : ixN (V.ref b1 :: .ref b2 :: t2).length 0 = some 0 := by
                      unfold ixN
                      rw [if_pos (by decide), if_pos (by rw [List.length_cons]; omega)]
                      rfl
                    unfold atI
                    rw [this]
                    rfl
                  have at1 : atI (V.ref b1 :: .ref b2 :: t2) 1 = some (.ref b2) := by
                    have : ixN (V.ref b1 :: .ref b2 :: t2).length 1 = some 1 := by
                      unfold ixN
                      rw [if_pos (by decide), if_pos (by rw [List.length_cons, List.length_cons]; omega)]
                      rfl
                    unfold atI
                    rw [this]
                    rfl
                  have slot : (σ.set i (some (.ref a)))[i]? = some (some (.ref a)) := List.getElem?_set_self hi2
                  have s1 : SameT H1 (upd H3 b1 (.lst (x1 ++ [.int z]))) := sH.put n1 hb1
                  have hA2 : upd H3 b1 (.lst (x1 ++ [.int z])) a = some (.tup (.ref b1 :: .ref b2 :: t2)) := by
                    by_cases h : a = b1
                    · rw [h, hb1] at hA
                      cases hA
                    · rw [upd_ne h]
                      exact hA
                  obtain ⟨x2', hb2'⟩ : ∃ x2', upd H3 b1 (.lst (x1 ++ [.int z])) b2 = some (.lst x2') := by
                    by_cases h : b2 = b1
                    · exact ⟨_, by rw [h]; exact upd_same⟩
                    · exact ⟨x2, by rw [upd_ne h]; exact hb2⟩
                  refine ⟨.ref a, slot, a, _, 0, .ref b1, rfl, rfl, SqT.of hA, at0, .inl ⟨rfl, _, SqL.of hb1⟩, b1, x1, .int z, rfl, rfl, hb1, ?_, ?_⟩
                  · rw [ry1.length]
                    have := lim_line
                    have : LIM < sizeLine := by decide
                    omega
                  · exact ⟨.ref a, slot, a, _, 1, .ref b2, rfl, rfl, SqT.of hA2, at1, .inl ⟨rfl, _, SqL.of hb2'⟩, b2, x2', rfl, rfl, hb2', fin _ (s1.put n2 hb2')⟩
                · exact q.elim
            · exact q.elim
          · exact q.elim
    · exact q.elim
/-! ### if, return -/
theorem ss_ite {c : Expr} {a b : List Stmt} {pos : Pos} {fc : Env → R PV} {fa fb : Env → RS} (hc : ST Γ W X c fc) (ha : SSs Γ W fr X a fa) (hb : SSs Γ W fr X b fb) :
    SS Γ W fr X (.If c a b pos) (fun ρ => RS.of (fc ρ) ρ fun v => RS.ifB v (fa ρ) (fb ρ)) := by
  refine PS.weak (ps_if hc ha hb) fun D σ H ⟨B, ρ, G, ow, q⟩ => ⟨B, ρ, G, ow, ?_⟩
  have q : PostS Γ W X.K fr B (RS.of (fc ρ) ρ fun v => RS.ifB v (fa ρ) (fb ρ)) D := q
  cases e : fc ρ with
  | bad => rw [e] at q; exact q
  | exn c =>
    rw [e] at q
    exact fun G' H' ex => q σ G' H' (ow.step ex)
  | ok v =>
    rw [e] at q
    have q : PostS Γ W X.K fr B (RS.ifB v (fa ρ) (fb ρ)) D := q
    unfold RS.ifB at q
    split at q
    · exact ⟨true, rfl, fun G1 H1 e1 => iteT ⟨B, ρ, G1, ow.step e1, q⟩⟩
    · exact ⟨false, rfl, fun G1 H1 e1 => iteF ⟨B, ρ, G1, ow.step e1, q⟩⟩
    · exact q.elim
theorem ss_ret {e : Expr} {pos : Pos} {f : Env → R PV} (he : SE Γ W X (if fr then .fre else .esc) e f) : SS Γ W fr X (.Return (some e) pos) (fun ρ => RS.of (f ρ) ρ fun v => .ret v) := by
  refine PS.weak (ps_ret he) fun D σ H ⟨B, ρ, G, ow, q⟩ => ?_
  exact of_rd ow rfl q fun x v G' H' ex rv hk => hk v G' H' (ow.ext.trans ex) (repM_old ow.ext.hh rv)
theorem ss_reto (o : XOk Γ N sc so W X) {i : Nat} {x : Str} {p pos : Pos} (hn : N[i]? = some x) (hv : vis sc x = true) : SS Γ W fr X (.Return (some (.Name x p)) pos) (fun ρ => match ρ[i]? with
      | some (.ow xs) => .ret (.lst xs)
      | some (.sh v) => if fr then .bad else .ret v
      | _ => .bad) := by
  refine PS.weak (ps_ret (pe_slot o hn hv)) fun D σ H ⟨B, ρ, G, ow, q⟩ => ?_
  have q : PostS Γ W X.K fr B (match ρ[i]? with
      | some (.ow xs) => .ret (.lst xs)
      | some (.sh v) => if fr then .bad else .ret v
      | _ => .bad) D := q
  split at q
  · rename_i xs hx
    obtain ⟨a, vs, ha, h1, h2, h3, rx⟩ := ow.ow hx
    refine ⟨.ref a, ha, ?_⟩
    cases fr with
    | true => exact q (.ref a) G H ow.ext ⟨a, vs, rfl, h3, h2, h1, rx⟩
    | false =>
      exact q (.ref a) (upd G a (.lst vs)) H (ow.ext.settle h3 h1) (show Rep X.K _ _ _ from rep_lst.mpr ⟨a, vs, rfl, upd_same, rx.mono (same_upd h2)⟩)
  · rename_i v hx
    split at q
    · exact q.elim
    · rename_i hf
      obtain ⟨w, e, r⟩ := ow.sh hx
      refine ⟨w, e, q w G H ow.ext ?_⟩
      rw [if_neg hf]
      exact r
  · exact q.elim
theorem sss_retF {b : Expr} {pos : Pos} (he : SE Γ W X (if fr then .fre else .esc) b (fun _ => .ok (.bl false))) : SSs Γ W fr X [.Return (some b) pos] (fun _ => .ret (.bl false)) := sss_cons (ss_ret he) sss_nil
theorem ss_retN {pos : Pos} : SS Γ W false X (.Return none pos) (fun _ => .ret .non) := PS.weak ps_retN fun D σ H ⟨B, ρ, G, ow, q⟩ => q .non G H ow.ext (show Rep X.K G _ _ from rep_non.mpr rfl)
theorem ss_pass {pos : Pos} : SS Γ W fr X (.Pass pos) (fun ρ => .next ρ) := PS.weak ps_pass fun D σ H ⟨B, ρ, G, ow, q⟩ => q σ G H ow
theorem ss_brk {pos : Pos} : SS Γ W fr X (.Break pos) (fun ρ => .brk ρ) := PS.weak ps_break fun D σ H ⟨B, ρ, G, ow, q⟩ => q σ G H ow
theorem ss_cnt {pos : Pos} : SS Γ W fr X (.Continue pos) (fun ρ => .cnt ρ) := PS.weak ps_continue fun D σ H ⟨B, ρ, G, ow, q⟩ => q σ G H ow
theorem ss_raise (o : XOk Γ N sc so W X) (hh : Γ.hot = false) {x m : Str} {j : Nat} {p p2 p3 pos : Pos} {c : Nat} (hm : (x, c) ∈ Γ.ec.ex) (hg : glb sc x = true) :
    SS Γ W fr X (.Raise (some (.Call (.Name x p) [.Constant (.str m) j p2] [] p3)) none pos) (fun ρ => .exn c ρ) := by
  have E := o.g.ec.ex _ hm
  exact PS.weak (ps_raise (o.calm hh) (o.tk hh) (pmk_own PySem.F.excBase_ValueError E.ex E.gm E.kp (raises_own E.sb E.ty) (o.gl hg) E.db)) fun D σ H ⟨B, ρ, G, ow, q⟩ => q σ G H ow
theorem ss_exp {e : Expr} {pos : Pos} {f : Env → R PV} (hn : noComp e = true) (he : SE Γ W X .esc e f) : SS Γ W fr X (.Expr e pos) (fun ρ => RS.of (f ρ) ρ fun _ => .next ρ) := by
  refine PS.weak (ps_expr he (good_swap hn _ _ _)) fun D σ H ⟨B, ρ, G, ow, q⟩ => ?_
  exact of_rd ow rfl q fun x v G' H' ex rv hk => hk σ G' H' (ow.step ex)
/-! ### loops -/
theorem ss_for (o : XOk Γ N sc so W X) (hh : Γ.hot = false) (hp : PassesOwn (model X.prog X.w) X.A X.env X.xe) {tg : List Nat} {tp : Bool} {t it : Expr} {body : List Stmt} {pos : Pos} {fi : Env → R (List PV)} {fb : Env → RS} (gi : good it = true) (ht : mTgt N so tg tp t = true) (hi : SI Γ W X .esc t it fi) (hb : SSs Γ W fr X body fb) :
    SS Γ W fr X (.For t it body [] pos) (fun ρ => RS.ofL (fi ρ) ρ fun xs => forL (asgT tg tp) fb xs ρ) := by
  refine PS.weak (ps_for hp (o.calm hh) hi (pg_tgt o hh ht) hb (good_fold gi _)) fun D σ H ⟨B, ρ, G, ow, q⟩ => ⟨B, ρ, G, ow, ?_⟩
  have q : PostS Γ W X.K fr B (RS.ofL (fi ρ) ρ fun xs => forL (asgT tg tp) fb xs ρ) D := q
  cases e : fi ρ with
  | bad => rw [e] at q; exact q
  | exn c =>
    rw [e] at q
    exact fun G' H' ex => q σ G' H' (ow.step ex)
  | ok xs =>
    rw [e] at q
    intro J G1 H1 e1 its
    have q : PostS Γ W X.K fr B (forL (asgT tg tp) fb xs ρ) D := q
    have o1 := ow.step e1
    refine ⟨fun i m σ H => i + m = xs.length ∧ ∃ ρ G, Ow X.K ⟨B.G0, B.H0, G1⟩ ρ σ G H ∧ PostS Γ W X.K fr ⟨B.G0, B.H0, G1⟩ (forL (asgT tg tp) fb (xs.drop i) ρ) D, ⟨xs.length, by omega, ρ, G1, o1.relow (Same.refl _), ?_⟩, ?_⟩
    · rw [List.drop_zero]
      have low : ∀ {ρ' σ' G' H'}, Ow X.K ⟨B.G0, B.H0, G1⟩ ρ' σ' G' H' → Ow X.K B ρ' σ' G' H' := fun o' => o'.relow (o1.low.trans o'.low)
      cases ef : forL (asgT tg tp) fb xs ρ with
      | next ρ' => rw [ef] at q; exact fun σ' G' H' o' => q σ' G' H' (low o')
      | brk ρ' => rw [ef] at q; exact fun σ' G' H' o' => q σ' G' H' (low o')
      | cnt ρ' => rw [ef] at q; exact fun σ' G' H' o' => q σ' G' H' (low o')
      | ret v => rw [ef] at q; exact q
      | exn c ρ' => rw [ef] at q; exact fun σ' G' H' o' => q σ' G' H' (low o')
      | bad => rw [ef] at q; exact q
    · rintro i m σ2 H2 ⟨him, ρ2, G2, o2, q2⟩
      have ci : CI .esc G1 H1 G2 H2 := ⟨o2.low, o2.gh, trivial⟩
      by_cases hlt : i < xs.length
      · refine .inr ⟨its.goes i G2 H2 hlt ci, fun σ3 H3 => (i + 1) + (m - 1) = xs.length ∧ ∃ ρ G, Ow X.K ⟨B.G0, B.H0, G1⟩ ρ σ3 G H3 ∧ PostS Γ W X.K fr ⟨B.G0, B.H0, G1⟩ (forL (asgT tg tp) fb (xs.drop (i + 1)) ρ) D, fun σ3 H3 h3 => ⟨m - 1, by omega, h3⟩, fun v H3 y => ?_⟩
        obtain ⟨G3, x, e3, hx, rx⟩ := its.yields i G2 H2 v H3 hlt o2.gh ci y
        have dr : xs.drop i = x :: xs.drop (i + 1) := by
          rw [List.drop_eq_getElem_cons hlt]
          have := List.getElem?_eq_getElem hlt
          rw [hx] at this
          rw [Option.some.inj this]
        rw [dr] at q2
        unfold forL at q2
        split at q2
        · exact q2.elim
        · rename_i ρ3 ea
          refine ow_asgT (o2.step e3) rx ea fun vs o3 => ⟨⟨B.G0, B.H0, G1⟩, ρ3, G3, o3, ?_⟩
          cases eb : fb ρ3 with
          | next ρ4 => rw [eb] at q2; exact fun σ4 G4 H4 o4 => ⟨by omega, ρ4, G4, o4, q2⟩
          | cnt ρ4 => rw [eb] at q2; exact fun σ4 G4 H4 o4 => ⟨by omega, ρ4, G4, o4, q2⟩
          | brk ρ4 => rw [eb] at q2; exact q2
          | ret v => rw [eb] at q2; exact q2
          | exn c ρ4 => rw [eb] at q2; exact q2
          | bad => rw [eb] at q2; exact q2
      · have ei : i = xs.length := by omega
        refine .inl ⟨by rw [ei]; exact its.stops G2 H2 ci, ?_⟩
        rw [ei, List.drop_length] at q2
        exact q2 σ2 G2 H2 o2
theorem ss_whl (hp : PassesOwn (model X.prog X.w) X.A X.env X.xe) {c : Expr} {body : List Stmt} {pos : Pos} {fc : Env → R PV} {fb : Env → RS} (n : Nat) (hc : ST Γ W X c fc) (hb : SSs Γ W fr X body fb) :
    SS Γ W fr X (.While c body [] pos) (fun ρ => whlL fc fb n ρ) := by
  refine PS.weak (ps_while hp hc hb) fun D σ H ⟨B, ρ, G, ow, q⟩ => ?_
  refine ⟨fun m σ H => ∃ ρ G, Ow X.K B ρ σ G H ∧ PostS Γ W X.K fr B (whlL fc fb m ρ) D, ⟨n, ρ, G, ow, q⟩, ?_⟩
  rintro m σ1 H1 ⟨ρ1, G1, o1, q1⟩
  cases m with
  | zero => exact q1.elim
  | succ m =>
    unfold whlL at q1
    refine ⟨B, ρ1, G1, o1, ?_⟩
    cases e : fc ρ1 with
    | bad => rw [e] at q1; exact q1
    | exn c =>
      rw [e] at q1
      exact fun G' H' ex => q1 σ1 G' H' (o1.step ex)
    | ok v =>
      rw [e] at q1
      have q1 : PostS Γ W X.K fr B (RS.ifB v ((fb ρ1).turn (whlL fc fb m)) (.next ρ1)) D := q1
      unfold RS.ifB at q1
      split at q1
      · refine ⟨true, rfl, fun G2 H2 e2 => iteT ⟨fun σ' H' => ∃ ρ G, Ow X.K B ρ σ' G H' ∧ PostS Γ W X.K fr B (whlL fc fb m ρ) D, fun σ' H' h' => ⟨m, Nat.lt_succ_self _, h'⟩, B, ρ1, G2, o1.step e2, ?_⟩⟩
        cases eb : fb ρ1 with
        | next ρ4 => rw [eb] at q1; exact fun σ4 G4 H4 o4 => ⟨ρ4, G4, o4, q1⟩
        | cnt ρ4 => rw [eb] at q1; exact fun σ4 G4 H4 o4 => ⟨ρ4, G4, o4, q1⟩
        | brk ρ4 => rw [eb] at q1; exact q1
        | ret v => rw [eb] at q1; exact q1
        | exn c ρ4 => rw [eb] at q1; exact q1
        | bad => rw [eb] at q1; exact q1
      · exact ⟨false, rfl, fun G2 H2 e2 => iteF (q1 σ1 G2 H2 (o1.step e2))⟩
      · exact q1.elim
end

/-! ### try -/
/-- a lambda that gives r is called -/
def rdTl (Γ : Gt) (W : WX) (K : PySem.W.Frag) (r : R PV) : TE := fun σ H Q => ∃ (B : Bd) (ρ : Env) (G : Hp), Ow K B ρ σ G H ∧ ρ[0]? = some .fn ∧
  PK r (fun x => ∀ v G' H', Ext G H G' H' → Rep K G' x v → Q v H') (Ke Γ W σ G H)
/-- what the statements ask of a context -/
structure SOk (Γ : Gt) (X : Cx) : Prop where
  po : PassesOwn (model X.prog X.w) X.A X.env X.xe
  st : X.stack = X.env :: X.outer
  fm : X.env.frame = some X.env.locals
  tl : ∀ a r, Γ.tl = some (a, r) → ∀ (W : WX) (pn : List (Addr × Obj)) (xe : Value → Shared → Prop), Takes (X.tr pn xe) W → ∀ p1 p2 : Pos, PE (X.tr pn xe) (.Call (.Name a p1) [] [] p2) (rdTl Γ W X.K r)
abbrev Gt.heat (Γ : Gt) : Gt := { Γ with hot := true }
section
variable {Γ : Gt} {N : List Str} {sc so : Scope} {W : WX} {X : Cx} {fr : Bool}
theorem XOk.suite (o : XOk Γ N sc so W X) (a : Addr) (pn : List (Addr × Obj)) : XOk Γ.heat N sc so W0 (X.suite a pn) :=
  ⟨⟨fun n hn => ⟨(o.g.fn n hn).ok, (o.g.fn n hn).gm, (o.g.fn n hn).kp, (o.g.fn n hn).bd, (o.g.fn n hn).len, (o.g.fn n hn).db⟩, o.g.bl, o.g.cn, o.g.ec, fun n hn => ⟨(o.g.fno n hn).ok, (o.g.fno n hn).gm, (o.g.fno n hn).kp, (o.g.fno n hn).bd, (o.g.fno n hn).len, (o.g.fno n hn).db⟩⟩, o.hN, o.nd, o.db, o.hsc, o.kd, fun h => (nomatch h), o.fn, fun h => (nomatch h), o.un, fun h => (nomatch h), fun _ h => (nomatch h), fun h => (nomatch h)⟩
theorem XOk.tried (o : XOk Γ N sc so W X) {W' : WX} {pn : List (Addr × Obj)} {xe : Value → Shared → Prop} (tk : Takes (X.tr pn xe) W') (hs : X.stack = X.env :: X.outer) (hf : X.env.frame = some X.env.locals) : XOk Γ N sc so W' (X.tr pn xe) :=
  ⟨o.g, o.hN, o.nd, o.db, o.hsc, o.kd, o.calm, o.fn, o.room, o.un, fun _ => tk, fun h1 h2 => (let ⟨a, b, c, d⟩ := o.la h1 h2; ⟨a, b, c, d⟩), fun _ => airOk_top tk hs hf⟩
theorem exq_ne (C a : Addr) (ps : Array Value) : ExQ C a ≠ .tbl ps := fun z => by
  unfold ExQ at z
  cases z
/-- what was got is called -/
theorem se_told (o : XOk Γ N sc so W X) (hh : Γ.hot = false) (sk : SOk Γ X) {a : Str} {r : R PV} (h : Γ.tl = some (a, r)) {p1 p2 : Pos} : SE Γ W X .esc (.Call (.Name a p1) [] [] p2) (fun ρ => match ρ[(0 : Nat)]? with
    | some .fn => r
    | _ => .bad) := by
  refine PE.weak (sk.tl a r h W X.pn X.xe (o.tk hh) p1 p2) fun σ H Q ⟨B, ρ, G, ow, q⟩ => ?_
  dsimp only at q
  split at q
  · rename_i h0
    exact ⟨B, ρ, G, ow, h0, q⟩
  · exact q.elim
theorem ss_told (o : XOk Γ N sc so W X) (hh : Γ.hot = false) (sk : SOk Γ X) {i : Nat} {x a : Str} {r : R PV} (h : Γ.tl = some (a, r)) {p p1 p2 pos : Pos} (hn : N[i]? = some x) (hl : loc so x = true) (hs : swapsWith (.Call (.Name a p1) [] [] p2) (some (.Name x p)) pos.line X.env = pure false) :
    SS Γ W fr X (.Assign [.Name x p] (.Call (.Name a p1) [] [] p2) pos) (fun ρ => match ρ[(0 : Nat)]? with
      | some .fn => RS.of r ρ fun v => toldTo ρ (some i) v
      | _ => .bad) := by
  have e : (fun ρ : Env => match ρ[(0 : Nat)]? with
      | some .fn => RS.of r ρ fun v => toldTo ρ (some i) v
      | _ => .bad) = fun ρ => RS.of (match ρ[(0 : Nat)]? with
        | some .fn => r
        | _ => .bad) ρ fun v => if i < ρ.length then .next (ρ.set i (.sh v)) else .bad := by
    funext ρ
    split <;> rfl
  rw [e]
  exact ss_set o hn hl hs (se_told o hh sk h)
theorem ss_toldN (o : XOk Γ N sc so W X) (hh : Γ.hot = false) (sk : SOk Γ X) {a : Str} {r : R PV} (h : Γ.tl = some (a, r)) {p1 p2 pos : Pos} (hc : noComp (.Call (.Name a p1) [] [] p2) = true) :
    SS Γ W fr X (.Expr (.Call (.Name a p1) [] [] p2) pos) (fun ρ => match ρ[(0 : Nat)]? with
      | some .fn => RS.of r ρ fun v => toldTo ρ none v
      | _ => .bad) := by
  have e : (fun ρ : Env => match ρ[(0 : Nat)]? with
      | some .fn => RS.of r ρ fun v => toldTo ρ none v
      | _ => .bad) = fun ρ => RS.of (match ρ[(0 : Nat)]? with
        | some .fn => r
        | _ => .bad) ρ fun _ => .next ρ := by
    funext ρ
    split <;> rfl
  rw [e]
  exact ss_exp hc (se_told o hh sk h)
theorem ss_try (o : XOk Γ N sc so W X) (sk : SOk Γ X) {x n : Str} {i : Nat} {rs : List Nat} {bs suite : List Stmt} {b₀ : Stmt} {np p2 pos : Pos} {fb fh : Env → RS} (hi : N[i]? = some n) (hl : sc.names.lookup n = some .local) (hx : (x, 0) ∈ Γ.ec.ex) (hg : glb sc x = true) (hrs : rs = Γ.ec.rs)
    (hb : ∀ (W' : WX) (pn : List (Addr × Obj)) (xe : Value → Shared → Prop), XOk Γ N sc so W' (X.tr pn xe) → SOk Γ (X.tr pn xe) → SSs Γ W' fr (X.tr pn xe) bs fb) (hs : ∀ (a : Addr) (pn : List (Addr × Obj)), SSs Γ.heat W0 fr (X.suite a pn) (b₀ :: suite) fh) :
    SS Γ W fr X (.Try bs [.ExceptHandler (some (.Name x np)) (some n) (b₀ :: suite) p2] [] [] pos) (fun ρ => (fb ρ).caught rs i fh) := by
  have E := o.g.ec.ex _ hx
  have ki : X.env.kindOf n = some .local := by
    show X.env.scope.names.lookup n = _
    rw [o.hsc]
    exact hl
  refine PS.weak (ps_try_keep (tb := fun W' => rdS Γ W' X.K fr fb) (ts := rdS Γ.heat W0 X.K fr fh) (c := .ref (Γ.cl 0)) (i := i) sk.st sk.fm (by rw [o.hN]; exact o.nd) (o.Nx hi) ki ⟨o.gl hg, E.db, .inl E.gm⟩ (fun W' pn xe tk po => hb W' pn xe (o.tried tk sk.st sk.fm) ⟨po, sk.st, sk.fm, fun a r h W2 pn2 xe2 tk2 p1 p2 => sk.tl a r h W2 pn2 xe2 tk2 p1 p2⟩) hs) fun D σ H ⟨B, ρ, G, ow, q⟩ => ⟨B, ρ, G, ow, ?_⟩
  have q : PostS Γ W X.K fr B ((fb ρ).caught rs i fh) D := q
  cases e : fb ρ with
  | next ρ1 => rw [e] at q; exact q
  | brk ρ1 => rw [e] at q; exact q
  | cnt ρ1 => rw [e] at q; exact q
  | ret v => rw [e] at q; exact q
  | bad => rw [e] at q; exact q
  | exn c ρ1 =>
    rw [e, RS.caught_exn] at q
    intro σ1 G1 H1 o1
    split at q
    · rename_i hc
      rw [Bool.and_eq_true, decide_eq_true_eq] at hc
      have hc' : c ∈ Γ.ec.rs := by
        rw [← hrs]
        exact List.contains_iff_mem.mp hc.1
      refine ⟨Γ.cl c, rfl, rfl, o.g.ec.em c hc', fun a ha => ⟨B, ρ1.set i (.sh (.exc c)), upd G1 a (ExQ (Γ.cl c) a), (o1.step (Ext.new o1.gh ha (exq_ne _ _))).setSh hc.2 (rep_exc.mpr ⟨a, _, rfl, o.g.ec.ns c hc', upd_same⟩), ?_⟩⟩
      cases eh : fh (ρ1.set i (.sh (.exc c))) with
      | next ρ2 => rw [eh] at q; exact fun σ2 G2 H2 o2 => q _ G2 H2 (o2.drop i)
      | brk ρ2 => rw [eh] at q; exact fun σ2 G2 H2 o2 => q _ G2 H2 (o2.drop i)
      | cnt ρ2 => rw [eh] at q; exact fun σ2 G2 H2 o2 => q _ G2 H2 (o2.drop i)
      | ret v => rw [eh] at q; exact q
      | exn d ρ2 => rw [eh] at q; exact q.elim
      | bad => rw [eh] at q; exact q.elim
    · exact q.elim
/-! ### dicts of a slot's own -/
theorem Ow.setOd {K : PySem.W.Frag} {B : Bd} {ρ : Env} {σ : L2.St} {G H : Hp} (o : Ow K B ρ σ G H) {i : Nat} {kvs : List (List Int × Int)} {a : Addr} (hi : i < ρ.length) (h1 : H a = some (dtOf kvs)) (h2 : G a = none) (h3 : B.H0 a = none) : Ow K B (ρ.set i (.od kvs)) (σ.set i (some (.ref a))) G H := by
  have hi' : i < σ.length := by rw [o.len]; exact hi
  refine ⟨o.ext, o.cl, o.low, by simp [o.len], fun j s h => ?_, fun j k xs ys a h1 h2 h3 h4 => ?_⟩
  · rw [getD_set hi']
    by_cases hj : j = i
    · subst hj
      rw [List.getElem?_set_self hi] at h
      cases h
      rw [if_pos rfl]
      exact ⟨a, rfl, h1, h2, h3⟩
    · rw [List.getElem?_set_ne (Ne.symm hj)] at h
      rw [if_neg hj]
      exact o.slot j s h
  · have n1 : j ≠ i := fun e => by
      subst e
      rw [List.getElem?_set_self hi] at h1
      cases h1
    have n2 : k ≠ i := fun e => by
      subst e
      rw [List.getElem?_set_self hi] at h2
      cases h2
    rw [List.getElem?_set_ne (Ne.symm n1)] at h1 h3
    rw [List.getElem?_set_ne (Ne.symm n2)] at h2 h4
    exact o.apart j k xs ys a h1 h2 h3 h4
theorem Tabs.putD {H : Hp} {D : Addr} {kvs : List (List Int × Int)} {u : HO} (h : H D = some (dtOf kvs)) (t : LamX.Tabs Tbc.T H) : LamX.Tabs Tbc.T (upd H D u) := fun p hp => by
  obtain ⟨ps, q1, q2, q3⟩ := t p hp
  have np : p.1 ≠ D := fun z => by
    rw [z, h] at q1
    cases q1
  refine ⟨ps, by rw [upd_ne np]; exact q1, q2, fun pos cv hc => ?_⟩
  obtain ⟨c, e1, e2⟩ := q3 pos cv hc
  refine ⟨c, e1, ?_⟩
  rw [upd_ne fun z => ?_]
  · exact e2
  · rw [z, h] at e2
    cases e2
theorem SameT.putD {H H' : Hp} {D : Addr} {kvs : List (List Int × Int)} {o : HO} (s : SameT H H') (n : H D = none) (h : H' D = some (dtOf kvs)) : SameT H (upd H' D o) := by
  refine ⟨fun b u q hn => ?_, fun b ps q => ?_, fun t => Tabs.putD h (s.tb t)⟩
  · rw [upd_ne (ne_of_none q n)]
    exact s.k b u q hn
  · rw [upd_ne (ne_of_none q n)]
    exact s.t b ps q
theorem Ow.writeD {K : PySem.W.Frag} {B : Bd} {ρ : Env} {σ : L2.St} {G H : Hp} (o : Ow K B ρ σ G H) {i : Nat} {kvs kvs' : List (List Int × Int)} {a : Addr} (h : ρ[i]? = some (.od kvs)) (ha : σ[i]? = some (some (.ref a))) (no : ∀ (j : Nat) (k : List (List Int × Int)), j ≠ i → ρ[j]? ≠ some (.od k)) :
    Ow K B (ρ.set i (.od kvs')) σ G (upd H a (dtOf kvs')) := by
  obtain ⟨a', e, h1, h2, h3⟩ := o.od h
  rw [ha] at e
  cases e
  have hi : i < ρ.length := (List.getElem?_eq_some_iff.mp h).1
  have ng : ∀ b u, G b = some u → b ≠ a := fun b u q => ne_of_none q h2
  refine ⟨⟨o.ext.hh.putD h3 h1, fun b u q => ?_, o.ext.sg, o.ext.old, o.ext.nt⟩, ⟨o.cl.nt, Tabs.putD h1 o.cl.tb⟩, o.low, by simp [o.len], fun j s hs => ?_, fun j k xs' ys' a' g1 g2 g3 g4 => ?_⟩
  · rw [upd_ne (ng b u q)]
    exact o.gh b u q
  · by_cases hj : j = i
    · subst hj
      rw [List.getElem?_set_self hi] at hs
      cases hs
      exact ⟨a, by rw [ha]; rfl, upd_same, h2, h3⟩
    · rw [List.getElem?_set_ne (Ne.symm hj)] at hs
      have q := o.slot j s hs
      cases s with
      | no => exact q
      | fn => exact q
      | sh x => exact q
      | od k => exact absurd hs (no j k hj)
      | ow zs =>
        obtain ⟨b, ws, e1, e2, e3, e4, e5⟩ := q
        have hb : b ≠ a := fun z => by
          subst z
          rw [show H b = _ from h1] at e2
          cases e2
        exact ⟨b, ws, e1, by rw [upd_ne hb]; exact e2, e3, e4, e5⟩
  · have n : ∀ (j : Nat) (zs : List PV), (ρ.set i (SV.od kvs'))[j]? = some (SV.ow zs) → ρ[j]? = some (SV.ow zs) := fun j zs q => by
      by_cases hj : j = i
      · subst hj
        rw [List.getElem?_set_self hi] at q
        cases q
      · rw [List.getElem?_set_ne (Ne.symm hj)] at q
        exact q
    exact o.apart j k xs' ys' a' (n j xs' g1) (n k ys' g2) g3 g4
theorem ss_dnew (o : XOk Γ N sc so W X) {i : Nat} {x : Str} {p dp pos : Pos} (hn : N[i]? = some x) (hl : loc so x = true) :
    SS Γ W fr X (.Assign [.Name x p] (.Dict [] [] dp) pos) (fun ρ => if i < ρ.length then .next (ρ.set i (.od [])) else .bad) := by
  obtain ⟨l1, l2⟩ := o.loc hl
  refine PS.weak (ps_set (i := i) (by rw [o.hN]; exact o.nd) (o.Nx hn) l1 pe_dnewT rfl l2) fun D σ H ⟨B, ρ, G, ow, q⟩ => fun a hp => ?_
  have q : PostS Γ W X.K fr B (if i < ρ.length then .next (ρ.set i (.od [])) else .bad) D := q
  split at q
  · rename_i hi
    have h0 : B.H0 a = none := ow.ext.hh.free hp
    exact q _ G _ ((ow.step (Ext.fresh ow.gh hp)).setOd hi upd_same (ow.gh.free hp) h0)
  · exact q.elim
theorem any_od {ρ : Env} {i : Nat} (h : (ρ.set i .no).any SV.isOd = false) (j : Nat) (k : List (List Int × Int)) (hj : j ≠ i) : ρ[j]? ≠ some (.od k) := fun e => by
  have : (ρ.set i .no)[j]? = some (.od k) := by
    rw [List.getElem?_set_ne (Ne.symm hj)]
    exact e
  have q := List.any_eq_false.mp h _ (List.mem_of_getElem? this)
  exact q rfl
theorem ss_dput (o : XOk Γ N sc so W X) {i : Nat} {x : Str} {k e : Expr} {p p2 pos : Pos} {fk f : Env → R PV} (hn : N[i]? = some x) (hv : vis sc x = true) (hs : swapsWith e (some (.Subscript (.Name x p) k p2)) pos.line X.env = pure false) (he : SE Γ W X .esc e f) (hk : SE Γ W X .esc k fk) :
    SS Γ W fr X (.Assign [.Subscript (.Name x p) k p2] e pos) (fun ρ => (match ρ[i]? with
      | some (.od kvs) => RS.of (f ρ) ρ fun y => RS.of (fk ρ) ρ fun x => (match tupInts x, y with
        | some ks, .int z => if decide (kvs.length ≤ LIM) && !(ρ.set i .no).any SV.isOd then .next (ρ.set i (.od (dkPut kvs ks z))) else .bad
        | _, _ => .bad)
      | _ => .bad)) := by
  have hu : X.A.units + 1 < cLine := by have := o.un; omega
  have va : PE X (.Name x p) (tVar i) := pe_var (o.Nx hn) (o.vis hv) (o.nodb hn).1 (o.nodb hn).2
  refine PS.weak (ps_dput hu va hk he hs) fun D σ H ⟨B, ρ, G, ow, q⟩ => ?_
  dsimp only at q
  split at q
  · rename_i kvs hx
    obtain ⟨a, ha, _, _, _⟩ := ow.od hx
    refine of_rd ow rfl q fun y w G1 H1 e1 r1 k1 => ⟨_, ha, of_rd (ow.step e1) rfl k1 fun z u G2 H2 e2 r2 k2 => ?_⟩
    split at k2
    · rename_i ks zi hz
      split at k2
      · rename_i hc
        rw [Bool.and_eq_true, decide_eq_true_eq, Bool.not_eq_true'] at hc
        have o2 := (ow.step e1).step e2
        obtain ⟨a', ha', hd, _, _⟩ := o2.od hx
        rw [ha] at ha'
        cases ha'
        obtain ⟨b, rfl, hb⟩ := key_rep hz (show Rep X.K G2 z u from r2)
        have ew := rep_int.mp (show Rep X.K G1 (.int zi) w from r1)
        subst ew
        refine ⟨a, _, rfl, DPut.t hd (e2.gh _ _ hb) ?_, ?_⟩
        · rw [show (dtL kvs).length = kvs.length by simp [dtL]]
          have : LIM < sizeLine := by decide
          omega
        · rw [putK_dt]
          exact k2 σ G2 _ (o2.writeD hx ha (any_od hc.2))
      · exact k2.elim
    · exact k2.elim
  · exact q.elim
theorem ss_tryN (o : XOk Γ N sc so W X) (sk : SOk Γ X) {x : Str} {c : Nat} {rs : List Nat} {bs suite : List Stmt} {b₀ : Stmt} {np p2 pos : Pos} {fb fh : Env → RS} (hx : (x, c) ∈ Γ.ec.ex) (hg : glb sc x = true) (hrs : ∀ d ∈ rs, (d, c) ∈ Γ.ec.ct)
    (hb : ∀ (W' : WX) (pn : List (Addr × Obj)) (xe : Value → Shared → Prop), XOk Γ N sc so W' (X.tr pn xe) → SOk Γ (X.tr pn xe) → SSs Γ W' fr (X.tr pn xe) bs fb) (hs : ∀ (a : Addr) (pn : List (Addr × Obj)), SSs Γ.heat W0 fr (X.suite a pn) (b₀ :: suite) fh) :
    SS Γ W fr X (.Try bs [.ExceptHandler (some (.Name x np)) none (b₀ :: suite) p2] [] [] pos) (fun ρ => (fb ρ).caughtN c rs fh) := by
  have E := o.g.ec.ex _ hx
  refine PS.weak (ps_try_only (Wout := W0) (tb := fun W' => rdS Γ W' X.K fr fb) (ts := fun _ _ _ => rdS Γ.heat W0 X.K fr fh) (c := .ref (Γ.cl c)) sk.st sk.fm ⟨o.gl hg, E.db, .inl E.gm⟩ takes0 (fun W' pn xe tk po => hb W' pn xe (o.tried tk sk.st sk.fm) ⟨po, sk.st, sk.fm, fun a r h W2 pn2 xe2 tk2 p1 p2 => sk.tl a r h W2 pn2 xe2 tk2 p1 p2⟩) (fun a oe cls d pn _ _ => hs a _)) fun D σ H ⟨B, ρ, G, ow, q⟩ => ⟨B, ρ, G, ow, ?_⟩
  have q : PostS Γ W X.K fr B ((fb ρ).caughtN c rs fh) D := q
  cases e : fb ρ with
  | next ρ1 => rw [e] at q; exact q
  | brk ρ1 => rw [e] at q; exact q
  | cnt ρ1 => rw [e] at q; exact q
  | ret v => rw [e] at q; exact q
  | bad => rw [e] at q; exact q
  | exn d ρ1 =>
    rw [e, RS.caughtN_exn] at q
    intro σ1 G1 H1 o1
    split at q
    · rename_i hc
      rw [Bool.and_eq_true] at hc
      refine ⟨true, ?_, fun _ a _ => ⟨B, ρ1, G1, o1, ?_⟩, fun z => nomatch z⟩
      · rw [← hc.2]
        exact o.g.ec.et _ (hrs d (List.contains_iff_mem.mp hc.1))
      · cases eh : fh ρ1 with
        | next ρ2 => rw [eh] at q; exact q
        | brk ρ2 => rw [eh] at q; exact q
        | cnt ρ2 => rw [eh] at q; exact q
        | ret v => rw [eh] at q; exact q
        | exn d ρ2 => rw [eh] at q; exact q.elim
        | bad => rw [eh] at q; exact q.elim
    · exact q.elim
end
end Pf

set_option Elab.async false
set_option linter.all false
set_option maxRecDepth 100000
set_option autoImplicit false
/-! PfX: a joined text is stored, then a list of texts made of it -/
namespace Pf
open PySem PySem.Spec L2
section
variable [Tbc] [Tlc] {Γ : Gt} {N : List Str} {sc so : Scope} {W : WX} {X : Cx} {fr : Bool}
theorem PET.weak {e : Expr} {t t' : TE} (p : PET X e t) (w : ∀ σ H Q, t' σ H Q → t σ H Q) : PET X e t' := fun pins s σ H Q h0 I h => p pins s σ H Q h0 I (w σ H Q h)
theorem PAT.weak {es : List Expr} {t t' : TA} (p : PAT X es t) (w : ∀ σ H Q, t' σ H Q → t σ H Q) : PAT X es t' := fun pos pins s σ H Q h0 I h => p pos pins s σ H Q h0 I (w σ H Q h)
theorem PST.weak {st : Stmt} {t t' : TS} (p : PST X st t) (w : ∀ D σ H, t' D σ H → t D σ H) : PST X st t' := fun pins s σ H D h0 I h => p pins s σ H D h0 I (w D σ H h)
theorem PSsT.weak {st : List Stmt} {t t' : TS} (p : PSsT X st t) (w : ∀ D σ H, t' D σ H → t D σ H) : PSsT X st t' := fun pins s σ H D h0 I h => p pins s σ H D h0 I (w D σ H h)
theorem saet_nil : PAT X [] (rdAE Γ W X.K (fun _ => .ok [])) := PAT.weak L2.pat_nil fun σ H Q ⟨B, ρ, G, ow, q⟩ => q [] G H (Ext.refl ow.gh) (reps_nil.mpr rfl)
theorem saet_cons {e : Expr} {es : List Expr} {fa : Env → R PV} {fb : Env → R (List PV)} (hs : starEach (e :: es) X.env = (false, eval e X.env) :: starEach es X.env) (ha : PET X e (rdE Γ W X.K .esc fa)) (hb : PAT X es (rdAE Γ W X.K fb)) :
    PAT X (e :: es) (rdAE Γ W X.K (fun ρ => (fa ρ).bind fun x => (fb ρ).bind fun xs => .ok (x :: xs))) := by
  refine PAT.weak (L2.pat_cons ha hb hs) fun σ H Q ⟨B, ρ, G, ow, q⟩ => ⟨B, ρ, G, ow, (PK_bind.mp q).imp (fun x k v G1 H1 e1 r1 => ?_) fun _ z => z⟩
  refine ⟨B, ρ, G1, ow.step e1, (PK_bind.mp k).imp (fun xs k vs G2 H2 e2 r2 => ?_) fun _ z => Ke.step e1 z⟩
  exact k (v :: vs) G2 H2 (e1.trans e2) (reps_cons.mpr ⟨v, vs, rfl, Rep.mono (e2.gg e1.gh) r1, r2⟩)
theorem set_lst {es : List Expr} {pos : Pos} {fa : Env → R (List PV)} (hl : es.length ≤ LIM) (hn : ∀ ρ xs, fa ρ = .ok xs → xs.length = es.length) (ha : PAT X es (rdAE Γ W X.K fa)) : PET X (.List es pos) (rdE Γ W X.K .fre (fun ρ => (fa ρ).bind fun xs => .ok (.lst xs))) := by
  refine PET.weak (pet_lst ha) fun σ H Q ⟨B, ρ, G, ow, q⟩ => ⟨B, ρ, G, ow, ?_⟩
  have q := PK_bind.mp q
  cases e : fa ρ with
  | bad => rw [e] at q; exact q
  | exn c => rw [e] at q; exact q
  | ok xs =>
    rw [e] at q
    intro vs G1 H1 e1 r1
    refine ⟨?_, fun p hp => q _ _ _ (e1.trans (Ext.fresh e1.gh hp)) ⟨p, vs, rfl, e1.hh.free hp, e1.gh.free hp, upd_same, r1⟩⟩
    rw [r1.length, hn ρ xs e]
    exact Nat.le_trans hl lim_line
theorem set_esc {e : Expr} {f : Env → R PV} (h : PET X e (rdE Γ W X.K .fre f)) : PET X e (rdE Γ W X.K .esc f) := by
  refine PET.weak h fun σ H Q ⟨B, ρ, G, o, q⟩ => ⟨B, ρ, G, o, q.imp (fun x k v G' H' ex rf => ?_) fun _ z => z⟩
  obtain ⟨G2, e2, r2⟩ := RepF.settle ex rf
  exact k v G2 H' e2 r2
/-- one written text put for another -/
theorem set_rp {x y z : Str} {j k : Nat} {p c0 c1 apos pos : Pos} {fk : Env → R PV} (ho : SE Γ W X .bor (.Name x p) fk) (hyz : (y == z) = false) (hline : (apos.endLine == pos.line) = true) :
    PET X (.Call (.Attribute (.Name x p) "replace" apos) [.Constant (.str y) j c0, .Constant (.str z) k c1] [] pos) (rdE Γ W X.K .esc (fun ρ => (fk ρ).bind fun v => pRepl v y z)) := by
  refine PET.weak (CwR.pet_replC ho hyz rfl rfl hline) fun σ H Q ⟨B, ρ, G, ow, q⟩ => ⟨B, ρ, G, ow, (PK_bind.mp q).imp (fun w k v G1 H1 e1 r1 => ?_) fun _ z => z⟩
  cases w with
  | str a =>
    have rv : v = .str a := RepT.str (show RepT X.K G1 H1 _ _ from r1)
    subst rv
    replace k : PK (if a.length ≤ 100000 ∧ z.length ≤ 100 then R.ok (PV.str (Txt.replace a y z)) else .bad) _ _ := k
    split at k
    · rename_i hl
      refine ⟨a, rfl, ?_, k _ G1 H1 e1 (show Rep X.K G1 _ _ from rep_str')⟩
      have := Nat.mul_le_mul (show a.length + 1 ≤ 100001 by omega) hl.2
      omega
    · exact k.elim
  | _ => exact k.elim
/-- a store, one token out -/
theorem pst_set {i : Nat} {x : Str} {e : Expr} {te : TE} {p pos : Pos} (hN : X.N.Nodup) (hi : X.N[i]? = some x) (hx : Loc X.env.scope x) (he : PET X e te) (hs : swapsWith e (some (.Name x p)) pos.line X.env = pure false) (hf : X.fn x = true ∨ X.env.scope.names.lookup x = some .local) :
    PST X (.Assign [.Name x p] e pos) (tAsg te (gName i)) := by
  intro pins s σ H D h0 I h
  refine wpAny_Assign_Name (thn (he pins s σ H _ h0 I h) fun v s1 ⟨y, H1, I1, r1, q1⟩ => ?_) hs
  exact store_ok I1 hN hi hx r1 (fun s2 I2 => ⟨_, H1, I2, q1⟩) hf
theorem sst_set (o : XOk Γ N sc so W X) {i : Nat} {x : Str} {e : Expr} {p pos : Pos} {f : Env → R PV} (hn : N[i]? = some x) (hl : loc so x = true) (hs : swapsWith e (some (.Name x p)) pos.line X.env = pure false) (he : PET X e (rdE Γ W X.K .esc f)) :
    PST X (.Assign [.Name x p] e pos) (rdS Γ W X.K fr (fun ρ => RS.of (f ρ) ρ fun v => if i < ρ.length then .next (ρ.set i (.sh v)) else .bad)) := by
  obtain ⟨l1, l2⟩ := o.loc hl
  refine PST.weak (pst_set (i := i) (by rw [o.hN]; exact o.nd) (o.Nx hn) l1 he hs l2) fun D σ H ⟨B, ρ, G, ow, q⟩ => ?_
  exact of_rd ow rfl q fun x v G' H' ex rv hk => setName (ow.step ex) rv hk
/-- the block behind a store that puts a token out -/
theorem then_assoc (a : RS) (f g : Env → RS) : (a.then f).then g = a.then fun ρ => (f ρ).then g := by cases a <;> rfl
theorem rdS_then {K : PySem.W.Frag} {f g : Env → RS} {D : Ends} {σ : L2.St} {H : Hp} (h : rdS Γ W K fr (fun ρ => (f ρ).then g) D σ H) : rdS Γ W K fr f { D with nx := rdS Γ W K fr g D } σ H := by
  obtain ⟨B, ρ, G, ow, q⟩ := h
  refine ⟨B, ρ, G, ow, ?_⟩
  have q : PostS Γ W K fr B ((f ρ).then g) D := q
  cases e : f ρ with
  | next ρ1 =>
    rw [e] at q
    exact fun σ1 G1 H1 o1 => ⟨B, ρ1, G1, o1, q⟩
  | brk ρ1 => rw [e] at q; exact q
  | cnt ρ1 => rw [e] at q; exact q
  | ret v => rw [e] at q; exact q
  | exn c ρ1 => rw [e] at q; exact q
  | bad => rw [e] at q; exact q
theorem sss_jnr (o : XOk Γ N sc so W X) {i j : Nat} {c y y2 : Str} {jj : Nat} {c0 p p2 apos cpos pos pos2 : Pos} {f l : Expr} {fb fl : Env → R PV} {rest : List Stmt} {g : Env → RS} (hi : N[i]? = some y) (hl : loc so y = true) (hj : N[j]? = some y2) (hl2 : loc so y2 = true)
    (hs : swapsWith (.Call (.Attribute (.Constant (.str c) jj c0) "join" apos) [f] [] cpos) (some (.Name y p)) pos.line X.env = pure false) (hs2 : swapsWith l (some (.Name y2 p2)) pos2.line X.env = pure false)
    (gb : good f = true) (hline : (apos.endLine == cpos.line) = true) (hb : SE Γ W X .bor f fb) (hr : PET X l (rdE Γ W X.K .esc fl)) (h2 : SSs Γ W fr X rest g) :
    SSs Γ W fr X (.Assign [.Name y p] (.Call (.Attribute (.Constant (.str c) jj c0) "join" apos) [f] [] cpos) pos :: .Assign [.Name y2 p2] l pos2 :: rest)
      (fun ρ => ((RS.of ((fb ρ).bind fun v => pJoin (.str c) v) ρ fun v => if i < ρ.length then .next (ρ.set i (.sh v)) else .bad).then fun ρ => RS.of (fl ρ) ρ fun v => if j < ρ.length then .next (ρ.set j (.sh v)) else .bad).then g) := by
  refine ⟨fun pins s σ H D I h => ?_⟩
  obtain ⟨l1, l2⟩ := o.loc hl
  have h : rdS Γ W X.K fr (fun ρ => (RS.of ((fb ρ).bind fun v => pJoin (.str c) v) ρ fun v => if i < ρ.length then .next (ρ.set i (.sh v)) else .bad).then fun ρ => (RS.of (fl ρ) ρ fun v => if j < ρ.length then .next (ρ.set j (.sh v)) else .bad).then g) D σ H := by
    obtain ⟨B, ρ, G, ow, q⟩ := h
    refine ⟨B, ρ, G, ow, ?_⟩
    have q : PostS Γ W X.K fr B (((RS.of ((fb ρ).bind fun v => pJoin (.str c) v) ρ fun v => if i < ρ.length then .next (ρ.set i (.sh v)) else .bad).then fun ρ => RS.of (fl ρ) ρ fun v => if j < ρ.length then .next (ρ.set j (.sh v)) else .bad).then g) D := q
    rw [then_assoc] at q
    exact q
  have h1 := rdS_then h
  have rest2 : PSsT X (.Assign [.Name y2 p2] l pos2 :: rest) (rdS Γ W X.K fr fun ρ => (RS.of (fl ρ) ρ fun v => if j < ρ.length then .next (ρ.set j (.sh v)) else .bad).then g) :=
    PSsT.weak (psst_cons (sst_set o hj hl2 hs2 hr) (PSsT.of h2)) fun D σ H h => rdS_then h
  obtain ⟨B, ρ, G, ow, q⟩ := h1
  have q' : rdE Γ W X.K .esc (fun ρ => (fb ρ).bind fun v => pJoin (.str c) v) σ H fun v H1 => rdS Γ W X.K fr (fun ρ => (RS.of (fl ρ) ρ fun v => if j < ρ.length then .next (ρ.set j (.sh v)) else .bad).then g) D (σ.set i (some v)) H1 :=
    of_rd ow rfl q fun x v G' H' ex rv hk => setName (ow.step ex) rv hk
  refine wpAny_execs_cons (wpAny_Assign_Name (thn (se_joi1 rfl gb hline hb I q') fun v s1 ⟨hk, u, H1, I1, r1, q1⟩ => ?_) hs)
  refine wpAny_mono (PySem.wpAny_toks (store_ok (v := u) (u := v) (Q := fun _ s2 => Inv X pins (σ.set i (some u)) H1 s2) I1 (by rw [o.hN]; exact o.nd) (o.Nx hi) l1 r1 (fun _ I2 => I2) l2)) (fun _ s2 q => ?_) fun _ _ z => z.2
  have hk2 : s1.toks ≤ s2.toks := q.1
  exact rest2 pins s2 _ H1 D (Nat.le_trans hk hk2) q.2 q1
end
end Pf

set_option Elab.async false
set_option linter.all false
set_option maxRecDepth 100000
set_option autoImplicit false
set_option maxHeartbeats 4000000
/-! PfA: a core block that matches a written one computes what that one does; a def; the law's end -/
namespace Pf
open PySem PySem.Spec L2
variable [Tbc] [Tlc]

def isComp : Expr → Bool
  | .ListComp _ _ _ _ => true
  | _ => false
/-- how a name takes a comprehension -/
def compTo (sc : Scope) (x : Str) (py : Pos) : Expr → Bool
  | .ListComp _ _ scope pos => (match sc.names.lookup x with
    | some .local => (py.line == pos.line) && !(scope.names.any fun (n, k) => n == x && (k == .local || k == .cell))
    | some .cell => true
    | _ => false)
  | e => noComp e
def isTup : Expr → Bool
  | .Tuple _ _ _ => true
  | _ => false
/-- a tuple is unpacked: none that is written out, but for names that are cells -/
def unpOk (sc : Scope) (es : List Expr) (e : Expr) : Bool := !isTup e || (match es with
  | [.Name x _, .Name y _] => decide (sc.names.lookup x = some .cell) || decide (sc.names.lookup y = some .cell)
  | _ => false)
def PX.modeOk (nm : Nm) (fr : Bool) (x : PX) : Bool := if fr then x.isF nm else !x.isB
/-- an except suite: plain stores -/
def mHs (nm : Nm) (sc so : Scope) : List PSt → List Stmt → Bool
  | [], [] => true
  | .set i x :: ps, .Assign [.Name y p] e _ :: ss => decide (nm.N[i]? = some y) && loc so y && compTo sc y p e && mE nm sc so x e && (!x.isB && !x.isX) && mHs nm sc so ps ss
  | _, _ => false
/-- lists are told, a first one of them is changed, and all is forgotten -/
def mScr (nm : Nm) (sc so : Scope) (i k : Nat) (es : PXs) : Stmt → Stmt → Bool
  | .Assign [.Name y _] (.Call (.Name x p2) (e :: as) [] p3) _, .If c [.Expr (.Call (.Attribute (.Subscript (.Name y2 _) (.Constant (.int 0) _ _) _) at_ apos) [.Constant (.int _) _ _] [] cpos) _] [] _ =>
    decide (nm.N[i]? = some y) && loc so y && vis sc y && decide (y2 = y) && decide (at_ = "append") && (apos.endLine == cpos.line) && (match nm.fn[k]? with
      | some p => decide (p.1 = x) && !p.2
      | none => false) && glb sc x && noComp (.Call (.Name x p2) (e :: as) [] p3) && mEs nm sc so es (e :: as) && !es.hasB && !nm.hot && mE nm sc so (.cmp .gt (.bi .len (.cons (.var i) .nil)) (.int 0)) c
  | _, _ => false
/-- lists in a told tuple are changed behind a test, and all is forgotten -/
def mWrk (nm : Nm) (fr : Bool) (sc so : Scope) (i k : Nat) (es : PXs) (x0 : PX) : Stmt → Stmt → Stmt → Stmt → Bool
  | .Assign [.Name y _] (.Call (.Name x p2) (e :: as) [] p3) _, .If c [.Return (some b) _] [] _, .Expr (.Call (.Attribute (.Subscript (.Name y2 _) (.Constant (.int 0) _ _) _) at_ apos) [.Constant (.int _) _ _] [] cpos) _, .Expr (.Call (.Attribute (.Subscript (.Name y3 _) (.Constant (.int 1) _ _) _) at2 apos2) [] [] cpos2) _ =>
    decide (nm.N[i]? = some y) && loc so y && vis sc y && decide (y2 = y) && decide (y3 = y) && decide (at_ = "append") && decide (at2 = "clear") && (apos.endLine == cpos.line) && (apos2.endLine == cpos2.line) && (match nm.fn[k]? with
      | some p => decide (p.1 = x) && !p.2
      | none => false) && glb sc x && noComp (.Call (.Name x p2) (e :: as) [] p3) && mEs nm sc so es (e :: as) && !es.hasB && !nm.hot && mE nm sc so x0 c && x0.isT && mE nm sc so (.bl false) b && PX.modeOk nm fr (.bl false)
  | _, _, _, _ => false
/-- texts made of a name's text -/
def mRs (nm : Nm) (sc so : Scope) : List RI → List Expr → Bool
  | [], [] => true
  | .px a :: r, e :: es => mE nm sc so a e && !a.isB && mRs nm sc so r es
  | .rp k y z :: r, .Call (.Attribute (.Name x p) at_ apos) [.Constant (.str y') _ _, .Constant (.str z') _ _] [] pos :: es => mE nm sc so (.var k) (.Name x p) && decide (at_ = "replace") && decide (y' = y) && decide (z' = z) && !(y == z) && (apos.endLine == pos.line) && mRs nm sc so r es
  | _, _ => false
/-- a joined text is stored, then a list of texts made of it -/
def mJnr (nm : Nm) (sc so : Scope) (i : Nat) (c : Str) (b : PX) (j : Nat) (its : List RI) : Stmt → Stmt → Bool
  | .Assign [.Name y _] (.Call (.Attribute (.Constant (.str c') jj c0) at_ apos) [f] [] cpos) _, .Assign [.Name y2 _] (.List es lpos) _ =>
    decide (nm.N[i]? = some y) && loc so y && decide (c' = c) && decide (at_ = "join") && (apos.endLine == cpos.line) && noComp (.Call (.Attribute (.Constant (.str c') jj c0) at_ apos) [f] [] cpos) && mE nm sc so b f && decide (nm.N[j]? = some y2) && loc so y2 && noComp (.List es lpos) && mRs nm sc so its es && decide (es.length ≤ LIM)
  | _, _ => false
/-- arguments, the last one an owned list that is given away -/
def mM (nm : Nm) (sc so : Scope) (j : Nat) : PXs → List Expr → Bool
  | .nil, [.Name y _] => decide (nm.N[j]? = some y) && vis sc y
  | .cons x xs, e :: es => mE nm sc so x e && !x.isB && mM nm sc so j xs es
  | _, _ => false
section
variable (nm : Nm) (fr : Bool)
mutual
def mS (sc so : Scope) : PSt → Stmt → Bool
  | .set i x, .Assign [.Name y p] e _ => decide (nm.N[i]? = some y) && loc so y && compTo sc y p e && mE nm sc so x e && (!x.isB && !x.isX)
  | .seto i x, .Assign [.Name y p] e _ => decide (nm.N[i]? = some y) && loc so y && compTo sc y p e && mE nm sc so x e && (x.isF nm && !x.isX)
  | .unp tg x, .Assign [.Tuple es _ _] e _ => mNames nm.N so tg es && noComp e && unpOk sc es e && mE nm sc so x e && !x.isB && !nm.hot
  | .unpM tg k es j, .Assign [.Tuple ts _ _] (.Call (.Name x p2) (e :: as) [] p3) _ => mNames nm.N so tg ts && decide (nm.fn.length ≤ k) && decide (nm.fno[k - nm.fn.length]? = some x) && glb sc x && noComp (.Call (.Name x p2) (e :: as) [] p3) && mM nm sc so j es (e :: as) && !nm.hot
  | .unpF i j k es, .Assign [.Tuple ts _ _] (.Call (.Name x p2) (e :: as) [] p3) _ => mNames nm.N so [i, j] ts && decide (i ≠ j) && (match nm.fn[k]? with
    | some p => decide (p.1 = x) && !p.2
    | none => false) && glb sc x && noComp (.Call (.Name x p2) (e :: as) [] p3) && mEs nm sc so es (e :: as) && !es.hasB && !nm.hot
  | .par i j a b, .Assign [.Tuple [.Name x px, .Name y py] _ _] (.Tuple [e, f] _ _) _ => decide (nm.N[i]? = some x) && decide (nm.N[j]? = some y) && decide (i ≠ j) && decide (x ≠ y) && decide (sc.names.lookup x = some .local) && decide (sc.names.lookup y = some .local) &&
      decide (py.line = px.line) && !([e, f].all (foldedForSure 8)) && !([e, f].all (constantsAlone 8)) && mE nm sc so a e && !a.isB && mE nm sc so b f && !b.isB && !nm.hot
  | .swp i k l a b, .Assign [.Tuple [.Subscript (.Name x _) k' _, .Subscript (.Name y _) l' _] _ _] (.Tuple [e, f] _ _) _ => decide (nm.N[i]? = some x) && decide (x = y) && vis sc x && mE nm sc so k k' && mE nm sc so l l' && mE nm sc so a e && !a.isB && mE nm sc so b f && !b.isB && !nm.hot
  | .dnew i, .Assign [.Name y _] (.Dict [] [] _) _ => decide (nm.N[i]? = some y) && loc so y
  | .dput i k x, .Assign [.Subscript (.Name y _) ie _] e _ => decide (nm.N[i]? = some y) && vis sc y && mE nm sc so k ie && mE nm sc so x e && !x.isB && !k.isB
  | .setix i ix x, .Assign [.Subscript (.Name y _) ie _] e _ => decide (nm.N[i]? = some y) && vis sc y && mE nm sc so ix ie && mE nm sc so x e && !x.isB
  | .app i x, .Expr (.Call (.Attribute (.Name y _) at_ apos) [e] [] cpos) _ => decide (nm.N[i]? = some y) && decide (at_ = "append") && vis sc y && (apos.endLine == cpos.line) && mE nm sc so x e && !x.isB
  | .ext i x, .Expr (.Call (.Attribute (.Name y _) at_ apos) [e] [] cpos) _ => decide (nm.N[i]? = some y) && decide (at_ = "extend") && vis sc y && (apos.endLine == cpos.line) && mE nm sc so x e && !x.isB
  | .appP i j ix, .Expr (.Call (.Attribute (.Name y _) at_ apos) [.Call (.Attribute (.Name y2 _) at2 apos2) [ie] [] cpos2] [] cpos) _ => decide (nm.N[i]? = some y) && decide (at_ = "append") && vis sc y && (apos.endLine == cpos.line) && decide (nm.N[j]? = some y2) && decide (at2 = "pop") && vis sc y2 && (apos2.endLine == cpos2.line) && decide (i ≠ j) && mE nm sc so ix ie && !ix.isB
  | .clr i, .Expr (.Call (.Attribute (.Name y _) at_ apos) [] [] cpos) _ => decide (nm.N[i]? = some y) && decide (at_ = "clear") && vis sc y && (apos.endLine == cpos.line)
  | .pop i, .Expr (.Call (.Attribute (.Name y _) at_ apos) [] [] cpos) _ => decide (nm.N[i]? = some y) && decide (at_ = "pop") && vis sc y && (apos.endLine == cpos.line)
  | .ite c a b, .If e s t _ => mE nm sc so c e && c.isT && mSs sc so a s && mSs sc so b t
  | .reto i, .Return (some (.Name y _)) _ => decide (nm.N[i]? = some y) && vis sc y
  | .ret x, .Return (some e) _ => mE nm sc so x e && x.modeOk nm fr
  | .pass, .Pass _ => true
  | .brk, .Break _ => true
  | .cnt, .Continue _ => true
  | .forS tg tp it body, .For t e s [] _ => mTgt nm.N so tg tp t && mI nm sc so it t e && !it.hasB && mSs sc so body s && !nm.hot
  | .whl _ c body, .While e s [] _ => mE nm sc so c e && c.isT && mSs sc so body s
  | .exp x, .Expr e _ => mE nm sc so x e && noComp e && !x.isB
  | .told (some i) k, .Assign [.Name y _] (.Call (.Name a p1) [] [] p2) _ => decide (nm.N[i]? = some y) && loc so y && decide (nm.tl = some a) && decide (k = nm.fn.length + nm.fno.length + nm.fnl.length) && noComp (.Call (.Name a p1) [] [] p2) && !nm.hot
  | .told none k, .Expr (.Call (.Name a p1) [] [] p2) _ => decide (nm.tl = some a) && decide (k = nm.fn.length + nm.fno.length + nm.fnl.length) && noComp (.Call (.Name a p1) [] [] p2) && !nm.hot
  | .raise c, .Raise (some (.Call (.Name x _) [.Constant (.str _) _ _] [] _)) none _ => nm.ec.ex.contains (x, c) && glb sc x && !nm.hot
  | .tryN c body rs h, .Try bs [.ExceptHandler (some (.Name x _)) none (b₀ :: suite) _] [] [] _ => nm.ec.ex.contains (x, c) && glb sc x && rs.all (fun d => nm.ec.ct.contains (d, c)) && mSs sc so body bs && mHs { nm with hot := true } sc so h (b₀ :: suite)
  | .tryS body rs i h, .Try bs [.ExceptHandler (some (.Name x _)) (some n) (b₀ :: suite) _] [] [] _ => decide (nm.N[i]? = some n) && decide (sc.names.lookup n = some .local) && nm.ec.ex.contains (x, 0) && glb sc x && decide (rs = nm.ec.rs) && mSs sc so body bs && mHs { nm with hot := true } sc so h (b₀ :: suite)
  | _, _ => false
def mSs (sc so : Scope) : List PSt → List Stmt → Bool
  | [], [] => true
  | .frz _ :: ps, ss => mSs sc so ps ss
  | .kil _ :: ps, ss => mSs sc so ps ss
  | .jnr i c b j its :: ps, s :: ss => (match ss with
    | s2 :: ss' => mJnr nm sc so i c b j its s s2 && mSs sc so ps ss'
    | [] => false)
  | .scr i k es :: ps, s :: ss => (match ss with
    | s2 :: ss' => mScr nm sc so i k es s s2 && mSs sc so ps ss'
    | [] => false)
  | .wrk i k es c :: ps, s :: ss => (match ss with
    | s2 :: s3 :: s4 :: ss' => mWrk nm fr sc so i k es c s s2 s3 s4 && mSs sc so ps ss'
    | _ => false)
  | p :: ps, s :: ss => mS sc so p s && mSs sc so ps ss
  | _, _ => false
end
end

section
variable {Γ : Gt} {nm : Nm} {fr : Bool}
theorem comp_parts (hnm : nm.Of Γ) {el : PX} {tg : List Nat} {tp : Bool} {it : PIt} {c : PX} {e t i : Expr} {ifs : List Expr} {a : Int} {scope : Scope} {pos : Pos} {sc so : Scope} {W : WX} {X : Cx} (o : XOk Γ nm.N sc so W X) (h : mE nm sc so (.comp el tg tp it c) (.ListComp e [⟨t, i, ifs, a⟩] scope pos) = true) :
    Γ.hot = false ∧ a = 0 ∧ Parts Γ W X e t i ifs scope tg tp nm.N (evI (fsOf Γ) (csOf Γ) it) (evE (fsOf Γ) (csOf Γ) el) (evE (fsOf Γ) (csOf Γ) c) := by
  simp only [mE, Bool.and_eq_true, decide_eq_true_eq, Bool.not_eq_true'] at h
  obtain ⟨⟨⟨⟨⟨⟨⟨hh, h1⟩, h2⟩, h3⟩, h4⟩, h5⟩, h6⟩, h7⟩ := h
  rw [hnm.hot] at hh
  have bk := blkOk_by h4
  refine ⟨hh, h1, (sI hnm it _ _ o h2).bor, by rw [o.hN, o.hsc]; exact bk, fun s H C cl fp => pg_tgt (xok_blk o bk.kind s H C cl fp) hh h3, fun s H C cl fp => ?_, fun s H C cl fp => (sE hnm el _ (xok_blk o bk.kind s H C cl fp) h5).esc h6, good_fold (good_mI h2) _⟩
  split at h7
  · cases c <;> first | (cases h7; done) | skip
    rename_i b
    cases b
    · cases h7
    · refine ⟨fun pins s σ H Q I ⟨B, ρ, G, ow, q⟩ => pts_nil.run pins s σ H Q I ?_⟩
      simp only [evE] at q
      obtain ⟨b, eb, q⟩ := q
      cases eb
      exact q G H (Ext.refl ow.gh)
  · simp only [Bool.and_eq_true] at h7
    exact pts_one ((sE hnm c _ (xok_blk o bk.kind s H C cl fp) h7.1).tst h7.2)
  · cases h7
/-- a store to a name: any expression, a comprehension in its own way -/
theorem ss_to (hnm : nm.Of Γ) {sc so : Scope} {W : WX} {X : Cx} (o : XOk Γ nm.N sc so W X) {i : Nat} {x : PX} {y : Str} {p pos : Pos} {e : Expr} (hn : nm.N[i]? = some y) (hl : loc so y = true) (hc : compTo sc y p e = true) (h : mE nm sc so x e = true) (own : Bool)
    (hx0 : (if own then x.isF nm && !x.isX else !x.isB && !x.isX) = true) :
    SS Γ W fr X (.Assign [.Name y p] e pos) (fun ρ => RS.of (evE (fsOf Γ) (csOf Γ) x ρ) ρ fun v => if own then setOwR ρ i v else if i < ρ.length then .next (ρ.set i (.sh v)) else .bad) := by
  have hX : x.isX = false := by
    cases own
    · have hx0 : (!x.isB && !x.isX) = true := hx0
      rw [Bool.and_eq_true, Bool.not_eq_true', Bool.not_eq_true'] at hx0
      exact hx0.2
    · have hx0 : (x.isF nm && !x.isX) = true := hx0
      rw [Bool.and_eq_true, Bool.not_eq_true'] at hx0
      exact hx0.2
  have hx : (if own then x.isF nm else !x.isB) = true := by
    cases own
    · have hx0 : (!x.isB && !x.isX) = true := hx0
      rw [Bool.and_eq_true] at hx0
      exact hx0.1
    · have hx0 : (x.isF nm && !x.isX) = true := hx0
      rw [Bool.and_eq_true] at hx0
      exact hx0.1
  have plain : swapsWith e (some (.Name y p)) pos.line X.env = pure false → SS Γ W fr X (.Assign [.Name y p] e pos) (fun ρ => RS.of (evE (fsOf Γ) (csOf Γ) x ρ) ρ fun v => if own then setOwR ρ i v else if i < ρ.length then .next (ρ.set i (.sh v)) else .bad) := fun hs => by
    have s := sE hnm x e o h
    cases own with
    | true => exact ss_seto o hn hl hs (s.fre hx)
    | false =>
      have hx : (!x.isB) = true := hx
      rw [Bool.not_eq_true'] at hx
      exact ss_set o hn hl hs (s.esc hx)
  unfold compTo at hc
  split at hc
  · rename_i el gs scope cpos
    split at hc
    · rename_i hloc
      rw [Bool.and_eq_true, Bool.not_eq_true'] at hc
      have hm := h
      unfold mE at h
      split at h
      all_goals first
        | (exact absurd h Bool.false_ne_true)
        | skip
      all_goals first
        | (rename_i q; cases q; done)
        | skip
      · exact absurd hX (by simp [PX.isX])
      rename_i q
      cases q
      obtain ⟨hh, ha, P⟩ := comp_parts hnm o hm
      subst ha
      refine ss_setLc (k := fun ρ v => if own then setOwR ρ i v else if i < ρ.length then .next (ρ.set i (.sh v)) else .bad) o hh hn hloc hc.1 hc.2 P ?_ fun B ρ σ G H G1 H1 x v D ow ex rv hk => ?_
      · funext ρ
        simp only [evE]
      · cases own with
        | true => exact setOwn ow ex rv hk
        | false =>
          obtain ⟨G2, e2, r2⟩ := RepF.settle ex rv
          exact setName (ow.step e2) r2 hk
    · rename_i hcell
      exact plain (sw_cell (by rw [o.hsc]; exact hcell))
    · cases hc
  · exact plain (good_swap hc _ _ _)
theorem swap_none {es : List Expr} {k : Nat} {p : Pos} {e : Expr} {env : PySem.Env} (h : isTup e = false) : swappedStores [.Tuple es k p] e env = pure none := by
  cases e <;> first | rfl | (cases h; done)
theorem swap_cell {env : PySem.Env} {x y : Str} {px py p pv : Pos} {k k2 : Nat} {vs : List Expr} (h : env.kindOf x = some .cell ∨ env.kindOf y = some .cell) : swappedStores [.Tuple [.Name x px, .Name y py] k p] (.Tuple vs k2 pv) env = pure none := by
  unfold swappedStores
  simp only [List.length_cons, List.length_nil, List.filterMap_cons, List.filterMap_nil]
  have nl : ((some NameKind.cell : Option NameKind) == some NameKind.local) = false := rfl
  rcases h with h | h
  · simp only [h, nl, Bool.false_and, Bool.false_eq_true, if_false]
    split
    · rfl
    · split
      · rfl
      · split <;> simp
  · simp only [h, nl, Bool.false_and, Bool.false_eq_true, if_false]
    split
    · rfl
    · split
      · rfl
      · split <;> simp
theorem unp_swap {sc : Scope} {es : List Expr} {k : Nat} {p : Pos} {e : Expr} {env : PySem.Env} (hs : env.scope = sc) (h : unpOk sc es e = true) : swappedStores [.Tuple es k p] e env = pure none := by
  unfold unpOk at h
  rw [Bool.or_eq_true, Bool.not_eq_true'] at h
  rcases h with h | h
  · exact swap_none h
  · split at h
    · rw [Bool.or_eq_true, decide_eq_true_eq, decide_eq_true_eq] at h
      by_cases ht : isTup e = true
      · cases e <;> first | (cases ht; done) | skip
        refine swap_cell (h.imp (fun q => ?_) fun q => ?_) <;> (unfold PySem.Env.kindOf; rw [hs]; exact q)
      · exact swap_none (by simpa using ht)
    · cases h
theorem mSs_ghost {i : Nat} {ps : List PSt} {sc so : Scope} {ss : List Stmt} : (mSs nm fr sc so (.frz i :: ps) ss = mSs nm fr sc so ps ss) ∧ (mSs nm fr sc so (.kil i :: ps) ss = mSs nm fr sc so ps ss) := by
  constructor <;> (cases ss <;> simp only [mSs])
theorem Nm.Of.heat (h : nm.Of Γ) : ({ nm with hot := true } : Nm).Of Γ.heat := ⟨h.fn, h.bl, h.cn, h.ec, rfl, h.fno, h.fnl, h.tl, h.lm⟩
theorem good_mM {nm : Nm} {sc so : Scope} {j : Nat} : ∀ {xs : PXs} {es : List Expr}, mM nm sc so j xs es = true → es.all good = true
  | .nil, [], h => by simp [mM] at h
  | .nil, [e], h => by
    cases e <;> first | rfl | (simp [mM] at h; done)
  | .nil, _ :: _ :: _, h => by simp [mM] at h
  | .cons _ _, [], h => by simp [mM] at h
  | .cons x xs, e :: es, h => by
    simp only [mM, Bool.and_eq_true] at h
    rw [List.all_cons, good_mE h.1.1, good_mM h.2]
    rfl
theorem sM {nm : Nm} {Γ : Gt} (hnm : nm.Of Γ) {j : Nat} : ∀ (xs : PXs) (es : List Expr) {sc so : Scope} {W : WX} {X : Cx}, XOk Γ nm.N sc so W X → mM nm sc so j xs es = true → PA X es (rdM Γ W X.K j (evEs (fsOf Γ) (csOf Γ) xs))
  | .nil, [], sc, so, W, X, o, h => by simp [mM] at h
  | .nil, [e], sc, so, W, X, o, h => by
    cases e with
    | Name y p =>
      simp only [mM, Bool.and_eq_true, decide_eq_true_eq] at h
      have e1 : evEs (fsOf Γ) (csOf Γ) .nil = fun _ => .ok [] := by
        funext ρ
        simp only [evEs]
      rw [e1]
      exact sam_nil o h.1 h.2
    | _ => simp [mM] at h
  | .nil, _ :: _ :: _, sc, so, W, X, o, h => by simp [mM] at h
  | .cons _ _, [], sc, so, W, X, o, h => by simp [mM] at h
  | .cons x xs, e :: es, sc, so, W, X, o, h => by
    simp only [mM, Bool.and_eq_true, Bool.not_eq_true'] at h
    obtain ⟨⟨h1, h2⟩, h3⟩ := h
    have e1 : evEs (fsOf Γ) (csOf Γ) (.cons x xs) = fun ρ => (evE (fsOf Γ) (csOf Γ) x ρ).bind fun v => (evEs (fsOf Γ) (csOf Γ) xs ρ).bind fun vs => .ok (v :: vs) := by
      funext ρ
      simp only [evEs]
    rw [e1]
    exact sam_cons (good_mE h1) ((sE hnm x e o h1).esc h2) (sM hnm xs es o h3)
theorem sHs (hnm : nm.Of Γ) : ∀ (ps : List PSt) (ss : List Stmt) {sc so : Scope} {W : WX} {X : Cx}, XOk Γ nm.N sc so W X → mHs nm sc so ps ss = true → SSs Γ W fr X ss (evSs (fsOf Γ) (csOf Γ) fr ps)
  | [], ss, sc, so, W, X, o, h => by
    cases ss with
    | nil =>
      have e1 : evSs (fsOf Γ) (csOf Γ) fr [] = fun ρ => .next ρ := by
        funext ρ
        simp only [evSs]
      rw [e1]
      exact sss_nil
    | cons _ _ => simp [mHs] at h
  | p :: ps, ss, sc, so, W, X, o, h => by
    unfold mHs at h
    split at h
    all_goals first
      | (exact absurd h Bool.false_ne_true)
      | skip
    · rename_i q
      cases q
    · rename_i i x ps' y yp e spos ss' q
      cases q
      simp only [Bool.and_eq_true] at h
      obtain ⟨⟨⟨⟨⟨h1, h2⟩, h3⟩, h4⟩, h5⟩, h6⟩ := h
      have e1 : evSs (fsOf Γ) (csOf Γ) fr (.set i x :: ps) = fun ρ => (RS.of (evE (fsOf Γ) (csOf Γ) x ρ) ρ fun v => if false then setOwR ρ i v else if i < ρ.length then .next (ρ.set i (.sh v)) else .bad).then (evSs (fsOf Γ) (csOf Γ) fr ps) := by
        funext ρ
        simp only [evSs, evS, Bool.false_eq_true, if_false]
      rw [e1]
      exact sss_cons (ss_to hnm o (of_decide_eq_true h1) h2 h3 h4 false (by rw [if_neg (by decide), Bool.and_eq_true]; exact h5)) (sHs hnm ps ss' o h6)
theorem evRs_len {fs : List Sem1} {cs : List PV} : ∀ {its : List RI} {ρ : Env} {xs : List PV}, evRs fs cs its ρ = .ok xs → xs.length = its.length
  | [], _, _, h => by
    cases h
    rfl
  | .px e :: r, ρ, xs, h => by
    have h : ((evE fs cs e ρ).bind fun x => (evRs fs cs r ρ).bind fun xs => .ok (x :: xs)) = R.ok xs := h
    cases e1 : evE fs cs e ρ with
    | ok x =>
      cases e2 : evRs fs cs r ρ with
      | ok ys =>
        rw [e1, e2] at h
        cases h
        exact congrArg (· + 1) (evRs_len e2)
      | exn c => rw [e1, e2] at h; cases h
      | bad => rw [e1, e2] at h; cases h
    | exn c => rw [e1] at h; cases h
    | bad => rw [e1] at h; cases h
  | .rp k y z :: r, ρ, xs, h => by
    have h : (((evE fs cs (.var k) ρ).bind fun x => pRepl x y z).bind fun x => (evRs fs cs r ρ).bind fun xs => .ok (x :: xs)) = R.ok xs := h
    cases e1 : ((evE fs cs (.var k) ρ).bind fun x => pRepl x y z) with
    | ok x =>
      cases e2 : evRs fs cs r ρ with
      | ok ys =>
        rw [e1, e2] at h
        cases h
        exact congrArg (· + 1) (evRs_len e2)
      | exn c => rw [e1, e2] at h; cases h
      | bad => rw [e1, e2] at h; cases h
    | exn c => rw [e1] at h; cases h
    | bad => rw [e1] at h; cases h
theorem sRs (hnm : nm.Of Γ) : ∀ (its : List RI) (es : List Expr) {sc so : Scope} {W : WX} {X : Cx}, XOk Γ nm.N sc so W X → mRs nm sc so its es = true → PAT X es (rdAE Γ W X.K (evRs (fsOf Γ) (csOf Γ) its)) ∧ es.length = its.length
  | [], es, sc, so, W, X, o, h => by
    cases es with
    | nil => exact ⟨saet_nil, rfl⟩
    | cons _ _ => simp [mRs] at h
  | .px a :: r, es, sc, so, W, X, o, h => by
    cases es with
    | nil => simp [mRs] at h
    | cons e es =>
      simp only [mRs, Bool.and_eq_true, Bool.not_eq_true'] at h
      obtain ⟨⟨h1, h2⟩, h3⟩ := h
      obtain ⟨i1, i2⟩ := sRs hnm r es o h3
      exact ⟨saet_cons (good_star (good_mE h1) es _) (CwR.PET.of ((sE hnm a e o h1).esc h2)) i1, congrArg (· + 1) i2⟩
  | .rp k y z :: r, es, sc, so, W, X, o, h => by
    unfold mRs at h
    split at h
    · rename_i h0
      cases h0
    · rename_i h0
      cases h0
    · rename_i h0
      cases h0
      simp only [Bool.and_eq_true, Bool.not_eq_true', decide_eq_true_eq] at h
      obtain ⟨⟨⟨⟨⟨⟨h1, h2⟩, h3⟩, h4⟩, h5⟩, h6⟩, h7⟩ := h
      subst h2
      subst h3
      subst h4
      obtain ⟨i1, i2⟩ := sRs hnm r _ o h7
      exact ⟨saet_cons rfl (set_rp (sE hnm (.var k) _ o h1).bor h5 h6) i1, congrArg (· + 1) i2⟩
    · cases h
mutual
theorem sS (hnm : nm.Of Γ) : ∀ (p : PSt) (st : Stmt) {sc so : Scope} {W : WX} {X : Cx}, XOk Γ nm.N sc so W X → SOk Γ X → mS nm fr sc so p st = true → SS Γ W fr X st (evS (fsOf Γ) (csOf Γ) fr p)
  | .set i x, st, sc, so, W, X, o, hp, h => by
    unfold mS at h
    split at h
    all_goals first
      | (exact absurd h Bool.false_ne_true)
      | (rename_i q; cases q; done)
      | (rename_i q; cases q)
    simp only [Bool.and_eq_true, decide_eq_true_eq] at h
    obtain ⟨⟨⟨⟨h1, h2⟩, h3⟩, h4⟩, h5⟩ := h
    have e1 : evS (fsOf Γ) (csOf Γ) fr (.set i x) = fun ρ => RS.of (evE (fsOf Γ) (csOf Γ) x ρ) ρ fun v => if false then setOwR ρ i v else if i < ρ.length then .next (ρ.set i (.sh v)) else .bad := by
      funext ρ
      simp only [evS, Bool.false_eq_true, if_false]
    rw [e1]
    exact ss_to hnm o h1 h2 h3 h4 false (by rw [if_neg (by decide), Bool.and_eq_true]; exact h5)
  | .seto i x, st, sc, so, W, X, o, hp, h => by
    unfold mS at h
    split at h
    all_goals first
      | (exact absurd h Bool.false_ne_true)
      | (rename_i q; cases q; done)
      | (rename_i q; cases q)
    simp only [Bool.and_eq_true, decide_eq_true_eq] at h
    obtain ⟨⟨⟨⟨h1, h2⟩, h3⟩, h4⟩, h5⟩ := h
    have e1 : evS (fsOf Γ) (csOf Γ) fr (.seto i x) = fun ρ => RS.of (evE (fsOf Γ) (csOf Γ) x ρ) ρ fun v => if true then setOwR ρ i v else if i < ρ.length then .next (ρ.set i (.sh v)) else .bad := by
      funext ρ
      simp only [evS, if_true]
    rw [e1]
    exact ss_to hnm o h1 h2 h3 h4 true (by rw [if_pos rfl, Bool.and_eq_true]; exact h5)
  | .unp tg x, st, sc, so, W, X, o, hp, h => by
    unfold mS at h
    split at h
    all_goals first
      | (exact absurd h Bool.false_ne_true)
      | (rename_i q; cases q; done)
      | (rename_i q; cases q)
    simp only [Bool.and_eq_true, Bool.not_eq_true'] at h
    obtain ⟨⟨⟨⟨⟨h1, h2⟩, h3⟩, h4⟩, h5⟩, hh⟩ := h
    rw [hnm.hot] at hh
    have e1 : evS (fsOf Γ) (csOf Γ) fr (.unp tg x) = fun ρ => RS.of (evE (fsOf Γ) (csOf Γ) x ρ) ρ fun v => match asgT tg true v ρ with
      | some ρ' => .next ρ'
      | none => .bad := by
      funext ρ
      simp only [evS]
      all_goals rfl
    rw [e1]
    exact ss_unp o hh h1 (good_swap h2 _ _ _) (unp_swap o.hsc h3) ((sE hnm x _ o h4).esc h5)
  | .unpM tg k es j, st, sc, so, W, X, o, hp, h => by
    unfold mS at h
    split at h
    all_goals first
      | (exact absurd h Bool.false_ne_true)
      | (rename_i q; cases q; done)
      | (rename_i q; cases q)
    simp only [Bool.and_eq_true, Bool.not_eq_true', decide_eq_true_eq] at h
    obtain ⟨⟨⟨⟨⟨⟨h1, h2⟩, h3⟩, h4⟩, h5⟩, h6⟩, hh⟩ := h
    rw [hnm.hot] at hh
    obtain ⟨n, hn, nn, ns⟩ := fno_at hnm h2 h3
    subst nn
    have e1 : evS (fsOf Γ) (csOf Γ) fr (.unpM tg k es j) = fun ρ => RS.ofL (evEs (fsOf Γ) (csOf Γ) es ρ) ρ fun xs => (match ρ[j]? with
      | some (.ow zs) => RS.of (n.sem (xs ++ [.lst zs])) (ρ.set j .no) fun v => (match asgT tg true v (ρ.set j .no) with
        | some ρ' => .next ρ'
        | none => .bad)
      | _ => .bad) := by
      funext ρ
      simp only [evS]
      rw [← ns]
      all_goals rfl
    rw [e1]
    exact ss_unpM o hh hn h1 (good_mM h6) h4 (good_swap h5 _ _ _) (sM hnm es _ o h6)
  | .unpF i j k es, st, sc, so, W, X, o, hp, h => by
    unfold mS at h
    split at h
    all_goals first
      | (exact absurd h Bool.false_ne_true)
      | (rename_i q; cases q; done)
      | (rename_i q; cases q)
    simp only [Bool.and_eq_true, Bool.not_eq_true', decide_eq_true_eq] at h
    obtain ⟨⟨⟨⟨⟨⟨⟨h1, h2⟩, h3⟩, h4⟩, h5⟩, h6⟩, h7⟩, hh⟩ := h
    rw [hnm.hot] at hh
    split at h3
    · rename_i p hp2
      simp only [Bool.and_eq_true, Bool.not_eq_true', decide_eq_true_eq] at h3
      obtain ⟨n, hn, nn, nf, ns⟩ := fn_at hnm hp2
      have ex : n.name = _ := nn.trans h3.1
      subst ex
      have e1 : evS (fsOf Γ) (csOf Γ) fr (.unpF i j k es) = fun ρ => RS.ofL (evEs (fsOf Γ) (csOf Γ) es ρ) ρ fun xs => if nols xs then RS.of (n.sem xs) ρ fun v => unpTo ρ i j v else .bad := by
        funext ρ
        simp only [evS]
        rw [← ns]
        all_goals rfl
      rw [e1]
      exact ss_unpF o hh hn (nf.trans h3.2) h2 h1 (good_mEs h6).1 h4 (good_swap h5 _ _ _) ((sA hnm es _ o h6).esc h7)
    · cases h3
  | .par i j a b, st, sc, so, W, X, o, hp, h => by
    unfold mS at h
    split at h
    all_goals first
      | (exact absurd h Bool.false_ne_true)
      | (rename_i q; cases q; done)
      | (rename_i q; cases q)
    simp only [Bool.and_eq_true, Bool.not_eq_true', decide_eq_true_eq] at h
    obtain ⟨⟨⟨⟨⟨⟨⟨⟨⟨⟨⟨⟨⟨h1, h2⟩, h3⟩, h4⟩, h5⟩, h6⟩, h7⟩, h8⟩, h9⟩, h10⟩, h11⟩, h12⟩, h13⟩, hh⟩ := h
    rw [hnm.hot] at hh
    have e1 : evS (fsOf Γ) (csOf Γ) fr (.par i j a b) = fun ρ => RS.of (evE (fsOf Γ) (csOf Γ) a ρ) ρ fun v => RS.of (evE (fsOf Γ) (csOf Γ) b ρ) ρ fun w => if i < ρ.length ∧ j < ρ.length then .next ((ρ.set i (.sh v)).set j (.sh w)) else .bad := by
      funext ρ
      simp only [evS]
    rw [e1]
    exact ss_par o hh h1 h2 h3 h5 h6 h4 h7 (good_mE h10) (good_mE h12) h8 h9 ((sE hnm a _ o h10).esc h11) ((sE hnm b _ o h12).esc h13)
  | .swp i k l a b, st, sc, so, W, X, o, hp, h => by
    unfold mS at h
    split at h
    all_goals first
      | (exact absurd h Bool.false_ne_true)
      | (rename_i q; cases q; done)
      | (rename_i q; cases q)
    simp only [Bool.and_eq_true, Bool.not_eq_true', decide_eq_true_eq] at h
    obtain ⟨⟨⟨⟨⟨⟨⟨⟨⟨h1, h2⟩, h3⟩, h4⟩, h5⟩, h6⟩, h7⟩, h8⟩, h9⟩, hh⟩ := h
    rw [hnm.hot] at hh
    subst h2
    have e1 : evS (fsOf Γ) (csOf Γ) fr (.swp i k l a b) = fun ρ => RS.of (evE (fsOf Γ) (csOf Γ) a ρ) ρ fun v => RS.of (evE (fsOf Γ) (csOf Γ) b ρ) ρ fun w => putAt ρ i (evE (fsOf Γ) (csOf Γ) k ρ) v fun ρ1 => putAt ρ1 i (evE (fsOf Γ) (csOf Γ) l ρ1) w fun ρ2 => .next ρ2 := by
      funext ρ
      simp only [evS]
    rw [e1]
    exact ss_swp o hh h1 h3 (good_mE h4) (good_mE h5) (good_mE h6) (good_mE h8) ((sE hnm a _ o h6).esc h7) ((sE hnm b _ o h8).esc h9) (sE hnm k _ o h4).bor (sE hnm l _ o h5).bor
  | .setix i ix x, st, sc, so, W, X, o, hp, h => by
    unfold mS at h
    split at h
    all_goals first
      | (exact absurd h Bool.false_ne_true)
      | (rename_i q; cases q; done)
      | (rename_i q; cases q)
    simp only [Bool.and_eq_true, Bool.not_eq_true', decide_eq_true_eq] at h
    obtain ⟨⟨⟨⟨h1, h2⟩, h3⟩, h4⟩, h5⟩ := h
    have e1 : evS (fsOf Γ) (csOf Γ) fr (.setix i ix x) = fun ρ => RS.of (evE (fsOf Γ) (csOf Γ) x ρ) ρ fun v => putAt ρ i (evE (fsOf Γ) (csOf Γ) ix ρ) v fun ρ' => .next ρ' := by
      funext ρ
      simp only [evS]
    rw [e1]
    rename_i st' y p ie p2 e pos
    have hs : swapsWith e (some (.Subscript (.Name y p) ie p2)) pos.line X.env = pure false := by
      cases e <;> rfl
    exact ss_setix o h1 h2 (good_mE h3) hs ((sE hnm x _ o h4).esc h5) (sE hnm ix _ o h3).bor
  | .app i x, st, sc, so, W, X, o, hp, h => by
    unfold mS at h
    split at h
    all_goals first
      | (exact absurd h Bool.false_ne_true)
      | (rename_i q; cases q; done)
      | (rename_i q; cases q)
    simp only [Bool.and_eq_true, Bool.not_eq_true', decide_eq_true_eq] at h
    obtain ⟨⟨⟨⟨⟨h1, h2⟩, h3⟩, h4⟩, h5⟩, h6⟩ := h
    subst h2
    have e1 : evS (fsOf Γ) (csOf Γ) fr (.app i x) = fun ρ => match ρ[i]? with
      | some (.ow xs) => RS.of (evE (fsOf Γ) (csOf Γ) x ρ) ρ fun v => if xs.length ≤ LIM then .next (ρ.set i (.ow (xs ++ [v]))) else .bad
      | _ => .bad := by
      funext ρ
      simp only [evS]
      all_goals rfl
    rw [e1]
    exact ss_app o h1 h3 (good_mE h5) h4 ((sE hnm x _ o h5).esc h6)
  | .ext i x, st, sc, so, W, X, o, hp, h => by
    unfold mS at h
    split at h
    all_goals first
      | (exact absurd h Bool.false_ne_true)
      | (rename_i q; cases q; done)
      | (rename_i q; cases q)
    simp only [Bool.and_eq_true, Bool.not_eq_true', decide_eq_true_eq] at h
    obtain ⟨⟨⟨⟨⟨h1, h2⟩, h3⟩, h4⟩, h5⟩, h6⟩ := h
    subst h2
    have e1 : evS (fsOf Γ) (csOf Γ) fr (.ext i x) = fun ρ => match ρ[i]? with
      | some (.ow xs) => RS.of (evE (fsOf Γ) (csOf Γ) x ρ) ρ fun v => extTo ρ i xs v
      | _ => .bad := by
      funext ρ
      simp only [evS]
      all_goals rfl
    rw [e1]
    exact ss_ext o h1 h3 (good_mE h5) h4 ((sE hnm x _ o h5).esc h6)
  | .appP i j ix, st, sc, so, W, X, o, hp, h => by
    unfold mS at h
    split at h
    all_goals first
      | (exact absurd h Bool.false_ne_true)
      | (rename_i q; cases q; done)
      | (rename_i q; cases q)
    simp only [Bool.and_eq_true, Bool.not_eq_true', decide_eq_true_eq] at h
    obtain ⟨⟨⟨⟨⟨⟨⟨⟨⟨⟨h1, h2⟩, h3⟩, h4⟩, h5⟩, h6⟩, h7⟩, h8⟩, h9⟩, h10⟩, h11⟩ := h
    subst h2
    subst h6
    have e1 : evS (fsOf Γ) (csOf Γ) fr (.appP i j ix) = fun ρ => match ρ[i]?, ρ[j]? with
      | some (.ow xs), some (.ow ys) => RS.of (evE (fsOf Γ) (csOf Γ) ix ρ) ρ fun k => popTo ρ i j xs ys k
      | _, _ => .bad := by
      funext ρ
      simp only [evS]
      all_goals rfl
    rw [e1]
    exact ss_appP o h9 h1 h3 h5 h7 (good_mE h10) h4 h8 ((sE hnm ix _ o h10).esc h11)
  | .clr i, st, sc, so, W, X, o, hp, h => by
    unfold mS at h
    split at h
    all_goals first
      | (exact absurd h Bool.false_ne_true)
      | (rename_i q; cases q; done)
      | (rename_i q; cases q)
    simp only [Bool.and_eq_true, decide_eq_true_eq] at h
    obtain ⟨⟨⟨h1, h2⟩, h3⟩, h4⟩ := h
    subst h2
    have e1 : evS (fsOf Γ) (csOf Γ) fr (.clr i) = fun ρ => match ρ[i]? with
      | some (.ow _) => .next (ρ.set i (.ow []))
      | _ => .bad := by
      funext ρ
      simp only [evS]
      all_goals rfl
    rw [e1]
    exact ss_clr o h1 h3 h4
  | .pop i, st, sc, so, W, X, o, hp, h => by
    unfold mS at h
    split at h
    all_goals first
      | (exact absurd h Bool.false_ne_true)
      | (rename_i q; cases q; done)
      | (rename_i q; cases q)
    simp only [Bool.and_eq_true, decide_eq_true_eq] at h
    obtain ⟨⟨⟨h1, h2⟩, h3⟩, h4⟩ := h
    subst h2
    have e1 : evS (fsOf Γ) (csOf Γ) fr (.pop i) = fun ρ => match ρ[i]? with
      | some (.ow xs) => if xs = [] then .bad else .next (ρ.set i (.ow xs.dropLast))
      | _ => .bad := by
      funext ρ
      simp only [evS]
      all_goals rfl
    rw [e1]
    exact ss_pop o h1 h3 h4
  | .ite c a b, st, sc, so, W, X, o, hp, h => by
    unfold mS at h
    split at h
    all_goals first
      | (exact absurd h Bool.false_ne_true)
      | (rename_i q; cases q; done)
      | (rename_i q; cases q)
    simp only [Bool.and_eq_true] at h
    obtain ⟨⟨⟨h1, h2⟩, h3⟩, h4⟩ := h
    have e1 : evS (fsOf Γ) (csOf Γ) fr (.ite c a b) = fun ρ => RS.of (evE (fsOf Γ) (csOf Γ) c ρ) ρ fun v => RS.ifB v (evSs (fsOf Γ) (csOf Γ) fr a ρ) (evSs (fsOf Γ) (csOf Γ) fr b ρ) := by
      funext ρ
      simp only [evS]
    rw [e1]
    exact ss_ite ((sE hnm c _ o h1).tst h2) (sSs hnm a _ o hp h3) (sSs hnm b _ o hp h4)
  | .reto i, st, sc, so, W, X, o, hp, h => by
    unfold mS at h
    split at h
    all_goals first
      | (exact absurd h Bool.false_ne_true)
      | (rename_i q; cases q; done)
      | (rename_i q; cases q)
    simp only [Bool.and_eq_true, decide_eq_true_eq] at h
    have e1 : evS (fsOf Γ) (csOf Γ) fr (.reto i) = fun ρ => match ρ[i]? with
      | some (.ow xs) => .ret (.lst xs)
      | some (.sh v) => if fr then .bad else .ret v
      | _ => .bad := by
      funext ρ
      simp only [evS]
      all_goals rfl
    rw [e1]
    exact ss_reto o h.1 h.2
  | .ret x, st, sc, so, W, X, o, hp, h => by
    unfold mS at h
    split at h
    all_goals first
      | (exact absurd h Bool.false_ne_true)
      | (rename_i q; cases q; done)
      | (rename_i q; cases q)
    simp only [Bool.and_eq_true] at h
    have e1 : evS (fsOf Γ) (csOf Γ) fr (.ret x) = fun ρ => RS.of (evE (fsOf Γ) (csOf Γ) x ρ) ρ fun v => .ret v := by
      funext ρ
      simp only [evS]
    rw [e1]
    refine ss_ret ?_
    have s := sE hnm x _ o h.1
    have hm := h.2
    unfold PX.modeOk at hm
    cases fr with
    | true => exact s.fre hm
    | false =>
      have hm : (!x.isB) = true := hm
      rw [Bool.not_eq_true'] at hm
      exact s.esc hm
  | .pass, st, sc, so, W, X, o, hp, h => by
    unfold mS at h
    split at h
    all_goals first
      | (exact absurd h Bool.false_ne_true)
      | (rename_i q; cases q; done)
      | (rename_i q; cases q)
    have e1 : evS (fsOf Γ) (csOf Γ) fr .pass = fun ρ => .next ρ := by
      funext ρ
      simp only [evS]
    rw [e1]
    exact ss_pass
  | .brk, st, sc, so, W, X, o, hp, h => by
    unfold mS at h
    split at h
    all_goals first
      | (exact absurd h Bool.false_ne_true)
      | (rename_i q; cases q; done)
      | (rename_i q; cases q)
    have e1 : evS (fsOf Γ) (csOf Γ) fr .brk = fun ρ => .brk ρ := by
      funext ρ
      simp only [evS]
    rw [e1]
    exact ss_brk
  | .cnt, st, sc, so, W, X, o, hp, h => by
    unfold mS at h
    split at h
    all_goals first
      | (exact absurd h Bool.false_ne_true)
      | (rename_i q; cases q; done)
      | (rename_i q; cases q)
    have e1 : evS (fsOf Γ) (csOf Γ) fr .cnt = fun ρ => .cnt ρ := by
      funext ρ
      simp only [evS]
    rw [e1]
    exact ss_cnt
  | .forS tg tp it body, st, sc, so, W, X, o, hp, h => by
    unfold mS at h
    split at h
    all_goals first
      | (exact absurd h Bool.false_ne_true)
      | (rename_i q; cases q; done)
      | (rename_i q; cases q)
    simp only [Bool.and_eq_true, Bool.not_eq_true'] at h
    obtain ⟨⟨⟨⟨h1, h2⟩, h3⟩, h4⟩, hh⟩ := h
    rw [hnm.hot] at hh
    have e1 : evS (fsOf Γ) (csOf Γ) fr (.forS tg tp it body) = fun ρ => RS.ofL (evI (fsOf Γ) (csOf Γ) it ρ) ρ fun xs => forL (asgT tg tp) (evSs (fsOf Γ) (csOf Γ) fr body) xs ρ := by
      funext ρ
      simp only [evS]
    rw [e1]
    exact ss_for o hh hp.po (good_mI h2) h1 ((sI hnm it _ _ o h2).esc h3) (sSs hnm body _ o hp h4)
  | .whl n c body, st, sc, so, W, X, o, hp, h => by
    unfold mS at h
    split at h
    all_goals first
      | (exact absurd h Bool.false_ne_true)
      | (rename_i q; cases q; done)
      | (rename_i q; cases q)
    simp only [Bool.and_eq_true] at h
    obtain ⟨⟨h1, h2⟩, h3⟩ := h
    have e1 : evS (fsOf Γ) (csOf Γ) fr (.whl n c body) = fun ρ => whlL (evE (fsOf Γ) (csOf Γ) c) (evSs (fsOf Γ) (csOf Γ) fr body) n ρ := by
      funext ρ
      simp only [evS]
    rw [e1]
    exact ss_whl hp.po n ((sE hnm c _ o h1).tst h2) (sSs hnm body _ o hp h3)
  | .exp x, st, sc, so, W, X, o, hp, h => by
    unfold mS at h
    split at h
    all_goals first
      | (exact absurd h Bool.false_ne_true)
      | (rename_i q; cases q; done)
      | (rename_i q; cases q)
    simp only [Bool.and_eq_true, Bool.not_eq_true'] at h
    obtain ⟨⟨h1, h2⟩, h3⟩ := h
    have e1 : evS (fsOf Γ) (csOf Γ) fr (.exp x) = fun ρ => RS.of (evE (fsOf Γ) (csOf Γ) x ρ) ρ fun _ => .next ρ := by
      funext ρ
      simp only [evS]
    rw [e1]
    exact ss_exp h2 ((sE hnm x _ o h1).esc h3)
  | .raise c, st, sc, so, W, X, o, hp, h => by
    unfold mS at h
    split at h
    all_goals first
      | (exact absurd h Bool.false_ne_true)
      | (rename_i q; cases q; done)
      | (rename_i q; cases q)
    simp only [Bool.and_eq_true, Bool.not_eq_true'] at h
    obtain ⟨⟨h1, h2⟩, hh⟩ := h
    rw [hnm.hot] at hh
    have e1 : evS (fsOf Γ) (csOf Γ) fr (.raise c) = fun ρ => .exn c ρ := by
      funext ρ
      simp only [evS]
    rw [e1]
    refine ss_raise o hh ?_ h2
    rw [← hnm.ec]
    exact List.contains_iff_mem.mp h1
  | .told i k, st, sc, so, W, X, o, hp, h => by
    unfold mS at h
    split at h
    all_goals first
      | (exact absurd h Bool.false_ne_true)
      | (rename_i q; cases q; done)
      | (rename_i q; cases q)
    · simp only [Bool.and_eq_true, Bool.not_eq_true', decide_eq_true_eq] at h
      obtain ⟨⟨⟨⟨⟨h1, h2⟩, h3⟩, h4⟩, h5⟩, hh⟩ := h
      rw [hnm.hot] at hh
      obtain ⟨r, hr, hs⟩ := tl_at hnm h4 h3
      rename_i i' y yp a p1 p2 pos
      have e1 : evS (fsOf Γ) (csOf Γ) fr (.told (some i') k) = fun ρ => match ρ[(0 : Nat)]? with
        | some .fn => RS.of r ρ fun v => toldTo ρ (some i') v
        | _ => .bad := by
        funext ρ
        simp only [evS, hs]
        all_goals rfl
      rw [e1]
      exact ss_told o hh hp hr h1 h2 (good_swap h5 _ _ _)
    · simp only [Bool.and_eq_true, Bool.not_eq_true', decide_eq_true_eq] at h
      obtain ⟨⟨⟨h3, h4⟩, h5⟩, hh⟩ := h
      rw [hnm.hot] at hh
      obtain ⟨r, hr, hs⟩ := tl_at hnm h4 h3
      have e1 : evS (fsOf Γ) (csOf Γ) fr (.told none k) = fun ρ => match ρ[(0 : Nat)]? with
        | some .fn => RS.of r ρ fun v => toldTo ρ none v
        | _ => .bad := by
        funext ρ
        simp only [evS, hs]
        all_goals rfl
      rw [e1]
      exact ss_toldN o hh hp hr h5
  | .tryS body rs i hd, st, sc, so, W, X, o, hp, h => by
    unfold mS at h
    split at h
    all_goals first
      | (exact absurd h Bool.false_ne_true)
      | (rename_i q; cases q; done)
      | (rename_i q; cases q)
    simp only [Bool.and_eq_true, decide_eq_true_eq] at h
    obtain ⟨⟨⟨⟨⟨⟨h1, h2⟩, h3⟩, h4⟩, h5⟩, h6⟩, h7⟩ := h
    have e1 : evS (fsOf Γ) (csOf Γ) fr (.tryS body rs i hd) = fun ρ => (evSs (fsOf Γ) (csOf Γ) fr body ρ).caught rs i (evSs (fsOf Γ) (csOf Γ) fr hd) := by
      funext ρ
      simp only [evS]
    rw [e1]
    refine ss_try o hp h1 h2 (by rw [← hnm.ec]; exact List.contains_iff_mem.mp h3) h4 (by rw [h5, hnm.ec]) (fun W' pn xe o' hp' => sSs hnm body _ o' hp' h6) fun a pn => ?_
    exact sHs (Γ := Γ.heat) (nm := { nm with hot := true }) hnm.heat hd _ (o.suite a pn) h7
  | .dnew i, st, sc, so, W, X, o, hp, h => by
    unfold mS at h
    split at h
    all_goals first
      | (exact absurd h Bool.false_ne_true)
      | (rename_i q; cases q; done)
      | (rename_i q; cases q)
    simp only [Bool.and_eq_true, decide_eq_true_eq] at h
    have e1 : evS (fsOf Γ) (csOf Γ) fr (.dnew i) = fun ρ => if i < ρ.length then .next (ρ.set i (.od [])) else .bad := by
      funext ρ
      simp only [evS]
    rw [e1]
    exact ss_dnew o h.1 h.2
  | .dput i k x, st, sc, so, W, X, o, hp, h => by
    unfold mS at h
    split at h
    all_goals first
      | (exact absurd h Bool.false_ne_true)
      | (rename_i q; cases q; done)
      | (rename_i q; cases q)
    simp only [Bool.and_eq_true, Bool.not_eq_true', decide_eq_true_eq] at h
    obtain ⟨⟨⟨⟨⟨h1, h2⟩, h3⟩, h4⟩, h5⟩, h6⟩ := h
    have e1 : evS (fsOf Γ) (csOf Γ) fr (.dput i k x) = fun ρ => (match ρ[i]? with
      | some (.od kvs) => RS.of (evE (fsOf Γ) (csOf Γ) x ρ) ρ fun y => RS.of (evE (fsOf Γ) (csOf Γ) k ρ) ρ fun z => (match tupInts z, y with
        | some ks, .int z => if decide (kvs.length ≤ LIM) && !(ρ.set i .no).any SV.isOd then .next (ρ.set i (.od (dkPut kvs ks z))) else .bad
        | _, _ => .bad)
      | _ => .bad) := by
      funext ρ
      simp only [evS]
      all_goals rfl
    rw [e1]
    rename_i st' y p ie p2 e pos
    have hs : swapsWith e (some (.Subscript (.Name y p) ie p2)) pos.line X.env = pure false := by
      cases e <;> rfl
    exact ss_dput o h1 h2 hs ((sE hnm x _ o h4).esc h5) ((sE hnm k _ o h3).esc h6)
  | .tryN c body rs hd, st, sc, so, W, X, o, hp, h => by
    unfold mS at h
    split at h
    all_goals first
      | (exact absurd h Bool.false_ne_true)
      | (rename_i q; cases q; done)
      | (rename_i q; cases q)
    simp only [Bool.and_eq_true] at h
    obtain ⟨⟨⟨⟨h1, h2⟩, h3⟩, h4⟩, h5⟩ := h
    have e1 : evS (fsOf Γ) (csOf Γ) fr (.tryN c body rs hd) = fun ρ => (evSs (fsOf Γ) (csOf Γ) fr body ρ).caughtN c rs (evSs (fsOf Γ) (csOf Γ) fr hd) := by
      funext ρ
      simp only [evS]
    rw [e1]
    refine ss_tryN o hp (by rw [← hnm.ec]; exact List.contains_iff_mem.mp h1) h2 (fun d hd => by rw [← hnm.ec]; exact List.contains_iff_mem.mp (List.all_eq_true.mp h3 d hd)) (fun W' pn xe o' hp' => sSs hnm body _ o' hp' h4) fun a pn => ?_
    exact sHs (Γ := Γ.heat) (nm := { nm with hot := true }) hnm.heat hd _ (o.suite a pn) h5
  | .jnr i c b j its, st, sc, so, W, X, o, hp, h => by
    cases st <;> simp [mS] at h
  | .scr i k es, st, sc, so, W, X, o, hp, h => by
    cases st <;> simp [mS] at h
  | .wrk i k es c, st, sc, so, W, X, o, hp, h => by
    cases st <;> simp [mS] at h
  | .frz i, st, sc, so, W, X, o, hp, h => by
    cases st <;> simp [mS] at h
  | .kil i, st, sc, so, W, X, o, hp, h => by
    cases st <;> simp [mS] at h
theorem sSs (hnm : nm.Of Γ) : ∀ (ps : List PSt) (ss : List Stmt) {sc so : Scope} {W : WX} {X : Cx}, XOk Γ nm.N sc so W X → SOk Γ X → mSs nm fr sc so ps ss = true → SSs Γ W fr X ss (evSs (fsOf Γ) (csOf Γ) fr ps)
  | [], ss, sc, so, W, X, o, hp, h => by
    cases ss with
    | nil =>
      have e1 : evSs (fsOf Γ) (csOf Γ) fr [] = fun ρ => .next ρ := by
        funext ρ
        simp only [evSs]
      rw [e1]
      exact sss_nil
    | cons _ _ => simp [mSs] at h
  | p :: ps, ss, sc, so, W, X, o, hp, h => by
    have e1 : evSs (fsOf Γ) (csOf Γ) fr (p :: ps) = fun ρ => (evS (fsOf Γ) (csOf Γ) fr p ρ).then (evSs (fsOf Γ) (csOf Γ) fr ps) := by
      funext ρ
      simp only [evSs]
    have gen : ∀ s ss', mS nm fr sc so p s = true → mSs nm fr sc so ps ss' = true → SSs Γ W fr X (s :: ss') (evSs (fsOf Γ) (csOf Γ) fr (p :: ps)) := fun s ss' h1 h2 => by
      rw [e1]
      exact sss_cons (sS hnm p s o hp h1) (sSs hnm ps ss' o hp h2)
    cases p with
    | jnr i c b j its =>
      match ss, h with
      | [], h => simp [mSs] at h
      | [s], h => simp [mSs] at h
      | s :: s2 :: ss', h =>
        simp only [mSs, Bool.and_eq_true] at h
        obtain ⟨hm, hr⟩ := h
        have ih := sSs hnm ps ss' o hp hr
        unfold mJnr at hm
        split at hm
        · simp only [Bool.and_eq_true, decide_eq_true_eq] at hm
          obtain ⟨⟨⟨⟨⟨⟨⟨⟨⟨⟨⟨h1, h2⟩, h3⟩, h4⟩, h5⟩, h6⟩, h7⟩, h8⟩, h9⟩, h10⟩, h11⟩, h12⟩ := hm
          subst h3
          subst h4
          rw [e1]
          simp only [evS]
          obtain ⟨hp1, hp2⟩ := sRs hnm its _ o h11
          exact sss_jnr o h1 h2 h8 h9 (good_swap h6 _ _ _) (good_swap h10 _ _ _) (good_mE h7) h5 (sE hnm b _ o h7).bor (set_esc (set_lst h12 (fun ρ xs e => (evRs_len e).trans hp2.symm) hp1)) ih
        · cases hm
    | scr i k es =>
      match ss, h with
      | [], h => simp [mSs] at h
      | [s], h => simp [mSs] at h
      | s :: s2 :: ss', h =>
        simp only [mSs, Bool.and_eq_true] at h
        obtain ⟨hm, hr⟩ := h
        have ih := sSs hnm ps ss' o hp hr
        unfold mScr at hm
        split at hm
        · rename_i y py x p2 e as p3 pos c y2 p4 k0 p5 p6 at_ apos z k1 p7 cpos pos2 pos3
          simp only [Bool.and_eq_true, Bool.not_eq_true', decide_eq_true_eq] at hm
          obtain ⟨⟨⟨⟨⟨⟨⟨⟨⟨⟨⟨⟨h1, h2⟩, h3⟩, h4⟩, h5⟩, h6⟩, h7⟩, h8⟩, h9⟩, h10⟩, h11⟩, hh⟩, h13⟩ := hm
          rw [hnm.hot] at hh
          subst h4
          subst h5
          split at h7
          · rename_i p hp2
            simp only [Bool.and_eq_true, Bool.not_eq_true', decide_eq_true_eq] at h7
            obtain ⟨n, hn, nn, nf, ns⟩ := fn_at hnm hp2
            have ex : n.name = _ := nn.trans h7.1
            subst ex
            rw [e1]
            have e2 : (fun ρ => (evS (fsOf Γ) (csOf Γ) fr (.scr i k es) ρ).then (evSs (fsOf Γ) (csOf Γ) fr ps)) = fun ρ => (RS.ofL (evEs (fsOf Γ) (csOf Γ) es ρ) ρ fun xs => if nols xs then RS.of (n.sem xs) ρ fun v => scrTo ρ i v else .bad).then (evSs (fsOf Γ) (csOf Γ) fr ps) := by
              funext ρ
              simp only [evS]
              rw [← ns]
              all_goals rfl
            rw [e2]
            refine sss_scr o hh hn (nf.trans h7.2) h1 h2 h3 (good_mEs h10).1 h8 (good_swap h9 _ _ _) ((sA hnm es _ o h10).esc h11) h6 ((sE hnm _ _ o h13).tst rfl) (fun ρ zs hz => ?_) ih
            simp only [evE, evEs, getE, hz, R.bind_ok]
            rfl
          · cases h7
        · cases hm
    | wrk i k es x0 =>
      match ss, h with
      | [], h => simp [mSs] at h
      | [s], h => simp [mSs] at h
      | [s, s2], h => simp [mSs] at h
      | [s, s2, s3], h => simp [mSs] at h
      | s :: s2 :: s3 :: s4 :: ss', h =>
        simp only [mSs, Bool.and_eq_true] at h
        obtain ⟨hm, hr⟩ := h
        have ih := sSs hnm ps ss' o hp hr
        unfold mWrk at hm
        split at hm
        · simp only [Bool.and_eq_true, Bool.not_eq_true', decide_eq_true_eq] at hm
          obtain ⟨⟨⟨⟨⟨⟨⟨⟨⟨⟨⟨⟨⟨⟨⟨⟨⟨⟨h1, h2⟩, h3⟩, h4⟩, h5⟩, h6⟩, h7⟩, h8⟩, h9⟩, h10⟩, h11⟩, h12⟩, h13⟩, h14⟩, hh⟩, h16⟩, h17⟩, h18⟩, h19⟩ := hm
          rw [hnm.hot] at hh
          subst h4
          subst h5
          subst h6
          subst h7
          split at h10
          · rename_i p hp2
            simp only [Bool.and_eq_true, Bool.not_eq_true', decide_eq_true_eq] at h10
            obtain ⟨n, hn, nn, nf, ns⟩ := fn_at hnm hp2
            have ex : n.name = _ := nn.trans h10.1
            subst ex
            rw [e1]
            have e2 : (fun ρ => (evS (fsOf Γ) (csOf Γ) fr (.wrk i k es x0) ρ).then (evSs (fsOf Γ) (csOf Γ) fr ps)) = fun ρ => (RS.ofL (evEs (fsOf Γ) (csOf Γ) es ρ) ρ fun xs => if nols xs then RS.of (n.sem xs) ρ fun v => wrkTo ρ i v (evE (fsOf Γ) (csOf Γ) x0) else .bad).then (evSs (fsOf Γ) (csOf Γ) fr ps) := by
              funext ρ
              simp only [evS]
              rw [← ns]
              all_goals rfl
            rw [e2]
            exact sss_wrk o hh hn (nf.trans h10.2) h1 h2 h3 (good_mEs h13).1 h11 (good_swap h12 _ _ _) ((sA hnm es _ o h13).esc h14) h8 h9 ((sE hnm _ _ o h16).tst h17) (sss_retF (by
              have he := sE hnm (.bl false) _ o h18
              have e3 : evE (fsOf Γ) (csOf Γ) (.bl false) = fun _ => .ok (.bl false) := by
                funext ρ
                simp only [evE]
              rw [← e3]
              unfold PX.modeOk at h19
              cases fr with
              | true => exact he.fre h19
              | false => exact he.esc rfl)) ih
          · cases h10
        · cases hm
    | frz i =>
      rw [mSs_ghost.1] at h
      rw [e1]
      have e2 : (fun ρ => (evS (fsOf Γ) (csOf Γ) fr (.frz i) ρ).then (evSs (fsOf Γ) (csOf Γ) fr ps)) = fun ρ => (match ρ[i]? with
        | some (.ow xs) => RS.next (ρ.set i (.sh (.lst xs)))
        | _ => .next ρ).then (evSs (fsOf Γ) (csOf Γ) fr ps) := by
        funext ρ
        simp only [evS]
        all_goals rfl
      rw [e2]
      exact sss_frz i (sSs hnm ps ss o hp h)
    | kil i =>
      rw [mSs_ghost.2] at h
      rw [e1]
      have e2 : (fun ρ => (evS (fsOf Γ) (csOf Γ) fr (.kil i) ρ).then (evSs (fsOf Γ) (csOf Γ) fr ps)) = fun ρ => (RS.next (ρ.set i .no)).then (evSs (fsOf Γ) (csOf Γ) fr ps) := by
        funext ρ
        simp only [evS]
      rw [e2]
      exact sss_kil i (sSs hnm ps ss o hp h)
    | _ =>
      cases ss with
      | nil => simp [mSs] at h
      | cons s ss' =>
        simp only [mSs, Bool.and_eq_true] at h
        exact gen s ss' h.1 h.2
end

/-! ### a def -/
theorem ow_start {K : PySem.W.Frag} {G H : Hp} {xs : List PV} {vs : List V} {N : List Str} (s : Same G H) (c : Clean G H) (r : Reps K G xs vs) (hl : vs.length ≤ N.length) : Ow K ⟨G, H, G⟩ (startE N.length xs) (L2.start N vs) G H := by
  have e := r.length
  refine ⟨Ext.refl s, c, Same.refl _, ?_, fun i sv h => ?_, fun i j as bs a h1 h2 _ _ => ?_⟩
  · unfold L2.start startE
    simp
    omega
  · unfold startE at h
    unfold L2.start
    by_cases hi : i < xs.length
    · rw [List.getElem?_append_left (by simpa using hi), List.getElem?_map, List.getElem?_eq_getElem hi] at h
      cases h
      obtain ⟨v, hv, rv⟩ := r.get (List.getElem?_eq_getElem hi)
      refine ⟨v, ?_, rv⟩
      rw [List.getElem?_append_left (by simp; omega), List.getElem?_map, hv]
      rfl
    · rw [List.getElem?_append_right (by simp; omega)] at h
      have := List.mem_of_getElem? h
      rw [List.mem_replicate] at this
      rw [this.2]
      trivial
  · unfold startE at h1
    have := List.mem_of_getElem? h1
    rw [List.mem_append] at this
    rcases this with z | z
    · rw [List.mem_map] at z
      obtain ⟨_, _, q⟩ := z
      cases q
    · rw [List.mem_replicate] at z
      cases z.2
/-- lambdas may be made in a def: its own table, and what is known at a lower level -/
structure LmOk (Γ : Gt) (P : Program) (w : World) (K : PySem.W.Frag) (mg : Str → Option Value) (base : Heap) (qual : Str) (fd : FuncData) : Prop where
  two : 2 ≤ Γ.k
  fnl : ∀ n ∈ Γ.fnl, n.Ok Γ.cl P w K mg base (Γ.k - 2)
  lo : Gt.Ok { Γ with k := Γ.k - 2, lm := false } P w K mg base
  tab : ∃ c Pt, fd.code = .ref c ∧ LamX.TabB base mg c Pt ∧ (Pt, qual ++ ".<locals>." ++ "<lambda>") ∈ Tbc.T ∧ ∀ p ∈ Tbc.T, p.1 = Pt → p.2 = qual ++ ".<locals>." ++ "<lambda>"
theorem okX2 {P : Program} {w : World} {K : PySem.W.Frag} {mg : Str → Option Value} {base : Heap} {x qual : Str} {st : Stmt} {f : Addr} {fd : FuncData} {N ps : List Str} {k : Nat} {sp : Sp} (F : Fun K x qual st f fd) (S : FnScope N ps (defScope st)) (len : ∀ vs H Q E, sp vs H Q E → vs.length = ps.length)
    (hb : ∀ (cdv : Value) (A : Around) (outer : List PySem.Env) (s : Shared) (H : Hp) (vs : List V) (Q : VK) (E : XK), fd.code = cdv → Room k (A.deeper (PyProof.Rows.envOfC qual (defScope st) s.heap.objs.size f cdv)) → sp vs H Q E →
      ∃ t, PSs (cxOf (L2.CX P w) P w K mg base N qual (defScope st) f cdv A outer s H E) (defBody st) t ∧ t { nx := fun _ H2 => Q .non H2, rt := Q } (L2.start N vs) H) : FnOk P w K mg base (L2.CX P w) (k + 1) f fd ps sp := by
  obtain ⟨_, _, _, _, _, _, cdv, _, _, rfl, l1, l2⟩ := F.ex
  exact fn_of l1 l2 S len fun A outer s H vs Q E hr hsp => hb cdv A outer s H vs Q E rfl hr hsp
/-- a def keeps the promise of what its core block computes -/
theorem fn_ok {P : Program} {w : World} {K : PySem.W.Frag} {mg : Str → Option Value} {base : Heap} {x qual : Str} {st : Stmt} {f : Addr} {fd : FuncData} {ps : List Str} {body : List PSt} (F : Fun K x qual st f fd) (S : FnScope nm.N ps (defScope st)) (g : Γ.Ok P w K mg base) (hnm : nm.Of Γ)
    (hdb : nm.N.all (fun x => !(x == ("__debug__" : Str)) && !(x == ("__classdict__" : Str))) = true) (hpl : ps.length ≤ nm.N.length) (hm : mSs nm fr (defScope st) (defScope st) body (defBody st) = true) (hcool : Γ.hot = false) (htl : Γ.tl = none) (hla : Γ.lm = true → LmOk Γ P w K mg base qual fd) :
    FnOk P w K mg base (L2.CX P w) (Γ.k + 1) f fd ps (spP K Γ.cl ps.length (run (fsOf Γ) (csOf Γ) fr nm.N.length ps.length body) fr) := by
  refine okX2 F S (fun vs H Q E h => h.1) fun cdv A outer s H vs Q E hcode hr h => ?_
  obtain ⟨hl, G, xs, sg, cG, r, hk⟩ := h
  have o : XOk Γ nm.N (defScope st) (defScope st) (fun cls d _ H => E cls d H) (cxOf (L2.CX P w) P w K mg base nm.N qual (defScope st) f cdv A outer s H E) := by
    refine ⟨g, rfl, S.nd, fun y hy => ?_, rfl, S.kind, fun _ => rfl, fun y hy => ⟨?_, .inl rfl⟩, fun _ => hr, (by have := (room66 hr); exact this), fun _ => (takes_of rfl rfl rfl rfl : Takes (cxOf (L2.CX P w) P w K mg base nm.N qual (defScope st) f cdv A outer s H E) (fun cls d _ H => E cls d H)), fun z _ => (let L := hla z; let ⟨c, Pt, l1, l2, l3, l4⟩ := L.tab; ⟨L.two, L.fnl, L.lo, c, Pt, l2, hcode.symm.trans l1, l3, l4⟩), fun _ => airOk_top (takes_of rfl rfl rfl rfl : Takes (cxOf (L2.CX P w) P w K mg base nm.N qual (defScope st) f cdv A outer s H E) (fun cls d _ H => E cls d H)) rfl rfl⟩
    · have := List.all_eq_true.mp hdb y hy
      simp only [Bool.and_eq_true, Bool.not_eq_true'] at this
      exact this
    · unfold loc at hy
      split at hy
      · exact .inl (by assumption)
      · exact .inr (by assumption)
      · cases hy
  have hp0 : PassesOwn (model P w) (A.deeper (PyProof.Rows.envOfC qual (defScope st) s.heap.objs.size f cdv)) (PyProof.Rows.envOfC qual (defScope st) s.heap.objs.size f cdv) (cxOf (L2.CX P w) P w K mg base nm.N qual (defScope st) f cdv A outer s H E).xe := PassesOwn.leaving
  refine ⟨_, sSs (fr := fr) hnm body _ o ⟨hp0, rfl, rfl, fun a r z => by rw [htl] at z; cases z⟩ hm, ⟨G, H, G⟩, startE nm.N.length xs, G, ow_start sg cG r (by omega), ?_⟩
  have hxl : xs.length = ps.length := by rw [← r.length]; exact hl
  unfold run at hk
  rw [if_pos hxl] at hk
  cases ev : evSs (fsOf Γ) (csOf Γ) fr body (startE nm.N.length xs) with
  | next ρ =>
    rw [ev] at hk
    intro σ G' H' ow
    refine hk .non G' H' ow.ext ?_
    cases fr <;> exact (show Rep K G' .non .non from rep_non.mpr rfl)
  | ret v =>
    rw [ev] at hk
    exact fun w G' H' e rv => hk w G' H' e rv
  | exn c ρ =>
    rw [ev] at hk
    exact fun σ G' H' ow => hk G' H' ow.ext
  | brk ρ => rw [ev] at hk; exact hk.elim
  | cnt ρ => rw [ev] at hk; exact hk.elim
  | bad => rw [ev] at hk; exact hk.elim
theorem ow_startO {K : PySem.W.Frag} {G H : Hp} {xs zs : List PV} {us ws : List V} {p : Addr} {N : List Str} (s : Same G H) (c : Clean G H) (r : Reps K G xs us) (h1 : H p = some (.lst ws)) (h2 : G p = none) (rz : Reps K G zs ws) (hl : us.length + 1 ≤ N.length) :
    Ow K ⟨G, del H p, G⟩ ((startE N.length (xs ++ [.lst zs])).set xs.length (.ow zs)) (L2.start N (us ++ [.ref p])) G H := by
  have e := r.length
  have len : (startE N.length (xs ++ [.lst zs])).length = N.length := by
    unfold startE
    simp
    omega
  have at_ : ∀ i, i ≠ xs.length → ∀ sv, ((startE N.length (xs ++ [.lst zs])).set xs.length (.ow zs))[i]? = some sv → (∃ x, xs[i]? = some x ∧ sv = .sh x) ∨ sv = .no := fun i hi sv h => by
    rw [List.getElem?_set_ne (Ne.symm hi)] at h
    unfold startE at h
    by_cases hx : i < xs.length
    · rw [List.getElem?_append_left (by simp; omega), List.getElem?_map, List.getElem?_append_left hx, List.getElem?_eq_getElem hx] at h
      cases h
      exact .inl ⟨_, List.getElem?_eq_getElem hx, rfl⟩
    · rw [List.getElem?_append_right (by simp; omega)] at h
      have := List.mem_of_getElem? h
      rw [List.mem_replicate] at this
      exact .inr this.2
  have self : ((startE N.length (xs ++ [.lst zs])).set xs.length (.ow zs))[xs.length]? = some (.ow zs) := by
    rw [List.getElem?_set_self (by rw [len]; omega)]
  have sp : (L2.start N (us ++ [.ref p]))[xs.length]? = some (some (.ref p)) := by
    unfold L2.start
    rw [← e, List.getElem?_append_left (by simp), List.getElem?_map, List.getElem?_append_right (Nat.le_refl _), Nat.sub_self]
    rfl
  refine ⟨⟨.of fun b u q => ?_, s, Same.refl _, fun _ _ _ _ => rfl, fun _ _ h => h⟩, c, Same.refl _, ?_, fun i sv h => ?_, fun i j as bs a g1 g2 _ _ => ?_⟩
  · have q : del H p b = some u := q
    by_cases hb : b = p
    · subst hb
      rw [show del H b b = none from if_pos rfl] at q
      cases q
    · rw [show del H p b = H b from if_neg hb] at q
      exact q
  · rw [List.length_set, len]
    unfold L2.start
    simp
    omega
  · by_cases hi : i = xs.length
    · subst hi
      rw [self] at h
      cases h
      exact ⟨p, ws, by rw [sp]; rfl, h1, h2, if_pos rfl, rz⟩
    · rcases at_ i hi sv h with ⟨x, hx, rfl⟩ | rfl
      · obtain ⟨v, hv, rv⟩ := r.get hx
        refine ⟨v, ?_, rv⟩
        have hlt : i < us.length := (List.getElem?_eq_some_iff.mp hv).1
        unfold L2.start
        rw [List.getElem?_append_left (by simp; omega), List.getElem?_map, List.getElem?_append_left hlt, hv]
        rfl
      · trivial
  · have hi : i = xs.length := by
      refine Classical.byContradiction fun hn => ?_
      rcases at_ i hn _ g1 with ⟨_, _, z⟩ | z <;> cases z
    have hj : j = xs.length := by
      refine Classical.byContradiction fun hn => ?_
      rcases at_ j hn _ g2 with ⟨_, _, z⟩ | z <;> cases z
    rw [hi, hj]
/-- a def that owns its last argument keeps the promise of what its core block computes -/
theorem fn_okO {P : Program} {w : World} {K : PySem.W.Frag} {mg : Str → Option Value} {base : Heap} {x qual : Str} {st : Stmt} {f : Addr} {fd : FuncData} {ps : List Str} {body : List PSt} (F : Fun K x qual st f fd) (S : FnScope nm.N ps (defScope st)) (g : Γ.Ok P w K mg base) (hnm : nm.Of Γ)
    (hdb : nm.N.all (fun x => !(x == ("__debug__" : Str)) && !(x == ("__classdict__" : Str))) = true) (hpl : ps.length ≤ nm.N.length) (hm : mSs nm false (defScope st) (defScope st) body (defBody st) = true) (hcool : Γ.hot = false) (htl : Γ.tl = none) (hlm : Γ.lm = false) :
    FnOk P w K mg base (L2.CX P w) (Γ.k + 1) f fd ps (spO K Γ.cl ps.length (runO (fsOf Γ) (csOf Γ) nm.N.length ps.length body)) := by
  refine F.okX S (fun vs H Q E h => h.1) fun cdv A outer s H vs Q E hr h => ?_
  obtain ⟨hl, G, xs, us, p, zs, ws, ev0, sg, cG, r, h1, h2, rz, hk⟩ := h
  subst ev0
  have o : XOk Γ nm.N (defScope st) (defScope st) (fun cls d _ H => E cls d H) (cxOf (L2.CX P w) P w K mg base nm.N qual (defScope st) f cdv A outer s H E) := by
    refine ⟨g, rfl, S.nd, fun y hy => ?_, rfl, S.kind, fun _ => rfl, fun y hy => ⟨?_, .inl rfl⟩, fun _ => hr, (by have := (room66 hr); exact this), fun _ => (takes_of rfl rfl rfl rfl : Takes (cxOf (L2.CX P w) P w K mg base nm.N qual (defScope st) f cdv A outer s H E) (fun cls d _ H => E cls d H)), fun z => (by rw [hlm] at z; cases z), fun _ => airOk_top (takes_of rfl rfl rfl rfl : Takes (cxOf (L2.CX P w) P w K mg base nm.N qual (defScope st) f cdv A outer s H E) (fun cls d _ H => E cls d H)) rfl rfl⟩
    · have := List.all_eq_true.mp hdb y hy
      simp only [Bool.and_eq_true, Bool.not_eq_true'] at this
      exact this
    · unfold loc at hy
      split at hy
      · exact .inl (by assumption)
      · exact .inr (by assumption)
      · cases hy
  have hp0 : PassesOwn (model P w) (A.deeper (PyProof.Rows.envOfC qual (defScope st) s.heap.objs.size f cdv)) (PyProof.Rows.envOfC qual (defScope st) s.heap.objs.size f cdv) (cxOf (L2.CX P w) P w K mg base nm.N qual (defScope st) f cdv A outer s H E).xe := PassesOwn.leaving
  have hul : us.length + 1 = ps.length := by
    rw [List.length_append, List.length_singleton] at hl
    exact hl
  have hxl : xs.length + 1 = ps.length := by rw [← r.length]; exact hul
  refine ⟨_, sSs (fr := false) hnm body _ o ⟨hp0, rfl, rfl, fun a r z => by rw [htl] at z; cases z⟩ hm, ⟨G, del H p, G⟩, (startE nm.N.length (xs ++ [PV.lst zs])).set xs.length (.ow zs), G, ow_startO (N := nm.N) sg cG r h1 h2 rz (by omega), ?_⟩
  unfold runO at hk
  rw [if_pos (by simp; omega), List.getLast?_concat, show ps.length - 1 = xs.length by omega] at hk
  simp only at hk
  cases ev : evSs (fsOf Γ) (csOf Γ) false body ((startE nm.N.length (xs ++ [.lst zs])).set xs.length (.ow zs)) with
  | next ρ =>
    rw [ev] at hk
    intro σ G' H' ow
    exact hk .non G' H' ow.ext (rep_non.mpr rfl)
  | ret v =>
    rw [ev] at hk
    exact fun w G' H' e rv => hk w G' H' e rv
  | exn c ρ =>
    rw [ev] at hk
    exact fun σ G' H' ow => hk G' H' ow.ext
  | brk ρ => rw [ev] at hk; exact hk.elim
  | cnt ρ => rw [ev] at hk; exact hk.elim
  | bad => rw [ev] at hk; exact hk.elim
/-- a def that gets a lambda keeps the promise of what its core block computes -/
theorem fn_okL {P : Program} {w : World} {K : PySem.W.Frag} {mg : Str → Option Value} {base : Heap} {k : Nat} {x a : Str} {st : Stmt} {f : Addr} {fd : FuncData} {cl : Nat → Addr} {body : List PSt} (cn : List (Str × PV)) (gm : mg x = some (.ref f)) (F : Fun K x x st f fd) (S : FnScope nm.N [a] (defScope st))
    (hbl : ∀ y ∈ nm.bl, mg y = none) (hec : EcOk K mg cl nm.ec) (hcn : ∀ p ∈ cn, (p.1 == ("__debug__" : Str)) = false ∧ ∃ v u, mg p.1 = some u ∧ RelV v u ∧ ∀ G, Rep K G p.2 v) (hfix : nm.fn = [] ∧ nm.fno = [] ∧ nm.fnl = [] ∧ nm.tl = some a ∧ nm.lm = false ∧ nm.hot = false) (hcm : nm.cn = cn.map (·.1))
    (hdb : (nm.N.all (fun x => !(x == ("__debug__" : Str)) && !(x == ("__classdict__" : Str))) && !(x == ("__debug__" : Str))) = true) (hN0 : nm.N[0]? = some a) (hv : vis (defScope st) a = true) (hm : mSs nm false (defScope st) (defScope st) body (defBody st) = true) (hb : L2.Binds K fd [a] []) :
    FnL.Ok cl P w K mg base k ⟨x, f, runL [] (cn.map (·.2)) nm.N.length body⟩ := by
  rw [Bool.and_eq_true, Bool.not_eq_true'] at hdb
  obtain ⟨h1, h2, h3, h4, h5, h6⟩ := hfix
  have da := List.all_eq_true.mp hdb.1 a (List.mem_of_getElem? hN0)
  simp only [Bool.and_eq_true, Bool.not_eq_true'] at da
  have hv' : Vis (defScope st) a := by
    unfold vis at hv
    split at hv
    · exact .inl (by assumption)
    · exact .inr (.inl (by assumption))
    · exact .inr (.inr (by assumption))
    · cases hv
  refine ⟨gm, hdb.2, fun r c z => ?_, st, fd, nm.N, a, F, S, hb, hN0, hv', da.1, da.2, fun cdv A stack s G H Q r f' c1 q hr sG cG hc act hk => ?_⟩
  · have z : runL [] (cn.map (·.2)) nm.N.length body r = .exn c := z
    unfold runL at z
    split at z <;> cases z
  · letI : Tlc := ⟨f', G, H⟩
    have len : (SV.fn :: List.replicate (nm.N.length - 1) SV.no).length = nm.N.length := by
      have := (List.getElem?_eq_some_iff.mp hN0).1
      simp
      omega
    have g : Gt.Ok ⟨k + 1, cl, [], nm.bl, cn, nm.ec, false, [], [], some (a, r), false⟩ P w K mg base := ⟨fun _ z => (nomatch z), hbl, hcn, hec, fun _ z => (nomatch z)⟩
    have hnm : nm.Of ⟨k + 1, cl, [], nm.bl, cn, nm.ec, false, [], [], some (a, r), false⟩ := ⟨h1, rfl, hcm, rfl, h6, h2, h3, h4, h5⟩
    have o : XOk ⟨k + 1, cl, [], nm.bl, cn, nm.ec, false, [], [], some (a, r), false⟩ nm.N (defScope st) (defScope st) (fun _ _ _ _ => False) (cxOf C8.CX0 P w K mg base nm.N x (defScope st) f cdv A stack s H C8.E0).nox := by
      refine ⟨g, rfl, S.nd, fun y hy => ?_, rfl, S.kind, fun _ => rfl, fun y hy => ⟨?_, .inl rfl⟩, fun _ => hr, (room66 hr), fun _ => LamX.takes0, fun z => (nomatch z), fun _ => airOk_top LamX.takes0 rfl rfl⟩
      · have := List.all_eq_true.mp hdb.1 y hy
        simp only [Bool.and_eq_true, Bool.not_eq_true'] at this
        exact this
      · unfold loc at hy
        split at hy
        · exact .inl (by assumption)
        · exact .inr (by assumption)
        · cases hy
    have hp : SOk ⟨k + 1, cl, [], nm.bl, cn, nm.ec, false, [], [], some (a, r), false⟩ (cxOf C8.CX0 P w K mg base nm.N x (defScope st) f cdv A stack s H C8.E0).nox := by
      refine ⟨PassesOwn.never, rfl, rfl, fun a' r' z W' pn xe tk p1 p2 => ?_⟩
      cases z
      refine PE.weak (act W' pn xe p1 p2 tk) fun σ H' Q' ⟨B, ρ, G', ow, h0, hr'⟩ => ?_
      obtain ⟨s1, s2, s3⟩ := ow.slot 0 _ h0
      have e := ow.ext
      rw [s2, s3] at e
      refine ⟨?_, e.hh.k c1 _ hc LamX.codeO_ne, G', e, hr'.imp (fun x k => k) fun c k => k⟩
      cases q : σ[0]? with
      | none => rw [q] at s1; cases s1
      | some z => rw [q] at s1; exact congrArg some s1
    refine ⟨_, sSs (fr := false) hnm body _ o hp hm, ⟨G, H, G⟩, SV.fn :: List.replicate (nm.N.length - 1) SV.no, G, ⟨Ext.refl sG, cG, Same.refl _, ?_, fun i sv h => ?_, fun i j as bs b e1 _ _ _ => ?_⟩, ?_⟩
    · rw [len]
      unfold L2.start
      have := (List.getElem?_eq_some_iff.mp hN0).1
      simp
      omega
    · cases i with
      | zero =>
        cases h
        exact ⟨rfl, rfl, rfl⟩
      | succ i =>
        rw [List.getElem?_cons_succ] at h
        have := List.mem_of_getElem? h
        rw [List.mem_replicate] at this
        rw [this.2]
        trivial
    · cases i with
      | zero => cases e1
      | succ i =>
        rw [List.getElem?_cons_succ] at e1
        have := List.mem_of_getElem? e1
        rw [List.mem_replicate] at this
        cases this.2
    · have hk : PK (runL [] (cn.map (·.2)) nm.N.length body r) _ _ := hk
      unfold runL at hk
      show PostS _ _ K false _ (evSs [fun _ => r] (cn.map (·.2)) false body (SV.fn :: List.replicate (nm.N.length - 1) SV.no)) _
      have ef : ([] ++ [(fun _ => r : Sem1)]) = [fun _ => r] := rfl
      rw [ef] at hk
      cases ev : evSs [fun _ => r] (cn.map (·.2)) false body (SV.fn :: List.replicate (nm.N.length - 1) SV.no) with
      | next ρ =>
        rw [ev] at hk
        intro σ G' H' ow
        exact hk .non G' H' ow.ext (rep_non.mpr rfl)
      | ret v =>
        rw [ev] at hk
        exact fun w G' H' e rv => hk w G' H' e rv
      | exn c ρ => rw [ev] at hk; exact hk.elim
      | brk ρ => rw [ev] at hk; exact hk.elim
      | cnt ρ => rw [ev] at hk; exact hk.elim
      | bad => rw [ev] at hk; exact hk.elim
theorem runO_len {fs : List Sem1} {cs : List PV} {n m : Nat} {body : List PSt} {xs : List PV} (h : runO fs cs n m body xs ≠ .bad) : xs.length = m := by
  unfold runO at h
  split at h
  · assumption
  · exact absurd rfl h
theorem run_len {fs : List Sem1} {cs : List PV} {n m : Nat} {body : List PSt} {xs : List PV} (h : run fs cs fr n m body xs ≠ .bad) : xs.length = m := by
  unfold run at h
  split at h
  · assumption
  · exact absurd rfl h
end
end Pf

set_option Elab.async false
set_option linter.all false
set_option maxRecDepth 100000
set_option autoImplicit false
set_option maxHeartbeats 4000000
/-! PfB: defs put together, and the law's end -/
namespace Pf
open PySem PySem.Spec L2 PyProof.Rows
variable [Tbc]
/-- no lambda was got -/
instance tlc0 : Tlc := ⟨0, fun _ => none, fun _ => none⟩

/-- turns of a loop, more than any list has -/
def LOOPS : Nat := 1000000000
section
variable {P : Program} {w : World} {K : PySem.W.Frag} {mg : Str → Option Value} {base : Heap} {cl : Nat → Addr}
def Fn.At (P : Program) (w : World) (K : PySem.W.Frag) (mg : Str → Option Value) (base : Heap) (cl : Nat → Addr) (k : Nat) (n : Fn) : Prop := n.Ok ⟨k, cl, [], [], [], ⟨[], [], [], [], []⟩, false, [], [], none, false⟩ P w K mg base
theorem Fn.At.to {n : Fn} {j : Nat} {Γ : Gt} (h : n.At P w K mg base Γ.cl j) (hj : j ≤ Γ.k) : n.Ok Γ P w K mg base := ⟨h.ok.mono hj, h.gm, h.kp, h.bd, h.len, h.db⟩
theorem Fn.At.up {n : Fn} {j k : Nat} (h : n.At P w K mg base cl j) (hj : j ≤ k) : n.At P w K mg base cl k := Fn.At.to (Γ := ⟨k, cl, [], [], [], ⟨[], [], [], [], []⟩, false, [], [], none, false⟩) h hj
def Fn.AtO (P : Program) (w : World) (K : PySem.W.Frag) (mg : Str → Option Value) (base : Heap) (cl : Nat → Addr) (k : Nat) (n : Fn) : Prop := n.OkO ⟨k, cl, [], [], [], ⟨[], [], [], [], []⟩, false, [], [], none, false⟩ P w K mg base
theorem Fn.AtO.to {n : Fn} {j : Nat} {Γ : Gt} (h : n.AtO P w K mg base Γ.cl j) (hj : j ≤ Γ.k) : n.OkO Γ P w K mg base := ⟨h.ok.mono hj, h.gm, h.kp, h.bd, h.len, h.db⟩
theorem Fn.AtO.up {n : Fn} {j k : Nat} (h : n.AtO P w K mg base cl j) (hj : j ≤ k) : n.AtO P w K mg base cl k := Fn.AtO.to (Γ := ⟨k, cl, [], [], [], ⟨[], [], [], [], []⟩, false, [], [], none, false⟩) h hj
theorem ato_nil {k : Nat} : ∀ n ∈ ([] : List Fn), n.AtO P w K mg base cl k := fun _ h => nomatch h
theorem ato_cons {k j : Nat} {n : Fn} {ns : List Fn} (h : n.AtO P w K mg base cl j) (hj : j ≤ k) (t : ∀ n ∈ ns, n.AtO P w K mg base cl k) : ∀ m ∈ n :: ns, m.AtO P w K mg base cl k := fun m hm => by
  rcases List.mem_cons.mp hm with rfl | z
  · exact h.up hj
  · exact t m z
def DefIs (K : PySem.W.Frag) (x : Str) (st : Stmt) : Prop := ∃ (f : Addr) (fd : FuncData), PySem.W.nsIn K mainGlobals x = some (some (.ref f)) ∧ Fun K x x st f fd
omit [Tbc] in
theorem DefIs.mk {x : Str} {st : Stmt} {f : Addr} {oc : Value} {od an : Option Addr} {osl : Array (Option Value)} {kV doc pm cdv ct : Value} (a : PySem.W.nsIn K mainGlobals x = some (some (.ref f)))
    (l : K.lookup f = some ⟨oc, od, .func (PySem.W.fnOf x x (defArgs st) (defBody st) (defScope st) .none kV doc pm an cdv ct), osl⟩) (c : PySem.W.codeIn K cdv x = true) (k : PySem.W.keepIn K (.ref f) = true) : DefIs K x st := ⟨f, _, a, fun_mk l c k⟩
abbrev CnOk (mg : Str → Option Value) (K : PySem.W.Frag) (cn : List (Str × PV)) : Prop := ∀ p ∈ cn, (p.1 == ("__debug__" : Str)) = false ∧ ∃ v u, mg p.1 = some u ∧ RelV v u ∧ ∀ G, Rep K G p.2 v
omit [Tbc] in
theorem cn_nil : CnOk mg K [] := fun _ h => nomatch h
omit [Tbc] in
theorem cn_cons {p : Str × PV} {cn : List (Str × PV)} (h : (p.1 == ("__debug__" : Str)) = false ∧ ∃ v u, mg p.1 = some u ∧ RelV v u ∧ ∀ G, Rep K G p.2 v) (t : CnOk mg K cn) : CnOk mg K (p :: cn) := fun q hq => by
  rcases List.mem_cons.mp hq with rfl | z
  · exact h
  · exact t q z
theorem at_nil {k : Nat} : ∀ n ∈ ([] : List Fn), n.At P w K mg base cl k := fun _ h => nomatch h
theorem at_cons {k j : Nat} {n : Fn} {ns : List Fn} (h : n.At P w K mg base cl j) (hj : j ≤ k) (t : ∀ n ∈ ns, n.At P w K mg base cl k) : ∀ m ∈ n :: ns, m.At P w K mg base cl k := fun m hm => by
  rcases List.mem_cons.mp hm with rfl | z
  · exact h.up hj
  · exact t m z
omit [Tbc] in
theorem ex_nil : ∀ p ∈ ([] : List (Str × Nat)), ExG K mg p.1 (cl p.2) := fun _ h => nomatch h
omit [Tbc] in
theorem ex_cons {p : Str × Nat} {ps : List (Str × Nat)} (h : ExG K mg p.1 (cl p.2)) (t : ∀ p ∈ ps, ExG K mg p.1 (cl p.2)) : ∀ q ∈ p :: ps, ExG K mg q.1 (cl q.2) := fun q hq => by
  rcases List.mem_cons.mp hq with rfl | z
  · exact h
  · exact t q z
omit [Tbc] in
theorem bl_nil : ∀ x ∈ ([] : List Str), mg x = none := fun _ h => nomatch h
omit [Tbc] in
theorem bl_cons {x : Str} {xs : List Str} (h : mg x = none) (t : ∀ x ∈ xs, mg x = none) : ∀ y ∈ x :: xs, mg y = none := fun y hy => by
  rcases List.mem_cons.mp hy with rfl | z
  · exact h
  · exact t y z
/-- a def of which nothing is asked -/
theorem def_zero {k : Nat} {x : Str} {st : Stmt} {ps : List Str} {nm : Nm} {fr : Bool} {f : Addr} {fd : FuncData} (gm : mg x = some (.ref f)) (F : Fun K x x st f fd)
    (hdb : (nm.N.all (fun x => !(x == ("__debug__" : Str)) && !(x == ("__classdict__" : Str))) && decide (ps.length ≤ nm.N.length) && !(x == ("__debug__" : Str))) = true)
    (hb : Binds K fd ps []) : Fn.At P w K mg base cl k ⟨x, ps, f, fd, fun _ => .bad, fr⟩ := by
  simp only [Bool.and_eq_true, Bool.not_eq_true', decide_eq_true_eq] at hdb
  exact ⟨⟨fun vs H Q E q => (let ⟨_, _, _, _, _, _, z⟩ := q; False.elim z), fun A outer s H args us vs Q E hr he hb hv q => (let ⟨_, _, _, _, _, _, z⟩ := q; False.elim z)⟩, gm, F.kp, hb, fun xs h => absurd rfl h, hdb.2⟩
/-- a def by its core block -/
theorem def_ok {k : Nat} {x : Str} {st : Stmt} {ps : List Str} {body : List PSt} {nm : Nm} {fr : Bool} {f : Addr} {fd : FuncData} (cs co : List Fn) (cn : List (Str × PV)) (gm : mg x = some (.ref f)) (F : Fun K x x st f fd)
    (S : FnScope nm.N ps (defScope st)) (hcs : ∀ n ∈ cs, n.At P w K mg base cl k) (hco : ∀ n ∈ co, n.AtO P w K mg base cl k) (hbl : ∀ y ∈ nm.bl, mg y = none) (hec : EcOk K mg cl nm.ec) (hot : nm.hot = false) (hcn : CnOk mg K cn) (hfn : nm.fn = cs.map fun n => (n.name, n.fr)) (hcm : nm.cn = cn.map (·.1)) (hfo : nm.fno = co.map (·.name)) (hx : nm.fnl = [] ∧ nm.tl = none ∧ nm.lm = false)
    (hdb : (nm.N.all (fun x => !(x == ("__debug__" : Str)) && !(x == ("__classdict__" : Str))) && decide (ps.length ≤ nm.N.length) && !(x == ("__debug__" : Str))) = true) (hm : mSs nm fr (defScope st) (defScope st) body (defBody st) = true)
    (hb : Binds K fd ps []) : Fn.At P w K mg base cl (k + 1) ⟨x, ps, f, fd, run (cs.map (·.sem) ++ (co.map (·.sem) ++ ([] ++ []))) (cn.map (·.2)) fr nm.N.length ps.length body, fr⟩ := by
  simp only [Bool.and_eq_true, Bool.not_eq_true', decide_eq_true_eq] at hdb
  have g : Gt.Ok ⟨k, cl, cs, nm.bl, cn, nm.ec, false, co, [], none, false⟩ P w K mg base := ⟨fun n hn => (hcs n hn).to (Γ := ⟨k, cl, cs, nm.bl, cn, nm.ec, false, co, [], none, false⟩) (Nat.le_refl _), hbl, hcn, hec, fun n hn => (hco n hn).to (Γ := ⟨k, cl, cs, nm.bl, cn, nm.ec, false, co, [], none, false⟩) (Nat.le_refl _)⟩
  refine ⟨fn_ok (Γ := ⟨k, cl, cs, nm.bl, cn, nm.ec, false, co, [], none, false⟩) F S g ⟨hfn, rfl, hcm, rfl, hot, hfo, hx.1, hx.2.1, hx.2.2⟩ ?_ hdb.1.2 hm rfl rfl (fun z => nomatch z), gm, F.kp, hb, fun xs h => run_len h, hdb.2⟩
  simpa using hdb.1.1
/-- a def by its core block -/
theorem def_okO {k : Nat} {x : Str} {st : Stmt} {ps : List Str} {body : List PSt} {nm : Nm} {f : Addr} {fd : FuncData} (cs co : List Fn) (cn : List (Str × PV)) (gm : mg x = some (.ref f)) (F : Fun K x x st f fd)
    (S : FnScope nm.N ps (defScope st)) (hcs : ∀ n ∈ cs, n.At P w K mg base cl k) (hco : ∀ n ∈ co, n.AtO P w K mg base cl k) (hbl : ∀ y ∈ nm.bl, mg y = none) (hec : EcOk K mg cl nm.ec) (hot : nm.hot = false) (hcn : CnOk mg K cn) (hfn : nm.fn = cs.map fun n => (n.name, n.fr)) (hcm : nm.cn = cn.map (·.1)) (hfo : nm.fno = co.map (·.name)) (hx : nm.fnl = [] ∧ nm.tl = none ∧ nm.lm = false)
    (hdb : (nm.N.all (fun x => !(x == ("__debug__" : Str)) && !(x == ("__classdict__" : Str))) && decide (ps.length ≤ nm.N.length) && !(x == ("__debug__" : Str))) = true) (hm : mSs nm false (defScope st) (defScope st) body (defBody st) = true)
    (hb : Binds K fd ps []) : Fn.AtO P w K mg base cl (k + 1) ⟨x, ps, f, fd, runO (cs.map (·.sem) ++ (co.map (·.sem) ++ ([] ++ []))) (cn.map (·.2)) nm.N.length ps.length body, false⟩ := by
  simp only [Bool.and_eq_true, Bool.not_eq_true', decide_eq_true_eq] at hdb
  have g : Gt.Ok ⟨k, cl, cs, nm.bl, cn, nm.ec, false, co, [], none, false⟩ P w K mg base := ⟨fun n hn => (hcs n hn).to (Γ := ⟨k, cl, cs, nm.bl, cn, nm.ec, false, co, [], none, false⟩) (Nat.le_refl _), hbl, hcn, hec, fun n hn => (hco n hn).to (Γ := ⟨k, cl, cs, nm.bl, cn, nm.ec, false, co, [], none, false⟩) (Nat.le_refl _)⟩
  refine ⟨fn_okO (Γ := ⟨k, cl, cs, nm.bl, cn, nm.ec, false, co, [], none, false⟩) F S g ⟨hfn, rfl, hcm, rfl, hot, hfo, hx.1, hx.2.1, hx.2.2⟩ ?_ hdb.1.2 hm rfl rfl rfl, gm, F.kp, hb, fun xs h => runO_len h, hdb.2⟩
  simpa using hdb.1.1
/-- a def that makes lambdas, by its core block -/
theorem def_okM {k : Nat} {x : Str} {st : Stmt} {ps : List Str} {body : List PSt} {nm : Nm} {fr : Bool} {f c Pt : Addr} {fd : FuncData} (cs co : List Fn) (cf : List FnL) (cn : List (Str × PV)) (gm : mg x = some (.ref f)) (F : Fun K x x st f fd)
    (S : FnScope nm.N ps (defScope st)) (hcs : ∀ n ∈ cs, n.At P w K mg base cl k) (hco : ∀ n ∈ co, n.AtO P w K mg base cl k) (hcf : ∀ n ∈ cf, n.Ok cl P w K mg base k) (hbl : ∀ y ∈ nm.bl, mg y = none) (hec : EcOk K mg cl nm.ec) (hot : nm.hot = false) (hcn : CnOk mg K cn) (hfn : nm.fn = cs.map fun n => (n.name, n.fr)) (hcm : nm.cn = cn.map (·.1)) (hfo : nm.fno = co.map (·.name)) (hx : nm.fnl = cf.map (·.name) ∧ nm.tl = none ∧ nm.lm = true)
    (hdb : (nm.N.all (fun x => !(x == ("__debug__" : Str)) && !(x == ("__classdict__" : Str))) && decide (ps.length ≤ nm.N.length) && !(x == ("__debug__" : Str))) = true) (hm : mSs nm fr (defScope st) (defScope st) body (defBody st) = true)
    (hb : Binds K fd ps []) (hcode : fd.code = .ref c) (TB : LamX.TabB base mg c Pt) (mT : (Pt, x ++ ".<locals>." ++ "<lambda>") ∈ Tbc.T) (uq : ∀ p ∈ Tbc.T, p.1 = Pt → p.2 = x ++ ".<locals>." ++ "<lambda>") :
    Fn.At P w K mg base cl (k + 3) ⟨x, ps, f, fd, run (cs.map (·.sem) ++ (co.map (·.sem) ++ (cf.map (fun n => encL n.sem) ++ []))) (cn.map (·.2)) fr nm.N.length ps.length body, fr⟩ := by
  simp only [Bool.and_eq_true, Bool.not_eq_true', decide_eq_true_eq] at hdb
  have g : Gt.Ok ⟨k + 2, cl, cs, nm.bl, cn, nm.ec, false, co, cf, none, true⟩ P w K mg base := ⟨fun n hn => (hcs n hn).to (Γ := ⟨k + 2, cl, cs, nm.bl, cn, nm.ec, false, co, cf, none, true⟩) (Nat.le_add_right k 2), hbl, hcn, hec, fun n hn => (hco n hn).to (Γ := ⟨k + 2, cl, cs, nm.bl, cn, nm.ec, false, co, cf, none, true⟩) (Nat.le_add_right k 2)⟩
  have lo : Gt.Ok ⟨k, cl, cs, nm.bl, cn, nm.ec, false, co, cf, none, false⟩ P w K mg base := ⟨fun n hn => (hcs n hn).to (Γ := ⟨k, cl, cs, nm.bl, cn, nm.ec, false, co, cf, none, false⟩) (Nat.le_refl k), hbl, hcn, hec, fun n hn => (hco n hn).to (Γ := ⟨k, cl, cs, nm.bl, cn, nm.ec, false, co, cf, none, false⟩) (Nat.le_refl k)⟩
  refine ⟨fn_ok (Γ := ⟨k + 2, cl, cs, nm.bl, cn, nm.ec, false, co, cf, none, true⟩) F S g ⟨hfn, rfl, hcm, rfl, hot, hfo, hx.1, hx.2.1, hx.2.2⟩ ?_ hdb.1.2 hm rfl rfl fun _ => ⟨Nat.le_add_left 2 k, hcf, lo, c, Pt, hcode, TB, mT, uq⟩, gm, F.kp, hb, fun xs h => run_len h, hdb.2⟩
  simpa using hdb.1.1
theorem fnl_nil {k : Nat} : ∀ n ∈ ([] : List FnL), n.Ok cl P w K mg base k := fun _ h => nomatch h
theorem fnl_cons {k : Nat} {n : FnL} {ns : List FnL} (h : n.Ok cl P w K mg base k) (t : ∀ n ∈ ns, n.Ok cl P w K mg base k) : ∀ m ∈ n :: ns, m.Ok cl P w K mg base k := fun m hm => by
  rcases List.mem_cons.mp hm with rfl | z
  · exact h
  · exact t m z
omit [Tbc] in
theorem binds_law {x l : Str} {st : Stmt} {f : Addr} {fd : FuncData} (F : Fun K l l st f fd) (h : ∀ (kV doc pm : Value) (an : Option Addr) (cdv ct : Value) (u : Value), bindArgs (PySem.W.fnOf l l (defArgs st) (defBody st) (defScope st) .none kV doc pm an cdv ct) ⟨[u], []⟩ = pure [(x, u)]) :
    ∀ (s : Shared) (u : Value), BindsTo s fd ⟨[u], []⟩ [(x, u)] := fun s u => by
  obtain ⟨oc, od, kV, doc, pm, an, cdv, ct, osl, rfl, lk, hcd⟩ := F.ex
  exact .of_eq (h kV doc pm an cdv ct u)
end
abbrev script (ns : List Int) : PV := .rl (ns.map PV.int)
/-- what all_mk gives -/
abbrev LawOk (K : PySem.W.Frag) (P : Program) (w : World) (mg : Str → Option Value) (fa : Addr) (x : Str) (k : Nat) (sem : Sem1) : Prop :=
  ∃ fd : FuncData, (∀ (s : Shared) (u : Value), BindsTo s fd ⟨[u], []⟩ [(x, u)]) ∧ ∀ base : Heap, K.In base → base.Ns mainGlobals mg → ∃ cl, FnOk P w K mg base (L2.CX P w) k fa fd [x] (spP K cl 1 sem false)
/-- the law's promise -/
def spOne (K : PySem.W.Frag) : Sp := fun vs H Q _ => ∃ (a : Addr) (ns : List Int), vs = [.ref a] ∧ SqL K H a (ns.map V.int) ∧ ns.length ≤ 63 ∧ (∀ z ∈ ns, Builtin.Int.intBits z ≤ 1048576) ∧ LamX.Tabs Tbc.T H ∧ ∀ H', Q (.bl true) H'
theorem sqL_noT {K : PySem.W.Frag} {H : Hp} {a : Addr} {xs : List V} (h : SqL K H a xs) : SqL K (noT H) a xs := by
  rcases h with (h | ⟨o, h⟩) | h
  · exact .inl (.inl (noT_of h fun _ z => by cases z))
  · exact .inl (.inr ⟨o, noT_of h fun _ z => by cases z⟩)
  · exact .inr h
theorem spOne_of {K : PySem.W.Frag} {cl : Nat → Addr} {sem : Sem1} (h : ∀ ns : List Int, ns.length ≤ 63 → (∀ z ∈ ns, Builtin.Int.intBits z ≤ 1048576) → sem [script ns] = .ok (.bl true)) (vs : List V) (H : Hp) (Q : VK) (E : XK) (z : spOne K vs H Q E) : spP K cl 1 sem false vs H Q E := by
  obtain ⟨a, ns, rfl, hS, hl, hb, hT, k⟩ := z
  refine ⟨rfl, noT H, [script ns], noT_same H, ⟨fun _ _ q => (noT_get q).2 _ rfl, hT⟩, ⟨.ref a, [], rfl, ⟨a, ns.map V.int, rfl, sqL_noT hS, reps_ints.mpr rfl⟩, rfl⟩, ?_⟩
  rw [h ns hl hb]
  intro v G' H' _ r
  have e : v = .bl true := rep_bl.mp (show Rep K G' (.bl true) v from r)
  rw [e]
  exact k H'
theorem walk (hT : Tbc.T = []) {l : PySem.W.OpenLaw} {q : Program} {loose : List Str} {XP : (Str → Option Value) → Heap → Prop} {YP : World → Heap → Prop} {d : DefRec} {K : Params → PySem.W.Frag} {x : Str} {k : Nat} {sem : Sem1} (hn : l.most = some 63) (hdf : d.params.defaults = []) (hr : Room k callerA)
    (hsem : ∀ ns : List Int, ns.length ≤ 63 → (∀ z ∈ ns, Builtin.Int.intBits z ≤ 1048576) → sem [script ns] = .ok (.bl true))
    (hY : ∀ (w : World) (h : Heap), YP w h → (K w.params).In h)
    (F : ∀ (w : World) (mg : Str → Option Value) (fa : Addr) (h : Heap), (K w.params).In h → h.Ns mainGlobals mg → mg d.name = some (.ref fa) → LawOk (K w.params) l.prog w mg fa x k sem) :
    PySem.W.WalkO q loose XP YP l.row.toRowW d [] (fun f vs => PySem.call f vs) :=
  L2.walk_ofB (n := 63) (k := k) (x := x) (CX := fun w => L2.CX l.prog w) (sp := fun w => spOne (K w.params)) hn (by decide) hdf hr hY
    (fun w mg fa h KX G hmg => by
      obtain ⟨fd, hb, hF⟩ := F w mg fa h KX G hmg
      refine ⟨fd, hb, fun base KB GB => ?_⟩
      obtain ⟨cl, ok⟩ := hF base KB GB
      exact ok.imp (spOne_of hsem)) (fun _ _ a ns hl hb _ hS => ⟨a, ns, rfl, hS, hl, hb, (by rw [hT]; exact fun _ z => nomatch z), fun _ => rfl⟩) fun _ _ _ _ _ ⟨_, _, _, _, _, _, _, _, _, _, _, _, z⟩ => z
/-- a def's own code object and its table -/
def TabD (K : PySem.W.Frag) (mg : Str → Option Value) (x : Str) (c Pt : Addr) : Prop := ∃ (f : Addr) (o : Obj) (fd : FuncData) (e : Value) (dd : Option Addr) (vs : Array Value) (sl : Array (Option Value)),
  mg x = some (.ref f) ∧ K.lookup f = some o ∧ o.data = .func fd ∧ fd.code = .ref c ∧ K.lookup c = some ⟨e, dd, .fields vs, sl⟩ ∧ vs[11]? = some (.ref Pt)
/-- the same, by the module's own names -/
def TabK (K : PySem.W.Frag) (x : Str) (c Pt : Addr) : Prop := ∃ (f : Addr) (o : Obj) (fd : FuncData) (e : Value) (dd : Option Addr) (vs : Array Value) (sl : Array (Option Value)),
  PySem.W.nsIn K mainGlobals x = some (some (.ref f)) ∧ K.lookup f = some o ∧ o.data = .func fd ∧ fd.code = .ref c ∧ K.lookup c = some ⟨e, dd, .fields vs, sl⟩ ∧ vs[11]? = some (.ref Pt)
omit [Tbc] in
theorem TabK.mk {K : PySem.W.Frag} {x : Str} (st : Stmt) {c Pt f : Addr} {oc e : Value} {od dd an : Option Addr} {osl sl : Array (Option Value)} {vs : Array Value} {kV doc pm cdv ct : Value} (ta : PySem.W.nsIn K mainGlobals x = some (some (.ref f)))
    (tl : K.lookup f = some ⟨oc, od, .func (PySem.W.fnOf x x (defArgs st) (defBody st) (defScope st) .none kV doc pm an cdv ct), osl⟩) (te : cdv = .ref c) (tc : K.lookup c = some ⟨e, dd, .fields vs, sl⟩) (tp : vs[11]? = some (.ref Pt)) : TabK K x c Pt :=
  ⟨f, _, _, e, dd, vs, sl, ta, tl, rfl, te, tc, tp⟩
omit [Tbc] in
theorem TabK.to {K : PySem.W.Frag} {x : Str} {c Pt : Addr} {h : Heap} {mg : Str → Option Value} (T : TabK K x c Pt) (X : K.In h) (G : h.Ns mainGlobals mg) : TabD K mg x c Pt :=
  let ⟨f, o, fd, e, dd, vs, sl, a, l⟩ := T
  ⟨f, o, fd, e, dd, vs, sl, PySem.W.mg_of X G a, l⟩
omit [Tbc] in
theorem TabD.code {K : PySem.W.Frag} {mg : Str → Option Value} {x : Str} {st : Stmt} {c Pt f : Addr} {fd : FuncData} (T : TabD K mg x c Pt) (gm : mg x = some (.ref f)) (F : Fun K x x st f fd) : fd.code = .ref c := by
  obtain ⟨f2, o, fd2, e, dd, vs, sl, a, l, d, k, _⟩ := T
  obtain ⟨_, _, _, _, _, _, _, _, _, e1, lk, _⟩ := F.ex
  rw [gm] at a
  cases a
  rw [lk] at l
  cases l
  cases d
  exact k
/-- the lambdas' tables: name, code object, table -/
abbrev tabT (cs : List (Str × Addr × Addr)) : Tbc := ⟨cs.map fun p => (p.2.2, p.1 ++ ".<locals>." ++ "<lambda>")⟩
/-- what all_mk gives where lambdas are made -/
abbrev LawOkT (cs : List (Str × Addr × Addr)) (K : PySem.W.Frag) (P : Program) (w : World) (mg : Str → Option Value) (fa : Addr) (x : Str) (k : Nat) (sem : Sem1) : Prop :=
  ∃ fd : FuncData, (∀ (s : Shared) (u : Value), BindsTo s fd ⟨[u], []⟩ [(x, u)]) ∧ ∀ base : Heap, K.In base → base.Ns mainGlobals mg → (∀ p ∈ cs, LamX.TabB base mg p.2.1 p.2.2) → ∃ cl, FnOk P w K mg base (L2.CX P w) k fa fd [x] (@spP (tabT cs) K cl 1 sem false)
omit [Tbc] in
theorem walkT {l : PySem.W.OpenLaw} {q : Program} {loose : List Str} {XP : (Str → Option Value) → Heap → Prop} {YP : World → Heap → Prop} {d : DefRec} {K : Params → PySem.W.Frag} {x : Str} {k : Nat} {sem : Sem1} (xs : List Str) (hxs : (xs.all fun x => (recsOf q).any fun e => e.name == x) = true) (hn : l.most = some 63) (hdf : d.params.defaults = []) (hr : Room k callerA)
    (hsem : ∀ ns : List Int, ns.length ≤ 63 → (∀ z ∈ ns, Builtin.Int.intBits z ≤ 1048576) → sem [script ns] = .ok (.bl true))
    (hY : ∀ (w : World) (h : Heap), YP w h → (K w.params).In h)
    (F : ∀ (w : World) (mg : Str → Option Value) (fa : Addr) (h : Heap), (K w.params).In h → h.Ns mainGlobals mg → mg d.name = some (.ref fa) → ∃ cs : List (Str × Addr × Addr), (∀ p ∈ cs, p.1 ∈ xs ∧ TabD (K w.params) mg p.1 p.2.1 p.2.2 ∧ (K w.params).lookup p.2.2 = none) ∧ LawOkT cs (K w.params) l.prog w mg fa x k sem) :
    PySem.W.WalkO q loose XP YP l.row.toRowW d [] (fun f vs => PySem.call f vs) := by
  refine Att.attach_callB hn hdf fun w s0 s1 mg mb fa o pm cd doc a vs ns G Y ho hd hcd hmg hobj hints hlen hbits hg => ?_
  have KX := hY w _ Y
  obtain ⟨cs, hcs, fd, hb, hF⟩ := F w mg fa _ KX G.T.g hmg
  have tabs : ∀ p ∈ cs, s1.heap.get? p.2.2 = some { cls := .none, data := .fields #[] } ∧ PySem.W.CodeHd s1.heap p.2.1 p.2.2 := fun p hp => by
    obtain ⟨hx, ⟨f, of, ff, e, dd, fs, sl, t1, t2, t3, t4, t5, t6⟩, _⟩ := hcs p hp
    obtain ⟨dL, hm, hL⟩ := List.any_eq_true.mp (List.all_eq_true.mp hxs _ hx)
    obtain ⟨a2, o2, f2, c2, P2, h1, h2, h3, h4, h5, h6⟩ := G.T.tab dL hm
    rw [beq_iff_eq.mp hL, t1] at h1
    cases h1
    rw [KX _ _ t2] at h2
    cases h2
    rw [t3] at h3
    cases h3
    rw [t4] at h4
    cases h4
    have hh := PySem.W.CodeHd.of h5 h6
    obtain ⟨⟨oc, vc, e1, _, e3, e4⟩, hP⟩ := h6
    rw [KX _ _ t5] at e1
    cases e1
    cases e3
    rw [t6] at e4
    cases e4
    exact ⟨hP, hh⟩
  refine LamX.law_callTs (CX := L2.CX l.prog w) (k := k) (x := x) (cs := cs.map fun p => (p.2.1, p.2.2)) (sp := @spOne (tabT cs) (K w.params)) KX G.T.g G.T.b G.T.builtins G.T.nolimit hg (fun p hp => ?_) (fun p hp => ?_) (fun p hp => ?_) G.T.bmain hobj hints (Nat.le_trans hlen (by decide)) hr (fun base KB GB hTB => ?_) hb (fun H hH hS => ⟨a, ns, rfl, hS, hlen, hbits, fun p hp => ?_, fun _ => rfl⟩) fun _ _ _ ⟨_, _, _, _, _, _, _, _, _, _, _, _, z⟩ => z
  · obtain ⟨p', hp', rfl⟩ := List.mem_map.mp hp
    exact (tabs p' hp').1
  · obtain ⟨p', hp', rfl⟩ := List.mem_map.mp hp
    exact (hcs p' hp').2.2
  · obtain ⟨p', hp', rfl⟩ := List.mem_map.mp hp
    exact (tabs p' hp').2
  · obtain ⟨cl, ok⟩ := hF base KB GB fun p hp => hTB (p.2.1, p.2.2) (List.mem_map.mpr ⟨p, hp, rfl⟩)
    exact ok.imp (@spOne_of (tabT cs) _ _ _ hsem)
  · obtain ⟨p', hp', rfl⟩ := List.mem_map.mp hp
    exact LamX.TabS.nil (hH (p'.2.1, p'.2.2) (List.mem_map.mpr ⟨p', hp', rfl⟩))
end Pf

set_option Elab.async false
set_option linter.all false
set_option maxRecDepth 100000
set_option autoImplicit false
/-! PfQ: plain sums, rows of numbers, polynomials -/
namespace Pf

/-! ### sums -/
def sm (n : Nat) (f : Nat → Int) : Int := match n with
  | 0 => 0
  | n + 1 => sm n f + f n
@[simp] theorem sm_zero (f : Nat → Int) : sm 0 f = 0 := rfl
theorem sm_succ (n : Nat) (f : Nat → Int) : sm (n + 1) f = sm n f + f n := rfl
theorem sm_congr {n : Nat} {f g : Nat → Int} (h : ∀ i, i < n → f i = g i) : sm n f = sm n g := by
  induction n with
  | zero => rfl
  | succ n ih =>
    rw [sm_succ, sm_succ, ih fun i hi => h i (by omega), h n (by omega)]
theorem sm_all0 {n : Nat} {f : Nat → Int} (h : ∀ i, i < n → f i = 0) : sm n f = 0 := by
  induction n with
  | zero => rfl
  | succ n ih => rw [sm_succ, ih fun i hi => h i (by omega), h n (by omega)]; rfl
theorem sm_add (n : Nat) (f g : Nat → Int) : sm n (fun i => f i + g i) = sm n f + sm n g := by
  induction n with
  | zero => rfl
  | succ n ih => rw [sm_succ, sm_succ, sm_succ, ih]; omega
theorem sm_sub (n : Nat) (f g : Nat → Int) : sm n (fun i => f i - g i) = sm n f - sm n g := by
  induction n with
  | zero => rfl
  | succ n ih => rw [sm_succ, sm_succ, sm_succ, ih]; omega
theorem sm_mul (n : Nat) (c : Int) (f : Nat → Int) : sm n (fun i => c * f i) = c * sm n f := by
  induction n with
  | zero => simp
  | succ n ih => rw [sm_succ, sm_succ, ih, Int.mul_add]
theorem sm_mulr (n : Nat) (c : Int) (f : Nat → Int) : sm n (fun i => f i * c) = sm n f * c := by
  rw [Int.mul_comm, ← sm_mul]
  exact sm_congr fun i _ => Int.mul_comm ..
theorem sm_neg (n : Nat) (f : Nat → Int) : sm n (fun i => -f i) = -sm n f := by
  induction n with
  | zero => rfl
  | succ n ih => rw [sm_succ, sm_succ, ih]; omega
theorem sm_front (n : Nat) (f : Nat → Int) : sm (n + 1) f = f 0 + sm n (fun i => f (i + 1)) := by
  induction n with
  | zero => simp [sm_succ]
  | succ n ih => rw [sm_succ, ih, sm_succ n]; omega
theorem sm_split (n m : Nat) (f : Nat → Int) : sm (n + m) f = sm n f + sm m (fun i => f (n + i)) := by
  induction m with
  | zero => simp
  | succ m ih => rw [← Nat.add_assoc, sm_succ, ih, sm_succ]; omega
theorem sm_more {n m : Nat} {f : Nat → Int} (hnm : n ≤ m) (h : ∀ i, n ≤ i → i < m → f i = 0) : sm m f = sm n f := by
  obtain ⟨d, rfl⟩ := Nat.exists_eq_add_of_le hnm
  rw [sm_split, sm_all0 (n := d), Int.add_zero]
  intro i hi
  exact h _ (by omega) (by omega)
theorem sm_rev (n : Nat) (f : Nat → Int) : sm n f = sm n (fun i => f (n - 1 - i)) := by
  induction n with
  | zero => rfl
  | succ n ih =>
    rw [sm_front n (fun i => f (n + 1 - 1 - i)), sm_succ, ih, Int.add_comm]
    congr 1
    refine sm_congr fun i hi => ?_
    congr 1
    omega
theorem sm_swap (n m : Nat) (f : Nat → Nat → Int) : sm n (fun i => sm m (fun j => f i j)) = sm m (fun j => sm n (fun i => f i j)) := by
  induction n with
  | zero => exact (sm_all0 fun _ _ => rfl).symm
  | succ n ih => rw [sm_succ, ih, ← sm_add]; rfl
theorem sm_one {n : Nat} {f : Nat → Int} (k : Nat) (hk : k < n) (h : ∀ i, i < n → i ≠ k → f i = 0) : sm n f = f k := by
  rw [sm_more (n := k + 1) (by omega) (fun i h1 h2 => h i h2 (by omega)), sm_succ, sm_all0 (fun i hi => h i (by omega) (by omega)), Int.zero_add]
theorem sm_map (n : Nat) (f : Nat → Int) : ((List.range n).map f).sum = sm n f := by
  induction n with
  | zero => rfl
  | succ n ih =>
    rw [List.range_succ, List.map_append, List.sum_append, ih]
    simp [sm_succ]
theorem sum_filter_map {α : Type} (p : α → Bool) (f : α → Int) (l : List α) : ((l.filter p).map f).sum = (l.map fun x => if p x then f x else 0).sum := by
  induction l with
  | nil => rfl
  | cons x l ih =>
    rw [List.filter_cons]
    cases h : p x with
    | true => simp [h, ih]
    | false => simp [h, ih]
theorem sm_filter (n : Nat) (p : Nat → Bool) (f : Nat → Int) : (((List.range n).filter p).map f).sum = sm n fun i => if p i then f i else 0 := by
  rw [sum_filter_map, sm_map]

/-! ### rests -/
def tk (b n : Int) : Int := if b = 0 then n else n % b
theorem tk0 (n : Int) : tk 0 n = n := rfl
theorem tk_pos {b : Int} (h : 0 < b) (n : Int) : tk b n = n % b := if_neg (by omega)
theorem tk_zero (b : Int) : tk b 0 = 0 := by
  unfold tk
  split <;> simp
theorem tk_tk (b n : Int) : tk b (tk b n) = tk b n := by
  unfold tk
  split
  · rfl
  · exact Int.emod_emod_of_dvd n (Int.dvd_refl b)
theorem tk_eq_iff {b x y : Int} : tk b x = tk b y ↔ b ∣ x - y := by
  unfold tk
  split
  · rename_i h
    subst h
    rw [Int.zero_dvd]
    omega
  · exact Int.emod_eq_emod_iff_emod_sub_eq_zero.trans Int.dvd_iff_emod_eq_zero.symm
theorem tk_dvd (b n : Int) : b ∣ tk b n - n := tk_eq_iff.mp (tk_tk b n)
theorem tk_add (b x y : Int) : tk b (tk b x + tk b y) = tk b (x + y) := by
  rw [tk_eq_iff]
  have := Int.dvd_add (tk_dvd b x) (tk_dvd b y)
  rwa [show tk b x - x + (tk b y - y) = tk b x + tk b y - (x + y) by omega] at this
theorem tk_add_l (b x y : Int) : tk b (tk b x + y) = tk b (x + y) := by
  rw [tk_eq_iff, show tk b x + y - (x + y) = tk b x - x by omega]
  exact tk_dvd b x
theorem tk_add_r (b x y : Int) : tk b (x + tk b y) = tk b (x + y) := by
  rw [tk_eq_iff, show x + tk b y - (x + y) = tk b y - y by omega]
  exact tk_dvd b y
theorem tk_sub_l (b x y : Int) : tk b (tk b x - y) = tk b (x - y) := by
  rw [tk_eq_iff, show tk b x - y - (x - y) = tk b x - x by omega]
  exact tk_dvd b x
theorem tk_sub_r (b x y : Int) : tk b (x - tk b y) = tk b (x - y) := by
  rw [tk_eq_iff, show x - tk b y - (x - y) = -(tk b y - y) by omega]
  exact Int.dvd_neg.mpr (tk_dvd b y)
theorem tk_mul_l (b x y : Int) : tk b (tk b x * y) = tk b (x * y) := by
  rw [tk_eq_iff, ← Int.sub_mul]
  exact Int.dvd_trans (tk_dvd b x) (Int.dvd_mul_right ..)
theorem tk_mul_r (b x y : Int) : tk b (x * tk b y) = tk b (x * y) := by
  rw [Int.mul_comm, tk_mul_l, Int.mul_comm]
theorem tk_neg (b x : Int) : tk b (-tk b x) = tk b (-x) := by
  have := tk_sub_r b 0 x
  simpa using this
theorem tk_sm (b : Int) (n : Nat) (f : Nat → Int) : tk b (sm n fun i => tk b (f i)) = tk b (sm n f) := by
  induction n with
  | zero => rfl
  | succ n ih =>
    rw [sm_succ, sm_succ, ← tk_add_l, ih, tk_add]
theorem tk_sm_congr {b : Int} {n : Nat} {f g : Nat → Int} (h : ∀ i, i < n → tk b (f i) = tk b (g i)) : tk b (sm n f) = tk b (sm n g) := by
  rw [← tk_sm b n f, ← tk_sm b n g, sm_congr h]
theorem tk_nonneg {b : Int} (h : 0 < b) (n : Int) : 0 ≤ tk b n := by
  rw [tk_pos h]
  exact Int.emod_nonneg _ (by omega)
theorem tk_lt {b : Int} (h : 0 < b) (n : Int) : tk b n < b := by
  rw [tk_pos h]
  exact Int.emod_lt_of_pos _ h
theorem tk_id {b n : Int} (h : 0 < b → 0 ≤ n ∧ n < b) (hb : 0 ≤ b) : tk b n = n := by
  unfold tk
  split
  · rfl
  · obtain ⟨h1, h2⟩ := h (by omega)
    exact Int.emod_eq_of_lt h1 h2

/-! ### rows of numbers as functions -/
def cf (xs : List Int) (k : Nat) : Int := xs.getD k 0
theorem cf_ge {xs : List Int} {k : Nat} (h : xs.length ≤ k) : cf xs k = 0 := by
  unfold cf
  rw [List.getD_eq_getElem?_getD, List.getElem?_eq_none h]
  rfl
theorem cf_lt {xs : List Int} {k : Nat} (h : k < xs.length) : cf xs k = xs[k] := by
  unfold cf
  rw [List.getD_eq_getElem?_getD, List.getElem?_eq_getElem h]
  rfl
theorem cf_mem {xs : List Int} {k : Nat} (h : k < xs.length) : cf xs k ∈ xs := by
  rw [cf_lt h]
  exact List.getElem_mem h
theorem cf_nil (k : Nat) : cf [] k = 0 := cf_ge (Nat.zero_le _)
theorem cf_cons0 (x : Int) (xs : List Int) : cf (x :: xs) 0 = x := rfl
theorem cf_consS (x : Int) (xs : List Int) (k : Nat) : cf (x :: xs) (k + 1) = cf xs k := rfl
theorem cf_map {f : Int → Int} (h : f 0 = 0) (xs : List Int) (k : Nat) : cf (xs.map f) k = f (cf xs k) := by
  by_cases hk : k < xs.length
  · rw [cf_lt (by simpa using hk), cf_lt hk, List.getElem_map]
  · rw [cf_ge (by simpa using hk), cf_ge (by omega), h]
theorem cf_range (n : Nat) (f : Nat → Int) (k : Nat) : cf ((List.range n).map f) k = if k < n then f k else 0 := by
  split
  · rename_i h
    rw [cf_lt (by simpa using h), List.getElem_map, List.getElem_range]
  · rw [cf_ge (by simp; omega)]
theorem cf_app_l {xs ys : List Int} {k : Nat} (h : k < xs.length) : cf (xs ++ ys) k = cf xs k := by
  rw [cf_lt (by simp; omega), cf_lt h, List.getElem_append_left h]
theorem cf_app_r {xs ys : List Int} {k : Nat} (h : xs.length ≤ k) : cf (xs ++ ys) k = cf ys (k - xs.length) := by
  by_cases hk : k < (xs ++ ys).length
  · rw [cf_lt hk, List.getElem_append_right h, cf_lt]
  · rw [cf_ge (by omega), cf_ge]
    simp at hk
    omega
theorem cf_take (xs : List Int) (n k : Nat) : cf (xs.take n) k = if k < n then cf xs k else 0 := by
  unfold cf
  rw [List.getD_eq_getElem?_getD, List.getD_eq_getElem?_getD, List.getElem?_take]
  split <;> simp
theorem cf_drop (xs : List Int) (n k : Nat) : cf (xs.drop n) k = cf xs (n + k) := by
  unfold cf
  rw [List.getD_eq_getElem?_getD, List.getD_eq_getElem?_getD, List.getElem?_drop]
theorem cf_set {xs : List Int} {i : Nat} (v : Int) (h : i < xs.length) (k : Nat) : cf (xs.set i v) k = if k = i then v else cf xs k := by
  unfold cf
  rw [List.getD_eq_getElem?_getD, List.getD_eq_getElem?_getD]
  split
  · rename_i e
    subst e
    rw [List.getElem?_set_self h]
    rfl
  · rename_i e
    rw [List.getElem?_set_ne (Ne.symm e)]
theorem cf_reverse {xs : List Int} {k : Nat} (h : k < xs.length) : cf xs.reverse k = cf xs (xs.length - 1 - k) := by
  rw [cf_lt (by simpa using h), List.getElem_reverse, cf_lt (by omega)]
theorem cf_rep (n : Nat) (x : Int) (k : Nat) : cf (List.replicate n x) k = if k < n then x else 0 := by
  split
  · rename_i h
    rw [cf_lt (by simpa using h)]
    simp
  · rw [cf_ge (by simp; omega)]
theorem cf_ext {xs ys : List Int} (hl : xs.length = ys.length) (h : ∀ k, k < xs.length → cf xs k = cf ys k) : xs = ys := by
  apply List.ext_getElem hl
  intro i h1 h2
  have := h i h1
  rwa [cf_lt h1, cf_lt h2] at this
theorem range_cf (xs : List Int) : (List.range xs.length).map (cf xs) = xs := by
  apply cf_ext (by simp)
  intro k hk
  rw [cf_range, if_pos (by simpa using hk)]
theorem sum_cf (xs : List Int) : xs.sum = sm xs.length (cf xs) := by
  rw [← sm_map, range_cf]

/-! ### noughts behind -/
def trim : List Int → List Int
  | [] => []
  | x :: xs => match trim xs with
    | [] => if x = 0 then [] else [x]
    | y :: ys => x :: y :: ys
theorem trim_snoc0 : ∀ xs : List Int, trim (xs ++ [0]) = trim xs
  | [] => rfl
  | x :: xs => by
    show (match trim (xs ++ [0]) with | [] => if x = 0 then [] else [x] | y :: ys => x :: y :: ys) = (match trim xs with | [] => if x = 0 then [] else [x] | y :: ys => x :: y :: ys)
    rw [trim_snoc0 xs]
theorem trim_snoc {y : Int} (h : y ≠ 0) : ∀ xs : List Int, trim (xs ++ [y]) = xs ++ [y]
  | [] => by simp [trim, h]
  | x :: xs => by
    show (match trim (xs ++ [y]) with | [] => if x = 0 then [] else [x] | y :: ys => x :: y :: ys) = _
    rw [trim_snoc h xs]
    cases xs <;> rfl
theorem snoc_cases (xs : List Int) : xs = [] ∨ ∃ ys y, xs = ys ++ [y] := by
  cases h : xs.reverse with
  | nil => exact .inl (by simpa using h)
  | cons y ys =>
    refine .inr ⟨ys.reverse, y, ?_⟩
    have := congrArg List.reverse h
    simpa using this
theorem trim_len_le : ∀ xs : List Int, (trim xs).length ≤ xs.length
  | [] => Nat.le_refl _
  | x :: xs => by
    have := trim_len_le xs
    unfold trim
    cases h : trim xs with
    | nil =>
      by_cases hx : x = 0
      · simp [hx]
      · simp [hx]
    | cons y ys =>
      rw [h] at this
      simpa using this
theorem cf_trim : ∀ (xs : List Int) (k : Nat), cf (trim xs) k = cf xs k
  | [], k => rfl
  | x :: xs, k => by
    have ih := cf_trim xs
    unfold trim
    cases h : trim xs with
    | nil =>
      rw [h] at ih
      cases k with
      | zero =>
        by_cases hx : x = 0
        · simp [hx, cf]
        · simp [hx, cf]
      | succ k =>
        rw [cf_consS, ← ih k]
        by_cases hx : x = 0
        · simp [hx, cf]
        · simp [hx, cf]
    | cons y ys =>
      rw [h] at ih
      cases k with
      | zero => rfl
      | succ k => rw [cf_consS, cf_consS, ← ih k]
theorem trim_nil_iff : ∀ xs : List Int, trim xs = [] ↔ ∀ k, cf xs k = 0 := by
  intro xs
  constructor
  · intro h k
    rw [← cf_trim, h]
    rfl
  · intro h
    cases e : trim xs with
    | nil => rfl
    | cons y ys =>
      exfalso
      induction xs generalizing y ys with
      | nil => cases e
      | cons x xs ih =>
        have hx : x = 0 := h 0
        have ht : ∀ k, cf xs k = 0 := fun k => h (k + 1)
        unfold trim at e
        cases e' : trim xs with
        | nil => rw [e'] at e; simp [hx] at e
        | cons z zs => exact ih ht z zs e'
theorem trim_ext : ∀ {xs ys : List Int}, (∀ k, cf xs k = cf ys k) → trim xs = trim ys
  | [], ys, h => by
    symm
    rw [show trim [] = [] from rfl, trim_nil_iff]
    intro k
    rw [← h k]
    rfl
  | x :: xs, [], h => by
    rw [show trim [] = [] from rfl, trim_nil_iff]
    intro k
    rw [h k]
    rfl
  | x :: xs, y :: ys, h => by
    have h0 : x = y := h 0
    have ih := trim_ext (xs := xs) (ys := ys) fun k => h (k + 1)
    subst h0
    unfold trim
    rw [ih]
theorem trim_eq_iff {xs ys : List Int} : trim xs = trim ys ↔ ∀ k, cf xs k = cf ys k :=
  ⟨fun h k => by rw [← cf_trim, h, cf_trim], trim_ext⟩
theorem trim_trim (xs : List Int) : trim (trim xs) = trim xs := trim_ext (cf_trim xs)
theorem mem_trim {xs : List Int} {x : Int} (h : x ∈ trim xs) : x ∈ xs := by
  obtain ⟨k, hk, rfl⟩ := List.mem_iff_getElem.mp h
  have hk' : k < xs.length := Nat.lt_of_lt_of_le hk (trim_len_le xs)
  rw [← cf_lt hk, cf_trim, cf_lt hk']
  exact List.getElem_mem _
theorem trim_len_lt {xs : List Int} {n : Nat} (h : ∀ k, n ≤ k → cf xs k = 0) : (trim xs).length ≤ n := by
  rw [show trim xs = trim (xs.take n) from trim_ext fun k => by
    rw [cf_take]
    split
    · rfl
    · exact h k (by omega)]
  exact Nat.le_trans (trim_len_le _) (by simp; omega)
theorem trim_last {xs : List Int} (h : xs ≠ []) (e : trim xs = xs) : cf xs (xs.length - 1) ≠ 0 := by
  rcases snoc_cases xs with rfl | ⟨ys, y, rfl⟩
  · exact absurd rfl h
  · intro h0
    rw [List.length_append, List.length_singleton, Nat.add_sub_cancel, cf_app_r (Nat.le_refl _), Nat.sub_self, cf_cons0] at h0
    subst h0
    rw [trim_snoc0] at e
    have := trim_len_le ys
    rw [e] at this
    simp at this
    omega
theorem trim_of_last {xs : List Int} (h : cf xs (xs.length - 1) ≠ 0) : trim xs = xs := by
  rcases snoc_cases xs with rfl | ⟨ys, y, rfl⟩
  · rfl
  · rw [List.length_append, List.length_singleton, Nat.add_sub_cancel, cf_app_r (Nat.le_refl _), Nat.sub_self, cf_cons0] at h
    exact trim_snoc h ys

/-! ### products of rows -/
def cv (f g : Nat → Int) (t : Nat) : Int := sm (t + 1) fun i => f i * g (t - i)
theorem cv_comm (f g : Nat → Int) (t : Nat) : cv f g t = cv g f t := by
  unfold cv
  rw [sm_rev]
  refine sm_congr fun i hi => ?_
  rw [Int.mul_comm, show t + 1 - 1 - i = t - i by omega, show t - (t - i) = i by omega]
theorem cv_congr {f f' g g' : Nat → Int} (hf : ∀ i, f i = f' i) (hg : ∀ i, g i = g' i) (t : Nat) : cv f g t = cv f' g' t := sm_congr fun i _ => by rw [hf, hg]
theorem cv_add_l (f f' g : Nat → Int) (t : Nat) : cv (fun i => f i + f' i) g t = cv f g t + cv f' g t := by
  unfold cv
  rw [← sm_add]
  exact sm_congr fun i _ => Int.add_mul ..
theorem cv_add_r (f g g' : Nat → Int) (t : Nat) : cv f (fun i => g i + g' i) t = cv f g t + cv f g' t := by
  unfold cv
  rw [← sm_add]
  exact sm_congr fun i _ => Int.mul_add ..
theorem cv_zero_l {f : Nat → Int} (h : ∀ i, f i = 0) (g : Nat → Int) (t : Nat) : cv f g t = 0 := sm_all0 fun i _ => by rw [h, Int.zero_mul]
theorem cv_zero_r {g : Nat → Int} (h : ∀ i, g i = 0) (f : Nat → Int) (t : Nat) : cv f g t = 0 := sm_all0 fun i _ => by rw [h, Int.mul_zero]
/-- a row of n numbers: only its places count -/
theorem cv_len {f g : Nat → Int} {n m : Nat} (hf : ∀ i, n ≤ i → f i = 0) (hg : ∀ j, m ≤ j → g j = 0) (t : Nat) : cv f g t = sm n fun i => if i ≤ t ∧ t - i < m then f i * g (t - i) else 0 := by
  unfold cv
  have e1 : sm (t + 1) (fun i => f i * g (t - i)) = sm (t + 1 + n) (fun i => if i ≤ t ∧ t - i < m then f i * g (t - i) else 0) := by
    rw [sm_more (n := t + 1) (m := t + 1 + n) (by omega)]
    · refine sm_congr fun i hi => ?_
      by_cases hm : t - i < m
      · rw [if_pos ⟨by omega, hm⟩]
      · rw [if_neg (fun h => hm h.2), hg _ (by omega), Int.mul_zero]
    · intro i h1 h2
      exact if_neg (fun h => by omega)
  rw [e1]
  refine sm_more (by omega) fun i h1 h2 => ?_
  rw [hf i h1, Int.zero_mul]
  exact ite_self _
theorem cv_big {f g : Nat → Int} {n m t : Nat} (hf : ∀ i, n ≤ i → f i = 0) (hg : ∀ j, m ≤ j → g j = 0) (h : n + m ≤ t + 1) : cv f g t = 0 := by
  unfold cv
  refine sm_all0 fun i hi => ?_
  by_cases h1 : n ≤ i
  · rw [hf i h1, Int.zero_mul]
  · rw [hg _ (by omega), Int.mul_zero]
theorem cv_delta (q : Int) (k : Nat) (g : Nat → Int) (t : Nat) : cv (fun j => if j = k then q else 0) g t = if k ≤ t then q * g (t - k) else 0 := by
  unfold cv
  split
  · rename_i h
    rw [sm_one k (by omega)]
    · show (if k = k then q else 0) * _ = _
      rw [if_pos rfl]
    intro i h1 h2
    show (if i = k then q else 0) * _ = _
    rw [if_neg h2, Int.zero_mul]
  · rename_i h
    refine sm_all0 fun i hi => ?_
    show (if i = k then q else 0) * _ = _
    rw [if_neg (by omega), Int.zero_mul]
theorem cv_assoc (f g h : Nat → Int) (t : Nat) : cv (cv f g) h t = cv f (cv g h) t := by
  unfold cv
  have a : sm (t + 1) (fun i => sm (i + 1) (fun j => f j * g (i - j)) * h (t - i)) = sm (t + 1) fun i => sm (t + 1) fun j => if j ≤ i then f j * g (i - j) * h (t - i) else 0 := by
    refine sm_congr fun i hi => ?_
    rw [← sm_mulr, sm_more (n := i + 1) (m := t + 1) (f := fun j => if j ≤ i then f j * g (i - j) * h (t - i) else 0) (by omega) (fun j h1 h2 => if_neg (by omega))]
    exact sm_congr fun j hj => (if_pos (by omega)).symm
  have b : sm (t + 1) (fun i => f i * sm (t - i + 1) (fun j => g j * h (t - i - j))) = sm (t + 1) fun j => sm (t + 1) fun i => if j ≤ i then f j * g (i - j) * h (t - i) else 0 := by
    refine sm_congr fun i hi => ?_
    rw [← sm_mul]
    have e := sm_split i (t - i + 1) fun k => if i ≤ k then f i * g (k - i) * h (t - k) else 0
    rw [show i + (t - i + 1) = t + 1 by omega] at e
    rw [e, sm_all0 (n := i) (fun k hk => if_neg (by omega)), Int.zero_add]
    refine sm_congr fun k hk => ?_
    rw [if_pos (by omega), show i + k - i = k by omega, show t - (i + k) = t - i - k by omega, Int.mul_assoc]
  rw [a, b, sm_swap]
theorem cv_tk_l (b : Int) (f g : Nat → Int) (t : Nat) : tk b (cv (fun i => tk b (f i)) g t) = tk b (cv f g t) := tk_sm_congr fun i _ => tk_mul_l b _ _
theorem cv_tk_r (b : Int) (f g : Nat → Int) (t : Nat) : tk b (cv f (fun i => tk b (g i)) t) = tk b (cv f g t) := tk_sm_congr fun i _ => tk_mul_r b _ _

/-! ### how great -/
def bd (n : Nat) (x : Int) : Prop := x.natAbs < 2 ^ n
theorem bd_mono {n m : Nat} {x : Int} (h : bd n x) (hm : n ≤ m) : bd m x := Nat.lt_of_lt_of_le h (Nat.pow_le_pow_right (by decide) hm)
theorem bd_zero (n : Nat) : bd n 0 := Nat.pow_pos (by decide)
theorem bd_add {n : Nat} {x y : Int} (hx : bd n x) (hy : bd n y) : bd (n + 1) (x + y) := by
  unfold bd at *
  rw [Nat.pow_succ]
  omega
theorem bd_sub {n : Nat} {x y : Int} (hx : bd n x) (hy : bd n y) : bd (n + 1) (x - y) := by
  unfold bd at *
  rw [Nat.pow_succ]
  omega
theorem bd_neg {n : Nat} {x : Int} (hx : bd n x) : bd n (-x) := by
  unfold bd at *
  omega
theorem bd_mul {n m : Nat} {x y : Int} (hx : bd n x) (hy : bd m y) : bd (n + m) (x * y) := by
  unfold bd at *
  rw [Int.natAbs_mul, Nat.pow_add]
  exact Nat.mul_lt_mul'' hx hy
theorem bd_sm {n m k : Nat} {f : Nat → Int} (hk : k ≤ 2 ^ m) (h : ∀ i, i < k → bd n (f i)) : bd (n + m) (sm k f) := by
  have key : (sm k f).natAbs ≤ k * (2 ^ n - 1) := by
    clear hk
    induction k with
    | zero => simp
    | succ k ih =>
      have h1 := ih fun i hi => h i (by omega)
      have h2 := h k (by omega)
      unfold bd at h2
      rw [sm_succ, Nat.succ_mul]
      omega
  unfold bd
  have p : 0 < 2 ^ n := Nat.pow_pos (by decide)
  have q : k * (2 ^ n - 1) ≤ 2 ^ m * (2 ^ n - 1) := Nat.mul_le_mul_right _ hk
  have r : 2 ^ m * (2 ^ n - 1) < 2 ^ m * 2 ^ n := Nat.mul_lt_mul_of_pos_left (by omega) (Nat.pow_pos (by decide))
  rw [Nat.pow_add, Nat.mul_comm (2 ^ n)]
  omega
theorem bd_tk {n : Nat} {b x : Int} (h0 : 0 ≤ b) (h1 : b ≤ 1024) (hn : 10 ≤ n) (hx : bd n x) : bd n (tk b x) := by
  unfold tk
  split
  · exact hx
  · refine bd_mono (n := 10) ?_ hn
    unfold bd
    have := Int.emod_nonneg x (b := b) (by omega)
    have := Int.emod_lt_of_pos x (b := b) (by omega)
    omega
theorem bd_le {n : Nat} {x : Int} (h : x.natAbs < 2 ^ n) : bd n x := h
theorem bd_cf {n : Nat} {xs : List Int} (h : ∀ x ∈ xs, bd n x) (k : Nat) : bd n (cf xs k) := by
  by_cases hk : k < xs.length
  · exact h _ (cf_mem hk)
  · rw [cf_ge (by omega)]
    exact bd_zero n

/-! ### rows by rules -/
theorem dvd_sm {b : Int} {n : Nat} {f : Nat → Int} (h : ∀ i, i < n → b ∣ f i) : b ∣ sm n f := by
  induction n with
  | zero => exact Int.dvd_zero _
  | succ n ih => exact Int.dvd_add (ih fun i hi => h i (by omega)) (h n (by omega))
theorem tk_zero_iff {b x : Int} : tk b x = 0 ↔ b ∣ x := by
  have := tk_eq_iff (b := b) (x := x) (y := 0)
  rw [tk_zero, Int.sub_zero] at this
  exact this
def sqL (b : Int) (r s : List Int) : Nat → List Int
  | 0 => []
  | n + 1 => sqL b r s n ++ [if n < s.length then cf s n else tk b (sm r.length fun k => cf r k * cf (sqL b r s n) (n - 1 - k))]
def sq (b : Int) (r s : List Int) (n : Nat) : Int := cf (sqL b r s (n + 1)) n
section
variable {b : Int} {r s : List Int}
theorem sqL_len : ∀ n, (sqL b r s n).length = n
  | 0 => rfl
  | n + 1 => by
    unfold sqL
    rw [List.length_append, sqL_len n]
    rfl
theorem sqL_cf {n k : Nat} (h : k < n) : cf (sqL b r s n) k = sq b r s k := by
  induction n with
  | zero => omega
  | succ n ih =>
    by_cases hk : k = n
    · subst hk
      rfl
    · have : cf (sqL b r s (n + 1)) k = cf (sqL b r s n) k := by
        show cf (sqL b r s n ++ _) k = _
        rw [cf_app_l (by rw [sqL_len]; omega)]
      rw [this, ih (by omega)]
theorem sqL_eq (n : Nat) : sqL b r s n = (List.range n).map (sq b r s) := by
  apply cf_ext (by rw [sqL_len]; simp)
  intro k hk
  rw [sqL_len] at hk
  rw [sqL_cf hk, cf_range, if_pos hk]
theorem sq_def (n : Nat) : sq b r s n = if n < s.length then cf s n else tk b (sm r.length fun k => cf r k * cf (sqL b r s n) (n - 1 - k)) := by
  show cf (sqL b r s n ++ [_]) n = _
  rw [cf_app_r (by rw [sqL_len]; omega), sqL_len, Nat.sub_self]
  rfl
theorem sq_lt {n : Nat} (h : n < s.length) : sq b r s n = cf s n := by rw [sq_def, if_pos h]
theorem sq_ge {n : Nat} (h : s.length ≤ n) (hl : r.length ≤ n) : sq b r s n = tk b (sm r.length fun k => cf r k * sq b r s (n - 1 - k)) := by
  rw [sq_def, if_neg (by omega)]
  congr 1
  refine sm_congr fun k hk => ?_
  rw [sqL_cf (by omega)]
theorem sq_red (hs : ∀ x ∈ s, tk b x = x) (n : Nat) : tk b (sq b r s n) = sq b r s n := by
  rw [sq_def]
  split
  · rename_i h
    exact hs _ (cf_mem h)
  · exact tk_tk b _
theorem sq_bd {B : Nat} (hB : 70 ≤ B) (hb : 0 ≤ b) (hb1 : b ≤ 1024) (hr : ∀ x ∈ r, bd 70 x) (hs : ∀ x ∈ s, bd B x) (hl : r.length ≤ 16) : ∀ n, bd (B + 74 * n) (sq b r s n) := by
  intro n
  induction n using Nat.strongRecOn with
  | _ n ih =>
    rw [sq_def]
    split
    · rename_i h
      exact bd_mono (hs _ (cf_mem h)) (by omega)
    · by_cases h0 : r.length = 0
      · rw [h0, sm_zero, tk_zero]
        exact bd_zero _
      refine bd_tk hb hb1 (by omega) ?_
      by_cases hn : n = 0
      · subst hn
        refine bd_mono (n := 4) ?_ (by omega)
        rw [sm_all0]
        · exact bd_zero _
        · intro i hi
          rw [show sqL b r s 0 = [] from rfl, cf_nil, Int.mul_zero]
      have : ∀ k, k < r.length → bd (B - 4 + 74 * n) (cf r k * cf (sqL b r s n) (n - 1 - k)) := by
        intro k hk
        rw [sqL_cf (by omega)]
        exact bd_mono (bd_mul (hr _ (cf_mem hk)) (ih _ (by omega))) (by omega)
      exact bd_mono (bd_sm (m := 4) hl this) (by omega)
/-- sums of a polynomial's numbers times what stands from n on -/
def ke (b : Int) (r s p : List Int) (n : Nat) : Int := sm p.length fun k => cf p k * sq b r s (n + k)
theorem sq_rec {n : Nat} (h : s.length ≤ n) (hl : r.length = s.length) : b ∣ sq b r s n - sm r.length fun k => cf r k * sq b r s (n - 1 - k) := by
  rw [sq_ge h (by omega)]
  exact tk_dvd b _
theorem ke_rec (p : List Int) (n : Nat) (hl : r.length = s.length) : b ∣ ke b r s p (n + r.length) - sm r.length fun k => cf r k * ke b r s p (n + r.length - 1 - k) := by
  have e : ke b r s p (n + r.length) - (sm r.length fun k => cf r k * ke b r s p (n + r.length - 1 - k)) = sm p.length fun j => cf p j * (sq b r s (n + r.length + j) - sm r.length fun k => cf r k * sq b r s (n + r.length + j - 1 - k)) := by
    have e1 : (sm r.length fun k => cf r k * ke b r s p (n + r.length - 1 - k)) = sm p.length fun j => cf p j * sm r.length fun k => cf r k * sq b r s (n + r.length + j - 1 - k) := by
      have a : (sm r.length fun k => cf r k * ke b r s p (n + r.length - 1 - k)) = sm r.length fun k => sm p.length fun j => cf p j * (cf r k * sq b r s (n + r.length + j - 1 - k)) := by
        refine sm_congr fun k hk => ?_
        unfold ke
        rw [← sm_mul]
        refine sm_congr fun j _ => ?_
        rw [show n + r.length - 1 - k + j = n + r.length + j - 1 - k by omega, ← Int.mul_assoc, ← Int.mul_assoc, Int.mul_comm (cf r k)]
      rw [a, sm_swap]
      refine sm_congr fun j _ => ?_
      rw [sm_mul]
    rw [e1]
    unfold ke
    rw [← sm_sub]
    exact sm_congr fun j _ => (Int.mul_sub ..).symm
  rw [e]
  refine dvd_sm fun j _ => Int.dvd_trans ?_ (Int.dvd_mul_left ..)
  exact sq_rec (by omega) hl
theorem ke_all (p : List Int) (hl : r.length = s.length) (h : ∀ n, n < r.length → b ∣ ke b r s p n) : ∀ n, b ∣ ke b r s p n := by
  intro n
  induction n using Nat.strongRecOn with
  | _ n ih =>
    by_cases hn : n < r.length
    · exact h n hn
    · have := ke_rec (b := b) (r := r) (s := s) p (n - r.length) hl
      rw [show n - r.length + r.length = n by omega] at this
      refine (Int.dvd_iff_dvd_of_dvd_sub this).mpr ?_
      exact dvd_sm fun k hk => Int.dvd_trans (ih _ (by omega)) (Int.dvd_mul_left ..)
end
/-- two rows alike by a rule -/
theorem sq_uniq {b : Int} {r s : List Int} (f : Nat → Int) (hl : r.length = s.length) (h1 : ∀ n, n < s.length → f n = cf s n) (h2 : ∀ n, s.length ≤ n → f n = tk b (sm r.length fun k => cf r k * f (n - 1 - k))) : ∀ n, f n = sq b r s n := by
  intro n
  induction n using Nat.strongRecOn with
  | _ n ih =>
    by_cases hn : n < s.length
    · rw [h1 n hn, sq_lt hn]
    · rw [h2 n (by omega), sq_ge (by omega) (by omega)]
      congr 1
      refine sm_congr fun k hk => ?_
      rw [ih _ (by omega)]
theorem sq_from {b : Int} {r s w : List Int} (m : Nat) (hl : r.length = s.length) (hw : w.length = s.length) (h : ∀ k, k < s.length → cf w k = sq b r s (m + k)) : ∀ n, sq b r w n = sq b r s (m + n) := by
  intro n
  refine (sq_uniq (fun n => sq b r s (m + n)) (by omega) (fun n hn => (h n (by omega)).symm) (fun n hn => ?_) n).symm
  rw [sq_ge (by omega) (by omega)]
  congr 1
  refine sm_congr fun k hk => ?_
  rw [show m + n - 1 - k = m + (n - 1 - k) by omega]
theorem sq_tk {p : Int} {r s : List Int} (hl : r.length = s.length) : ∀ n, sq p (r.map (tk p)) (s.map (tk p)) n = tk p (sq 0 r s n) := by
  intro n
  refine (sq_uniq (fun n => tk p (sq 0 r s n)) (by simp [hl]) (fun n hn => ?_) (fun n hn => ?_) n).symm
  · rw [List.length_map] at hn
    rw [sq_lt hn, cf_map (tk_zero p)]
  · rw [List.length_map] at hn
    rw [sq_ge hn (by omega), tk0, List.length_map]
    refine tk_sm_congr fun k hk => ?_
    rw [cf_map (tk_zero p), tk_mul_l, tk_mul_r]
theorem sq_lin {b f : Int} {r s o u : List Int} (hl : r.length = s.length) (ho : o.length = s.length) (hu : u.length = s.length) (h : ∀ k, k < s.length → cf u k = tk b (cf s k + f * cf o k)) : ∀ n, sq b r u n = tk b (sq b r s n + f * sq b r o n) := by
  intro n
  refine (sq_uniq (fun n => tk b (sq b r s n + f * sq b r o n)) (by omega) (fun n hn => ?_) (fun n hn => ?_) n).symm
  · rw [h n (by omega), sq_lt (by omega), sq_lt (by omega)]
  · show tk b (sq b r s n + f * sq b r o n) = _
    rw [sq_ge (n := n) (s := s) (by omega) (by omega), sq_ge (n := n) (s := o) (by omega) (by omega), tk_add_l, ← tk_add_r, tk_mul_r, tk_add_r, ← sm_mul, ← sm_add]
    refine tk_sm_congr fun k hk => ?_
    rw [tk_mul_r]
    congr 1
    rw [Int.mul_add, ← Int.mul_assoc, ← Int.mul_assoc, Int.mul_comm f]

/-! ### what divides all -/
def gL (n : Nat) (f : Nat → Int) : Nat := match n with
  | 0 => 0
  | n + 1 => Int.gcd (gL n f) (f n)
theorem gL_congr {n : Nat} {f g : Nat → Int} (h : ∀ i, i < n → f i = g i) : gL n f = gL n g := by
  induction n with
  | zero => rfl
  | succ n ih =>
    show Int.gcd (gL n f) (f n) = Int.gcd (gL n g) (g n)
    rw [ih fun i hi => h i (by omega), h n (by omega)]
theorem gL_mul (c : Int) (f : Nat → Int) : ∀ n, gL n (fun i => c * f i) = c.natAbs * gL n f
  | 0 => (Nat.mul_zero _).symm
  | n + 1 => by
    show Int.gcd (gL n (fun i => c * f i)) (c * f n) = c.natAbs * Int.gcd (gL n f) (f n)
    rw [gL_mul c f n]
    show Nat.gcd ((c.natAbs * gL n f : Nat) : Int).natAbs (c * f n).natAbs = c.natAbs * Nat.gcd ((gL n f : Nat) : Int).natAbs (f n).natAbs
    rw [Int.natAbs_natCast, Int.natAbs_natCast, Int.natAbs_mul, Nat.gcd_mul_left]
theorem gL_dvd {x : Int} {f : Nat → Int} : ∀ {n : Nat}, x ∣ (gL n f : Int) ↔ ∀ i, i < n → x ∣ f i
  | 0 => by
    constructor
    · intro _ i hi
      omega
    · intro _
      exact Int.dvd_zero x
  | n + 1 => by
    constructor
    · intro h i hi
      have h1 : x ∣ (gL n f : Int) := Int.dvd_trans h (Int.gcd_dvd_left ..)
      have h2 : x ∣ f n := Int.dvd_trans h (Int.gcd_dvd_right ..)
      by_cases e : i = n
      · rw [e]
        exact h2
      · exact (gL_dvd (n := n)).mp h1 i (by omega)
    · intro h
      exact Int.dvd_coe_gcd ((gL_dvd (n := n)).mpr fun i hi => h i (by omega)) (h n (by omega))
theorem gL_eq {n m : Nat} {f g : Nat → Int} (h1 : ∀ x : Int, (∀ i, i < n → x ∣ f i) → ∀ i, i < m → x ∣ g i) (h2 : ∀ x : Int, (∀ i, i < m → x ∣ g i) → ∀ i, i < n → x ∣ f i) : gL n f = gL m g := by
  refine Nat.dvd_antisymm (Int.natCast_dvd_natCast.mp (gL_dvd.mpr (h1 _ (gL_dvd.mp (Int.dvd_refl _))))) (Int.natCast_dvd_natCast.mp (gL_dvd.mpr (h2 _ (gL_dvd.mp (Int.dvd_refl _)))))
/-- what divides the first numbers of an exact row divides all -/
theorem sq_dvd_all {x : Int} {r s : List Int} (hl : r.length = s.length) (h : ∀ i, i < s.length → x ∣ sq 0 r s i) : ∀ n, x ∣ sq 0 r s n := by
  intro n
  induction n using Nat.strongRecOn with
  | _ n ih =>
    by_cases hn : n < s.length
    · exact h n hn
    · rw [sq_ge (by omega) (by omega), tk0]
      exact dvd_sm fun k hk => Int.dvd_trans (ih _ (by omega)) (Int.dvd_mul_left ..)
theorem sq_scale {c : Int} {r s : List Int} (hl : r.length = s.length) : ∀ n, sq 0 r (s.map (c * ·)) n = c * sq 0 r s n := by
  intro n
  refine (sq_uniq (fun n => c * sq 0 r s n) (by simp [hl]) (fun n hn => ?_) (fun n hn => ?_) n).symm
  · rw [List.length_map] at hn
    rw [sq_lt hn, cf_map (by simp)]
  · rw [List.length_map] at hn
    rw [sq_ge hn (by omega), tk0, tk0, ← sm_mul]
    refine sm_congr fun k hk => ?_
    rw [← Int.mul_assoc, ← Int.mul_assoc, Int.mul_comm c]
theorem gL_row {r s : List Int} (hl : r.length = s.length) {n : Nat} (hn : s.length ≤ n) : gL n (sq 0 r s) = gL s.length (sq 0 r s) :=
  gL_eq (fun x h i hi => h i (by omega)) fun x h i _ => sq_dvd_all hl h i
theorem gL_bd {B : Nat} {f : Nat → Int} : ∀ {n : Nat}, (∀ i, i < n → bd B (f i)) → bd B (gL n f : Int)
  | 0, _ => bd_zero B
  | n + 1, h => by
    have ih := gL_bd (n := n) fun i hi => h i (by omega)
    have hf := h n (by omega)
    show (Int.gcd (gL n f) (f n) : Int).natAbs < 2 ^ B
    unfold bd at ih hf
    rw [Int.natAbs_natCast] at ih ⊢
    by_cases hz : gL n f = 0
    · rw [hz]
      show Nat.gcd 0 _ < _
      rw [Nat.gcd_zero_left]
      exact hf
    · exact Nat.lt_of_le_of_lt (Nat.gcd_le_left _ (by rw [Int.natAbs_natCast]; omega)) (by rwa [Int.natAbs_natCast])
end Pf

set_option Elab.async false
set_option linter.all false
set_option maxRecDepth 100000
set_option autoImplicit false
/-! PfP: plain laws of the core language -/
namespace Pf
open PySem L2

/-! ### numbers as items -/
def iL (xs : List Int) : List PV := xs.map PV.int
theorem iL_nil : iL [] = [] := rfl
theorem iL_cons (x : Int) (xs : List Int) : iL (x :: xs) = .int x :: iL xs := rfl
theorem iL_app (xs ys : List Int) : iL xs ++ iL ys = iL (xs ++ ys) := (List.map_append).symm
theorem iL_app1 (xs : List Int) (y : Int) : iL xs ++ [.int y] = iL (xs ++ [y]) := iL_app xs [y]
theorem iL_len (xs : List Int) : (iL xs).length = xs.length := List.length_map ..
theorem iL_get (xs : List Int) (i : Nat) : (iL xs)[i]? = (xs[i]?).map .int := List.getElem?_map ..
theorem iL_set (xs : List Int) (i : Nat) (v : Int) : (iL xs).set i (.int v) = iL (xs.set i v) := by
  unfold iL
  rw [List.map_set]
theorem iL_eq_nil (xs : List Int) : iL xs = [] ↔ xs = [] := List.map_eq_nil_iff
theorem iL_dropLast (xs : List Int) : (iL xs).dropLast = iL xs.dropLast := by
  unfold iL
  rw [List.map_dropLast]
theorem intsOf_iL : ∀ xs : List Int, intsOf (iL xs) = some xs
  | [] => rfl
  | x :: xs => by
    show (intsOf (iL xs)).map (x :: ·) = _
    rw [intsOf_iL xs]
    rfl
theorem pyEqs_iL : ∀ xs ys : List Int, pyEqs (iL xs) (iL ys) = decide (xs = ys)
  | [], [] => rfl
  | [], _ :: _ => by simp [iL, pyEqs]
  | _ :: _, [] => by simp [iL, pyEqs]
  | x :: xs, y :: ys => by
    show (x == y && pyEqs (iL xs) (iL ys)) = _
    rw [pyEqs_iL xs ys]
    simp [Bool.beq_eq_decide_eq]
theorem dat_iL (n : Nat) (xs : List Int) : (iL xs).all (dat n) = true := by
  rw [List.all_eq_true]
  intro x hx
  obtain ⟨i, _, rfl⟩ := List.mem_map.mp hx
  cases n <;> rfl
theorem eq_lst (xs ys : List Int) : pEq (.lst (iL xs)) (.lst (iL ys)) = .ok (.bl (decide (xs = ys))) := by
  have h1 : (dat 8 (.lst (iL xs)) && dat 8 (.lst (iL ys))) = true := by
    show ((iL xs).all (dat 7) && (iL ys).all (dat 7)) = true
    rw [dat_iL, dat_iL]
    rfl
  unfold pEq
  rw [if_pos h1]
  show R.ok (PV.bl (pyEqs (iL xs) (iL ys))) = _
  rw [pyEqs_iL]
theorem eq_tup (xs ys : List Int) : pEq (.tup (iL xs)) (.tup (iL ys)) = .ok (.bl (decide (xs = ys))) := by
  have h1 : (dat 8 (.tup (iL xs)) && dat 8 (.tup (iL ys))) = true := by
    show ((iL xs).all (dat 7) && (iL ys).all (dat 7)) = true
    rw [dat_iL, dat_iL]
    rfl
  unfold pEq
  rw [if_pos h1]
  show R.ok (PV.bl (pyEqs (iL xs) (iL ys))) = _
  rw [pyEqs_iL]
theorem eq_int (x y : Int) : pEq (.int x) (.int y) = .ok (.bl (decide (x = y))) := by
  show R.ok (PV.bl (x == y)) = _
  rw [Bool.beq_eq_decide_eq]
theorem ne_of_eq {a b : PV} {t : Bool} (h : pEq a b = .ok (.bl t)) : pNe a b = .ok (.bl (!t)) := by
  unfold pEq at h
  unfold pNe
  split at h
  · rename_i q
    rw [if_pos q]
    cases h
    rfl
  · cases h
theorem ne_lst (xs ys : List Int) : pNe (.lst (iL xs)) (.lst (iL ys)) = .ok (.bl (!decide (xs = ys))) := ne_of_eq (eq_lst xs ys)
theorem ne_lst0 (xs : List Int) : pNe (.lst (iL xs)) (.lst []) = .ok (.bl (!decide (xs = []))) := ne_lst xs []
theorem ne_tup (xs ys : List Int) : pNe (.tup (iL xs)) (.tup (iL ys)) = .ok (.bl (!decide (xs = ys))) := ne_of_eq (eq_tup xs ys)
theorem ne_tup0 (xs : List Int) : pNe (.tup (iL xs)) (.tup []) = .ok (.bl (!decide (xs = []))) := ne_tup xs []
theorem eq_tup0 (xs : List Int) : pEq (.tup (iL xs)) (.tup []) = .ok (.bl (decide (xs = []))) := eq_tup xs []
theorem eq_lst0 (xs : List Int) : pEq (.lst (iL xs)) (.lst []) = .ok (.bl (decide (xs = []))) := eq_lst xs []
theorem ne_int (x y : Int) : pNe (.int x) (.int y) = .ok (.bl (!decide (x = y))) := ne_of_eq (eq_int x y)

theorem atI_nat {α : Type} (xs : List α) (i : Int) (h0 : 0 ≤ i) : atI xs i = xs[i.toNat]? := by
  unfold atI ixN
  rw [if_pos h0]
  split
  · rfl
  · rw [Option.bind_none, List.getElem?_eq_none (by omega)]
theorem atI_last {α : Type} (xs : List α) : atI xs (-1) = xs[xs.length - 1]? := by
  unfold atI ixN
  rw [if_neg (by omega)]
  split
  · have : ((-1 : Int) + xs.length).toNat = xs.length - 1 := by omega
    rw [this]
    rfl
  · rw [List.getElem?_eq_none (by omega)]
    rfl
theorem pAt_iL (xs : List Int) (i : Int) (h0 : 0 ≤ i) (h1 : i < xs.length) : pAt (iL xs) i = .ok (.int (xs.getD i.toNat 0)) := by
  unfold pAt
  rw [atI_nat _ _ h0, iL_get, List.getElem?_eq_getElem (by omega)]
  simp [List.getElem?_eq_getElem (show i.toNat < xs.length by omega)]
theorem pAt_nat (xs : List Int) (i : Nat) (h1 : i < xs.length) : pAt (iL xs) (i : Nat) = .ok (.int (xs.getD i 0)) := by
  rw [pAt_iL xs _ (by omega) (by omega), Int.toNat_natCast]
theorem pAt_last (xs : List Int) (h : xs ≠ []) : pAt (iL xs) (-1) = .ok (.int (xs.getLast h)) := by
  unfold pAt
  rw [atI_last, iL_len, iL_get, List.getElem?_eq_getElem (by have := List.length_pos_iff.mpr h; omega), List.getLast_eq_getElem]
  rfl
theorem ixN_nat (n i : Nat) (h : i < n) : ixN n (i : Int) = some i := by
  unfold ixN
  rw [if_pos (by omega), if_pos (by omega), Int.toNat_natCast]

/-! ### loops -/
theorem forL_inv {α : Type} {asg : PV → Env → Option Env} {body : Env → RS} (inj : α → PV) : ∀ (xs : List α) (env : Nat → Env),
    (∀ i (hi : i < xs.length), ∃ ρ1, asg (inj xs[i]) (env i) = some ρ1 ∧ (body ρ1 = .next (env (i + 1)) ∨ body ρ1 = .cnt (env (i + 1)))) → forL asg body (xs.map inj) (env 0) = .next (env xs.length)
  | [], env, _ => rfl
  | x :: xs, env, h => by
    obtain ⟨ρ1, h1, h2⟩ := h 0 (by simp)
    have h1 : asg (inj x) (env 0) = some ρ1 := h1
    show (match asg (inj x) (env 0) with
      | none => RS.bad
      | some ρ1 => (body ρ1).turn (forL asg body (xs.map inj))) = _
    rw [h1]
    have ih := forL_inv inj xs (fun i => env (i + 1)) fun i hi => h (i + 1) (by simpa using hi)
    rcases h2 with h2 | h2
    · show (body ρ1).turn _ = _
      rw [h2, RS.turn_next, ih]
      rfl
    · show (body ρ1).turn _ = _
      rw [h2, RS.turn_cnt, ih]
      rfl
/-- a loop that may end with an answer at a place -/
theorem forL_out {α : Type} {asg : PV → Env → Option Env} {body : Env → RS} (inj : α → PV) : ∀ (xs : List α) (env : Nat → Env) (n : Nat) (r : RS), n < xs.length →
    (∀ i (hi : i < xs.length), i < n → ∃ ρ1, asg (inj xs[i]) (env i) = some ρ1 ∧ (body ρ1 = .next (env (i + 1)) ∨ body ρ1 = .cnt (env (i + 1)))) →
    (∀ (hi : n < xs.length), ∃ ρ1, asg (inj xs[n]) (env n) = some ρ1 ∧ (body ρ1).turn (fun _ => .bad) = r ∧ (∀ ρ, body ρ1 ≠ .next ρ) ∧ (∀ ρ, body ρ1 ≠ .cnt ρ)) → forL asg body (xs.map inj) (env 0) = r
  | [], env, n, r, hn, _, _ => absurd hn (Nat.not_lt_zero n)
  | x :: xs, env, 0, r, _, _, h => by
    obtain ⟨ρ1, h1, h2, h3, h4⟩ := h (by simp)
    have h1 : asg (inj x) (env 0) = some ρ1 := h1
    show (match asg (inj x) (env 0) with
      | none => RS.bad
      | some ρ1 => (body ρ1).turn (forL asg body (xs.map inj))) = _
    rw [h1]
    show (body ρ1).turn _ = _
    revert h2 h3 h4
    cases body ρ1 with
    | next ρ => intro _ h3 _; exact absurd rfl (h3 ρ)
    | cnt ρ => intro _ _ h4; exact absurd rfl (h4 ρ)
    | _ => intro h2 _ _; exact h2
  | x :: xs, env, n + 1, r, hn, h, hr => by
    obtain ⟨ρ1, h1, h2⟩ := h 0 (by simp) (by omega)
    have h1 : asg (inj x) (env 0) = some ρ1 := h1
    show (match asg (inj x) (env 0) with
      | none => RS.bad
      | some ρ1 => (body ρ1).turn (forL asg body (xs.map inj))) = _
    rw [h1]
    have ih := forL_out inj xs (fun i => env (i + 1)) n r (by simpa using hn) (fun i hi hin => h (i + 1) (by simpa using hi) (by omega)) (fun hi => hr (by simpa using hi))
    rcases h2 with h2 | h2
    · show (body ρ1).turn _ = _
      rw [h2, RS.turn_next, ih]
    · show (body ρ1).turn _ = _
      rw [h2, RS.turn_cnt, ih]
theorem rngL_eq (lo : Int) (n : Nat) : rngL lo n = (List.range n).map fun k : Nat => PV.int (lo + (k : Int)) := rfl
theorem forL_rng {asg : PV → Env → Option Env} {body : Env → RS} (lo : Int) (n : Nat) (env : Nat → Env)
    (h : ∀ i, i < n → ∃ ρ1, asg (.int (lo + (i : Int))) (env i) = some ρ1 ∧ (body ρ1 = .next (env (i + 1)) ∨ body ρ1 = .cnt (env (i + 1)))) : forL asg body (rngL lo n) (env 0) = .next (env n) := by
  rw [rngL_eq]
  have := forL_inv (asg := asg) (body := body) (fun k : Nat => PV.int (lo + (k : Int))) (List.range n) env (fun i hi => by
    rw [List.getElem_range]
    exact h i (by simpa using hi))
  rw [this, List.length_range]
theorem forL_rng0 {asg : PV → Env → Option Env} {body : Env → RS} (n : Nat) (env : Nat → Env)
    (h : ∀ i, i < n → ∃ ρ1, asg (.int (i : Int)) (env i) = some ρ1 ∧ (body ρ1 = .next (env (i + 1)) ∨ body ρ1 = .cnt (env (i + 1)))) : forL asg body (rngL 0 n) (env 0) = .next (env n) :=
  forL_rng 0 n env fun i hi => by
    rw [Int.zero_add]
    exact h i hi
theorem forL_rng0_out {asg : PV → Env → Option Env} {body : Env → RS} (n m : Nat) (env : Nat → Env) (r : RS) (hm : m < n)
    (h : ∀ i, i < m → ∃ ρ1, asg (.int (i : Int)) (env i) = some ρ1 ∧ (body ρ1 = .next (env (i + 1)) ∨ body ρ1 = .cnt (env (i + 1))))
    (hr : ∃ ρ1, asg (.int (m : Int)) (env m) = some ρ1 ∧ (body ρ1).turn (fun _ => .bad) = r ∧ (∀ ρ, body ρ1 ≠ .next ρ) ∧ (∀ ρ, body ρ1 ≠ .cnt ρ)) : forL asg body (rngL 0 n) (env 0) = r := by
  rw [rngL_eq]
  refine forL_out (fun k : Nat => PV.int (0 + (k : Int))) (List.range n) env m r (by simpa using hm) (fun i hi him => ?_) fun hi => ?_
  · rw [List.getElem_range, Int.zero_add]
    exact h i him
  · rw [List.getElem_range, Int.zero_add]
    exact hr
theorem whlL_inv {c : Env → R PV} {body : Env → RS} : ∀ (n m : Nat) (env : Nat → Env), n < m → (∀ i, i < n → c (env i) = .ok (.bl true) ∧ (body (env i) = .next (env (i + 1)) ∨ body (env i) = .cnt (env (i + 1)))) → c (env n) = .ok (.bl false) → whlL c body m (env 0) = .next (env n)
  | _, 0, _, h, _, _ => absurd h (Nat.not_lt_zero _)
  | 0, m + 1, env, _, _, h => by
    show RS.of (c (env 0)) (env 0) _ = _
    rw [h]
    rfl
  | n + 1, m + 1, env, hm, h, he => by
    obtain ⟨h1, h2⟩ := h 0 (by omega)
    show RS.of (c (env 0)) (env 0) (fun v => RS.ifB v ((body (env 0)).turn (whlL c body m)) (.next (env 0))) = _
    rw [h1, RS.of_ok, RS.ifB_t]
    have ih := whlL_inv n m (fun i => env (i + 1)) (by omega) (fun i hi => h (i + 1) (by omega)) he
    rcases h2 with h2 | h2
    · rw [h2, RS.turn_next, ih]
    · rw [h2, RS.turn_cnt, ih]
theorem LOOPS_eq : LOOPS = 1000000000 := rfl
theorem compL_inj {α : Type} {el co : Env → R PV} {asg : PV → Option Env} (inj : α → PV) (p : α → Bool) (g : α → PV) : ∀ (xs : List α), (∀ x, x ∈ xs → ∃ ρ, asg (inj x) = some ρ ∧ co ρ = .ok (.bl (p x)) ∧ (p x = true → el ρ = .ok (g x))) →
    compL el co asg (xs.map inj) = .ok ((xs.filter p).map g)
  | [], _ => rfl
  | x :: xs, h => by
    obtain ⟨ρ, h1, h2, h3⟩ := h x (List.mem_cons_self ..)
    have ih := compL_inj inj p g xs fun y hy => h y (List.mem_cons_of_mem _ hy)
    rw [List.map_cons]
    unfold compL
    rw [h1]
    simp only [h2]
    cases hp : p x with
    | true =>
      rw [h3 hp, ih]
      simp [hp, R.bind]
    | false =>
      simp only [ih, List.filter_cons, hp]
      rfl
theorem compL_all {α : Type} {el co : Env → R PV} {asg : PV → Option Env} (inj : α → PV) (g : α → PV) (xs : List α) (h : ∀ x, x ∈ xs → ∃ ρ, asg (inj x) = some ρ ∧ co ρ = .ok (.bl true) ∧ el ρ = .ok (g x)) : compL el co asg (xs.map inj) = .ok (xs.map g) := by
  have := compL_inj inj (fun _ => true) g xs (fun x hx => by
    obtain ⟨ρ, h1, h2, h3⟩ := h x hx
    exact ⟨ρ, h1, h2, fun _ => h3⟩)
  rwa [List.filter_eq_self.mpr (fun _ _ => rfl)] at this
theorem run_ret {fs : List Sem1} {cs : List PV} {fr : Bool} {n m : Nat} {body : List PSt} {vs : List PV} {v : PV} (hl : vs.length = m) (h : evSs fs cs fr body (startE n vs) = .ret v) : run fs cs fr n m body vs = .ok v := by
  unfold run
  rw [if_pos hl, h]
theorem pEnum_iL (xs : List Int) : pEnum (iL xs) = (List.range xs.length).map fun k : Nat => PV.tup [.int (k : Int), .int (xs.getD k 0)] := by
  unfold pEnum iL
  apply List.ext_getElem
  · simp
  · intro i h1 h2
    have h : i < xs.length := by simpa using h1
    simp [List.getElem?_eq_getElem h]
theorem small_le {a : Int} {n : Nat} (h : a.natAbs ≤ n) (hn : n < BIG) : small a := Nat.lt_of_le_of_lt h hn

/-! ### more -/
theorem iL_map (f : Int → Int) (xs : List Int) : (xs.map fun x => PV.int (f x)) = iL (xs.map f) := by
  unfold iL
  rw [List.map_map]
  rfl
theorem iL_rep (n : Nat) (x : Int) : iL (List.replicate n x) = List.replicate n (.int x) := by
  unfold iL
  rw [List.map_replicate]
theorem compL_iL {el co : Env → R PV} {asg : PV → Option Env} (f : Int → Int) (xs : List Int) (h : ∀ x, x ∈ xs → ∃ ρ, asg (.int x) = some ρ ∧ co ρ = .ok (.bl true) ∧ el ρ = .ok (.int (f x))) : compL el co asg (iL xs) = .ok (iL (xs.map f)) := by
  rw [← iL_map]
  exact compL_all PV.int (fun x => .int (f x)) xs h
theorem compL_rng {el co : Env → R PV} {asg : PV → Option Env} (p : Nat → Bool) (f : Nat → Int) (n : Nat) (h : ∀ i, i < n → ∃ ρ, asg (.int (i : Int)) = some ρ ∧ co ρ = .ok (.bl (p i)) ∧ (p i = true → el ρ = .ok (.int (f i)))) : compL el co asg (rngL 0 n) = .ok (iL (((List.range n).filter p).map f)) := by
  rw [rngL_eq]
  have := compL_inj (el := el) (co := co) (asg := asg) (fun k : Nat => PV.int (0 + (k : Int))) p (fun k => .int (f k)) (List.range n) (fun x hx => by
    rw [Int.zero_add]
    exact h x (List.mem_range.mp hx))
  rw [this]
  unfold iL
  rw [List.map_map]
  rfl
theorem compL_rngA {el co : Env → R PV} {asg : PV → Option Env} (f : Nat → Int) (n : Nat) (h : ∀ i, i < n → ∃ ρ, asg (.int (i : Int)) = some ρ ∧ co ρ = .ok (.bl true) ∧ el ρ = .ok (.int (f i))) : compL el co asg (rngL 0 n) = .ok (iL ((List.range n).map f)) := by
  have := compL_rng (el := el) (co := co) (asg := asg) (fun _ => true) f n (fun i hi => by
    obtain ⟨ρ, h1, h2, h3⟩ := h i hi
    exact ⟨ρ, h1, h2, fun _ => h3⟩)
  rwa [List.filter_eq_self.mpr (fun _ _ => rfl)] at this
theorem pAt_snoc (ys : List Int) (y : Int) : pAt (iL (ys ++ [y])) (-1) = .ok (.int y) := by
  rw [pAt_last _ (by simp), List.getLast_concat]
theorem pAt_cf (xs : List Int) (i : Int) (h0 : 0 ≤ i) (h1 : i < xs.length) : pAt (iL xs) i = .ok (.int (cf xs i.toNat)) := pAt_iL xs i h0 h1
theorem pAt_cfn (xs : List Int) (i : Nat) (h1 : i < xs.length) : pAt (iL xs) (i : Int) = .ok (.int (cf xs i)) := pAt_nat xs i h1
theorem rng_set (n : Nat) (G : Nat → Int) (i : Nat) (v : Int) : ((List.range n).map G).set i v = (List.range n).map fun k => if k = i then v else G k := by
  apply List.ext_getElem (by simp)
  intro k h1 h2
  rw [List.getElem_set]
  simp only [List.getElem_map, List.getElem_range]
  by_cases e : i = k
  · rw [if_pos e, if_pos e.symm]
  · rw [if_neg e, if_neg (Ne.symm e)]
theorem rng_congr {n : Nat} {f g : Nat → Int} (h : ∀ i, i < n → f i = g i) : (List.range n).map f = (List.range n).map g := List.map_congr_left fun i hi => h i (List.mem_range.mp hi)
/-- noughts behind are taken off -/
theorem trim_loop {c : Env → R PV} {body : Env → RS} (I : List Int → Env) (h0 : c (I []) = .ok (.bl false)) (h1 : ∀ ys y, c (I (ys ++ [y])) = .ok (.bl (decide (y = 0)))) (h2 : ∀ ys y, body (I (ys ++ [y])) = .next (I ys)) :
    ∀ (m : Nat) (xs : List Int), xs.length < m → whlL c body m (I xs) = .next (I (trim xs))
  | 0, _, h => absurd h (Nat.not_lt_zero _)
  | m + 1, xs, h => by
    show RS.of (c (I xs)) (I xs) (fun v => RS.ifB v ((body (I xs)).turn (whlL c body m)) (.next (I xs))) = _
    rcases snoc_cases xs with rfl | ⟨ys, y, rfl⟩
    · rw [h0]
      rfl
    · rw [h1, RS.of_ok]
      by_cases hy : y = 0
      · subst hy
        rw [decide_eq_true rfl, RS.ifB_t, h2, RS.turn_next, trim_loop I h0 h1 h2 m ys (by simp at h; omega), trim_snoc0]
      · rw [decide_eq_false hy, RS.ifB_f, trim_snoc hy]
theorem forL_enum {asg : PV → Env → Option Env} {body : Env → RS} (xs : List Int) (env : Nat → Env)
    (h : ∀ i, i < xs.length → ∃ ρ1, asg (.tup [.int (i : Int), .int (cf xs i)]) (env i) = some ρ1 ∧ (body ρ1 = .next (env (i + 1)) ∨ body ρ1 = .cnt (env (i + 1)))) : forL asg body (pEnum (iL xs)) (env 0) = .next (env xs.length) := by
  rw [pEnum_iL]
  have := forL_inv (asg := asg) (body := body) (fun k : Nat => PV.tup [.int (k : Int), .int (xs.getD k 0)]) (List.range xs.length) env (fun i hi => by
    rw [List.getElem_range]
    exact h i (by simpa using hi))
  rw [this, List.length_range]
/-- a loop by a law of each turn -/
theorem forL_ex {asg : PV → Env → Option Env} {body : Env → RS} (I : Nat → Env → Prop) (R : PV → Prop) : ∀ (xs : List PV) (k : Nat) (ρ0 : Env), I k ρ0 →
    (∀ i x ρ, xs[i]? = some x → I (k + i) ρ → ∃ ρ1, asg x ρ = some ρ1 ∧ ((∃ ρ2, (body ρ1 = .next ρ2 ∨ body ρ1 = .cnt ρ2) ∧ I (k + i + 1) ρ2) ∨ ∃ v, body ρ1 = .ret v ∧ R v)) →
    (∃ ρ, forL asg body xs ρ0 = .next ρ ∧ I (k + xs.length) ρ) ∨ ∃ v, forL asg body xs ρ0 = .ret v ∧ R v
  | [], k, ρ0, h0, _ => .inl ⟨ρ0, rfl, h0⟩
  | x :: xs, k, ρ0, h0, h => by
    obtain ⟨ρ1, h1, h2⟩ := h 0 x ρ0 rfl h0
    have e : forL asg body (x :: xs) ρ0 = (body ρ1).turn (forL asg body xs) := by
      show (match asg x ρ0 with
        | none => RS.bad
        | some ρ1 => (body ρ1).turn (forL asg body xs)) = _
      rw [h1]
    rw [e]
    rcases h2 with ⟨ρ2, h2, h3⟩ | ⟨v, h2, h3⟩
    · have ih := forL_ex I R xs (k + 1) ρ2 h3 fun i x ρ hx hi => by
        have := h (i + 1) x ρ (by simpa using hx) (by rwa [show k + (i + 1) = k + 1 + i by omega])
        rwa [show k + (i + 1) = k + 1 + i by omega] at this
      rw [show k + (x :: xs).length = k + 1 + xs.length by simp; omega]
      rcases h2 with h2 | h2
      · rw [h2, RS.turn_next]
        exact ih
      · rw [h2, RS.turn_cnt]
        exact ih
    · right
      exact ⟨v, by rw [h2, RS.turn_ret], h3⟩
/-- a loop whose turns leave the slots as they were -/
theorem forL_const {asg : PV → Env → Option Env} {body : Env → RS} (xs : List PV) (ρ : Env) (h : ∀ x, x ∈ xs → ∃ ρ1, asg x ρ = some ρ1 ∧ (body ρ1 = .next ρ ∨ body ρ1 = .cnt ρ)) : forL asg body xs ρ = .next ρ := by
  induction xs with
  | nil => rfl
  | cons x xs ih =>
    obtain ⟨ρ1, h1, h2⟩ := h x (List.mem_cons_self ..)
    have e : forL asg body (x :: xs) ρ = (body ρ1).turn (forL asg body xs) := by
      show (match asg x ρ with
        | none => RS.bad
        | some ρ1 => (body ρ1).turn (forL asg body xs)) = _
      rw [h1]
    rw [e]
    have ih := ih fun y hy => h y (List.mem_cons_of_mem _ hy)
    rcases h2 with h2 | h2
    · rw [h2, RS.turn_next, ih]
    · rw [h2, RS.turn_cnt, ih]
theorem mem_rng0 {x : PV} {n : Nat} (h : x ∈ rngL 0 n) : ∃ i : Nat, i < n ∧ x = .int (i : Int) := by
  rw [rngL_eq] at h
  obtain ⟨i, hi, rfl⟩ := List.mem_map.mp h
  exact ⟨i, List.mem_range.mp hi, by rw [Int.zero_add]⟩

/-! ### operators at numbers -/
theorem mod_pos {a b : Int} (h : 0 < b) : pMod (.int a) (.int b) = .ok (.int (a % b)) := by
  show (if b ≠ 0 then R.ok (PV.int (if 0 < b then a % b else a.fmod b)) else R.bad) = _
  rw [if_pos (by omega), if_pos h]
theorem fdiv_pos {a b : Int} (h : 0 < b) (h2 : b < 1000000000000000000) : pFdiv (.int a) (.int b) = .ok (.int (a / b)) := by
  show (if b ≠ 0 ∧ b.natAbs < 2 ^ 9000 then R.ok (PV.int (if 0 < b then a / b else a.fdiv b)) else R.bad) = _
  have : b.natAbs < 2 ^ 9000 := by
    have h3 : b.natAbs < 2 ^ 60 := by omega
    exact Nat.lt_of_lt_of_le h3 (Nat.pow_le_pow_right (by decide) (by decide))
  rw [if_pos ⟨by omega, this⟩, if_pos h]
theorem small_bd {n : Nat} {x : Int} (h : bd n x) (hn : n ≤ 3000000) : small x := by
  have h2 := bd_mono h hn
  unfold bd at h2
  unfold small BIG
  exact h2
theorem mul_ok {a b : Int} (ha : small a) (hb : small b) : pMul (.int a) (.int b) = .ok (.int (a * b)) := by
  show (if small a ∧ small b then R.ok (PV.int (a * b)) else R.bad) = _
  rw [if_pos ⟨ha, hb⟩]
theorem small_60 {x : Int} (h : x.natAbs < 2 ^ 60) : small x := small_bd (n := 60) h (by decide)
theorem mul_bd {n m : Nat} {a b : Int} (ha : bd n a) (hb : bd m b) (hn : n ≤ 3000000) (hm : m ≤ 3000000) : pMul (.int a) (.int b) = .ok (.int (a * b)) := mul_ok (small_bd ha hn) (small_bd hb hm)
theorem flat_rep1 (x : PV) : ∀ n : Nat, (List.replicate n [x]).flatten = List.replicate n x
  | 0 => rfl
  | n + 1 => by
    rw [List.replicate_succ, List.flatten_cons, flat_rep1 x n, List.replicate_succ]
    rfl
theorem mul_rep (n : Nat) (x : Int) (h : n ≤ LIM) : pMul (.lst [.int x]) (.int (n : Int)) = .ok (.lst (iL (List.replicate n x))) := by
  have hL : LIM = 1000000 := rfl
  have h3 : [PV.int x].length * (n : Int).toNat ≤ LIM := by
    rw [List.length_singleton, Int.toNat_natCast]
    omega
  simp only [pMul]
  rw [if_pos ⟨by omega, by omega, h3⟩, Int.toNat_natCast, flat_rep1, iL_rep]
theorem app_lst {xs ys : List PV} (h : xs.length + ys.length ≤ LIM) : pAdd (.lst xs) (.lst ys) = .ok (.lst (xs ++ ys)) := if_pos h
theorem app_tup {xs ys : List PV} (h : xs.length + ys.length ≤ LIM) : pAdd (.tup xs) (.tup ys) = .ok (.tup (xs ++ ys)) := if_pos h
theorem pow_ok {a b : Int} (h0 : 0 ≤ b) (h1 : b ≤ 1000000) (h2 : a.natAbs < 2 ^ 64) : pPow (.int a) (.int b) = .ok (.int (a ^ b.toNat)) := if_pos (.inl ⟨h0, h1, h2⟩)
theorem pow_okW {a b : Int} (h0 : 0 ≤ b) (h1 : (PySem.Builtin.Int.intBits a : Int) * b ≤ 2 ^ 27) : pPow (.int a) (.int b) = .ok (.int (a ^ b.toNat)) := if_pos (.inr ⟨h0, h1⟩)
theorem ifB_dec {p : Prop} [Decidable p] (a b : RS) : RS.ifB (.bl (decide p)) a b = if p then a else b := by
  by_cases h : p
  · rw [if_pos h, decide_eq_true h]; rfl
  · rw [if_neg h, decide_eq_false h]; rfl
theorem sum_ok (xs : List Int) : pBi .sum [.lst (iL xs)] = .ok (.int xs.sum) := by
  show (match intsOf (iL xs) with
    | some ns => R.ok (PV.int ns.sum)
    | none => R.bad) = _
  rw [intsOf_iL]
theorem span_nat {n : Nat} (h : n ≤ LIM) : inSpan (n : Int) = true := by
  have hL : LIM = 1000000 := rfl
  unfold inSpan
  rw [decide_eq_true (by omega), decide_eq_true (by omega)]
  rfl
theorem span_int {i : Int} (h0 : -1000000 ≤ i) (h1 : i ≤ 1000000) : inSpan i = true := by
  unfold inSpan
  rw [decide_eq_true (by omega), decide_eq_true (by omega)]
  rfl
theorem bi_max (a b : Nat) : pBi .max [.int (a : Int), .int (b : Int)] = .ok (.int ((max a b : Nat) : Int)) := by
  show R.ok (PV.int (if (b : Int) > (a : Int) then (b : Int) else (a : Int))) = _
  congr 2
  split <;> omega
theorem bi_min (a b : Nat) : pBi .min [.int (a : Int), .int (b : Int)] = .ok (.int ((min a b : Nat) : Int)) := by
  show R.ok (PV.int (if (b : Int) < (a : Int) then (b : Int) else (a : Int))) = _
  congr 2
  split <;> omega
theorem bi_len_lst (xs : List PV) : pBi .len [.lst xs] = .ok (.int (xs.length : Nat)) := rfl
theorem bi_len_tup (xs : List PV) : pBi .len [.tup xs] = .ok (.int (xs.length : Nat)) := rfl
theorem bi_len_rl (xs : List PV) : pBi .len [.rl xs] = .ok (.int (xs.length : Nat)) := rfl
theorem bi_list_lst (xs : List PV) : pBi .list [.lst xs] = .ok (.lst xs) := rfl
theorem bi_list_tup (xs : List PV) : pBi .list [.tup xs] = .ok (.lst xs) := rfl
theorem bi_list_rl (xs : List PV) : pBi .list [.rl xs] = .ok (.lst xs) := rfl
theorem bi_tuple_lst (xs : List PV) : pBi .tuple [.lst xs] = .ok (.tup xs) := rfl
theorem bi_tuple_tup (xs : List PV) : pBi .tuple [.tup xs] = .ok (.tup xs) := rfl
theorem bi_tuple_rl (xs : List PV) : pBi .tuple [.rl xs] = .ok (.tup xs) := rfl
theorem bi_int_int (i : Int) : pBi .int [.int i] = .ok (.int i) := rfl
theorem bi_int_t : pBi .int [.bl true] = .ok (.int 1) := rfl
theorem bi_int_f : pBi .int [.bl false] = .ok (.int 0) := rfl
theorem rep_rng (n : Nat) (x : Int) : List.replicate n x = (List.range n).map fun _ => x := by
  apply List.ext_getElem (by simp)
  intro i h1 h2
  simp
theorem rng_app (G : Nat → Int) (k : Nat) : iL ((List.range k).map G) ++ [PV.int (G k)] = iL ((List.range (k + 1)).map G) := by
  rw [List.range_succ, List.map_append]
  exact iL_app1 _ _
theorem cf_rng {n i : Nat} (G : Nat → Int) (h : i < n) : cf ((List.range n).map G) i = G i := by rw [cf_range, if_pos h]
theorem compL_cons_t {el co : Env → R PV} {asg : PV → Option Env} {x : PV} {r : List PV} {ρ : Env} {v : PV} {vs : List PV} (h1 : asg x = some ρ) (h2 : co ρ = .ok (.bl true)) (h3 : el ρ = .ok v) (h : compL el co asg r = .ok vs) : compL el co asg (x :: r) = .ok (v :: vs) := by
  unfold compL
  simp only [h1, h2, h3, h, R.bind_ok]
theorem compL_cons_f {el co : Env → R PV} {asg : PV → Option Env} {x : PV} {r : List PV} {ρ : Env} {vs : List PV} (h1 : asg x = some ρ) (h2 : co ρ = .ok (.bl false)) (h : compL el co asg r = .ok vs) : compL el co asg (x :: r) = .ok vs := by
  unfold compL
  simp only [h1, h2, h]
theorem compL_pick {el co : Env → R PV} {asg : PV → Option Env} (i : Nat) (xs ys : List Int) (h1 : ∀ zs : List Int, i < zs.length → ∃ ρ, asg (.tup (iL zs)) = some ρ ∧ co ρ = .ok (.bl true) ∧ el ρ = .ok (.int (cf zs i)))
    (h2 : ∀ zs : List Int, zs.length ≤ i → ∃ ρ, asg (.tup (iL zs)) = some ρ ∧ co ρ = .ok (.bl false)) :
    compL el co asg [.tup (iL xs), .tup (iL ys)] = .ok (iL ((if i < xs.length then [cf xs i] else []) ++ (if i < ys.length then [cf ys i] else []))) := by
  have one : ∀ (zs : List Int) (r : List PV) (rs : List Int), compL el co asg r = .ok (iL rs) → compL el co asg (.tup (iL zs) :: r) = .ok (iL ((if i < zs.length then [cf zs i] else []) ++ rs)) := by
    intro zs r rs hr
    by_cases hz : i < zs.length
    · obtain ⟨ρ, a1, a2, a3⟩ := h1 zs hz
      rw [if_pos hz]
      exact compL_cons_t a1 a2 a3 hr
    · obtain ⟨ρ, a1, a2⟩ := h2 zs (by omega)
      rw [if_neg hz]
      exact compL_cons_f a1 a2 hr
  have := one xs _ _ (one ys [] [] rfl)
  rwa [List.append_nil] at this
theorem pick_sum (i : Nat) (xs ys : List Int) : ((if i < xs.length then [cf xs i] else []) ++ (if i < ys.length then [cf ys i] else [])).sum = cf xs i + cf ys i := by
  have one : ∀ zs : List Int, (if i < zs.length then [cf zs i] else []).sum = cf zs i := by
    intro zs
    split
    · simp
    · rename_i h
      rw [cf_ge (by omega)]
      rfl
  rw [List.sum_append, one, one]
theorem cut_take (xs : List PV) (k : Nat) : pCut xs none (some (k : Int)) = xs.take k := by
  unfold pCut
  rw [HT.sIx_none, HT.sIx_nat, List.drop_zero, Nat.sub_zero, Nat.min_comm, ← List.take_take, List.take_of_length_le (by simp; omega)]
theorem cut_drop (xs : List PV) (k : Nat) : pCut xs (some (k : Int)) none = xs.drop k := by
  unfold pCut
  rw [HT.sIx_none, HT.sIx_nat]
  by_cases h : k ≤ xs.length
  · rw [Nat.min_eq_left h, List.take_of_length_le (by simp)]
  · rw [Nat.min_eq_right (by omega), List.drop_length, List.drop_eq_nil_of_le (by omega), List.take_nil]
theorem cut_last (xs : List PV) : pCut xs none (some (-1)) = xs.dropLast := by
  unfold pCut
  rw [HT.sIx_none, List.drop_zero, Nat.sub_zero, List.dropLast_eq_take]
  congr 1
  show (if (-1 : Int) < 0 then ((-1 : Int) + (xs.length : Int)).toNat else min (-1 : Int).toNat xs.length) = _
  rw [if_pos (by decide)]
  omega
theorem iL_take (xs : List Int) (k : Nat) : (iL xs).take k = iL (xs.take k) := by
  unfold iL
  rw [List.map_take]
theorem iL_drop (xs : List Int) (k : Nat) : (iL xs).drop k = iL (xs.drop k) := by
  unfold iL
  rw [List.map_drop]
theorem iL_rev (xs : List Int) : (iL xs).reverse = iL xs.reverse := by
  unfold iL
  rw [List.map_reverse]
theorem sl_lst (xs : List PV) (a b : Option Int) : pSl (.lst xs) a b = .ok (.lst (pCut xs a b)) := rfl
theorem sl_tup (xs : List PV) (a b : Option Int) : pSl (.tup xs) a b = .ok (.tup (pCut xs a b)) := rfl
theorem sl_rl (xs : List PV) (a b : Option Int) : pSl (.rl xs) a b = .ok (.lst (pCut xs a b)) := rfl
theorem part_t (v : PV) : pPart true v = .ok none := rfl
theorem part_f (i : Int) : pPart false (.int i) = .ok (some i) := rfl
mutual
theorem pyEq_refl : ∀ {n : Nat} {x : PV}, dat n x = true → pyEq x x = true
  | _, .non, _ => rfl
  | _, .bl b, _ => by simp [pyEq]
  | _, .int i, _ => by simp [pyEq]
  | _, .str s, _ => by simp [pyEq]
  | n, .lst xs, h => by
    cases n with
    | zero => simp [dat] at h
    | succ n =>
      simp only [dat] at h
      simp only [pyEq]
      exact pyEqs_refl h
  | n, .tup xs, h => by
    cases n with
    | zero => simp [dat] at h
    | succ n =>
      simp only [dat] at h
      simp only [pyEq]
      exact pyEqs_refl h
  | _, .rl _, h => by simp [dat] at h
  | _, .dk _ _, h => by simp [dat] at h
  | _, .exc _, h => by simp [dat] at h
theorem pyEqs_refl : ∀ {n : Nat} {xs : List PV}, xs.all (dat n) = true → pyEqs xs xs = true
  | _, [], _ => rfl
  | n, x :: xs, h => by
    simp only [List.all_cons, Bool.and_eq_true] at h
    simp only [pyEqs, pyEq_refl h.1, pyEqs_refl h.2, Bool.and_self]
end
theorem eq_same {a b : PV} (h : a = b) (d : dat 8 a = true) : pEq a b = .ok (.bl true) := by
  subst h
  unfold pEq
  rw [d, pyEq_refl d]
  rfl
theorem ne_same {a b : PV} (h : a = b) (d : dat 8 a = true) : pNe a b = .ok (.bl false) := by
  subst h
  unfold pNe
  rw [d, pyEq_refl d]
  rfl
theorem dat_tupI (n : Nat) (xs : List Int) : dat (n + 1) (.tup (iL xs)) = true := dat_iL n xs
theorem dat_lstI (n : Nat) (xs : List Int) : dat (n + 1) (.lst (iL xs)) = true := dat_iL n xs
theorem dat_tup2 (n : Nat) (xs ys : List Int) : dat (n + 2) (.tup [.tup (iL xs), .tup (iL ys)]) = true := by
  show ([PV.tup (iL xs), .tup (iL ys)].all (dat (n + 1))) = true
  rw [List.all_cons, List.all_cons, dat_tupI, dat_tupI]
  rfl
theorem mem_iL {x : PV} {xs : List Int} (h : x ∈ iL xs) : ∃ z, z ∈ xs ∧ x = .int z := by
  obtain ⟨z, hz, rfl⟩ := List.mem_map.mp h
  exact ⟨z, hz, rfl⟩
theorem pAt_at (xs : List Int) {i : Int} (k : Nat) (h : i = (k : Int)) (hk : k < xs.length) : pAt (iL xs) i = .ok (.int (cf xs k)) := by
  subst h
  exact pAt_cfn xs k hk
/-- a loop that asks each, and ends where one doesn't keep it -/
theorem forL_allL {asg : PV → Env → Option Env} {body : Env → RS} (ρ : Env) (v : PV) (P : PV → Prop) : ∀ (xs : List PV), (∀ x, x ∈ xs → ∃ ρ1, asg x ρ = some ρ1 ∧ ((P x ∧ body ρ1 = .next ρ) ∨ (¬ P x ∧ body ρ1 = .ret v))) →
    ((∀ x, x ∈ xs → P x) ∧ forL asg body xs ρ = .next ρ) ∨ ((∃ x, x ∈ xs ∧ ¬ P x) ∧ forL asg body xs ρ = .ret v)
  | [], _ => .inl ⟨fun _ h => (nomatch h), rfl⟩
  | x :: xs, h => by
    obtain ⟨ρ1, h1, h2⟩ := h x (List.mem_cons_self ..)
    have e : forL asg body (x :: xs) ρ = (body ρ1).turn (forL asg body xs) := by
      show (match asg x ρ with
        | none => RS.bad
        | some ρ1 => (body ρ1).turn (forL asg body xs)) = _
      rw [h1]
    rw [e]
    rcases h2 with ⟨hp, h2⟩ | ⟨hp, h2⟩
    · rw [h2, RS.turn_next]
      rcases forL_allL ρ v P xs fun y hy => h y (List.mem_cons_of_mem _ hy) with ⟨a, b⟩ | ⟨⟨y, hy, a⟩, b⟩
      · refine .inl ⟨fun y hy => ?_, b⟩
        rcases List.mem_cons.mp hy with rfl | hy
        · exact hp
        · exact a y hy
      · exact .inr ⟨⟨y, List.mem_cons_of_mem _ hy, a⟩, b⟩
    · rw [h2, RS.turn_ret]
      exact .inr ⟨⟨x, List.mem_cons_self .., hp⟩, rfl⟩
theorem forL_all {asg : PV → Env → Option Env} {body : Env → RS} (ρ : Env) (v : PV) (n : Nat) (p : Nat → Prop) (h : ∀ i, i < n → ∃ ρ1, asg (.int (i : Int)) ρ = some ρ1 ∧ ((p i ∧ body ρ1 = .next ρ) ∨ (¬ p i ∧ body ρ1 = .ret v))) :
    ((∀ i, i < n → p i) ∧ forL asg body (rngL 0 n) ρ = .next ρ) ∨ ((¬ ∀ i, i < n → p i) ∧ forL asg body (rngL 0 n) ρ = .ret v) := by
  rcases forL_allL (asg := asg) (body := body) ρ v (fun x => ∀ i : Nat, x = .int (i : Int) → p i) (rngL 0 n) (fun x hx => by
    obtain ⟨i, hi, rfl⟩ := mem_rng0 hx
    obtain ⟨ρ1, h1, h2⟩ := h i hi
    refine ⟨ρ1, h1, ?_⟩
    rcases h2 with ⟨hp, h2⟩ | ⟨hp, h2⟩
    · refine .inl ⟨fun j e => ?_, h2⟩
      have : i = j := by
        injection e with e
        omega
      exact this ▸ hp
    · exact .inr ⟨fun q => hp (q i rfl), h2⟩) with ⟨a, b⟩ | ⟨⟨x, hx, a⟩, b⟩
  · refine .inl ⟨fun i hi => a (.int (i : Int)) ?_ i rfl, b⟩
    rw [rngL_eq]
    exact List.mem_map.mpr ⟨i, List.mem_range.mpr hi, by rw [Int.zero_add]⟩
  · refine .inr ⟨fun q => a fun i e => ?_, b⟩
    obtain ⟨j, hj, rfl⟩ := mem_rng0 hx
    have : i = j := by
      injection e with e
      omega
    exact this ▸ q j hj
theorem mul_repT (n : Nat) (x : Int) (h : n ≤ 1000) : pMul (.tup [.int x]) (.int (n : Int)) = .ok (.tup (iL (List.replicate n x))) := by
  simp only [pMul]
  have hc : [PV.int x].length ≤ 1000 ∧ (n : Int) ≤ 1000 ∧ -1000 ≤ (n : Int) := ⟨by simp, by omega, by omega⟩
  rw [if_pos hc, Int.toNat_natCast, flat_rep1, iL_rep]
theorem whlL_go {c : Env → R PV} {body : Env → RS} {ρ0 : Env} (n : Nat) {m : Nat} (env : Nat → Env) (hn : n < m) (h0 : ρ0 = env 0) (h : ∀ i, i < n → c (env i) = .ok (.bl true) ∧ (body (env i) = .next (env (i + 1)) ∨ body (env i) = .cnt (env (i + 1)))) (he : c (env n) = .ok (.bl false)) :
    whlL c body m ρ0 = .next (env n) := by
  rw [h0]
  exact whlL_inv n m env hn h he
theorem evSs_split {fs : List Sem1} {cs : List PV} {fr : Bool} : ∀ (n : Nat) (xs : List PSt) (ρ : Env), evSs fs cs fr xs ρ = (evSs fs cs fr (xs.take n) ρ).then (evSs fs cs fr (xs.drop n))
  | 0, xs, ρ => by
    rw [List.take_zero, List.drop_zero]
    simp only [evSs, RS.then_next]
  | n + 1, [], ρ => by
    simp only [List.take_nil, List.drop_nil, evSs, RS.then_next]
  | n + 1, x :: xs, ρ => by
    rw [List.take_succ_cons, List.drop_succ_cons]
    simp only [evSs]
    cases evS fs cs fr x ρ with
    | next ρ1 => rw [RS.then_next, RS.then_next, evSs_split n xs ρ1]
    | _ => rfl
theorem bi_int_b (b : Bool) : pBi .int [.bl b] = .ok (.int (if b then 1 else 0)) := rfl
theorem at_two (x y : PV) (t : Bool) : pAt [x, y] (if t then 1 else 0) = .ok (if t then y else x) := by cases t <;> rfl
theorem int_if (t : Bool) (x y : Int) : (if t then PV.int x else PV.int y) = PV.int (if t then x else y) := by cases t <;> rfl
theorem at3_0 (a c d : PV) : pAt [a, c, d] 0 = .ok a := rfl
theorem at3_1 (a c d : PV) : pAt [a, c, d] 1 = .ok c := rfl
theorem at3_2 (a c d : PV) : pAt [a, c, d] 2 = .ok d := rfl
theorem at2_0 (a c : PV) : pAt [a, c] 0 = .ok a := rfl
theorem at2_1 (a c : PV) : pAt [a, c] 1 = .ok c := rfl
theorem ixN_int {n : Nat} {i : Int} (h0 : 0 ≤ i) (h1 : i < n) : ixN n i = some i.toNat := by
  unfold ixN
  rw [if_pos h0, if_pos (by omega)]
def isT : R PV → Bool
  | .ok (.bl true) => true
  | _ => false
theorem isT_eq : ∀ {r : R PV}, isT r = true → r = .ok (.bl true)
  | .ok (.bl true), _ => rfl
  | .ok (.bl false), h => by cases h
  | .ok .non, h => by cases h
  | .ok (.int _), h => by cases h
  | .ok (.str _), h => by cases h
  | .ok (.lst _), h => by cases h
  | .ok (.tup _), h => by cases h
  | .ok (.rl _), h => by cases h
  | .ok (.dk _ _), h => by cases h
  | .ok (.exc _), h => by cases h
  | .exn _, h => by cases h
  | .bad, h => by cases h
theorem blsOf_map : ∀ bs : List Bool, blsOf (bs.map PV.bl) = some bs
  | [] => rfl
  | b :: bs => by
    show (blsOf (bs.map PV.bl)).map (b :: ·) = _
    rw [blsOf_map bs]
    rfl
theorem all_ok (bs : List Bool) : pBi .all [.lst (bs.map PV.bl)] = .ok (.bl (bs.all id)) := by
  show (match blsOf (bs.map PV.bl) with
    | some bs => R.ok (PV.bl (bs.all id))
    | none => R.bad) = _
  rw [blsOf_map]
theorem any_ok (bs : List Bool) : pBi .any [.lst (bs.map PV.bl)] = .ok (.bl (bs.any id)) := by
  show (match blsOf (bs.map PV.bl) with
    | some bs => R.ok (PV.bl (bs.any id))
    | none => R.bad) = _
  rw [blsOf_map]
/-- all([f(x) for x in xs]) of numbers -/
theorem compL_bl {el co : Env → R PV} {asg : PV → Option Env} (f : Int → Bool) (xs : List Int) (h : ∀ x, x ∈ xs → ∃ ρ, asg (.int x) = some ρ ∧ co ρ = .ok (.bl true) ∧ el ρ = .ok (.bl (f x))) : compL el co asg (iL xs) = .ok ((xs.map f).map PV.bl) := by
  rw [List.map_map]
  exact compL_all PV.int (fun x => .bl (f x)) xs h
theorem pZip_iL {xs ys : List Int} (h : xs.length = ys.length) : pZip (iL xs) (iL ys) = (List.range xs.length).map fun k : Nat => PV.tup [.int (cf xs k), .int (cf ys k)] := by
  unfold pZip iL
  apply List.ext_getElem
  · simp [h]
  · intro i h1 h2
    have h3 : i < xs.length := by simpa using h2
    rw [List.getElem_zipWith]
    simp only [List.getElem_map, List.getElem_range]
    rw [cf_lt h3, cf_lt (by omega)]
theorem compL_zip {el co : Env → R PV} {asg : PV → Option Env} (f : Int → Int → Int) {xs ys : List Int} (hl : xs.length = ys.length) (h : ∀ k, k < xs.length → ∃ ρ, asg (.tup [.int (cf xs k), .int (cf ys k)]) = some ρ ∧ co ρ = .ok (.bl true) ∧ el ρ = .ok (.int (f (cf xs k) (cf ys k)))) :
    compL el co asg (pZip (iL xs) (iL ys)) = .ok (iL ((List.range xs.length).map fun k => f (cf xs k) (cf ys k))) := by
  rw [pZip_iL hl]
  have := compL_all (el := el) (co := co) (asg := asg) (fun k : Nat => PV.tup [.int (cf xs k), .int (cf ys k)]) (fun k => .int (f (cf xs k) (cf ys k))) (List.range xs.length) (fun k hk => h k (List.mem_range.mp hk))
  rw [this]
  unfold iL
  rw [List.map_map]
  rfl
theorem pZip_len {xs ys : List Int} (h : xs.length = ys.length) : (pZip (iL xs) (iL ys)).length = xs.length := by
  rw [pZip_iL h]
  simp
theorem mem_rng {x : PV} {lo n : Nat} (h : x ∈ rngL (lo : Int) n) : ∃ i : Nat, lo ≤ i ∧ i < lo + n ∧ x = .int (i : Int) := by
  rw [rngL_eq] at h
  obtain ⟨i, hi, rfl⟩ := List.mem_map.mp h
  have := List.mem_range.mp hi
  exact ⟨lo + i, by omega, by omega, by rw [Int.natCast_add]⟩
theorem run_next {fs : List Sem1} {cs : List PV} {fr : Bool} {n m : Nat} {body : List PSt} {vs : List PV} {ρ : Env} (hl : vs.length = m) (h : evSs fs cs fr body (startE n vs) = .next ρ) : run fs cs fr n m body vs = .ok .non := by
  unfold run
  rw [if_pos hl, h]
theorem run_exn {fs : List Sem1} {cs : List PV} {fr : Bool} {n m : Nat} {body : List PSt} {vs : List PV} {ρ : Env} {c : Nat} (hl : vs.length = m) (h : evSs fs cs fr body (startE n vs) = .exn c ρ) : run fs cs fr n m body vs = .exn c := by
  unfold run
  rw [if_pos hl, h]
theorem forL_iL {asg : PV → Env → Option Env} {body : Env → RS} (xs : List Int) (env : Nat → Env)
    (h : ∀ i, i < xs.length → ∃ ρ1, asg (.int (cf xs i)) (env i) = some ρ1 ∧ (body ρ1 = .next (env (i + 1)) ∨ body ρ1 = .cnt (env (i + 1)))) : forL asg body (iL xs) (env 0) = .next (env xs.length) :=
  forL_inv PV.int xs env fun i hi => by
    rw [← cf_lt hi]
    exact h i hi
theorem forL_iLg {asg : PV → Env → Option Env} {body : Env → RS} (xs : List Int) (env : Nat → Env) (ρ0 : Env) (h0 : ρ0 = env 0)
    (h : ∀ i, i < xs.length → ∃ ρ1, asg (.int (cf xs i)) (env i) = some ρ1 ∧ (body ρ1 = .next (env (i + 1)) ∨ body ρ1 = .cnt (env (i + 1)))) : forL asg body (iL xs) ρ0 = .next (env xs.length) := by
  rw [h0]
  exact forL_iL xs env h
theorem maxOf_ge : ∀ (xs : List Int) (x : Int), x ∈ xs → x ≤ maxOf xs
  | [], _, h => nomatch h
  | [a], x, h => by
    rw [List.mem_singleton.mp h]
    exact Int.le_refl _
  | a :: b :: r, x, h => by
    show x ≤ max a (maxOf (b :: r))
    rcases List.mem_cons.mp h with rfl | h
    · omega
    · have := maxOf_ge (b :: r) x h
      omega
theorem max_ok (a : Int) (xs : List Int) : pBi .max [.lst (iL (a :: xs))] = .ok (.int (maxOf (a :: xs))) := by
  show (match intsOf (iL (a :: xs)) with
    | some (a :: r) => R.ok (PV.int (maxOf (a :: r)))
    | _ => R.bad) = _
  rw [intsOf_iL]
theorem rngL_len (lo : Int) (n : Nat) : (rngL lo n).length = n := by
  rw [rngL_eq]
  simp
end Pf

set_option Elab.async false
set_option linter.all false
set_option maxRecDepth 100000
set_option autoImplicit false
namespace Lw
open PySem L2 Pf
def cn_GREATEST : PV := .int (10000000000000000000000000000000000000000000000000000000000000000000000000000000000000000000000000000000000000000000000000000000000000000000000000000000000000000000000000000000000000000000000000000000000000000000000000000000000000000000000000000000000000000000000000000000000000000000000000000000000000000000000000000000000000000000000000000000000000000000000000000000000000000000000000000000000000000000000000000000000000000000000000000000000000000000000000000000000000000000000000000000000000000000000000000000000000000000000000000000000000000000000000000000000000000000000000000000000000000000000000000000000000000000000000000000000000000000000000000000000000000000000000000000000000000000000000000000000000000000000000000000000000000000000000000000000000000000000000000000000000000000000000000000000000000000000000000000000000000000000000000000000000000000000000000000000000000000000000000000000000000000000000000000000000000000000000000000000000000000000000000000000000000000000000000000000000000000000000000000000000000000000000000000000000000000000000000000000000000000000000000000000000000000000000000000000000000000000000000000000000000000000000000000000000000000000000000000000000000000000000000000000000000000000000000000000000000000000000000000000000000000000000000000000000000000000000000000000000000000000000000000000000000000000000000000000000000000000000000000000000000000000000000000000000000000000000000000000000000000000000000000000000000000000000000000000000000000000000000000000000000000000000000000000000000000000000000000000000000000000000000000000000000000000000000000000000000000000000000000000000000000000000000000000000000000000000000000000000000000000000000000000000000000000000000000000000000000000000000000000000000000000000000000000000000000000000000000000000000000000000000000000000000000000000000000000000000000000000000000000000000000000000000000000000000000000000000000000000000000000000000000000000000000000000000000000000000000000000000000000000000000000000000000000000000000000000000000000000000000000000000000000000000000000000000000000000000000000000000000000000000000000000000000000000000000000000000000000000000000000000000000000000000000000000000000000000000000000000000000000000000000000000000000000000000000000000000000000000000000000000000000000000000000000000000000000000000000000000000000000000000000000000000000000000000000000000000000000000000000000000000000000000000000000000000000000000000000000000000000000000000000000000000000000000000000000000000000000000000000000000000000000000000000000000000000000000000000000000000000000000000000000000000000000000000000000000000000000000000000000000000000000000000000000000000000000000000000000000000000000000000000000000000000000000000000000000000000000000000000000000000000000000000000000000000000000000000000000000000000000000000000000000000000000000000000000000000000000000000000000000000000000000000000000000000000000000000000000000000000000000000000000000000000000000000000000000000000000000000000000000000000000000000000000000000000000000000000000000000000000000000000000000000000000000000000000000000000000000000000000000000000000000000000000000000000000000000000000000000000000000000000000000000000000000000000000000000000000000000000000000000000000000000000000000000000000000000000000000000000000000000000000000000000000000000000000000000000000000000000000000000000000000000000000000000000000000000000000000000000000000000000000000000000000000000000000000000000000000000000000000000000000000000000000000000000000000000000000000000000000000000000000000000000000000000000000000000000000000000000000000000000000000000000000000000000000000000000000000000000000000000000000000000000000000000000000000000000000000000000000000000000000000000000000000000000000000000000000000000000000000000000000000000000000000000000000000000000000000000000000000000000000000000000000000000000000000000000000000000000000000000000000000000000000000000000000000000000000000000000000000000000000000000000000000000000000000000)
def c_l_power_1 : List PSt :=
[(.set 1 (.bin .mul (.var 1) (.int 10))),
 (.kil 2)]
def c_l_power : List PSt :=
[(.set 1 (.int 1)),
 (.forS [2] false (.rng1 (.var 0)) c_l_power_1),
 (.kil 2),
 (.ret (.var 1))]
def s_l_power : Sem1 := run [] [] false 3 1 c_l_power
def c_l_mix : List PSt :=
[(.ret (.bin .mod (.bin .mul (.bin .add (.bin .mod (.var 0) (.int 2147483647)) (.int 1)) (.bin .add (.int 48271) (.bin .mul (.int 7) (.var 1)))) (.int 2147483647)))]
def s_l_mix : Sem1 := run [] [] false 2 2 c_l_mix
def c_l_by : List PSt :=
[(.set 1 (.ix (.lst (.cons (.int 11) (.cons (.int 13) (.cons (.int 17) (.cons (.int 101) (.cons (.int 499) (.cons (.int 503) (.cons (.int 941) (.cons (.int 991) .nil))))))))) (.bin .mod (.bin .fdiv (.var 0) (.int 10)) (.int 8)))),
 (.ret (.ix (.lst (.cons (.int 0) (.cons (.int 2) (.cons (.int 0) (.cons (.int 3) (.cons (.int 5) (.cons (.int 0) (.cons (.int 7) (.cons (.int 31) (.cons (.var 1) (.cons (.int 997) .nil))))))))))) (.bin .mod (.var 0) (.int 10))))]
def s_l_by : Sem1 := run [] [] false 2 1 c_l_by
def c_l_number : List PSt :=
[(.ite (.cmp .gt (.var 0) (.int 0))
 [(.ret (.bin .mod (.var 1) (.var 0)))]
 []),
 (.set 2 (.bin .mod (.var 1) (.int 8))),
 (.ite (.cmp .lt (.var 2) (.int 2))
 [(.ret (.int 0))]
 []),
 (.ite (.cmp .lt (.var 2) (.int 5))
 [(.ret (.bin .sub (.bin .mod (.bin .fdiv (.var 1) (.int 8)) (.int 5)) (.int 2)))]
 []),
 (.ite (.cmp .lt (.var 2) (.int 7))
 [(.ret (.bin .sub (.bin .mod (.bin .fdiv (.var 1) (.int 8)) (.int 41)) (.int 20)))]
 []),
 (.ret (.bin .mul (.bin .mod (.bin .pow (.bin .fdiv (.var 1) (.int 8)) (.int 3)) (.bin .pow (.int 10) (.int 20))) (.bin .sub (.int 1) (.bin .mul (.int 2) (.bin .mod (.bin .fdiv (.var 1) (.int 16)) (.int 2))))))]
def s_l_number : Sem1 := run [] [] false 3 2 c_l_number
def c_l_numbers_1 : List PSt :=
[(.set 4 (.bin .mod (.bin .mul (.var 4) (.int 48271)) (.int 2147483647))),
 (.app 3 (.call 0 (.cons (.var 0) (.cons (.var 4) .nil)))),
 (.kil 5)]
def c_l_numbers : List PSt :=
[(.seto 3 (.lst .nil)),
 (.set 4 (.var 1)),
 (.forS [5] false (.rng1 (.var 2)) c_l_numbers_1),
 (.kil 4),
 (.kil 5),
 (.reto 3)]
def s_l_numbers : Sem1 := run [s_l_number] [] false 6 3 c_l_numbers
def c_l_row : List PSt :=
[(.set 2 (.call 0 (.cons (.var 0) (.cons (.int 1) .nil)))),
 (.set 3 (.call 1 (.cons (.var 2) .nil))),
 (.set 4 (.bin .mod (.bin .fdiv (.var 2) (.int 10)) (.bin .add (.var 1) (.int 1)))),
 (.set 5 (.call 2 (.cons (.var 3) (.cons (.call 0 (.cons (.var 0) (.cons (.int 2) .nil))) (.cons (.var 4) .nil))))),
 (.ret (.tup (.cons (.var 3) (.cons (.bi .tuple (.cons (.var 5) .nil)) (.cons (.bi .tuple (.cons (.call 2 (.cons (.var 3) (.cons (.call 0 (.cons (.var 0) (.cons (.int 3) .nil))) (.cons (.var 4) .nil)))) .nil)) .nil)))))]
def s_l_row : Sem1 := run [s_l_mix, s_l_by, s_l_numbers] [] false 6 2 c_l_row
def c_number_text : List PSt :=
[(.ite (.not (.chain .lt .lt (.neg (.con 0)) (.var 0) (.con 0)))
 [(.raise 6)]
 []),
 (.ret (.bi .str (.cons (.var 0) .nil)))]
def s_number_text : Sem1 := run [] [cn_GREATEST] false 1 1 c_number_text
def c_shown : List PSt :=
[(.unp [2, 3, 4] (.var 0)),
 (.set 1 (.bin .add (.bin .add (.compX (.call 0 (.cons (.var 5) .nil)) [5] false (.seq (.var 3))) (.lst (.cons (.str ("|" : Str)) .nil))) (.compX (.call 0 (.cons (.var 5) .nil)) [5] false (.seq (.var 4))))),
 (.ite (.cmp .ne (.var 2) (.int 0))
 [(.set 1 (.bin .add (.var 1) (.lst (.cons (.str ("by" : Str)) (.cons (.bi .str (.cons (.var 2) .nil)) .nil)))))]
 []),
 (.ret (.joi (.str (" " : Str)) (.var 1)))]
def s_shown : Sem1 := run [s_number_text] [] false 6 1 c_shown
def c_l_great : List PSt :=
[(.set 2 (.call 0 (.cons (.int 4000) .nil))),
 (.set 3 (.ix (.lst (.cons (.bin .sub (.var 2) (.int 1)) (.cons (.bin .sub (.int 1) (.var 2)) (.cons (.var 2) (.cons (.bin .sub (.int 0) (.var 2)) (.cons (.bin .add (.var 2) (.var 1)) (.cons (.bin .sub (.bin .sub (.int 0) (.var 2)) (.var 1)) .nil))))))) (.bin .mod (.var 1) (.int 6)))),
 (.set 4 (.bin .mod (.bin .fdiv (.var 1) (.int 6)) (.bi .max (.cons (.int 1) (.cons (.bi .len (.cons (.ix (.var 0) (.int 1)) .nil)) .nil))))),
 (.set 5 (.bin .add (.bin .add (.sl (.ix (.var 0) (.int 1)) .non (.var 4)) (.tup (.cons (.var 3) .nil))) (.sl (.ix (.var 0) (.int 1)) (.bin .add (.var 4) (.int 1)) .non))),
 (.ite (.cmp .eq (.bin .mod (.bin .fdiv (.var 1) (.int 72)) (.int 2)) (.int 1))
 [(.ret (.tup (.cons (.tup (.cons (.int 0) (.cons (.bin .add (.ix (.var 0) (.int 1)) (.bin .mul (.tup (.cons (.int 0) .nil)) (.bi .int (.cons (.cmp .eq (.ix (.var 0) (.int 1)) (.tup .nil)) .nil)))) (.cons (.var 5) .nil)))) (.cons (.cmp .gt (.bin .mod (.var 1) (.int 6)) (.int 1)) .nil))))]
 []),
 (.ret (.tup (.cons (.tup (.cons (.int 0) (.cons (.var 5) (.cons (.bin .add (.ix (.var 0) (.int 2)) (.bin .mul (.tup (.cons (.int 0) .nil)) (.bi .int (.cons (.cmp .eq (.ix (.var 0) (.int 2)) (.tup .nil)) .nil)))) .nil)))) (.cons (.cmp .gt (.bin .mod (.var 1) (.int 6)) (.int 1)) .nil))))]
def s_l_great : Sem1 := run [s_l_power] [] false 6 2 c_l_great
def c_l_asked : List PSt :=
[(.set 1 .non),
 (.set 2 .non),
 (.tryS [(.set 1 (.call 0 (.cons (.var 0) .nil)))] [6] 3
 [(.set 4 (.isx (.var 3) [some 2, some 8, some 1, some 7, some 3, some 4, some 5] [6])), (.set 2 (.and (.isx (.var 3) [some 6] [6]) (.and (.isx (.var 3) [none] [6]) (.not (.var 4)))))]),
 (.kil 3),
 (.kil 4),
 (.ret (.tup (.cons (.var 1) (.cons (.var 2) .nil))))]
def s_l_asked : Sem1 := run [s_shown] [] false 5 1 c_l_asked
def c_l_figures_1 : List PSt :=
[(.set 1 (.bin .fdiv (.var 1) (.int 10))),
 (.app 2 (.ix (.str ("0123456789" : Str)) (.bin .mod (.var 1) (.int 10))))]
def c_l_figures : List PSt :=
[(.set 1 (.bi .abs (.cons (.var 0) .nil))),
 (.seto 2 (.lst (.cons (.ix (.str ("0123456789" : Str)) (.bin .mod (.var 1) (.int 10))) .nil))),
 (.whl LOOPS (.cmp .gt (.var 1) (.int 9)) c_l_figures_1),
 (.kil 1),
 (.ite (.cmp .lt (.var 0) (.int 0))
 [(.app 2 (.str ("-" : Str)))]
 []),
 (.ret (.jrv ("" : Str) (.bvar 2)))]
def s_l_figures : Sem1 := run [] [] false 3 1 c_l_figures
def c_l_cell_at : List PSt :=
[(.ite (.cmp .lt (.var 1) (.bi .len (.cons (.var 0) .nil)))
 [(.ret (.ix (.var 0) (.var 1)))]
 []),
 (.ret (.int 0))]
def s_l_cell_at : Sem1 := run [] [] false 2 2 c_l_cell_at
def c_l_text : List PSt :=
[(.set 1 (.bin .add (.comp (.call 0 (.cons (.var 2) .nil)) [2] false (.seq (.ix (.var 0) (.int 1))) (.bl true)) (.lst (.cons (.str ("|" : Str)) .nil)))),
 (.set 1 (.bin .add (.var 1) (.comp (.call 0 (.cons (.var 2) .nil)) [2] false (.seq (.ix (.var 0) (.int 2))) (.bl true)))),
 (.ite (.cmp .gt (.ix (.var 0) (.int 0)) (.int 0))
 [(.set 1 (.bin .add (.var 1) (.lst (.cons (.str ("by" : Str)) (.cons (.call 0 (.cons (.ix (.var 0) (.int 0)) .nil)) .nil)))))]
 []),
 (.ret (.joi (.str (" " : Str)) (.var 1)))]
def s_l_text : Sem1 := run [s_l_figures] [] false 3 1 c_l_text
def c_law_1 : List PSt :=
[(.set 3 (.call 0 (.cons (.bin .add (.call 1 (.cons (.var 0) (.cons (.var 1) .nil))) (.bin .mul (.var 1) (.var 1))) (.cons (.int 12) .nil)))),
 (.set 4 (.call 2 (.cons (.var 3) .nil))),
 (.ite (.or (.not (.isa (.var 4) .str)) (.cmp .ne (.var 4) (.call 3 (.cons (.var 3) .nil))))
 [(.ret (.bl false))]
 []),
 (.ite (.and (.cmp .eq (.ix (.var 3) (.int 0)) (.int 0)) (.cmp .eq (.bin .mod (.var 1) (.int 5)) (.int 0)))
 [(.unp [5, 6] (.call 4 (.cons (.var 3) (.cons (.call 5 (.cons (.call 1 (.cons (.var 0) (.cons (.bin .add (.int 10) (.var 1)) .nil))) (.cons (.var 1) .nil))) .nil)))), (.unp [7, 8] (.call 6 (.cons (.var 5) .nil))), (.ite (.and (.var 6) (.or (.cmp .notN (.var 7) .non) (.cmp .notN (.var 8) (.bl true))))
 [(.ret (.bl false))]
 []), (.ite (.and (.not (.var 6)) (.or (.cmp .notN (.var 8) .non) (.cmp .ne (.var 7) (.call 3 (.cons (.var 5) .nil)))))
 [(.ret (.bl false))]
 [])]
 []),
 (.kil 5),
 (.kil 6),
 (.kil 7),
 (.kil 8),
 (.kil 1),
 (.kil 3),
 (.kil 4),
 (.kil 5),
 (.kil 6),
 (.kil 7),
 (.kil 8)]
def c_law : List PSt :=
[(.forS [1] false (.rng1 (.int 10)) c_law_1),
 (.kil 1),
 (.kil 3),
 (.kil 4),
 (.kil 5),
 (.kil 6),
 (.kil 7),
 (.kil 8),
 (.set 2 (.call 7 (.cons (.bin .add (.int 61) (.bin .mod (.call 1 (.cons (.var 0) (.cons (.int 20) .nil))) (.int 300))) .nil))),
 (.ret (.cmp .eq (.call 2 (.cons (.tup (.cons (.int 0) (.cons (.tup (.cons (.var 2) .nil)) (.cons (.tup (.cons (.bin .sub (.int 1) (.var 2)) .nil)) .nil)))) .nil)) (.bin .add (.bin .add (.call 8 (.cons (.var 2) .nil)) (.str (" | " : Str))) (.call 8 (.cons (.bin .sub (.int 1) (.var 2)) .nil)))))]
def s_law : Sem1 := run [s_l_row, s_l_cell_at, s_shown, s_l_text, s_l_great, s_l_mix, s_l_asked, s_l_power, s_l_figures] [] false 9 1 c_law
end Lw

set_option Elab.async false
set_option linter.all false
set_option maxRecDepth 100000
set_option autoImplicit false
namespace Lw
open Pf
/-! ### texts as lists of signs -/
def st (l : List Nat) : PySem.Str := ⟨l.toArray⟩
theorem tl_st (l : List Nat) : TL.tl (st l) = l := rfl
theorem st_len (l : List Nat) : (st l).length = l.length := by
  rw [TL.len_tl]
  rfl
theorem st_inj {a b : List Nat} (h : st a = st b) : a = b := by
  have := congrArg TL.tl h
  exact this
def okT (l : List Nat) : Prop := ∀ c ∈ l, c < 256
theorem okT.dat {l : List Nat} (h : okT l) (n : Nat) : dat n (.str (st l)) = true := by
  have e : PySem.PyData.strOk (st l) = true := by
    show (st l).cps.all (· < 0x110000) = true
    rw [← Array.all_toList]
    show l.all (fun c => decide (c < 0x110000)) = true
    rw [List.all_eq_true]
    intro c hc
    have := h c hc
    simp
    omega
  cases n <;> exact e
theorem eq_st {a b : List Nat} (ha : okT a) (hb : okT b) : pEq (.str (st a)) (.str (st b)) = .ok (.bl (decide (a = b))) := by
  unfold pEq
  rw [ha.dat, hb.dat]
  show R.ok (PV.bl (st a == st b)) = _
  congr 2
  by_cases h : a = b
  · rw [h, decide_eq_true rfl]
    exact beq_self_eq_true _
  · rw [decide_eq_false h]
    exact beq_eq_false_iff_ne.mpr fun e => h (st_inj e)
theorem ne_st {a b : List Nat} (ha : okT a) (hb : okT b) : pNe (.str (st a)) (.str (st b)) = .ok (.bl (!decide (a = b))) := ne_of_eq (eq_st ha hb)
theorem len_st {l : List Nat} (h : l.length ≤ LIM) : pBi .len [.str (st l)] = .ok (.int (l.length : Nat)) := by
  show (if (st l).length ≤ LIM then R.ok (PV.int (st l).length) else .bad) = _
  rw [st_len, if_pos h]
theorem sl_take {l : List Nat} (h : l.length ≤ LIM) (k : Nat) : pSl (.str (st l)) none (some (k : Int)) = .ok (.str (st (l.take k))) := by
  show (if (st l).length ≤ LIM then R.ok (PV.str (L2.cutS (st l) none (some (k : Int)))) else .bad) = _
  rw [st_len, if_pos h]
  show R.ok (PV.str (st ((l.drop 0).take (HT.sIx (st l).length (st l).length (some (k : Int)) - 0)))) = _
  rw [HT.sIx_nat, st_len, List.drop_zero, Nat.sub_zero]
  congr 3
  by_cases q : k ≤ l.length
  · rw [Nat.min_eq_left q]
  · rw [Nat.min_eq_right (by omega), List.take_of_length_le (Nat.le_refl _), List.take_of_length_le (by omega)]
theorem sl_drop {l : List Nat} (h : l.length ≤ LIM) (k : Nat) : pSl (.str (st l)) (some (k : Int)) none = .ok (.str (st (l.drop k))) := by
  show (if (st l).length ≤ LIM then R.ok (PV.str (L2.cutS (st l) (some (k : Int)) none)) else .bad) = _
  rw [st_len, if_pos h]
  show R.ok (PV.str (st ((l.drop (HT.sIx (st l).length 0 (some (k : Int)))).take ((st l).length - HT.sIx (st l).length 0 (some (k : Int)))))) = _
  rw [HT.sIx_nat, st_len]
  congr 3
  by_cases q : k ≤ l.length
  · rw [Nat.min_eq_left q, List.take_of_length_le (by rw [List.length_drop]; omega)]
  · rw [Nat.min_eq_right (by omega), Nat.sub_self, List.take_zero, List.drop_of_length_le (by omega)]
theorem ix_st {l : List Nat} (h : l.length ≤ LIM) {i : Int} (h0 : 0 ≤ i) (h1 : i < l.length) : pIx (.str (st l)) (.int i) = .ok (.str (st [l.getD i.toNat 0])) := by
  show (if (st l).length ≤ LIM then (match L2.atI l i with
    | some c => R.ok (PV.str ⟨#[c]⟩)
    | none => .bad) else .bad) = _
  rw [st_len, if_pos h, atI_nat _ _ h0, List.getElem?_eq_getElem (by omega), List.getD_eq_getElem?_getD, List.getElem?_eq_getElem (by omega)]
  rfl
theorem seq_st (l : List Nat) : pSeq (.str (st l)) = .ok (l.map fun c => .str (st [c])) := rfl
theorem in_st (c : Nat) (l : List Nat) : pIn (.str (st [c])) (.str (st l)) = .ok (.bl (decide (c ∈ l))) := rfl
theorem st_app (a b : List Nat) : st a ++ st b = st (a ++ b) := TL.ext_tl (by
  rw [TL.tl_append]
  rfl)
theorem add_st {a b : List Nat} (h : a.length + b.length ≤ LIM) : pAdd (.str (st a)) (.str (st b)) = .ok (.str (st (a ++ b))) := by
  show (if (st a).length + (st b).length ≤ LIM then R.ok (PV.str (st a ++ st b)) else .bad) = _
  rw [st_len, st_len, if_pos h, st_app]
/-! ### numbers as texts -/
def numW (z : Int) : List Nat := if z < 0 then 45 :: TL.numL z.natAbs else TL.numL z.natAbs
theorem numW_nat (n : Nat) : numW (n : Int) = TL.numL n := by
  unfold numW
  rw [if_neg (by omega), Int.natAbs_natCast]
theorem str_numW (z : Int) : (PySem.Str.ofString (toString z)) = st (numW z) := TL.ext_tl (by
  show TL.tl (PySem.Str.ofString (toString z)) = numW z
  cases z with
  | ofNat n =>
    show TL.tl (PySem.Str.ofString (toString ((n : Nat) : Int))) = numW (n : Int)
    rw [TL.tl_num, numW_nat]
  | negSucc n =>
    have e : toString (Int.negSucc n) = "-" ++ toString (((n + 1 : Nat) : Int)) := rfl
    rw [e, TL.tl_ofString, String.toList_append, List.map_append, ← TL.tl_ofString, ← TL.tl_ofString, TL.tl_num]
    unfold numW
    rw [if_pos (Int.negSucc_lt_zero n)]
    rfl)
theorem numW_len {z : Int} {k : Nat} (hk : 0 < k) (h : z.natAbs < 10 ^ k) : (numW z).length ≤ k + 1 := by
  have := TL.numL_len hk h
  unfold numW
  split
  · rw [List.length_cons]
    omega
  · omega
theorem numL_ok (n : Nat) : ∀ c ∈ TL.numL n, 48 ≤ c ∧ c ≤ 57 := fun c hc => TL.numL_digits n c hc
theorem numW_sign (z : Int) : ∀ c ∈ numW z, c = 45 ∨ (48 ≤ c ∧ c ≤ 57) := fun c hc => by
  unfold numW at hc
  split at hc
  · rcases List.mem_cons.mp hc with h | h
    · exact .inl h
    · exact .inr (numL_ok _ c h)
  · exact .inr (numL_ok _ c hc)
theorem numW_okT (z : Int) : okT (numW z) := fun c hc => by
  have := numW_sign z c hc
  omega
theorem numW_32 (z : Int) : 32 ∉ numW z := fun h => by
  have := numW_sign z 32 h
  omega
theorem bi_str_ok {z : Int} (h : z.natAbs.log2 < 1920) : pBi .str [.int z] = .ok (.str (st (numW z))) := by
  show (if z.natAbs.log2 < 1920 ∨ z.natAbs < DIG then R.ok (PV.str (PySem.Str.ofString (toString z))) else .bad) = _
  rw [if_pos (.inl h), str_numW]
theorem bi_int_ok {z : Int} (h : (numW z).length ≤ 640) : pBi .int [.str (st (numW z))] = .ok (.int z) := by
  have e : PySem.intText? (st (numW z)) = some z := by
    by_cases q : z < 0
    · have hx : (st (numW z)).cps.toList = 45 :: TL.numL z.natAbs := by
        show numW z = _
        unfold numW
        rw [if_pos q]
      rw [PySem.intText_neg hx (TL.numL_digits _) (TL.numL_ne _) (by rw [st_len]; omega), TL.numL_val]
      congr 1
      omega
    · have hx : (st (numW z)).cps.toList = TL.numL z.natAbs := by
        show numW z = _
        unfold numW
        rw [if_neg q]
      rw [PySem.intText_digits (by rw [hx]; exact TL.numL_digits _) (by rw [hx]; exact TL.numL_ne _) (by rw [st_len]; omega), hx, TL.numL_val]
      congr 1
      omega
  show (match PySem.intText? (st (numW z)) with
    | some n => if (st (numW z)).length ≤ 640 then R.ok (PV.int n) else .bad
    | none => .bad) = _
  rw [e]
  show (if (st (numW z)).length ≤ 640 then R.ok (PV.int z) else .bad) = _
  rw [st_len, if_pos h]
/-! ### joined, parted -/
def sL (ws : List (List Nat)) : List PV := ws.map fun w => .str (st w)
theorem strsOf_sL : ∀ ws : List (List Nat), strsOf (sL ws) = some (ws.map st)
  | [] => rfl
  | w :: ws => by
    show (strsOf (sL ws)).map (st w :: ·) = _
    rw [strsOf_sL ws]
    rfl
theorem join_ok {ws : List (List Nat)} {s : List Nat} (h : (ws.map List.length).sum + ws.length * s.length ≤ 16777216) : pJoin (.str (st s)) (.lst (sL ws)) = .ok (.str (st (TL.joinL s ws))) := by
  show (match strsOf (sL ws) with
    | some ss => if (ss.map fun x : PySem.Str => x.length).sum + ss.length * (st s).length ≤ 16777216 then R.ok (PV.str (PySem.Txt.join (st s) ss)) else .bad
    | none => .bad) = _
  rw [strsOf_sL]
  have e : ((ws.map st).map fun x : PySem.Str => x.length) = ws.map List.length := by
    rw [List.map_map]
    exact List.map_congr_left fun w _ => st_len w
  show (if ((ws.map st).map fun x : PySem.Str => x.length).sum + (ws.map st).length * (st s).length ≤ 16777216 then R.ok (PV.str (PySem.Txt.join (st s) (ws.map st))) else .bad) = _
  rw [e, List.length_map, st_len, if_pos h, TL.join_eq]
  congr 2
  refine TL.ext_tl ?_
  rw [TL.tl_join, List.map_map]
  show TL.joinL s (ws.map fun w => w) = TL.joinL s ws
  rw [List.map_id']
theorem st32_256 : (st [32]).cps.all (· < 256) = true := by
  rw [← Array.all_toList]
  rfl
theorem splt_ok {t : List Nat} (h : t.length ≤ LIM) : pSplt (.str (st t)) (.str (st [32])) = .ok (.lst (sL (TL.spl [32] 0 [] t))) := by
  have e : PySem.Txt.split (st t) (st [32]) = (TL.spl [32] 0 [] t).map st := by
    refine TL.map_tl_inj ?_
    rw [TL.split_spl _ _ (by show ([32] : List Nat) ≠ []; decide) (TL.kind_ok st32_256), List.map_map]
    show _ = (TL.spl [32] 0 [] t).map fun w => w
    rw [List.map_id']
    rfl
  show (if ((st [32]).length == 0) = false ∧ (st t).length ≤ LIM then R.ok (PV.lst ((PySem.Txt.split (st t) (st [32])).map .str)) else .bad) = _
  rw [if_pos ⟨rfl, by rw [st_len]; exact h⟩, e, List.map_map]
  rfl
theorem spl_ne : ∀ (t acc : List Nat), TL.spl [32] 0 acc t ≠ []
  | [], acc => by
    rw [TL.spl_nil]
    simp
  | c :: t, acc => by
    by_cases h : c = 32
    · rw [TL.spl_hit (by rw [h]; rfl)]
      simp
    · rw [TL.spl_miss (TL.pre_of_head [] t h)]
      exact spl_ne t _
theorem join_spl : ∀ (t acc : List Nat), TL.joinL [32] (TL.spl [32] 0 acc t) = acc ++ t
  | [], acc => by
    rw [TL.spl_nil, List.append_nil]
    rfl
  | c :: t, acc => by
    by_cases h : c = 32
    · rw [TL.spl_hit (by rw [h]; rfl)]
      have ih := join_spl t []
      have ne := spl_ne t []
      show TL.joinL [32] (acc :: TL.spl [32] 0 [] t) = acc ++ c :: t
      obtain ⟨p, q, e⟩ := List.exists_cons_of_ne_nil ne
      rw [e] at ih ⊢
      show acc ++ ([32] ++ TL.joinL [32] (p :: q)) = _
      rw [ih, h]
      rfl
    · rw [TL.spl_miss (TL.pre_of_head [] t h), join_spl t, List.append_assoc]
      rfl
/-- the words' signs, their lengths, how many -/
theorem spl_mem : ∀ (t acc : List Nat), ∀ w ∈ TL.spl [32] 0 acc t, w.length ≤ acc.length + t.length ∧ ∀ c ∈ w, c ∈ acc ∨ c ∈ t
  | [], acc, w, hw => by
    rw [TL.spl_nil] at hw
    rw [List.mem_singleton.mp hw]
    exact ⟨Nat.le_refl _, fun c hc => .inl hc⟩
  | c :: t, acc, w, hw => by
    by_cases h : c = 32
    · rw [TL.spl_hit (by rw [h]; rfl)] at hw
      rcases List.mem_cons.mp hw with rfl | hw
      · exact ⟨by omega, fun c hc => .inl hc⟩
      · obtain ⟨h1, h2⟩ := spl_mem t [] w hw
        refine ⟨by simp at h1 ⊢; omega, fun d hd => ?_⟩
        rcases h2 d hd with z | z
        · cases z
        · exact .inr (List.mem_cons_of_mem _ z)
    · rw [TL.spl_miss (TL.pre_of_head [] t h)] at hw
      obtain ⟨h1, h2⟩ := spl_mem t _ w hw
      refine ⟨by simp at h1 ⊢; omega, fun d hd => ?_⟩
      rcases h2 d hd with z | z
      · rcases List.mem_append.mp z with z | z
        · exact .inl z
        · rw [List.mem_singleton.mp z]
          exact .inr (List.mem_cons_self ..)
      · exact .inr (List.mem_cons_of_mem _ z)
theorem spl_many : ∀ (t acc : List Nat), (TL.spl [32] 0 acc t).length ≤ t.length + 1
  | [], acc => by
    rw [TL.spl_nil]
    exact Nat.le_refl _
  | c :: t, acc => by
    by_cases h : c = 32
    · rw [TL.spl_hit (by rw [h]; rfl)]
      have := spl_many t []
      show (TL.spl [32] 0 [] t).length + 1 ≤ _
      simp
      omega
    · rw [TL.spl_miss (TL.pre_of_head [] t h)]
      have := spl_many t (acc ++ [c])
      simp
      omega
/-! ### one word read -/
theorem lit_bar : ("|" : PySem.Str) = st [124] := TL.ext_tl rfl
theorem lit_min : ("-" : PySem.Str) = st [45] := TL.ext_tl rfl
theorem lit_0 : ("0" : PySem.Str) = st [48] := TL.ext_tl rfl
theorem lit_by : ("by" : PySem.Str) = st [98, 121] := TL.ext_tl rfl
theorem lit_sp : (" " : PySem.Str) = st [32] := TL.ext_tl rfl
def FIGL : List Nat := [48, 49, 50, 51, 52, 53, 54, 55, 56, 57]
theorem lit_fig : ("0123456789" : PySem.Str) = st FIGL := TL.ext_tl rfl
theorem mem_fig (c : Nat) : c ∈ FIGL ↔ 48 ≤ c ∧ c ≤ 57 := by
  unfold FIGL
  simp
  omega
theorem st_cps (l : List Nat) : (st l).cps.toList = l := rfl
theorem mk1 (c : Nat) : (⟨#[c]⟩ : PySem.Str) = st [c] := rfl
theorem sL_len (ws : List (List Nat)) : (sL ws).length = ws.length := List.length_map _
theorem sL_app (a b : List (List Nat)) : sL (a ++ b) = sL a ++ sL b := List.map_append
/-- numbers before the bar, and behind it -/
def core (r s : List Int) : List (List Nat) := r.map numW ++ [124] :: s.map numW
def wordsOf (b : Int) (r s : List Int) : List (List Nat) := core r s ++ (if b = 0 then [] else [[98, 121], numW b])
def textOf (b : Int) (r s : List Int) : List Nat := TL.joinL [32] (wordsOf b r s)
theorem wordsOf_0 (r s : List Int) : wordsOf 0 r s = core r s := by
  unfold wordsOf
  rw [if_pos rfl, List.append_nil]
theorem wordsOf_b {b : Int} (hb : b ≠ 0) (r s : List Int) : wordsOf b r s = core r s ++ [[98, 121], numW b] := by
  unfold wordsOf
  rw [if_neg hb]
theorem sum_le {m : Nat} : ∀ {ws : List (List Nat)}, (∀ w ∈ ws, w.length ≤ m) → (ws.map List.length).sum ≤ m * ws.length
  | [], _ => by simp
  | w :: ws, h => by
    have ih := sum_le (ws := ws) fun v hv => h v (List.mem_cons_of_mem _ hv)
    have h1 := h w (List.mem_cons_self ..)
    rw [List.map_cons, List.sum_cons, List.length_cons, Nat.mul_succ]
    omega
theorem joinL_len : ∀ ws : List (List Nat), (TL.joinL [32] ws).length ≤ (ws.map List.length).sum + ws.length
  | [] => Nat.zero_le _
  | [p] => by
    show p.length ≤ _
    simp
  | p :: q :: ws => by
    have ih := joinL_len (q :: ws)
    show (p ++ ([32] ++ TL.joinL [32] (q :: ws))).length ≤ _
    rw [List.map_cons, List.sum_cons, List.length_append, List.length_append]
    simp only [List.length_cons, List.length_nil] at ih ⊢
    omega
theorem joinL_ok : ∀ ws : List (List Nat), (∀ w ∈ ws, okT w) → okT (TL.joinL [32] ws)
  | [], _ => fun c hc => nomatch hc
  | [p], h => h p (List.mem_cons_self ..)
  | p :: q :: ws, h => by
    have ih := joinL_ok (q :: ws) fun w hw => h w (List.mem_cons_of_mem _ hw)
    intro c hc
    rcases List.mem_append.mp hc with hc | hc
    · exact h p (List.mem_cons_self ..) c hc
    · rcases List.mem_append.mp hc with hc | hc
      · rw [List.mem_singleton.mp hc]
        decide
      · exact ih c hc
theorem sL_map (r : List Int) : (r.map fun x => PV.str (st (numW x))) = sL (r.map numW) := by
  unfold sL
  rw [List.map_map]
  rfl
theorem sL_core (r s : List Int) : sL (core r s) = sL (r.map numW) ++ PV.str (st [124]) :: sL (s.map numW) := sL_app _ _
theorem sL_words {b : Int} (hb : b ≠ 0) (r s : List Int) : sL (wordsOf b r s) = sL (core r s) ++ [PV.str (st [98, 121]), PV.str (st (numW b))] := by
  rw [wordsOf_b hb]
  exact sL_app _ _
theorem l_cell_ok (ns : List Int) (k : Int) (hk : 0 ≤ k) : ∃ v, s_l_cell_at [script ns, .int k] = .ok (.int v) := by
  by_cases h : k < (ns.length : Int)
  · refine ⟨cf ns k.toNat, run_ret rfl ?_⟩
    show evSs [] [] false c_l_cell_at [.sh (.rl (iL ns)), .sh (.int k)] = _
    simp -implicitDefEqProofs only [c_l_cell_at, evSs, evS, evE, evEs, evI, RS.of_ok, RS.of_exn, RS.ofL_ok, RS.ofL_exn, RS.then_next, RS.then_ret, RS.then_brk, RS.then_cnt, RS.then_exn, RS.ifB_t, RS.ifB_f, RS.caught_next, RS.caught_ret, RS.caught_exn, RS.caughtN_next, RS.caughtN_ret, RS.suiteN_next, RS.suiteN_ret, RS.suite_next, RS.suite_ret, pIsx, pIs, pIsN, lamR_enc_ok, lamR_enc_exn, Pf.toldTo, R.bind_ok, R.bind_exn, pBin, pCmp, pAdd, pSub, pNeg, pLt, pLe, pNot, pIx, pSeq, pInt, getE, getB, setOwR, Pf.putAt, Pf.popTo, Pf.scrTo, Pf.unpTo, pIsa, asgT, setAll, killAll, PX.isN, PX.isB, PXs.hasB, Bool.false_eq_true, Bool.or_false, Bool.or_self, List.getElem?_cons_zero, List.getElem?_cons_succ, List.set_cons_zero, List.set_cons_succ, List.length_cons, List.length_nil, List.getD_cons_zero, List.getD_cons_succ, Nat.reduceAdd, Nat.reduceLT, Nat.zero_lt_succ, Nat.zero_add, ite_self, Bool.false_or, Bool.true_or, iL_len, Int.cast_ofNat_Int, Bool.and_true, Bool.true_and, bi_len_lst, bi_len_tup, bi_len_rl, bi_list_lst, bi_list_tup, bi_list_rl, bi_tuple_lst, bi_tuple_tup, bi_tuple_rl, bi_int_int, bi_int_b, at_two, int_if, at3_0, at3_1, at3_2, at2_0, at2_1, List.take_succ_cons, List.take_zero, List.drop_succ_cons, List.drop_zero, sum_ok, sl_lst, sl_tup, sl_rl, part_t, part_f, if_true, if_false, ite_true, ite_false, reduceIte, Nat.reduceLeDiff, Nat.reduceSub, eq_self, and_self, and_true, true_and, iL_len, h, decide_true]
    rw [pAt_cf _ _ hk h]
    rfl
  · refine ⟨0, run_ret rfl ?_⟩
    show evSs [] [] false c_l_cell_at [.sh (.rl (iL ns)), .sh (.int k)] = _
    simp -implicitDefEqProofs only [c_l_cell_at, evSs, evS, evE, evEs, evI, RS.of_ok, RS.of_exn, RS.ofL_ok, RS.ofL_exn, RS.then_next, RS.then_ret, RS.then_brk, RS.then_cnt, RS.then_exn, RS.ifB_t, RS.ifB_f, RS.caught_next, RS.caught_ret, RS.caught_exn, RS.caughtN_next, RS.caughtN_ret, RS.suiteN_next, RS.suiteN_ret, RS.suite_next, RS.suite_ret, pIsx, pIs, pIsN, lamR_enc_ok, lamR_enc_exn, Pf.toldTo, R.bind_ok, R.bind_exn, pBin, pCmp, pAdd, pSub, pNeg, pLt, pLe, pNot, pIx, pSeq, pInt, getE, getB, setOwR, Pf.putAt, Pf.popTo, Pf.scrTo, Pf.unpTo, pIsa, asgT, setAll, killAll, PX.isN, PX.isB, PXs.hasB, Bool.false_eq_true, Bool.or_false, Bool.or_self, List.getElem?_cons_zero, List.getElem?_cons_succ, List.set_cons_zero, List.set_cons_succ, List.length_cons, List.length_nil, List.getD_cons_zero, List.getD_cons_succ, Nat.reduceAdd, Nat.reduceLT, Nat.zero_lt_succ, Nat.zero_add, ite_self, Bool.false_or, Bool.true_or, iL_len, Int.cast_ofNat_Int, Bool.and_true, Bool.true_and, bi_len_lst, bi_len_tup, bi_len_rl, bi_list_lst, bi_list_tup, bi_list_rl, bi_tuple_lst, bi_tuple_tup, bi_tuple_rl, bi_int_int, bi_int_b, at_two, int_if, at3_0, at3_1, at3_2, at2_0, at2_1, List.take_succ_cons, List.take_zero, List.drop_succ_cons, List.drop_zero, sum_ok, sl_lst, sl_tup, sl_rl, part_t, part_f, if_true, if_false, ite_true, ite_false, reduceIte, Nat.reduceLeDiff, Nat.reduceSub, eq_self, and_self, and_true, true_and, iL_len, h, decide_false]
theorem l_mix_ok (c k : Int) (h0 : 0 ≤ k) (h1 : k ≤ 100000) : ∃ v, s_l_mix [.int c, .int k] = .ok (.int v) ∧ 0 ≤ v ∧ v < 2147483647 := by
  refine ⟨(c % 2147483647 + 1) * (48271 + 7 * k) % 2147483647, run_ret rfl ?_, ?_⟩
  · show evSs [] [] false c_l_mix [.sh (.int c), .sh (.int k)] = _
    simp -implicitDefEqProofs only [c_l_mix, evSs, evS, evE, evEs, evI, RS.of_ok, RS.of_exn, RS.ofL_ok, RS.ofL_exn, RS.then_next, RS.then_ret, RS.then_brk, RS.then_cnt, RS.then_exn, RS.ifB_t, RS.ifB_f, RS.caught_next, RS.caught_ret, RS.caught_exn, RS.caughtN_next, RS.caughtN_ret, RS.suiteN_next, RS.suiteN_ret, RS.suite_next, RS.suite_ret, pIsx, pIs, pIsN, lamR_enc_ok, lamR_enc_exn, Pf.toldTo, R.bind_ok, R.bind_exn, pBin, pCmp, pAdd, pSub, pNeg, pLt, pLe, pNot, pIx, pSeq, pInt, getE, getB, setOwR, Pf.putAt, Pf.popTo, Pf.scrTo, Pf.unpTo, pIsa, asgT, setAll, killAll, PX.isN, PX.isB, PXs.hasB, Bool.false_eq_true, Bool.or_false, Bool.or_self, List.getElem?_cons_zero, List.getElem?_cons_succ, List.set_cons_zero, List.set_cons_succ, List.length_cons, List.length_nil, List.getD_cons_zero, List.getD_cons_succ, Nat.reduceAdd, Nat.reduceLT, Nat.zero_lt_succ, Nat.zero_add, ite_self, Bool.false_or, Bool.true_or, iL_len, Int.cast_ofNat_Int, Bool.and_true, Bool.true_and, bi_len_lst, bi_len_tup, bi_len_rl, bi_list_lst, bi_list_tup, bi_list_rl, bi_tuple_lst, bi_tuple_tup, bi_tuple_rl, bi_int_int, bi_int_b, at_two, int_if, at3_0, at3_1, at3_2, at2_0, at2_1, List.take_succ_cons, List.take_zero, List.drop_succ_cons, List.drop_zero, sum_ok, sl_lst, sl_tup, sl_rl, part_t, part_f, if_true, if_false, ite_true, ite_false, reduceIte, Nat.reduceLeDiff, Nat.reduceSub, eq_self, and_self, and_true, true_and, mod_pos (b := 2147483647) (by decide)]
    rw [mul_ok (small_60 (by decide)) (small_60 (by omega))]
    simp -implicitDefEqProofs only [evSs, evS, evE, evEs, evI, RS.of_ok, RS.of_exn, RS.ofL_ok, RS.ofL_exn, RS.then_next, RS.then_ret, RS.then_brk, RS.then_cnt, RS.then_exn, RS.ifB_t, RS.ifB_f, RS.caught_next, RS.caught_ret, RS.caught_exn, RS.caughtN_next, RS.caughtN_ret, RS.suiteN_next, RS.suiteN_ret, RS.suite_next, RS.suite_ret, pIsx, pIs, pIsN, lamR_enc_ok, lamR_enc_exn, Pf.toldTo, R.bind_ok, R.bind_exn, pBin, pCmp, pAdd, pSub, pNeg, pLt, pLe, pNot, pIx, pSeq, pInt, getE, getB, setOwR, Pf.putAt, Pf.popTo, Pf.scrTo, Pf.unpTo, pIsa, asgT, setAll, killAll, PX.isN, PX.isB, PXs.hasB, Bool.false_eq_true, Bool.or_false, Bool.or_self, List.getElem?_cons_zero, List.getElem?_cons_succ, List.set_cons_zero, List.set_cons_succ, List.length_cons, List.length_nil, List.getD_cons_zero, List.getD_cons_succ, Nat.reduceAdd, Nat.reduceLT, Nat.zero_lt_succ, Nat.zero_add, ite_self, Bool.false_or, Bool.true_or, iL_len, Int.cast_ofNat_Int, Bool.and_true, Bool.true_and, bi_len_lst, bi_len_tup, bi_len_rl, bi_list_lst, bi_list_tup, bi_list_rl, bi_tuple_lst, bi_tuple_tup, bi_tuple_rl, bi_int_int, bi_int_b, at_two, int_if, at3_0, at3_1, at3_2, at2_0, at2_1, List.take_succ_cons, List.take_zero, List.drop_succ_cons, List.drop_zero, sum_ok, sl_lst, sl_tup, sl_rl, part_t, part_f, if_true, if_false, ite_true, ite_false, reduceIte, Nat.reduceLeDiff, Nat.reduceSub, eq_self, and_self, and_true, true_and]
    rw [mul_ok (small_60 (by omega)) (small_60 (by omega))]
    simp -implicitDefEqProofs only [evSs, evS, evE, evEs, evI, RS.of_ok, RS.of_exn, RS.ofL_ok, RS.ofL_exn, RS.then_next, RS.then_ret, RS.then_brk, RS.then_cnt, RS.then_exn, RS.ifB_t, RS.ifB_f, RS.caught_next, RS.caught_ret, RS.caught_exn, RS.caughtN_next, RS.caughtN_ret, RS.suiteN_next, RS.suiteN_ret, RS.suite_next, RS.suite_ret, pIsx, pIs, pIsN, lamR_enc_ok, lamR_enc_exn, Pf.toldTo, R.bind_ok, R.bind_exn, pBin, pCmp, pAdd, pSub, pNeg, pLt, pLe, pNot, pIx, pSeq, pInt, getE, getB, setOwR, Pf.putAt, Pf.popTo, Pf.scrTo, Pf.unpTo, pIsa, asgT, setAll, killAll, PX.isN, PX.isB, PXs.hasB, Bool.false_eq_true, Bool.or_false, Bool.or_self, List.getElem?_cons_zero, List.getElem?_cons_succ, List.set_cons_zero, List.set_cons_succ, List.length_cons, List.length_nil, List.getD_cons_zero, List.getD_cons_succ, Nat.reduceAdd, Nat.reduceLT, Nat.zero_lt_succ, Nat.zero_add, ite_self, Bool.false_or, Bool.true_or, iL_len, Int.cast_ofNat_Int, Bool.and_true, Bool.true_and, bi_len_lst, bi_len_tup, bi_len_rl, bi_list_lst, bi_list_tup, bi_list_rl, bi_tuple_lst, bi_tuple_tup, bi_tuple_rl, bi_int_int, bi_int_b, at_two, int_if, at3_0, at3_1, at3_2, at2_0, at2_1, List.take_succ_cons, List.take_zero, List.drop_succ_cons, List.drop_zero, sum_ok, sl_lst, sl_tup, sl_rl, part_t, part_f, if_true, if_false, ite_true, ite_false, reduceIte, Nat.reduceLeDiff, Nat.reduceSub, eq_self, and_self, and_true, true_and, mod_pos (b := 2147483647) (by decide)]
  · omega
def BYS : List Int := [0, 2, 3, 5, 7, 31, 11, 13, 17, 101, 499, 503, 941, 991, 997]
theorem BYS_ok : ∀ b ∈ BYS, 0 ≤ b ∧ b ≤ 997 ∧ b ≠ 1 := by decide
theorem at8 (v : Int) : ∃ o, pAt [PV.int 11, PV.int 13, PV.int 17, PV.int 101, PV.int 499, PV.int 503, PV.int 941, PV.int 991] (v % 8) = .ok (.int o) ∧ o ∈ BYS := by
  have h : v % 8 = 0 ∨ v % 8 = 1 ∨ v % 8 = 2 ∨ v % 8 = 3 ∨ v % 8 = 4 ∨ v % 8 = 5 ∨ v % 8 = 6 ∨ v % 8 = 7 := by omega
  rcases h with h | h | h | h | h | h | h | h <;> rw [h] <;> exact ⟨_, rfl, by decide⟩
theorem at10 (v o : Int) (h0 : o ∈ BYS) : ∃ b, pAt [PV.int 0, PV.int 2, PV.int 0, PV.int 3, PV.int 5, PV.int 0, PV.int 7, PV.int 31, PV.int o, PV.int 997] (v % 10) = .ok (.int b) ∧ b ∈ BYS := by
  have h : v % 10 = 0 ∨ v % 10 = 1 ∨ v % 10 = 2 ∨ v % 10 = 3 ∨ v % 10 = 4 ∨ v % 10 = 5 ∨ v % 10 = 6 ∨ v % 10 = 7 ∨ v % 10 = 8 ∨ v % 10 = 9 := by omega
  rcases h with h | h | h | h | h | h | h | h | h | h <;> rw [h] <;> first | exact ⟨_, rfl, by decide⟩ | exact ⟨_, rfl, h0⟩
theorem l_by_ok3 (v : Int) : ∃ b, s_l_by [.int v] = .ok (.int b) ∧ b ∈ BYS := by
  obtain ⟨o, e1, o0⟩ := at8 (v / 10)
  obtain ⟨b, e2, b0⟩ := at10 v o o0
  refine ⟨b, run_ret rfl ?_, b0⟩
  show evSs [] [] false c_l_by [.sh (.int v), .no] = _
  simp -implicitDefEqProofs only [c_l_by, evSs, evS, evE, evEs, evI, RS.of_ok, RS.of_exn, RS.ofL_ok, RS.ofL_exn, RS.then_next, RS.then_ret, RS.then_brk, RS.then_cnt, RS.then_exn, RS.ifB_t, RS.ifB_f, RS.caught_next, RS.caught_ret, RS.caught_exn, RS.caughtN_next, RS.caughtN_ret, RS.suiteN_next, RS.suiteN_ret, RS.suite_next, RS.suite_ret, pIsx, pIs, pIsN, lamR_enc_ok, lamR_enc_exn, Pf.toldTo, R.bind_ok, R.bind_exn, pBin, pCmp, pAdd, pSub, pNeg, pLt, pLe, pNot, pIx, pSeq, pInt, getE, getB, setOwR, Pf.putAt, Pf.popTo, Pf.scrTo, Pf.unpTo, pIsa, asgT, setAll, killAll, PX.isN, PX.isB, PXs.hasB, Bool.false_eq_true, Bool.or_false, Bool.or_self, List.getElem?_cons_zero, List.getElem?_cons_succ, List.set_cons_zero, List.set_cons_succ, List.length_cons, List.length_nil, List.getD_cons_zero, List.getD_cons_succ, Nat.reduceAdd, Nat.reduceLT, Nat.zero_lt_succ, Nat.zero_add, ite_self, Bool.false_or, Bool.true_or, iL_len, Int.cast_ofNat_Int, Bool.and_true, Bool.true_and, bi_len_lst, bi_len_tup, bi_len_rl, bi_list_lst, bi_list_tup, bi_list_rl, bi_tuple_lst, bi_tuple_tup, bi_tuple_rl, bi_int_int, bi_int_b, at_two, int_if, at3_0, at3_1, at3_2, at2_0, at2_1, List.take_succ_cons, List.take_zero, List.drop_succ_cons, List.drop_zero, sum_ok, sl_lst, sl_tup, sl_rl, part_t, part_f, if_true, if_false, ite_true, ite_false, reduceIte, Nat.reduceLeDiff, Nat.reduceSub, eq_self, and_self, and_true, true_and, mod_pos (b := 8) (by decide), mod_pos (b := 10) (by decide), fdiv_pos (b := 10) (by decide) (by decide), e1, e2]
theorem l_by_ok2 (v : Int) : ∃ b, s_l_by [.int v] = .ok (.int b) ∧ 0 ≤ b ∧ b ≤ 997 ∧ b ≠ 1 := by
  obtain ⟨b, e, h⟩ := l_by_ok3 v
  exact ⟨b, e, BYS_ok b h⟩
theorem l_by_ok (v : Int) : ∃ b, s_l_by [.int v] = .ok (.int b) ∧ 0 ≤ b ∧ b ≤ 997 := by
  obtain ⟨b, e, h0, h1, _⟩ := l_by_ok2 v
  exact ⟨b, e, h0, h1⟩
def gd (b v : Int) : Prop := tk b v = v ∧ v.natAbs ≤ 10 ^ 20
theorem gd_bd {b v : Int} (h : gd b v) : bd 70 v := by
  have := h.2
  unfold bd
  omega
theorem l_number_ok {b n : Int} (hb : 0 ≤ b) (h0 : 0 ≤ n) (h1 : n < 2147483647) : ∃ v, s_l_number [.int b, .int n] = .ok (.int v) ∧ gd b v := by
  by_cases h : b = 0
  · subst h
    by_cases k1 : n % 8 < 2
    · refine ⟨0, run_ret rfl ?_, rfl, by decide⟩
      show evSs [] [] false c_l_number [.sh (.int 0), .sh (.int n), .no] = _
      simp -implicitDefEqProofs only [c_l_number, evSs, evS, evE, evEs, evI, RS.of_ok, RS.of_exn, RS.ofL_ok, RS.ofL_exn, RS.then_next, RS.then_ret, RS.then_brk, RS.then_cnt, RS.then_exn, RS.ifB_t, RS.ifB_f, RS.caught_next, RS.caught_ret, RS.caught_exn, RS.caughtN_next, RS.caughtN_ret, RS.suiteN_next, RS.suiteN_ret, RS.suite_next, RS.suite_ret, pIsx, pIs, pIsN, lamR_enc_ok, lamR_enc_exn, Pf.toldTo, R.bind_ok, R.bind_exn, pBin, pCmp, pAdd, pSub, pNeg, pLt, pLe, pNot, pIx, pSeq, pInt, getE, getB, setOwR, Pf.putAt, Pf.popTo, Pf.scrTo, Pf.unpTo, pIsa, asgT, setAll, killAll, PX.isN, PX.isB, PXs.hasB, Bool.false_eq_true, Bool.or_false, Bool.or_self, List.getElem?_cons_zero, List.getElem?_cons_succ, List.set_cons_zero, List.set_cons_succ, List.length_cons, List.length_nil, List.getD_cons_zero, List.getD_cons_succ, Nat.reduceAdd, Nat.reduceLT, Nat.zero_lt_succ, Nat.zero_add, ite_self, Bool.false_or, Bool.true_or, iL_len, Int.cast_ofNat_Int, Bool.and_true, Bool.true_and, bi_len_lst, bi_len_tup, bi_len_rl, bi_list_lst, bi_list_tup, bi_list_rl, bi_tuple_lst, bi_tuple_tup, bi_tuple_rl, bi_int_int, bi_int_b, at_two, int_if, at3_0, at3_1, at3_2, at2_0, at2_1, List.take_succ_cons, List.take_zero, List.drop_succ_cons, List.drop_zero, sum_ok, sl_lst, sl_tup, sl_rl, part_t, part_f, if_true, if_false, ite_true, ite_false, reduceIte, Nat.reduceLeDiff, Nat.reduceSub, eq_self, and_self, and_true, true_and, Int.lt_irrefl, decide_false, mod_pos (b := 8) (by decide), k1, decide_true]
    by_cases k2 : n % 8 < 5
    · refine ⟨n / 8 % 5 - 2, run_ret rfl ?_, rfl, by omega⟩
      show evSs [] [] false c_l_number [.sh (.int 0), .sh (.int n), .no] = _
      simp -implicitDefEqProofs only [c_l_number, evSs, evS, evE, evEs, evI, RS.of_ok, RS.of_exn, RS.ofL_ok, RS.ofL_exn, RS.then_next, RS.then_ret, RS.then_brk, RS.then_cnt, RS.then_exn, RS.ifB_t, RS.ifB_f, RS.caught_next, RS.caught_ret, RS.caught_exn, RS.caughtN_next, RS.caughtN_ret, RS.suiteN_next, RS.suiteN_ret, RS.suite_next, RS.suite_ret, pIsx, pIs, pIsN, lamR_enc_ok, lamR_enc_exn, Pf.toldTo, R.bind_ok, R.bind_exn, pBin, pCmp, pAdd, pSub, pNeg, pLt, pLe, pNot, pIx, pSeq, pInt, getE, getB, setOwR, Pf.putAt, Pf.popTo, Pf.scrTo, Pf.unpTo, pIsa, asgT, setAll, killAll, PX.isN, PX.isB, PXs.hasB, Bool.false_eq_true, Bool.or_false, Bool.or_self, List.getElem?_cons_zero, List.getElem?_cons_succ, List.set_cons_zero, List.set_cons_succ, List.length_cons, List.length_nil, List.getD_cons_zero, List.getD_cons_succ, Nat.reduceAdd, Nat.reduceLT, Nat.zero_lt_succ, Nat.zero_add, ite_self, Bool.false_or, Bool.true_or, iL_len, Int.cast_ofNat_Int, Bool.and_true, Bool.true_and, bi_len_lst, bi_len_tup, bi_len_rl, bi_list_lst, bi_list_tup, bi_list_rl, bi_tuple_lst, bi_tuple_tup, bi_tuple_rl, bi_int_int, bi_int_b, at_two, int_if, at3_0, at3_1, at3_2, at2_0, at2_1, List.take_succ_cons, List.take_zero, List.drop_succ_cons, List.drop_zero, sum_ok, sl_lst, sl_tup, sl_rl, part_t, part_f, if_true, if_false, ite_true, ite_false, reduceIte, Nat.reduceLeDiff, Nat.reduceSub, eq_self, and_self, and_true, true_and, Int.lt_irrefl, decide_false, mod_pos (b := 8) (by decide), k1, k2, decide_true, fdiv_pos (b := 8) (by decide) (by decide), mod_pos (b := 5) (by decide)]
    by_cases k3 : n % 8 < 7
    · refine ⟨n / 8 % 41 - 20, run_ret rfl ?_, rfl, by omega⟩
      show evSs [] [] false c_l_number [.sh (.int 0), .sh (.int n), .no] = _
      simp -implicitDefEqProofs only [c_l_number, evSs, evS, evE, evEs, evI, RS.of_ok, RS.of_exn, RS.ofL_ok, RS.ofL_exn, RS.then_next, RS.then_ret, RS.then_brk, RS.then_cnt, RS.then_exn, RS.ifB_t, RS.ifB_f, RS.caught_next, RS.caught_ret, RS.caught_exn, RS.caughtN_next, RS.caughtN_ret, RS.suiteN_next, RS.suiteN_ret, RS.suite_next, RS.suite_ret, pIsx, pIs, pIsN, lamR_enc_ok, lamR_enc_exn, Pf.toldTo, R.bind_ok, R.bind_exn, pBin, pCmp, pAdd, pSub, pNeg, pLt, pLe, pNot, pIx, pSeq, pInt, getE, getB, setOwR, Pf.putAt, Pf.popTo, Pf.scrTo, Pf.unpTo, pIsa, asgT, setAll, killAll, PX.isN, PX.isB, PXs.hasB, Bool.false_eq_true, Bool.or_false, Bool.or_self, List.getElem?_cons_zero, List.getElem?_cons_succ, List.set_cons_zero, List.set_cons_succ, List.length_cons, List.length_nil, List.getD_cons_zero, List.getD_cons_succ, Nat.reduceAdd, Nat.reduceLT, Nat.zero_lt_succ, Nat.zero_add, ite_self, Bool.false_or, Bool.true_or, iL_len, Int.cast_ofNat_Int, Bool.and_true, Bool.true_and, bi_len_lst, bi_len_tup, bi_len_rl, bi_list_lst, bi_list_tup, bi_list_rl, bi_tuple_lst, bi_tuple_tup, bi_tuple_rl, bi_int_int, bi_int_b, at_two, int_if, at3_0, at3_1, at3_2, at2_0, at2_1, List.take_succ_cons, List.take_zero, List.drop_succ_cons, List.drop_zero, sum_ok, sl_lst, sl_tup, sl_rl, part_t, part_f, if_true, if_false, ite_true, ite_false, reduceIte, Nat.reduceLeDiff, Nat.reduceSub, eq_self, and_self, and_true, true_and, Int.lt_irrefl, decide_false, mod_pos (b := 8) (by decide), k1, k2, k3, decide_true, fdiv_pos (b := 8) (by decide) (by decide), mod_pos (b := 41) (by decide)]
    · have hz : ∀ z : Int, 0 ≤ z % 10 ^ 20 ∧ z % 10 ^ 20 < 10 ^ 20 := fun z => ⟨Int.emod_nonneg _ (by decide), Int.emod_lt_of_pos _ (by decide)⟩
      have hy : 1 - 2 * (n / 16 % 2) = 1 ∨ 1 - 2 * (n / 16 % 2) = -1 := by omega
      obtain ⟨z0, z1⟩ := hz ((n / 8) ^ 3)
      refine ⟨(n / 8) ^ 3 % 10 ^ 20 * (1 - 2 * (n / 16 % 2)), run_ret rfl ?_, rfl, ?_⟩
      · show evSs [] [] false c_l_number [.sh (.int 0), .sh (.int n), .no] = _
        simp -implicitDefEqProofs only [c_l_number, evSs, evS, evE, evEs, evI, RS.of_ok, RS.of_exn, RS.ofL_ok, RS.ofL_exn, RS.then_next, RS.then_ret, RS.then_brk, RS.then_cnt, RS.then_exn, RS.ifB_t, RS.ifB_f, RS.caught_next, RS.caught_ret, RS.caught_exn, RS.caughtN_next, RS.caughtN_ret, RS.suiteN_next, RS.suiteN_ret, RS.suite_next, RS.suite_ret, pIsx, pIs, pIsN, lamR_enc_ok, lamR_enc_exn, Pf.toldTo, R.bind_ok, R.bind_exn, pBin, pCmp, pAdd, pSub, pNeg, pLt, pLe, pNot, pIx, pSeq, pInt, getE, getB, setOwR, Pf.putAt, Pf.popTo, Pf.scrTo, Pf.unpTo, pIsa, asgT, setAll, killAll, PX.isN, PX.isB, PXs.hasB, Bool.false_eq_true, Bool.or_false, Bool.or_self, List.getElem?_cons_zero, List.getElem?_cons_succ, List.set_cons_zero, List.set_cons_succ, List.length_cons, List.length_nil, List.getD_cons_zero, List.getD_cons_succ, Nat.reduceAdd, Nat.reduceLT, Nat.zero_lt_succ, Nat.zero_add, ite_self, Bool.false_or, Bool.true_or, iL_len, Int.cast_ofNat_Int, Bool.and_true, Bool.true_and, bi_len_lst, bi_len_tup, bi_len_rl, bi_list_lst, bi_list_tup, bi_list_rl, bi_tuple_lst, bi_tuple_tup, bi_tuple_rl, bi_int_int, bi_int_b, at_two, int_if, at3_0, at3_1, at3_2, at2_0, at2_1, List.take_succ_cons, List.take_zero, List.drop_succ_cons, List.drop_zero, sum_ok, sl_lst, sl_tup, sl_rl, part_t, part_f, if_true, if_false, ite_true, ite_false, reduceIte, Nat.reduceLeDiff, Nat.reduceSub, eq_self, and_self, and_true, true_and, Int.lt_irrefl, decide_false, mod_pos (b := 8) (by decide), k1, k2, k3, decide_true, fdiv_pos (b := 8) (by decide) (by decide), fdiv_pos (b := 16) (by decide) (by decide), mod_pos (b := 2) (by decide)]
        rw [pow_ok (by decide) (by decide) (by omega), pow_ok (by decide) (by decide) (by decide)]
        simp -implicitDefEqProofs only [evSs, evS, evE, evEs, evI, RS.of_ok, RS.of_exn, RS.ofL_ok, RS.ofL_exn, RS.then_next, RS.then_ret, RS.then_brk, RS.then_cnt, RS.then_exn, RS.ifB_t, RS.ifB_f, RS.caught_next, RS.caught_ret, RS.caught_exn, RS.caughtN_next, RS.caughtN_ret, RS.suiteN_next, RS.suiteN_ret, RS.suite_next, RS.suite_ret, pIsx, pIs, pIsN, lamR_enc_ok, lamR_enc_exn, Pf.toldTo, R.bind_ok, R.bind_exn, pBin, pCmp, pAdd, pSub, pNeg, pLt, pLe, pNot, pIx, pSeq, pInt, getE, getB, setOwR, Pf.putAt, Pf.popTo, Pf.scrTo, Pf.unpTo, pIsa, asgT, setAll, killAll, PX.isN, PX.isB, PXs.hasB, Bool.false_eq_true, Bool.or_false, Bool.or_self, List.getElem?_cons_zero, List.getElem?_cons_succ, List.set_cons_zero, List.set_cons_succ, List.length_cons, List.length_nil, List.getD_cons_zero, List.getD_cons_succ, Nat.reduceAdd, Nat.reduceLT, Nat.zero_lt_succ, Nat.zero_add, ite_self, Bool.false_or, Bool.true_or, iL_len, Int.cast_ofNat_Int, Bool.and_true, Bool.true_and, bi_len_lst, bi_len_tup, bi_len_rl, bi_list_lst, bi_list_tup, bi_list_rl, bi_tuple_lst, bi_tuple_tup, bi_tuple_rl, bi_int_int, bi_int_b, at_two, int_if, at3_0, at3_1, at3_2, at2_0, at2_1, List.take_succ_cons, List.take_zero, List.drop_succ_cons, List.drop_zero, sum_ok, sl_lst, sl_tup, sl_rl, part_t, part_f, if_true, if_false, ite_true, ite_false, reduceIte, Nat.reduceLeDiff, Nat.reduceSub, eq_self, and_self, and_true, true_and]
        rw [mod_pos (by decide), mul_ok (small_60 (by decide)) (small_60 (by omega))]
        simp -implicitDefEqProofs only [evSs, evS, evE, evEs, evI, RS.of_ok, RS.of_exn, RS.ofL_ok, RS.ofL_exn, RS.then_next, RS.then_ret, RS.then_brk, RS.then_cnt, RS.then_exn, RS.ifB_t, RS.ifB_f, RS.caught_next, RS.caught_ret, RS.caught_exn, RS.caughtN_next, RS.caughtN_ret, RS.suiteN_next, RS.suiteN_ret, RS.suite_next, RS.suite_ret, pIsx, pIs, pIsN, lamR_enc_ok, lamR_enc_exn, Pf.toldTo, R.bind_ok, R.bind_exn, pBin, pCmp, pAdd, pSub, pNeg, pLt, pLe, pNot, pIx, pSeq, pInt, getE, getB, setOwR, Pf.putAt, Pf.popTo, Pf.scrTo, Pf.unpTo, pIsa, asgT, setAll, killAll, PX.isN, PX.isB, PXs.hasB, Bool.false_eq_true, Bool.or_false, Bool.or_self, List.getElem?_cons_zero, List.getElem?_cons_succ, List.set_cons_zero, List.set_cons_succ, List.length_cons, List.length_nil, List.getD_cons_zero, List.getD_cons_succ, Nat.reduceAdd, Nat.reduceLT, Nat.zero_lt_succ, Nat.zero_add, ite_self, Bool.false_or, Bool.true_or, iL_len, Int.cast_ofNat_Int, Bool.and_true, Bool.true_and, bi_len_lst, bi_len_tup, bi_len_rl, bi_list_lst, bi_list_tup, bi_list_rl, bi_tuple_lst, bi_tuple_tup, bi_tuple_rl, bi_int_int, bi_int_b, at_two, int_if, at3_0, at3_1, at3_2, at2_0, at2_1, List.take_succ_cons, List.take_zero, List.drop_succ_cons, List.drop_zero, sum_ok, sl_lst, sl_tup, sl_rl, part_t, part_f, if_true, if_false, ite_true, ite_false, reduceIte, Nat.reduceLeDiff, Nat.reduceSub, eq_self, and_self, and_true, true_and]
        rw [mul_ok (small_bd (n := 70) _ (by decide)) (small_60 (by omega))]
        · rfl
        · unfold bd
          have e : ((n / 8) ^ (3 : Int).toNat % 10 ^ (20 : Int).toNat) = (n / 8) ^ 3 % 10 ^ 20 := rfl
          rw [e]
          omega
      · rcases hy with hy | hy <;> rw [hy] <;> omega
  · have hp : 0 < b := by omega
    refine ⟨n % b, run_ret rfl ?_, ?_, ?_⟩
    · show evSs [] [] false c_l_number [.sh (.int b), .sh (.int n), .no] = _
      simp -implicitDefEqProofs only [c_l_number, evSs, evS, evE, evEs, evI, RS.of_ok, RS.of_exn, RS.ofL_ok, RS.ofL_exn, RS.then_next, RS.then_ret, RS.then_brk, RS.then_cnt, RS.then_exn, RS.ifB_t, RS.ifB_f, RS.caught_next, RS.caught_ret, RS.caught_exn, RS.caughtN_next, RS.caughtN_ret, RS.suiteN_next, RS.suiteN_ret, RS.suite_next, RS.suite_ret, pIsx, pIs, pIsN, lamR_enc_ok, lamR_enc_exn, Pf.toldTo, R.bind_ok, R.bind_exn, pBin, pCmp, pAdd, pSub, pNeg, pLt, pLe, pNot, pIx, pSeq, pInt, getE, getB, setOwR, Pf.putAt, Pf.popTo, Pf.scrTo, Pf.unpTo, pIsa, asgT, setAll, killAll, PX.isN, PX.isB, PXs.hasB, Bool.false_eq_true, Bool.or_false, Bool.or_self, List.getElem?_cons_zero, List.getElem?_cons_succ, List.set_cons_zero, List.set_cons_succ, List.length_cons, List.length_nil, List.getD_cons_zero, List.getD_cons_succ, Nat.reduceAdd, Nat.reduceLT, Nat.zero_lt_succ, Nat.zero_add, ite_self, Bool.false_or, Bool.true_or, iL_len, Int.cast_ofNat_Int, Bool.and_true, Bool.true_and, bi_len_lst, bi_len_tup, bi_len_rl, bi_list_lst, bi_list_tup, bi_list_rl, bi_tuple_lst, bi_tuple_tup, bi_tuple_rl, bi_int_int, bi_int_b, at_two, int_if, at3_0, at3_1, at3_2, at2_0, at2_1, List.take_succ_cons, List.take_zero, List.drop_succ_cons, List.drop_zero, sum_ok, sl_lst, sl_tup, sl_rl, part_t, part_f, if_true, if_false, ite_true, ite_false, reduceIte, Nat.reduceLeDiff, Nat.reduceSub, eq_self, and_self, and_true, true_and, hp, decide_true, mod_pos hp]
    · rw [← tk_pos hp]
      exact tk_tk b n
    · have h2 := Int.emod_nonneg n (b := b) (by omega)
      have h3 := Int.emod_lt_of_pos n hp
      by_cases h4 : n < b
      · rw [Int.emod_eq_of_lt h0 h4]
        omega
      · omega
theorem l_numbers_ok {b c m : Int} (hb : 0 ≤ b) (c0 : 0 ≤ c) (c1 : c < 2147483647) (m0 : -1000 ≤ m) (m1 : m ≤ 1000) : ∃ xs, s_l_numbers [.int b, .int c, .int m] = .ok (.lst (iL xs)) ∧ xs.length = m.toNat ∧ ∀ x ∈ xs, gd b x := by
  have hL : LIM = 1000000 := rfl
  have hs : inSpan m = true := span_int (by omega) (by omega)
  have key := forL_ex (asg := asgT [5] false) (body := evSs [s_l_number] [] false c_l_numbers_1) (fun k ρ => ∃ xs st, ρ = [.sh (.int b), .sh (.int c), .sh (.int m), .ow (iL xs), .sh (.int st), .no] ∧ xs.length = k ∧ (∀ x ∈ xs, gd b x) ∧ 0 ≤ st ∧ st < 2147483647) (fun _ => False)
    (rngL 0 m.toNat) 0 [.sh (.int b), .sh (.int c), .sh (.int m), .ow [], .sh (.int c), .no] ⟨[], c, rfl, rfl, (by simp), c0, c1⟩ ?_
  · rcases key with ⟨ρ, e, xs, st, rfl, hl, hg, -, -⟩ | ⟨v, _, h⟩
    · refine ⟨xs, run_ret rfl ?_, ?_, hg⟩
      · show evSs [s_l_number] [] false c_l_numbers [.sh (.int b), .sh (.int c), .sh (.int m), .no, .no, .no] = _
        simp -implicitDefEqProofs only [c_l_numbers, evSs, evS, evE, evEs, evI, RS.of_ok, RS.of_exn, RS.ofL_ok, RS.ofL_exn, RS.then_next, RS.then_ret, RS.then_brk, RS.then_cnt, RS.then_exn, RS.ifB_t, RS.ifB_f, RS.caught_next, RS.caught_ret, RS.caught_exn, RS.caughtN_next, RS.caughtN_ret, RS.suiteN_next, RS.suiteN_ret, RS.suite_next, RS.suite_ret, pIsx, pIs, pIsN, lamR_enc_ok, lamR_enc_exn, Pf.toldTo, R.bind_ok, R.bind_exn, pBin, pCmp, pAdd, pSub, pNeg, pLt, pLe, pNot, pIx, pSeq, pInt, getE, getB, setOwR, Pf.putAt, Pf.popTo, Pf.scrTo, Pf.unpTo, pIsa, asgT, setAll, killAll, PX.isN, PX.isB, PXs.hasB, Bool.false_eq_true, Bool.or_false, Bool.or_self, List.getElem?_cons_zero, List.getElem?_cons_succ, List.set_cons_zero, List.set_cons_succ, List.length_cons, List.length_nil, List.getD_cons_zero, List.getD_cons_succ, Nat.reduceAdd, Nat.reduceLT, Nat.zero_lt_succ, Nat.zero_add, ite_self, Bool.false_or, Bool.true_or, iL_len, Int.cast_ofNat_Int, Bool.and_true, Bool.true_and, bi_len_lst, bi_len_tup, bi_len_rl, bi_list_lst, bi_list_tup, bi_list_rl, bi_tuple_lst, bi_tuple_tup, bi_tuple_rl, bi_int_int, bi_int_b, at_two, int_if, at3_0, at3_1, at3_2, at2_0, at2_1, List.take_succ_cons, List.take_zero, List.drop_succ_cons, List.drop_zero, sum_ok, sl_lst, sl_tup, sl_rl, part_t, part_f, if_true, if_false, ite_true, ite_false, reduceIte, Nat.reduceLeDiff, Nat.reduceSub, eq_self, and_self, and_true, true_and, hs]
        rw [e]
        simp -implicitDefEqProofs only [evSs, evS, evE, evEs, evI, RS.of_ok, RS.of_exn, RS.ofL_ok, RS.ofL_exn, RS.then_next, RS.then_ret, RS.then_brk, RS.then_cnt, RS.then_exn, RS.ifB_t, RS.ifB_f, RS.caught_next, RS.caught_ret, RS.caught_exn, RS.caughtN_next, RS.caughtN_ret, RS.suiteN_next, RS.suiteN_ret, RS.suite_next, RS.suite_ret, pIsx, pIs, pIsN, lamR_enc_ok, lamR_enc_exn, Pf.toldTo, R.bind_ok, R.bind_exn, pBin, pCmp, pAdd, pSub, pNeg, pLt, pLe, pNot, pIx, pSeq, pInt, getE, getB, setOwR, Pf.putAt, Pf.popTo, Pf.scrTo, Pf.unpTo, pIsa, asgT, setAll, killAll, PX.isN, PX.isB, PXs.hasB, Bool.false_eq_true, Bool.or_false, Bool.or_self, List.getElem?_cons_zero, List.getElem?_cons_succ, List.set_cons_zero, List.set_cons_succ, List.length_cons, List.length_nil, List.getD_cons_zero, List.getD_cons_succ, Nat.reduceAdd, Nat.reduceLT, Nat.zero_lt_succ, Nat.zero_add, ite_self, Bool.false_or, Bool.true_or, iL_len, Int.cast_ofNat_Int, Bool.and_true, Bool.true_and, bi_len_lst, bi_len_tup, bi_len_rl, bi_list_lst, bi_list_tup, bi_list_rl, bi_tuple_lst, bi_tuple_tup, bi_tuple_rl, bi_int_int, bi_int_b, at_two, int_if, at3_0, at3_1, at3_2, at2_0, at2_1, List.take_succ_cons, List.take_zero, List.drop_succ_cons, List.drop_zero, sum_ok, sl_lst, sl_tup, sl_rl, part_t, part_f, if_true, if_false, ite_true, ite_false, reduceIte, Nat.reduceLeDiff, Nat.reduceSub, eq_self, and_self, and_true, true_and]
      · rw [hl, rngL_eq]
        simp
    · exact h.elim
  · rintro i x ρ hx ⟨xs, st, rfl, hl, hg, s0, s1⟩
    obtain ⟨j, hj, rfl⟩ := mem_rng0 (List.mem_of_getElem? hx)
    have hi := (List.getElem?_eq_some_iff.mp hx).1
    rw [rngL_eq, List.length_map, List.length_range] at hi
    refine ⟨_, rfl, .inl ?_⟩
    have h2 : 0 ≤ st * 48271 % 2147483647 ∧ st * 48271 % 2147483647 < 2147483647 := by omega
    obtain ⟨v, e, g⟩ := l_number_ok hb h2.1 h2.2
    refine ⟨_, .inl ?_, xs ++ [v], st * 48271 % 2147483647, rfl, by simp [hl], ?_, h2⟩
    · simp -implicitDefEqProofs only [c_l_numbers_1, evSs, evS, evE, evEs, evI, RS.of_ok, RS.of_exn, RS.ofL_ok, RS.ofL_exn, RS.then_next, RS.then_ret, RS.then_brk, RS.then_cnt, RS.then_exn, RS.ifB_t, RS.ifB_f, RS.caught_next, RS.caught_ret, RS.caught_exn, RS.caughtN_next, RS.caughtN_ret, RS.suiteN_next, RS.suiteN_ret, RS.suite_next, RS.suite_ret, pIsx, pIs, pIsN, lamR_enc_ok, lamR_enc_exn, Pf.toldTo, R.bind_ok, R.bind_exn, pBin, pCmp, pAdd, pSub, pNeg, pLt, pLe, pNot, pIx, pSeq, pInt, getE, getB, setOwR, Pf.putAt, Pf.popTo, Pf.scrTo, Pf.unpTo, pIsa, asgT, setAll, killAll, PX.isN, PX.isB, PXs.hasB, Bool.false_eq_true, Bool.or_false, Bool.or_self, List.getElem?_cons_zero, List.getElem?_cons_succ, List.set_cons_zero, List.set_cons_succ, List.length_cons, List.length_nil, List.getD_cons_zero, List.getD_cons_succ, Nat.reduceAdd, Nat.reduceLT, Nat.zero_lt_succ, Nat.zero_add, ite_self, Bool.false_or, Bool.true_or, iL_len, Int.cast_ofNat_Int, Bool.and_true, Bool.true_and, bi_len_lst, bi_len_tup, bi_len_rl, bi_list_lst, bi_list_tup, bi_list_rl, bi_tuple_lst, bi_tuple_tup, bi_tuple_rl, bi_int_int, bi_int_b, at_two, int_if, at3_0, at3_1, at3_2, at2_0, at2_1, List.take_succ_cons, List.take_zero, List.drop_succ_cons, List.drop_zero, sum_ok, sl_lst, sl_tup, sl_rl, part_t, part_f, if_true, if_false, ite_true, ite_false, reduceIte, Nat.reduceLeDiff, Nat.reduceSub, eq_self, and_self, and_true, true_and]
      rw [mul_ok (small_60 (by omega)) (small_60 (by decide))]
      simp -implicitDefEqProofs only [evSs, evS, evE, evEs, evI, RS.of_ok, RS.of_exn, RS.ofL_ok, RS.ofL_exn, RS.then_next, RS.then_ret, RS.then_brk, RS.then_cnt, RS.then_exn, RS.ifB_t, RS.ifB_f, RS.caught_next, RS.caught_ret, RS.caught_exn, RS.caughtN_next, RS.caughtN_ret, RS.suiteN_next, RS.suiteN_ret, RS.suite_next, RS.suite_ret, pIsx, pIs, pIsN, lamR_enc_ok, lamR_enc_exn, Pf.toldTo, R.bind_ok, R.bind_exn, pBin, pCmp, pAdd, pSub, pNeg, pLt, pLe, pNot, pIx, pSeq, pInt, getE, getB, setOwR, Pf.putAt, Pf.popTo, Pf.scrTo, Pf.unpTo, pIsa, asgT, setAll, killAll, PX.isN, PX.isB, PXs.hasB, Bool.false_eq_true, Bool.or_false, Bool.or_self, List.getElem?_cons_zero, List.getElem?_cons_succ, List.set_cons_zero, List.set_cons_succ, List.length_cons, List.length_nil, List.getD_cons_zero, List.getD_cons_succ, Nat.reduceAdd, Nat.reduceLT, Nat.zero_lt_succ, Nat.zero_add, ite_self, Bool.false_or, Bool.true_or, iL_len, Int.cast_ofNat_Int, Bool.and_true, Bool.true_and, bi_len_lst, bi_len_tup, bi_len_rl, bi_list_lst, bi_list_tup, bi_list_rl, bi_tuple_lst, bi_tuple_tup, bi_tuple_rl, bi_int_int, bi_int_b, at_two, int_if, at3_0, at3_1, at3_2, at2_0, at2_1, List.take_succ_cons, List.take_zero, List.drop_succ_cons, List.drop_zero, sum_ok, sl_lst, sl_tup, sl_rl, part_t, part_f, if_true, if_false, ite_true, ite_false, reduceIte, Nat.reduceLeDiff, Nat.reduceSub, eq_self, and_self, and_true, true_and, mod_pos (b := 2147483647) (by decide), e, iL_len, show xs.length ≤ LIM by omega, iL_app1]
    · intro x hx
      rcases List.mem_append.mp hx with hx | hx
      · exact hg x hx
      · rw [List.mem_singleton.mp hx]
        exact g
def sd (b v : Int) : Prop := tk b v = v ∧ bd 210 v
theorem gd.sd {b v : Int} (h : gd b v) : sd b v := ⟨h.1, bd_mono (gd_bd h) (by decide)⟩
/-- a row -/
structure Rw (b : Int) (n : Nat) (r s : List Int) : Prop where
  b0 : 0 ≤ b
  b1 : b ≤ 997
  bn : b ≠ 1
  len : r.length = s.length
  le : s.length ≤ n
  rr : ∀ x ∈ r, gd b x
  ss : ∀ x ∈ s, sd b x
theorem Rw.sb {b : Int} {n : Nat} {r s : List Int} (h : Rw b n r s) (hn : n ≤ 16) (k : Nat) : bd (210 + 74 * k) (sq b r s k) :=
  sq_bd (by decide) h.b0 (by have := h.b1; omega) (fun x hx => gd_bd (h.rr x hx)) (fun x hx => (h.ss x hx).2) (by have := h.len; have := h.le; omega) k
theorem Rw.red {b : Int} {n : Nat} {r s : List Int} (h : Rw b n r s) (k : Nat) : tk b (sq b r s k) = sq b r s k := sq_red (fun x hx => (h.ss x hx).1) k
abbrev rowV (b : Int) (r s : List Int) : PV := .tup [.int b, .tup (iL r), .tup (iL s)]
/-! ### figures -/
theorem numL_pos (n : Nat) : 0 < (TL.numL n).length := List.length_pos_iff.mpr (TL.numL_ne n)
/-- the figures from behind -/
theorem dig_at : ∀ (n i : Nat), i < (TL.numL n).length → (TL.numL n).reverse[i]? = some (48 + n / 10 ^ i % 10) ∧ (9 < n / 10 ^ i ↔ i + 1 < (TL.numL n).length) := by
  intro n
  induction n using Nat.strongRecOn with
  | _ n ih =>
    intro i hi
    by_cases h : n < 10
    · rw [TL.numL_lt h] at hi ⊢
      simp only [List.length_cons, List.length_nil, Nat.zero_add] at hi ⊢
      have e : i = 0 := by omega
      subst e
      refine ⟨?_, ?_⟩
      · rw [Nat.pow_zero, Nat.div_one, Nat.mod_eq_of_lt h]
        rfl
      · rw [Nat.pow_zero, Nat.div_one]
        omega
    · have st := TL.numL_step (n := n) (by omega)
      rw [st] at hi ⊢
      rw [List.length_append, List.length_cons, List.length_nil] at hi ⊢
      rw [List.reverse_append]
      cases i with
      | zero =>
        refine ⟨?_, ?_⟩
        · rw [Nat.pow_zero, Nat.div_one]
          rfl
        · rw [Nat.pow_zero, Nat.div_one]
          have := numL_pos (n / 10)
          omega
      | succ i =>
        obtain ⟨h1, h2⟩ := ih (n / 10) (by omega) i (by omega)
        have e : n / 10 ^ (i + 1) = n / 10 / 10 ^ i := by rw [Nat.pow_succ, Nat.mul_comm, Nat.div_div_eq_div_mul]
        rw [e]
        refine ⟨?_, ?_⟩
        · show (TL.numL (n / 10)).reverse[i]? = _
          exact h1
        · rw [h2]
          omega
/-- one sign each -/
def ones (l : List Nat) : List PV := l.map fun c => .str (st [c])
theorem ones_sL (l : List Nat) : ones l = sL (l.map fun c => [c]) := by
  unfold ones sL
  rw [List.map_map]
  rfl
theorem joinL_ones : ∀ l : List Nat, TL.joinL [] (l.map fun c => [c]) = l
  | [] => rfl
  | [c] => rfl
  | c :: d :: l => by
    have ih := joinL_ones (d :: l)
    show [c] ++ ([] ++ TL.joinL [] ((d :: l).map fun c => [c])) = _
    rw [ih]
    rfl
theorem ones_sum (l : List Nat) : ((l.map fun c => [c]).map List.length).sum = l.length := by
  induction l with
  | nil => rfl
  | cons c l ih =>
    rw [List.map_cons, List.map_cons, List.sum_cons, ih]
    simp only [List.length_cons, List.length_nil]
    omega
theorem jrv_ones {l : List Nat} (h : l.length ≤ 100000) : pJrv (st []) (.lst (ones l.reverse)) = .ok (.str (st l)) := by
  show pJoin (.str (st [])) (.lst (ones l.reverse).reverse) = _
  have e : (ones l.reverse).reverse = ones l := by
    unfold ones
    rw [List.map_reverse, List.reverse_reverse]
  rw [e, ones_sL, join_ok (by rw [ones_sum, List.length_nil, Nat.mul_zero]; omega), joinL_ones]
theorem fig_at (v : Int) : L2.atI FIGL (v % 10) = some (48 + (v % 10).toNat) := by
  have h : v % 10 = 0 ∨ v % 10 = 1 ∨ v % 10 = 2 ∨ v % 10 = 3 ∨ v % 10 = 4 ∨ v % 10 = 5 ∨ v % 10 = 6 ∨ v % 10 = 7 ∨ v % 10 = 8 ∨ v % 10 = 9 := by omega
  rcases h with h | h | h | h | h | h | h | h | h | h <;> rw [h] <;> rfl
theorem lit_e : ("" : PySem.Str) = st [] := TL.ext_tl rfl
theorem figures_ok {z : Int} (hz : (TL.numL z.natAbs).length ≤ 5000) : s_l_figures [.int z] = .ok (.str (st (numW z))) := by
  have hL : LIM = 1000000 := rfl
  have p10 : FIGL.length ≤ LIM := by decide
  obtain ⟨n, hn⟩ : ∃ n, n = z.natAbs := ⟨_, rfl⟩
  rw [← hn] at hz
  have np := numL_pos n
  refine run_ret rfl ?_
  show evSs [] [] false c_l_figures [.sh (.int z), .no, .no] = _
  have hab : pBi .abs [.int z] = .ok (.int (n : Nat)) := by
    show R.ok (PV.int (if z < 0 then -z else z)) = _
    congr 2
    rw [hn]
    split <;> omega
  have fg : ∀ m : Nat, L2.atI FIGL ((m : Int) % 10) = some (48 + m % 10) := fun m => by
    rw [fig_at]
    congr 1
  obtain ⟨env, henv⟩ : ∃ env : Nat → Env, env = fun i => [.sh (.int z), .sh (.int ((n / 10 ^ i : Nat) : Int)), .ow (ones ((TL.numL n).reverse.take (i + 1)))] := ⟨_, rfl⟩
  have key := whlL_inv (c := evE [] [] (.cmp .gt (.var 1) (.int 9))) (body := evSs [] [] false c_l_figures_1) ((TL.numL n).length - 1) LOOPS env (by rw [LOOPS_eq]; omega) (fun i hi => by
    obtain ⟨h1, h2⟩ := dig_at n i (by omega)
    obtain ⟨h3, h4⟩ := dig_at n (i + 1) (by omega)
    have g9 : 9 < n / 10 ^ i := h2.mpr (by omega)
    have ed : n / 10 ^ (i + 1) = n / 10 ^ i / 10 := by rw [Nat.pow_succ, Nat.div_div_eq_div_mul]
    have lt : ((TL.numL n).reverse.take (i + 1)).length = i + 1 := by rw [List.length_take, List.length_reverse]; omega
    have nx : (TL.numL n).reverse.take (i + 1 + 1) = (TL.numL n).reverse.take (i + 1) ++ [48 + n / 10 ^ i / 10 % 10] := by
      rw [List.take_add_one, h3, ed]
      rfl
    rw [henv]
    refine ⟨?_, .inl ?_⟩
    · simp -implicitDefEqProofs only [evSs, evS, evE, evEs, evI, RS.of_ok, RS.of_exn, RS.ofL_ok, RS.ofL_exn, RS.then_next, RS.then_ret, RS.then_brk, RS.then_cnt, RS.then_exn, RS.ifB_t, RS.ifB_f, RS.caught_next, RS.caught_ret, RS.caught_exn, RS.caughtN_next, RS.caughtN_ret, RS.suiteN_next, RS.suiteN_ret, RS.suite_next, RS.suite_ret, pIsx, pIs, pIsN, lamR_enc_ok, lamR_enc_exn, Pf.toldTo, R.bind_ok, R.bind_exn, pBin, pCmp, pAdd, pSub, pNeg, pLt, pLe, pNot, pIx, pSeq, pInt, getE, getB, setOwR, Pf.putAt, Pf.popTo, Pf.scrTo, Pf.unpTo, pIsa, asgT, setAll, killAll, PX.isN, PX.isB, PXs.hasB, Bool.false_eq_true, Bool.or_false, Bool.or_self, List.getElem?_cons_zero, List.getElem?_cons_succ, List.set_cons_zero, List.set_cons_succ, List.length_cons, List.length_nil, List.getD_cons_zero, List.getD_cons_succ, Nat.reduceAdd, Nat.reduceLT, Nat.zero_lt_succ, Nat.zero_add, ite_self, Bool.false_or, Bool.true_or, iL_len, Int.cast_ofNat_Int, Bool.and_true, Bool.true_and, bi_len_lst, bi_len_tup, bi_len_rl, bi_list_lst, bi_list_tup, bi_list_rl, bi_tuple_lst, bi_tuple_tup, bi_tuple_rl, bi_int_int, bi_int_b, at_two, int_if, at3_0, at3_1, at3_2, at2_0, at2_1, List.take_succ_cons, List.take_zero, List.drop_succ_cons, List.drop_zero, sum_ok, sl_lst, sl_tup, sl_rl, part_t, part_f, if_true, if_false, ite_true, ite_false, reduceIte, Nat.reduceLeDiff, Nat.reduceSub, eq_self, and_self, and_true, true_and, show (9 : Int) < ((n / 10 ^ i : Nat) : Int) by omega, decide_true]
    · have dv : ((n / 10 ^ i : Nat) : Int) / 10 = ((n / 10 ^ i / 10 : Nat) : Int) := by omega
      have ol : (ones ((TL.numL n).reverse.take (i + 1))).length = i + 1 := by
        unfold ones
        rw [List.length_map, lt]
      have oa : ones ((TL.numL n).reverse.take (i + 1 + 1)) = ones ((TL.numL n).reverse.take (i + 1)) ++ [PV.str (st [48 + n / 10 ^ i / 10 % 10])] := by
        rw [nx]
        unfold ones
        rw [List.map_append]
        rfl
      simp -implicitDefEqProofs only [c_l_figures_1, lit_fig, evSs, evS, evE, evEs, evI, RS.of_ok, RS.of_exn, RS.ofL_ok, RS.ofL_exn, RS.then_next, RS.then_ret, RS.then_brk, RS.then_cnt, RS.then_exn, RS.ifB_t, RS.ifB_f, RS.caught_next, RS.caught_ret, RS.caught_exn, RS.caughtN_next, RS.caughtN_ret, RS.suiteN_next, RS.suiteN_ret, RS.suite_next, RS.suite_ret, pIsx, pIs, pIsN, lamR_enc_ok, lamR_enc_exn, Pf.toldTo, R.bind_ok, R.bind_exn, pBin, pCmp, pAdd, pSub, pNeg, pLt, pLe, pNot, pIx, pSeq, pInt, getE, getB, setOwR, Pf.putAt, Pf.popTo, Pf.scrTo, Pf.unpTo, pIsa, asgT, setAll, killAll, PX.isN, PX.isB, PXs.hasB, Bool.false_eq_true, Bool.or_false, Bool.or_self, List.getElem?_cons_zero, List.getElem?_cons_succ, List.set_cons_zero, List.set_cons_succ, List.length_cons, List.length_nil, List.getD_cons_zero, List.getD_cons_succ, Nat.reduceAdd, Nat.reduceLT, Nat.zero_lt_succ, Nat.zero_add, ite_self, Bool.false_or, Bool.true_or, iL_len, Int.cast_ofNat_Int, Bool.and_true, Bool.true_and, bi_len_lst, bi_len_tup, bi_len_rl, bi_list_lst, bi_list_tup, bi_list_rl, bi_tuple_lst, bi_tuple_tup, bi_tuple_rl, bi_int_int, bi_int_b, at_two, int_if, at3_0, at3_1, at3_2, at2_0, at2_1, List.take_succ_cons, List.take_zero, List.drop_succ_cons, List.drop_zero, sum_ok, sl_lst, sl_tup, sl_rl, part_t, part_f, if_true, if_false, ite_true, ite_false, reduceIte, Nat.reduceLeDiff, Nat.reduceSub, eq_self, and_self, and_true, true_and, fdiv_pos (b := 10) (by decide) (by decide), dv, mod_pos (b := 10) (by decide), st_len, st_cps, p10, fg, mk1, ol, show i + 1 ≤ LIM by omega, oa, ed]) (by
    obtain ⟨h1, h2⟩ := dig_at n ((TL.numL n).length - 1) (by omega)
    have g9 : ¬ 9 < n / 10 ^ ((TL.numL n).length - 1) := fun h => by
      have := h2.mp h
      omega
    rw [henv]
    simp -implicitDefEqProofs only [evSs, evS, evE, evEs, evI, RS.of_ok, RS.of_exn, RS.ofL_ok, RS.ofL_exn, RS.then_next, RS.then_ret, RS.then_brk, RS.then_cnt, RS.then_exn, RS.ifB_t, RS.ifB_f, RS.caught_next, RS.caught_ret, RS.caught_exn, RS.caughtN_next, RS.caughtN_ret, RS.suiteN_next, RS.suiteN_ret, RS.suite_next, RS.suite_ret, pIsx, pIs, pIsN, lamR_enc_ok, lamR_enc_exn, Pf.toldTo, R.bind_ok, R.bind_exn, pBin, pCmp, pAdd, pSub, pNeg, pLt, pLe, pNot, pIx, pSeq, pInt, getE, getB, setOwR, Pf.putAt, Pf.popTo, Pf.scrTo, Pf.unpTo, pIsa, asgT, setAll, killAll, PX.isN, PX.isB, PXs.hasB, Bool.false_eq_true, Bool.or_false, Bool.or_self, List.getElem?_cons_zero, List.getElem?_cons_succ, List.set_cons_zero, List.set_cons_succ, List.length_cons, List.length_nil, List.getD_cons_zero, List.getD_cons_succ, Nat.reduceAdd, Nat.reduceLT, Nat.zero_lt_succ, Nat.zero_add, ite_self, Bool.false_or, Bool.true_or, iL_len, Int.cast_ofNat_Int, Bool.and_true, Bool.true_and, bi_len_lst, bi_len_tup, bi_len_rl, bi_list_lst, bi_list_tup, bi_list_rl, bi_tuple_lst, bi_tuple_tup, bi_tuple_rl, bi_int_int, bi_int_b, at_two, int_if, at3_0, at3_1, at3_2, at2_0, at2_1, List.take_succ_cons, List.take_zero, List.drop_succ_cons, List.drop_zero, sum_ok, sl_lst, sl_tup, sl_rl, part_t, part_f, if_true, if_false, ite_true, ite_false, reduceIte, Nat.reduceLeDiff, Nat.reduceSub, eq_self, and_self, and_true, true_and, show ¬ (9 : Int) < ((n / 10 ^ ((TL.numL n).length - 1) : Nat) : Int) by omega, decide_false])
  have e0 : env 0 = [.sh (.int z), .sh (.int (n : Nat)), .ow [PV.str (st [48 + n % 10])]] := by
    obtain ⟨h1, _⟩ := dig_at n 0 (by omega)
    rw [henv]
    have t1 : (TL.numL n).reverse.take (0 + 1) = [48 + n % 10] := by
      rw [List.take_add_one, h1, Nat.pow_zero, Nat.div_one]
      rfl
    simp only [t1, Nat.pow_zero, Nat.div_one]
    rfl
  have eN : env ((TL.numL n).length - 1) = [.sh (.int z), .sh (.int ((n / 10 ^ ((TL.numL n).length - 1) : Nat) : Int)), .ow (ones (TL.numL n).reverse)] := by
    rw [henv]
    have t1 : (TL.numL n).reverse.take ((TL.numL n).length - 1 + 1) = (TL.numL n).reverse := List.take_of_length_le (by rw [List.length_reverse]; omega)
    simp only [t1]
  rw [e0, eN] at key
  simp -implicitDefEqProofs only [evSs, evS, evE, evEs, evI, RS.of_ok, RS.of_exn, RS.ofL_ok, RS.ofL_exn, RS.then_next, RS.then_ret, RS.then_brk, RS.then_cnt, RS.then_exn, RS.ifB_t, RS.ifB_f, RS.caught_next, RS.caught_ret, RS.caught_exn, RS.caughtN_next, RS.caughtN_ret, RS.suiteN_next, RS.suiteN_ret, RS.suite_next, RS.suite_ret, pIsx, pIs, pIsN, lamR_enc_ok, lamR_enc_exn, Pf.toldTo, R.bind_ok, R.bind_exn, pBin, pCmp, pAdd, pSub, pNeg, pLt, pLe, pNot, pIx, pSeq, pInt, getE, getB, setOwR, Pf.putAt, Pf.popTo, Pf.scrTo, Pf.unpTo, pIsa, asgT, setAll, killAll, PX.isN, PX.isB, PXs.hasB, Bool.false_eq_true, Bool.or_false, Bool.or_self, List.getElem?_cons_zero, List.getElem?_cons_succ, List.set_cons_zero, List.set_cons_succ, List.length_cons, List.length_nil, List.getD_cons_zero, List.getD_cons_succ, Nat.reduceAdd, Nat.reduceLT, Nat.zero_lt_succ, Nat.zero_add, ite_self, Bool.false_or, Bool.true_or, iL_len, Int.cast_ofNat_Int, Bool.and_true, Bool.true_and, bi_len_lst, bi_len_tup, bi_len_rl, bi_list_lst, bi_list_tup, bi_list_rl, bi_tuple_lst, bi_tuple_tup, bi_tuple_rl, bi_int_int, bi_int_b, at_two, int_if, at3_0, at3_1, at3_2, at2_0, at2_1, List.take_succ_cons, List.take_zero, List.drop_succ_cons, List.drop_zero, sum_ok, sl_lst, sl_tup, sl_rl, part_t, part_f, if_true, if_false, ite_true, ite_false, reduceIte, Nat.reduceLeDiff, Nat.reduceSub, eq_self, and_self, and_true, true_and] at key
  have ol : (ones (TL.numL n).reverse).length ≤ LIM := by
    unfold ones
    rw [List.length_map, List.length_reverse]
    omega
  by_cases h0 : z < 0
  · have j : pJrv (st []) (.lst (ones (TL.numL n).reverse ++ [PV.str (st [45])])) = .ok (.str (st (numW z))) := by
      have e : numW z = 45 :: TL.numL n := by
        unfold numW
        rw [if_pos h0, hn]
      rw [e]
      have := jrv_ones (l := 45 :: TL.numL n) (by rw [List.length_cons]; omega)
      rw [List.reverse_cons] at this
      rw [← this]
      unfold ones
      rw [List.map_append]
      rfl
    simp -implicitDefEqProofs only [c_l_figures, lit_fig, lit_min, lit_e, evSs, evS, evE, evEs, evI, RS.of_ok, RS.of_exn, RS.ofL_ok, RS.ofL_exn, RS.then_next, RS.then_ret, RS.then_brk, RS.then_cnt, RS.then_exn, RS.ifB_t, RS.ifB_f, RS.caught_next, RS.caught_ret, RS.caught_exn, RS.caughtN_next, RS.caughtN_ret, RS.suiteN_next, RS.suiteN_ret, RS.suite_next, RS.suite_ret, pIsx, pIs, pIsN, lamR_enc_ok, lamR_enc_exn, Pf.toldTo, R.bind_ok, R.bind_exn, pBin, pCmp, pAdd, pSub, pNeg, pLt, pLe, pNot, pIx, pSeq, pInt, getE, getB, setOwR, Pf.putAt, Pf.popTo, Pf.scrTo, Pf.unpTo, pIsa, asgT, setAll, killAll, PX.isN, PX.isB, PXs.hasB, Bool.false_eq_true, Bool.or_false, Bool.or_self, List.getElem?_cons_zero, List.getElem?_cons_succ, List.set_cons_zero, List.set_cons_succ, List.length_cons, List.length_nil, List.getD_cons_zero, List.getD_cons_succ, Nat.reduceAdd, Nat.reduceLT, Nat.zero_lt_succ, Nat.zero_add, ite_self, Bool.false_or, Bool.true_or, iL_len, Int.cast_ofNat_Int, Bool.and_true, Bool.true_and, bi_len_lst, bi_len_tup, bi_len_rl, bi_list_lst, bi_list_tup, bi_list_rl, bi_tuple_lst, bi_tuple_tup, bi_tuple_rl, bi_int_int, bi_int_b, at_two, int_if, at3_0, at3_1, at3_2, at2_0, at2_1, List.take_succ_cons, List.take_zero, List.drop_succ_cons, List.drop_zero, sum_ok, sl_lst, sl_tup, sl_rl, part_t, part_f, if_true, if_false, ite_true, ite_false, reduceIte, Nat.reduceLeDiff, Nat.reduceSub, eq_self, and_self, and_true, true_and, hab, mod_pos (b := 10) (by decide), st_len, st_cps, p10, fg, mk1]
    rw [key]
    simp -implicitDefEqProofs only [evSs, evS, evE, evEs, evI, RS.of_ok, RS.of_exn, RS.ofL_ok, RS.ofL_exn, RS.then_next, RS.then_ret, RS.then_brk, RS.then_cnt, RS.then_exn, RS.ifB_t, RS.ifB_f, RS.caught_next, RS.caught_ret, RS.caught_exn, RS.caughtN_next, RS.caughtN_ret, RS.suiteN_next, RS.suiteN_ret, RS.suite_next, RS.suite_ret, pIsx, pIs, pIsN, lamR_enc_ok, lamR_enc_exn, Pf.toldTo, R.bind_ok, R.bind_exn, pBin, pCmp, pAdd, pSub, pNeg, pLt, pLe, pNot, pIx, pSeq, pInt, getE, getB, setOwR, Pf.putAt, Pf.popTo, Pf.scrTo, Pf.unpTo, pIsa, asgT, setAll, killAll, PX.isN, PX.isB, PXs.hasB, Bool.false_eq_true, Bool.or_false, Bool.or_self, List.getElem?_cons_zero, List.getElem?_cons_succ, List.set_cons_zero, List.set_cons_succ, List.length_cons, List.length_nil, List.getD_cons_zero, List.getD_cons_succ, Nat.reduceAdd, Nat.reduceLT, Nat.zero_lt_succ, Nat.zero_add, ite_self, Bool.false_or, Bool.true_or, iL_len, Int.cast_ofNat_Int, Bool.and_true, Bool.true_and, bi_len_lst, bi_len_tup, bi_len_rl, bi_list_lst, bi_list_tup, bi_list_rl, bi_tuple_lst, bi_tuple_tup, bi_tuple_rl, bi_int_int, bi_int_b, at_two, int_if, at3_0, at3_1, at3_2, at2_0, at2_1, List.take_succ_cons, List.take_zero, List.drop_succ_cons, List.drop_zero, sum_ok, sl_lst, sl_tup, sl_rl, part_t, part_f, if_true, if_false, ite_true, ite_false, reduceIte, Nat.reduceLeDiff, Nat.reduceSub, eq_self, and_self, and_true, true_and, h0, decide_true, ol, j]
  · have j : pJrv (st []) (.lst (ones (TL.numL n).reverse)) = .ok (.str (st (numW z))) := by
      have e : numW z = TL.numL n := by
        unfold numW
        rw [if_neg h0, hn]
      rw [e]
      exact jrv_ones (by omega)
    simp -implicitDefEqProofs only [c_l_figures, lit_fig, lit_min, lit_e, evSs, evS, evE, evEs, evI, RS.of_ok, RS.of_exn, RS.ofL_ok, RS.ofL_exn, RS.then_next, RS.then_ret, RS.then_brk, RS.then_cnt, RS.then_exn, RS.ifB_t, RS.ifB_f, RS.caught_next, RS.caught_ret, RS.caught_exn, RS.caughtN_next, RS.caughtN_ret, RS.suiteN_next, RS.suiteN_ret, RS.suite_next, RS.suite_ret, pIsx, pIs, pIsN, lamR_enc_ok, lamR_enc_exn, Pf.toldTo, R.bind_ok, R.bind_exn, pBin, pCmp, pAdd, pSub, pNeg, pLt, pLe, pNot, pIx, pSeq, pInt, getE, getB, setOwR, Pf.putAt, Pf.popTo, Pf.scrTo, Pf.unpTo, pIsa, asgT, setAll, killAll, PX.isN, PX.isB, PXs.hasB, Bool.false_eq_true, Bool.or_false, Bool.or_self, List.getElem?_cons_zero, List.getElem?_cons_succ, List.set_cons_zero, List.set_cons_succ, List.length_cons, List.length_nil, List.getD_cons_zero, List.getD_cons_succ, Nat.reduceAdd, Nat.reduceLT, Nat.zero_lt_succ, Nat.zero_add, ite_self, Bool.false_or, Bool.true_or, iL_len, Int.cast_ofNat_Int, Bool.and_true, Bool.true_and, bi_len_lst, bi_len_tup, bi_len_rl, bi_list_lst, bi_list_tup, bi_list_rl, bi_tuple_lst, bi_tuple_tup, bi_tuple_rl, bi_int_int, bi_int_b, at_two, int_if, at3_0, at3_1, at3_2, at2_0, at2_1, List.take_succ_cons, List.take_zero, List.drop_succ_cons, List.drop_zero, sum_ok, sl_lst, sl_tup, sl_rl, part_t, part_f, if_true, if_false, ite_true, ite_false, reduceIte, Nat.reduceLeDiff, Nat.reduceSub, eq_self, and_self, and_true, true_and, hab, mod_pos (b := 10) (by decide), st_len, st_cps, p10, fg, mk1]
    rw [key]
    simp -implicitDefEqProofs only [evSs, evS, evE, evEs, evI, RS.of_ok, RS.of_exn, RS.ofL_ok, RS.ofL_exn, RS.then_next, RS.then_ret, RS.then_brk, RS.then_cnt, RS.then_exn, RS.ifB_t, RS.ifB_f, RS.caught_next, RS.caught_ret, RS.caught_exn, RS.caughtN_next, RS.caughtN_ret, RS.suiteN_next, RS.suiteN_ret, RS.suite_next, RS.suite_ret, pIsx, pIs, pIsN, lamR_enc_ok, lamR_enc_exn, Pf.toldTo, R.bind_ok, R.bind_exn, pBin, pCmp, pAdd, pSub, pNeg, pLt, pLe, pNot, pIx, pSeq, pInt, getE, getB, setOwR, Pf.putAt, Pf.popTo, Pf.scrTo, Pf.unpTo, pIsa, asgT, setAll, killAll, PX.isN, PX.isB, PXs.hasB, Bool.false_eq_true, Bool.or_false, Bool.or_self, List.getElem?_cons_zero, List.getElem?_cons_succ, List.set_cons_zero, List.set_cons_succ, List.length_cons, List.length_nil, List.getD_cons_zero, List.getD_cons_succ, Nat.reduceAdd, Nat.reduceLT, Nat.zero_lt_succ, Nat.zero_add, ite_self, Bool.false_or, Bool.true_or, iL_len, Int.cast_ofNat_Int, Bool.and_true, Bool.true_and, bi_len_lst, bi_len_tup, bi_len_rl, bi_list_lst, bi_list_tup, bi_list_rl, bi_tuple_lst, bi_tuple_tup, bi_tuple_rl, bi_int_int, bi_int_b, at_two, int_if, at3_0, at3_1, at3_2, at2_0, at2_1, List.take_succ_cons, List.take_zero, List.drop_succ_cons, List.drop_zero, sum_ok, sl_lst, sl_tup, sl_rl, part_t, part_f, if_true, if_false, ite_true, ite_false, reduceIte, Nat.reduceLeDiff, Nat.reduceSub, eq_self, and_self, and_true, true_and, h0, decide_false, ol, j]
/-! ### rows shown -/
def G4 : Nat := 10 ^ 4000
theorem greatest4 : ∃ G : Int, cn_GREATEST = .int G ∧ G = ((G4 : Nat) : Int) := ⟨_, rfl, by decide +kernel⟩
theorem G4_dig : G4 < DIG := by decide +kernel
def Num4 (xs : List Int) : Prop := ∀ x ∈ xs, x.natAbs < G4
theorem len4 {x : Int} (h : x.natAbs < G4) : (TL.numL x.natAbs).length ≤ 4000 ∧ (numW x).length ≤ 4001 := by
  have h1 : (TL.numL x.natAbs).length ≤ 4000 := TL.numL_len (by decide) h
  refine ⟨h1, ?_⟩
  unfold numW
  split
  · rw [List.length_cons]
    omega
  · omega
theorem str_dig {x : Int} (h : x.natAbs < DIG) : pBi .str [.int x] = .ok (.str (st (numW x))) := by
  show (if x.natAbs.log2 < 1920 ∨ x.natAbs < DIG then R.ok (PV.str (PySem.Str.ofString (toString x))) else .bad) = _
  rw [if_pos (.inr h), str_numW]
theorem number_text4 {x : Int} (h : x.natAbs < G4) : s_number_text [.int x] = .ok (.str (st (numW x))) := by
  obtain ⟨G, hG, e⟩ := greatest4
  refine run_ret rfl ?_
  show evSs [] [cn_GREATEST] false c_number_text [.sh (.int x)] = _
  rw [hG]
  simp -implicitDefEqProofs only [c_number_text, evSs, evS, evE, evEs, evI, RS.of_ok, RS.of_exn, RS.ofL_ok, RS.ofL_exn, RS.then_next, RS.then_ret, RS.then_brk, RS.then_cnt, RS.then_exn, RS.ifB_t, RS.ifB_f, RS.caught_next, RS.caught_ret, RS.caught_exn, RS.caughtN_next, RS.caughtN_ret, RS.suiteN_next, RS.suiteN_ret, RS.suite_next, RS.suite_ret, pIsx, pIs, pIsN, lamR_enc_ok, lamR_enc_exn, Pf.toldTo, R.bind_ok, R.bind_exn, pBin, pCmp, pAdd, pSub, pNeg, pLt, pLe, pNot, pIx, pSeq, pInt, getE, getB, setOwR, Pf.putAt, Pf.popTo, Pf.scrTo, Pf.unpTo, pIsa, asgT, setAll, killAll, PX.isN, PX.isB, PXs.hasB, Bool.false_eq_true, Bool.or_false, Bool.or_self, List.getElem?_cons_zero, List.getElem?_cons_succ, List.set_cons_zero, List.set_cons_succ, List.length_cons, List.length_nil, List.getD_cons_zero, List.getD_cons_succ, Nat.reduceAdd, Nat.reduceLT, Nat.zero_lt_succ, Nat.zero_add, ite_self, Bool.false_or, Bool.true_or, iL_len, Int.cast_ofNat_Int, Bool.and_true, Bool.true_and, bi_len_lst, bi_len_tup, bi_len_rl, bi_list_lst, bi_list_tup, bi_list_rl, bi_tuple_lst, bi_tuple_tup, bi_tuple_rl, bi_int_int, bi_int_b, at_two, int_if, at3_0, at3_1, at3_2, at2_0, at2_1, List.take_succ_cons, List.take_zero, List.drop_succ_cons, List.drop_zero, sum_ok, sl_lst, sl_tup, sl_rl, part_t, part_f, if_true, if_false, ite_true, ite_false, reduceIte, Nat.reduceLeDiff, Nat.reduceSub, eq_self, and_self, and_true, true_and, show -G < x by omega, show x < G by omega, decide_true, Bool.not_true, str_dig (Nat.lt_trans h G4_dig)]
theorem number_big {x : Int} (h : G4 ≤ x.natAbs) : s_number_text [.int x] = .exn 6 := by
  obtain ⟨G, hG, e⟩ := greatest4
  refine run_exn (ρ := [.sh (.int x)]) rfl ?_
  show evSs [] [cn_GREATEST] false c_number_text [.sh (.int x)] = _
  rw [hG]
  by_cases h1 : -G < x
  · simp -implicitDefEqProofs only [c_number_text, evSs, evS, evE, evEs, evI, RS.of_ok, RS.of_exn, RS.ofL_ok, RS.ofL_exn, RS.then_next, RS.then_ret, RS.then_brk, RS.then_cnt, RS.then_exn, RS.ifB_t, RS.ifB_f, RS.caught_next, RS.caught_ret, RS.caught_exn, RS.caughtN_next, RS.caughtN_ret, RS.suiteN_next, RS.suiteN_ret, RS.suite_next, RS.suite_ret, pIsx, pIs, pIsN, lamR_enc_ok, lamR_enc_exn, Pf.toldTo, R.bind_ok, R.bind_exn, pBin, pCmp, pAdd, pSub, pNeg, pLt, pLe, pNot, pIx, pSeq, pInt, getE, getB, setOwR, Pf.putAt, Pf.popTo, Pf.scrTo, Pf.unpTo, pIsa, asgT, setAll, killAll, PX.isN, PX.isB, PXs.hasB, Bool.false_eq_true, Bool.or_false, Bool.or_self, List.getElem?_cons_zero, List.getElem?_cons_succ, List.set_cons_zero, List.set_cons_succ, List.length_cons, List.length_nil, List.getD_cons_zero, List.getD_cons_succ, Nat.reduceAdd, Nat.reduceLT, Nat.zero_lt_succ, Nat.zero_add, ite_self, Bool.false_or, Bool.true_or, iL_len, Int.cast_ofNat_Int, Bool.and_true, Bool.true_and, bi_len_lst, bi_len_tup, bi_len_rl, bi_list_lst, bi_list_tup, bi_list_rl, bi_tuple_lst, bi_tuple_tup, bi_tuple_rl, bi_int_int, bi_int_b, at_two, int_if, at3_0, at3_1, at3_2, at2_0, at2_1, List.take_succ_cons, List.take_zero, List.drop_succ_cons, List.drop_zero, sum_ok, sl_lst, sl_tup, sl_rl, part_t, part_f, if_true, if_false, ite_true, ite_false, reduceIte, Nat.reduceLeDiff, Nat.reduceSub, eq_self, and_self, and_true, true_and, h1, show ¬ x < G by omega, decide_true, decide_false, Bool.not_false]
  · simp -implicitDefEqProofs only [c_number_text, evSs, evS, evE, evEs, evI, RS.of_ok, RS.of_exn, RS.ofL_ok, RS.ofL_exn, RS.then_next, RS.then_ret, RS.then_brk, RS.then_cnt, RS.then_exn, RS.ifB_t, RS.ifB_f, RS.caught_next, RS.caught_ret, RS.caught_exn, RS.caughtN_next, RS.caughtN_ret, RS.suiteN_next, RS.suiteN_ret, RS.suite_next, RS.suite_ret, pIsx, pIs, pIsN, lamR_enc_ok, lamR_enc_exn, Pf.toldTo, R.bind_ok, R.bind_exn, pBin, pCmp, pAdd, pSub, pNeg, pLt, pLe, pNot, pIx, pSeq, pInt, getE, getB, setOwR, Pf.putAt, Pf.popTo, Pf.scrTo, Pf.unpTo, pIsa, asgT, setAll, killAll, PX.isN, PX.isB, PXs.hasB, Bool.false_eq_true, Bool.or_false, Bool.or_self, List.getElem?_cons_zero, List.getElem?_cons_succ, List.set_cons_zero, List.set_cons_succ, List.length_cons, List.length_nil, List.getD_cons_zero, List.getD_cons_succ, Nat.reduceAdd, Nat.reduceLT, Nat.zero_lt_succ, Nat.zero_add, ite_self, Bool.false_or, Bool.true_or, iL_len, Int.cast_ofNat_Int, Bool.and_true, Bool.true_and, bi_len_lst, bi_len_tup, bi_len_rl, bi_list_lst, bi_list_tup, bi_list_rl, bi_tuple_lst, bi_tuple_tup, bi_tuple_rl, bi_int_int, bi_int_b, at_two, int_if, at3_0, at3_1, at3_2, at2_0, at2_1, List.take_succ_cons, List.take_zero, List.drop_succ_cons, List.drop_zero, sum_ok, sl_lst, sl_tup, sl_rl, part_t, part_f, if_true, if_false, ite_true, ite_false, reduceIte, Nat.reduceLeDiff, Nat.reduceSub, eq_self, and_self, and_true, true_and, h1, decide_false, Bool.not_false]
/-- a by of a row -/
theorem by4 {b : Int} (h0 : 0 ≤ b) (h1 : b < 1000) : b.natAbs < G4 := Nat.lt_of_lt_of_le (show b.natAbs < 1000 by omega) (by decide +kernel)
structure Row4 (b : Int) (r s : List Int) : Prop where
  b0 : 0 ≤ b
  b1 : b < 1000
  lr : r.length ≤ 13
  ls : s.length ≤ 13
section
variable {b : Int} {r s : List Int}
theorem words4 (w : Row4 b r s) (hr : Num4 r) (hs : Num4 s) : (∀ v ∈ wordsOf b r s, okT v ∧ v.length ≤ 4001) ∧ (wordsOf b r s).length ≤ 29 := by
  have num : ∀ z : Int, z.natAbs < G4 → okT (numW z) ∧ (numW z).length ≤ 4001 := fun z hz => ⟨numW_okT z, (len4 hz).2⟩
  have lr := w.lr
  have ls := w.ls
  refine ⟨fun v hw => ?_, by unfold wordsOf core; split <;> simp <;> omega⟩
  rcases List.mem_append.mp hw with h | h
  · rcases List.mem_append.mp h with h | h
    · obtain ⟨z, hz, rfl⟩ := List.mem_map.mp h
      exact num z (hr z hz)
    · rcases List.mem_cons.mp h with rfl | h
      · exact ⟨fun c hc => by rw [List.mem_singleton.mp hc]; decide, by decide⟩
      · obtain ⟨z, hz, rfl⟩ := List.mem_map.mp h
        exact num z (hs z hz)
  · split at h
    · exact nomatch h
    · rcases List.mem_cons.mp h with rfl | h
      · exact ⟨fun c hc => by simp at hc; omega, by decide⟩
      · rw [List.mem_singleton.mp h]
        exact num b (by4 w.b0 w.b1)
theorem join4 (w : Row4 b r s) (hr : Num4 r) (hs : Num4 s) : pJoin (.str (st [32])) (.lst (sL (wordsOf b r s))) = .ok (.str (st (textOf b r s))) ∧ okT (textOf b r s) := by
  obtain ⟨h1, h2⟩ := words4 w hr hs
  have h3 := sum_le (ws := wordsOf b r s) (m := 4001) fun v hv => (h1 v hv).2
  refine ⟨join_ok ?_, joinL_ok _ fun v hv => (h1 v hv).1⟩
  show _ + _ * 1 ≤ _
  omega
theorem l_text4 (w : Row4 b r s) (hr : Num4 r) (hs : Num4 s) : s_l_text [rowV b r s] = .ok (.str (st (textOf b r s))) := by
  have hL : LIM = 1000000 := rfl
  have lr := w.lr
  have ls := w.ls
  obtain ⟨j, _⟩ := join4 w hr hs
  have fb := figures_ok (z := b) (by have := (len4 (by4 w.b0 w.b1)).1; omega)
  refine run_ret rfl ?_
  show evSs [s_l_figures] [] false c_l_text [.sh (rowV b r s), .no, .no] = _
  have cp : ∀ (xs : List Int), Num4 xs → ∀ (el co : Env → R PV) (asg : PV → Option Env), (∀ x ∈ xs, ∃ ρ, asg (.int x) = some ρ ∧ co ρ = .ok (.bl true) ∧ el ρ = s_l_figures [.int x]) → compL el co asg (iL xs) = .ok (sL (xs.map numW)) := fun xs hx el co asg h => by
    rw [← sL_map]
    refine compL_all PV.int (fun x => .str (st (numW x))) xs fun x hm => ?_
    obtain ⟨ρ, h1, h2, h3⟩ := h x hm
    exact ⟨ρ, h1, h2, by rw [h3, figures_ok (by have := (len4 (hx x hm)).1; omega)]⟩
  simp -implicitDefEqProofs only [c_l_text, lit_bar, lit_by, lit_sp, evSs, evS, evE, evEs, evI, RS.of_ok, RS.of_exn, RS.ofL_ok, RS.ofL_exn, RS.then_next, RS.then_ret, RS.then_brk, RS.then_cnt, RS.then_exn, RS.ifB_t, RS.ifB_f, RS.caught_next, RS.caught_ret, RS.caught_exn, RS.caughtN_next, RS.caughtN_ret, RS.suiteN_next, RS.suiteN_ret, RS.suite_next, RS.suite_ret, pIsx, pIs, pIsN, lamR_enc_ok, lamR_enc_exn, Pf.toldTo, R.bind_ok, R.bind_exn, pBin, pCmp, pAdd, pSub, pNeg, pLt, pLe, pNot, pIx, pSeq, pInt, getE, getB, setOwR, Pf.putAt, Pf.popTo, Pf.scrTo, Pf.unpTo, pIsa, asgT, setAll, killAll, PX.isN, PX.isB, PXs.hasB, Bool.false_eq_true, Bool.or_false, Bool.or_self, List.getElem?_cons_zero, List.getElem?_cons_succ, List.set_cons_zero, List.set_cons_succ, List.length_cons, List.length_nil, List.getD_cons_zero, List.getD_cons_succ, Nat.reduceAdd, Nat.reduceLT, Nat.zero_lt_succ, Nat.zero_add, ite_self, Bool.false_or, Bool.true_or, iL_len, Int.cast_ofNat_Int, Bool.and_true, Bool.true_and, bi_len_lst, bi_len_tup, bi_len_rl, bi_list_lst, bi_list_tup, bi_list_rl, bi_tuple_lst, bi_tuple_tup, bi_tuple_rl, bi_int_int, bi_int_b, at_two, int_if, at3_0, at3_1, at3_2, at2_0, at2_1, List.take_succ_cons, List.take_zero, List.drop_succ_cons, List.drop_zero, sum_ok, sl_lst, sl_tup, sl_rl, part_t, part_f, if_true, if_false, ite_true, ite_false, reduceIte, Nat.reduceLeDiff, Nat.reduceSub, eq_self, and_self, and_true, true_and, rowV]
  rw [cp r hr _ _ _ ?h1]
  case h1 => exact fun x _ => ⟨_, rfl, rfl, by simp -implicitDefEqProofs only [evSs, evS, evE, evEs, evI, RS.of_ok, RS.of_exn, RS.ofL_ok, RS.ofL_exn, RS.then_next, RS.then_ret, RS.then_brk, RS.then_cnt, RS.then_exn, RS.ifB_t, RS.ifB_f, RS.caught_next, RS.caught_ret, RS.caught_exn, RS.caughtN_next, RS.caughtN_ret, RS.suiteN_next, RS.suiteN_ret, RS.suite_next, RS.suite_ret, pIsx, pIs, pIsN, lamR_enc_ok, lamR_enc_exn, Pf.toldTo, R.bind_ok, R.bind_exn, pBin, pCmp, pAdd, pSub, pNeg, pLt, pLe, pNot, pIx, pSeq, pInt, getE, getB, setOwR, Pf.putAt, Pf.popTo, Pf.scrTo, Pf.unpTo, pIsa, asgT, setAll, killAll, PX.isN, PX.isB, PXs.hasB, Bool.false_eq_true, Bool.or_false, Bool.or_self, List.getElem?_cons_zero, List.getElem?_cons_succ, List.set_cons_zero, List.set_cons_succ, List.length_cons, List.length_nil, List.getD_cons_zero, List.getD_cons_succ, Nat.reduceAdd, Nat.reduceLT, Nat.zero_lt_succ, Nat.zero_add, ite_self, Bool.false_or, Bool.true_or, iL_len, Int.cast_ofNat_Int, Bool.and_true, Bool.true_and, bi_len_lst, bi_len_tup, bi_len_rl, bi_list_lst, bi_list_tup, bi_list_rl, bi_tuple_lst, bi_tuple_tup, bi_tuple_rl, bi_int_int, bi_int_b, at_two, int_if, at3_0, at3_1, at3_2, at2_0, at2_1, List.take_succ_cons, List.take_zero, List.drop_succ_cons, List.drop_zero, sum_ok, sl_lst, sl_tup, sl_rl, part_t, part_f, if_true, if_false, ite_true, ite_false, reduceIte, Nat.reduceLeDiff, Nat.reduceSub, eq_self, and_self, and_true, true_and]⟩
  simp -implicitDefEqProofs only [evSs, evS, evE, evEs, evI, RS.of_ok, RS.of_exn, RS.ofL_ok, RS.ofL_exn, RS.then_next, RS.then_ret, RS.then_brk, RS.then_cnt, RS.then_exn, RS.ifB_t, RS.ifB_f, RS.caught_next, RS.caught_ret, RS.caught_exn, RS.caughtN_next, RS.caughtN_ret, RS.suiteN_next, RS.suiteN_ret, RS.suite_next, RS.suite_ret, pIsx, pIs, pIsN, lamR_enc_ok, lamR_enc_exn, Pf.toldTo, R.bind_ok, R.bind_exn, pBin, pCmp, pAdd, pSub, pNeg, pLt, pLe, pNot, pIx, pSeq, pInt, getE, getB, setOwR, Pf.putAt, Pf.popTo, Pf.scrTo, Pf.unpTo, pIsa, asgT, setAll, killAll, PX.isN, PX.isB, PXs.hasB, Bool.false_eq_true, Bool.or_false, Bool.or_self, List.getElem?_cons_zero, List.getElem?_cons_succ, List.set_cons_zero, List.set_cons_succ, List.length_cons, List.length_nil, List.getD_cons_zero, List.getD_cons_succ, Nat.reduceAdd, Nat.reduceLT, Nat.zero_lt_succ, Nat.zero_add, ite_self, Bool.false_or, Bool.true_or, iL_len, Int.cast_ofNat_Int, Bool.and_true, Bool.true_and, bi_len_lst, bi_len_tup, bi_len_rl, bi_list_lst, bi_list_tup, bi_list_rl, bi_tuple_lst, bi_tuple_tup, bi_tuple_rl, bi_int_int, bi_int_b, at_two, int_if, at3_0, at3_1, at3_2, at2_0, at2_1, List.take_succ_cons, List.take_zero, List.drop_succ_cons, List.drop_zero, sum_ok, sl_lst, sl_tup, sl_rl, part_t, part_f, if_true, if_false, ite_true, ite_false, reduceIte, Nat.reduceLeDiff, Nat.reduceSub, eq_self, and_self, and_true, true_and, show r.length ≤ LIM by omega, sL_len, List.length_map, show r.length + 1 ≤ LIM by omega]
  rw [cp s hs _ _ _ ?h2]
  case h2 => exact fun x _ => ⟨_, rfl, rfl, by simp -implicitDefEqProofs only [evSs, evS, evE, evEs, evI, RS.of_ok, RS.of_exn, RS.ofL_ok, RS.ofL_exn, RS.then_next, RS.then_ret, RS.then_brk, RS.then_cnt, RS.then_exn, RS.ifB_t, RS.ifB_f, RS.caught_next, RS.caught_ret, RS.caught_exn, RS.caughtN_next, RS.caughtN_ret, RS.suiteN_next, RS.suiteN_ret, RS.suite_next, RS.suite_ret, pIsx, pIs, pIsN, lamR_enc_ok, lamR_enc_exn, Pf.toldTo, R.bind_ok, R.bind_exn, pBin, pCmp, pAdd, pSub, pNeg, pLt, pLe, pNot, pIx, pSeq, pInt, getE, getB, setOwR, Pf.putAt, Pf.popTo, Pf.scrTo, Pf.unpTo, pIsa, asgT, setAll, killAll, PX.isN, PX.isB, PXs.hasB, Bool.false_eq_true, Bool.or_false, Bool.or_self, List.getElem?_cons_zero, List.getElem?_cons_succ, List.set_cons_zero, List.set_cons_succ, List.length_cons, List.length_nil, List.getD_cons_zero, List.getD_cons_succ, Nat.reduceAdd, Nat.reduceLT, Nat.zero_lt_succ, Nat.zero_add, ite_self, Bool.false_or, Bool.true_or, iL_len, Int.cast_ofNat_Int, Bool.and_true, Bool.true_and, bi_len_lst, bi_len_tup, bi_len_rl, bi_list_lst, bi_list_tup, bi_list_rl, bi_tuple_lst, bi_tuple_tup, bi_tuple_rl, bi_int_int, bi_int_b, at_two, int_if, at3_0, at3_1, at3_2, at2_0, at2_1, List.take_succ_cons, List.take_zero, List.drop_succ_cons, List.drop_zero, sum_ok, sl_lst, sl_tup, sl_rl, part_t, part_f, if_true, if_false, ite_true, ite_false, reduceIte, Nat.reduceLeDiff, Nat.reduceSub, eq_self, and_self, and_true, true_and]⟩
  simp -implicitDefEqProofs only [evSs, evS, evE, evEs, evI, RS.of_ok, RS.of_exn, RS.ofL_ok, RS.ofL_exn, RS.then_next, RS.then_ret, RS.then_brk, RS.then_cnt, RS.then_exn, RS.ifB_t, RS.ifB_f, RS.caught_next, RS.caught_ret, RS.caught_exn, RS.caughtN_next, RS.caughtN_ret, RS.suiteN_next, RS.suiteN_ret, RS.suite_next, RS.suite_ret, pIsx, pIs, pIsN, lamR_enc_ok, lamR_enc_exn, Pf.toldTo, R.bind_ok, R.bind_exn, pBin, pCmp, pAdd, pSub, pNeg, pLt, pLe, pNot, pIx, pSeq, pInt, getE, getB, setOwR, Pf.putAt, Pf.popTo, Pf.scrTo, Pf.unpTo, pIsa, asgT, setAll, killAll, PX.isN, PX.isB, PXs.hasB, Bool.false_eq_true, Bool.or_false, Bool.or_self, List.getElem?_cons_zero, List.getElem?_cons_succ, List.set_cons_zero, List.set_cons_succ, List.length_cons, List.length_nil, List.getD_cons_zero, List.getD_cons_succ, Nat.reduceAdd, Nat.reduceLT, Nat.zero_lt_succ, Nat.zero_add, ite_self, Bool.false_or, Bool.true_or, iL_len, Int.cast_ofNat_Int, Bool.and_true, Bool.true_and, bi_len_lst, bi_len_tup, bi_len_rl, bi_list_lst, bi_list_tup, bi_list_rl, bi_tuple_lst, bi_tuple_tup, bi_tuple_rl, bi_int_int, bi_int_b, at_two, int_if, at3_0, at3_1, at3_2, at2_0, at2_1, List.take_succ_cons, List.take_zero, List.drop_succ_cons, List.drop_zero, sum_ok, sl_lst, sl_tup, sl_rl, part_t, part_f, if_true, if_false, ite_true, ite_false, reduceIte, Nat.reduceLeDiff, Nat.reduceSub, eq_self, and_self, and_true, true_and, show s.length ≤ LIM by omega, sL_len, List.length_map, List.length_append, show r.length + 1 + s.length ≤ LIM by omega]
  have e : sL (r.map numW) ++ [PV.str (st [124])] ++ sL (s.map numW) = sL (core r s) := by
    rw [sL_core, List.append_assoc]
    rfl
  rw [e]
  have cl : (sL (core r s)).length + 2 ≤ LIM := by
    rw [sL_len]
    unfold core
    simp
    omega
  by_cases h0 : b = 0
  · subst h0
    rw [wordsOf_0] at j
    simp -implicitDefEqProofs only [evSs, evS, evE, evEs, evI, RS.of_ok, RS.of_exn, RS.ofL_ok, RS.ofL_exn, RS.then_next, RS.then_ret, RS.then_brk, RS.then_cnt, RS.then_exn, RS.ifB_t, RS.ifB_f, RS.caught_next, RS.caught_ret, RS.caught_exn, RS.caughtN_next, RS.caughtN_ret, RS.suiteN_next, RS.suiteN_ret, RS.suite_next, RS.suite_ret, pIsx, pIs, pIsN, lamR_enc_ok, lamR_enc_exn, Pf.toldTo, R.bind_ok, R.bind_exn, pBin, pCmp, pAdd, pSub, pNeg, pLt, pLe, pNot, pIx, pSeq, pInt, getE, getB, setOwR, Pf.putAt, Pf.popTo, Pf.scrTo, Pf.unpTo, pIsa, asgT, setAll, killAll, PX.isN, PX.isB, PXs.hasB, Bool.false_eq_true, Bool.or_false, Bool.or_self, List.getElem?_cons_zero, List.getElem?_cons_succ, List.set_cons_zero, List.set_cons_succ, List.length_cons, List.length_nil, List.getD_cons_zero, List.getD_cons_succ, Nat.reduceAdd, Nat.reduceLT, Nat.zero_lt_succ, Nat.zero_add, ite_self, Bool.false_or, Bool.true_or, iL_len, Int.cast_ofNat_Int, Bool.and_true, Bool.true_and, bi_len_lst, bi_len_tup, bi_len_rl, bi_list_lst, bi_list_tup, bi_list_rl, bi_tuple_lst, bi_tuple_tup, bi_tuple_rl, bi_int_int, bi_int_b, at_two, int_if, at3_0, at3_1, at3_2, at2_0, at2_1, List.take_succ_cons, List.take_zero, List.drop_succ_cons, List.drop_zero, sum_ok, sl_lst, sl_tup, sl_rl, part_t, part_f, if_true, if_false, ite_true, ite_false, reduceIte, Nat.reduceLeDiff, Nat.reduceSub, eq_self, and_self, and_true, true_and, Int.lt_irrefl, decide_false, j]
  · have := w.b0
    rw [sL_words h0] at j
    simp -implicitDefEqProofs only [evSs, evS, evE, evEs, evI, RS.of_ok, RS.of_exn, RS.ofL_ok, RS.ofL_exn, RS.then_next, RS.then_ret, RS.then_brk, RS.then_cnt, RS.then_exn, RS.ifB_t, RS.ifB_f, RS.caught_next, RS.caught_ret, RS.caught_exn, RS.caughtN_next, RS.caughtN_ret, RS.suiteN_next, RS.suiteN_ret, RS.suite_next, RS.suite_ret, pIsx, pIs, pIsN, lamR_enc_ok, lamR_enc_exn, Pf.toldTo, R.bind_ok, R.bind_exn, pBin, pCmp, pAdd, pSub, pNeg, pLt, pLe, pNot, pIx, pSeq, pInt, getE, getB, setOwR, Pf.putAt, Pf.popTo, Pf.scrTo, Pf.unpTo, pIsa, asgT, setAll, killAll, PX.isN, PX.isB, PXs.hasB, Bool.false_eq_true, Bool.or_false, Bool.or_self, List.getElem?_cons_zero, List.getElem?_cons_succ, List.set_cons_zero, List.set_cons_succ, List.length_cons, List.length_nil, List.getD_cons_zero, List.getD_cons_succ, Nat.reduceAdd, Nat.reduceLT, Nat.zero_lt_succ, Nat.zero_add, ite_self, Bool.false_or, Bool.true_or, iL_len, Int.cast_ofNat_Int, Bool.and_true, Bool.true_and, bi_len_lst, bi_len_tup, bi_len_rl, bi_list_lst, bi_list_tup, bi_list_rl, bi_tuple_lst, bi_tuple_tup, bi_tuple_rl, bi_int_int, bi_int_b, at_two, int_if, at3_0, at3_1, at3_2, at2_0, at2_1, List.take_succ_cons, List.take_zero, List.drop_succ_cons, List.drop_zero, sum_ok, sl_lst, sl_tup, sl_rl, part_t, part_f, if_true, if_false, ite_true, ite_false, reduceIte, Nat.reduceLeDiff, Nat.reduceSub, eq_self, and_self, and_true, true_and, show 0 < b by omega, decide_true, fb, cl, j]
theorem compLX_all {α : Type} {el : Env → R PV} {asg : PV → Option Env} (inj : α → PV) (g : α → PV) : ∀ (xs : List α), (∀ x ∈ xs, ∃ ρ, asg (inj x) = some ρ ∧ el ρ = .ok (g x)) → compLX el asg (xs.map inj) = .ok (xs.map g)
  | [], _ => rfl
  | x :: xs, h => by
    obtain ⟨ρ, h1, h2⟩ := h x (List.mem_cons_self ..)
    have ih := compLX_all inj g xs fun y hy => h y (List.mem_cons_of_mem _ hy)
    show (match asg (inj x) with
      | none => R.bad
      | some ρ => (el ρ).bind fun y => (compLX el asg (xs.map inj)).bind fun ys => .ok (y :: ys)) = _
    rw [h1]
    show ((el ρ).bind fun y => (compLX el asg (xs.map inj)).bind fun ys => R.ok (y :: ys)) = _
    rw [h2, ih]
    rfl
theorem shown_cp {xs : List Int} (hx : Num4 xs) (el : Env → R PV) (asg : PV → Option Env) (h : ∀ x ∈ xs, ∃ ρ, asg (.int x) = some ρ ∧ el ρ = s_number_text [.int x]) : compLX el asg (iL xs) = .ok (sL (xs.map numW)) := by
  rw [← sL_map]
  refine compLX_all PV.int (fun x => .str (st (numW x))) xs fun x hm => ?_
  obtain ⟨ρ, h1, h3⟩ := h x hm
  exact ⟨ρ, h1, by rw [h3, number_text4 (hx x hm)]⟩
theorem shown_cx : ∀ {xs : List Int}, ¬ Num4 xs → ∀ (el : Env → R PV) (asg : PV → Option Env), (∀ x ∈ xs, ∃ ρ, asg (.int x) = some ρ ∧ el ρ = s_number_text [.int x]) → compLX el asg (iL xs) = .exn 6
  | [], hn, _, _, _ => absurd (fun x hx => nomatch hx) hn
  | x :: xs, hn, el, asg, h => by
    obtain ⟨ρ, h1, h2⟩ := h x (List.mem_cons_self ..)
    show (match asg (.int x) with
      | none => R.bad
      | some ρ => (el ρ).bind fun y => (compLX el asg (iL xs)).bind fun ys => .ok (y :: ys)) = _
    rw [h1]
    show ((el ρ).bind fun y => (compLX el asg (iL xs)).bind fun ys => R.ok (y :: ys)) = _
    by_cases hx : x.natAbs < G4
    · have ih := shown_cx (xs := xs) (fun q => hn fun y hy => by
        rcases List.mem_cons.mp hy with rfl | hy
        · exact hx
        · exact q y hy) el asg fun y hy => h y (List.mem_cons_of_mem _ hy)
      rw [h2, number_text4 hx, ih]
      rfl
    · rw [h2, number_big (Nat.le_of_not_lt hx)]
      rfl
theorem shown4 (w : Row4 b r s) (hr : Num4 r) (hs : Num4 s) : s_shown [rowV b r s] = .ok (.str (st (textOf b r s))) := by
  have hL : LIM = 1000000 := rfl
  have lr := w.lr
  have ls := w.ls
  obtain ⟨j, _⟩ := join4 w hr hs
  refine run_ret rfl ?_
  show evSs [s_number_text] [] false c_shown [.sh (rowV b r s), .no, .no, .no, .no, .no] = _
  simp -implicitDefEqProofs only [c_shown, lit_bar, lit_by, lit_sp, evSs, evS, evE, evEs, evI, RS.of_ok, RS.of_exn, RS.ofL_ok, RS.ofL_exn, RS.then_next, RS.then_ret, RS.then_brk, RS.then_cnt, RS.then_exn, RS.ifB_t, RS.ifB_f, RS.caught_next, RS.caught_ret, RS.caught_exn, RS.caughtN_next, RS.caughtN_ret, RS.suiteN_next, RS.suiteN_ret, RS.suite_next, RS.suite_ret, pIsx, pIs, pIsN, lamR_enc_ok, lamR_enc_exn, Pf.toldTo, R.bind_ok, R.bind_exn, pBin, pCmp, pAdd, pSub, pNeg, pLt, pLe, pNot, pIx, pSeq, pInt, getE, getB, setOwR, Pf.putAt, Pf.popTo, Pf.scrTo, Pf.unpTo, pIsa, asgT, setAll, killAll, PX.isN, PX.isB, PXs.hasB, Bool.false_eq_true, Bool.or_false, Bool.or_self, List.getElem?_cons_zero, List.getElem?_cons_succ, List.set_cons_zero, List.set_cons_succ, List.length_cons, List.length_nil, List.getD_cons_zero, List.getD_cons_succ, Nat.reduceAdd, Nat.reduceLT, Nat.zero_lt_succ, Nat.zero_add, ite_self, Bool.false_or, Bool.true_or, iL_len, Int.cast_ofNat_Int, Bool.and_true, Bool.true_and, bi_len_lst, bi_len_tup, bi_len_rl, bi_list_lst, bi_list_tup, bi_list_rl, bi_tuple_lst, bi_tuple_tup, bi_tuple_rl, bi_int_int, bi_int_b, at_two, int_if, at3_0, at3_1, at3_2, at2_0, at2_1, List.take_succ_cons, List.take_zero, List.drop_succ_cons, List.drop_zero, sum_ok, sl_lst, sl_tup, sl_rl, part_t, part_f, if_true, if_false, ite_true, ite_false, reduceIte, Nat.reduceLeDiff, Nat.reduceSub, eq_self, and_self, and_true, true_and, rowV]
  rw [shown_cp hr _ _ ?h1]
  case h1 => exact fun x _ => ⟨_, rfl, by simp -implicitDefEqProofs only [evSs, evS, evE, evEs, evI, RS.of_ok, RS.of_exn, RS.ofL_ok, RS.ofL_exn, RS.then_next, RS.then_ret, RS.then_brk, RS.then_cnt, RS.then_exn, RS.ifB_t, RS.ifB_f, RS.caught_next, RS.caught_ret, RS.caught_exn, RS.caughtN_next, RS.caughtN_ret, RS.suiteN_next, RS.suiteN_ret, RS.suite_next, RS.suite_ret, pIsx, pIs, pIsN, lamR_enc_ok, lamR_enc_exn, Pf.toldTo, R.bind_ok, R.bind_exn, pBin, pCmp, pAdd, pSub, pNeg, pLt, pLe, pNot, pIx, pSeq, pInt, getE, getB, setOwR, Pf.putAt, Pf.popTo, Pf.scrTo, Pf.unpTo, pIsa, asgT, setAll, killAll, PX.isN, PX.isB, PXs.hasB, Bool.false_eq_true, Bool.or_false, Bool.or_self, List.getElem?_cons_zero, List.getElem?_cons_succ, List.set_cons_zero, List.set_cons_succ, List.length_cons, List.length_nil, List.getD_cons_zero, List.getD_cons_succ, Nat.reduceAdd, Nat.reduceLT, Nat.zero_lt_succ, Nat.zero_add, ite_self, Bool.false_or, Bool.true_or, iL_len, Int.cast_ofNat_Int, Bool.and_true, Bool.true_and, bi_len_lst, bi_len_tup, bi_len_rl, bi_list_lst, bi_list_tup, bi_list_rl, bi_tuple_lst, bi_tuple_tup, bi_tuple_rl, bi_int_int, bi_int_b, at_two, int_if, at3_0, at3_1, at3_2, at2_0, at2_1, List.take_succ_cons, List.take_zero, List.drop_succ_cons, List.drop_zero, sum_ok, sl_lst, sl_tup, sl_rl, part_t, part_f, if_true, if_false, ite_true, ite_false, reduceIte, Nat.reduceLeDiff, Nat.reduceSub, eq_self, and_self, and_true, true_and]⟩
  simp -implicitDefEqProofs only [evSs, evS, evE, evEs, evI, RS.of_ok, RS.of_exn, RS.ofL_ok, RS.ofL_exn, RS.then_next, RS.then_ret, RS.then_brk, RS.then_cnt, RS.then_exn, RS.ifB_t, RS.ifB_f, RS.caught_next, RS.caught_ret, RS.caught_exn, RS.caughtN_next, RS.caughtN_ret, RS.suiteN_next, RS.suiteN_ret, RS.suite_next, RS.suite_ret, pIsx, pIs, pIsN, lamR_enc_ok, lamR_enc_exn, Pf.toldTo, R.bind_ok, R.bind_exn, pBin, pCmp, pAdd, pSub, pNeg, pLt, pLe, pNot, pIx, pSeq, pInt, getE, getB, setOwR, Pf.putAt, Pf.popTo, Pf.scrTo, Pf.unpTo, pIsa, asgT, setAll, killAll, PX.isN, PX.isB, PXs.hasB, Bool.false_eq_true, Bool.or_false, Bool.or_self, List.getElem?_cons_zero, List.getElem?_cons_succ, List.set_cons_zero, List.set_cons_succ, List.length_cons, List.length_nil, List.getD_cons_zero, List.getD_cons_succ, Nat.reduceAdd, Nat.reduceLT, Nat.zero_lt_succ, Nat.zero_add, ite_self, Bool.false_or, Bool.true_or, iL_len, Int.cast_ofNat_Int, Bool.and_true, Bool.true_and, bi_len_lst, bi_len_tup, bi_len_rl, bi_list_lst, bi_list_tup, bi_list_rl, bi_tuple_lst, bi_tuple_tup, bi_tuple_rl, bi_int_int, bi_int_b, at_two, int_if, at3_0, at3_1, at3_2, at2_0, at2_1, List.take_succ_cons, List.take_zero, List.drop_succ_cons, List.drop_zero, sum_ok, sl_lst, sl_tup, sl_rl, part_t, part_f, if_true, if_false, ite_true, ite_false, reduceIte, Nat.reduceLeDiff, Nat.reduceSub, eq_self, and_self, and_true, true_and, show r.length ≤ LIM by omega, sL_len, List.length_map, show r.length + 1 ≤ LIM by omega]
  rw [shown_cp hs _ _ ?h2]
  case h2 => exact fun x _ => ⟨_, rfl, by simp -implicitDefEqProofs only [evSs, evS, evE, evEs, evI, RS.of_ok, RS.of_exn, RS.ofL_ok, RS.ofL_exn, RS.then_next, RS.then_ret, RS.then_brk, RS.then_cnt, RS.then_exn, RS.ifB_t, RS.ifB_f, RS.caught_next, RS.caught_ret, RS.caught_exn, RS.caughtN_next, RS.caughtN_ret, RS.suiteN_next, RS.suiteN_ret, RS.suite_next, RS.suite_ret, pIsx, pIs, pIsN, lamR_enc_ok, lamR_enc_exn, Pf.toldTo, R.bind_ok, R.bind_exn, pBin, pCmp, pAdd, pSub, pNeg, pLt, pLe, pNot, pIx, pSeq, pInt, getE, getB, setOwR, Pf.putAt, Pf.popTo, Pf.scrTo, Pf.unpTo, pIsa, asgT, setAll, killAll, PX.isN, PX.isB, PXs.hasB, Bool.false_eq_true, Bool.or_false, Bool.or_self, List.getElem?_cons_zero, List.getElem?_cons_succ, List.set_cons_zero, List.set_cons_succ, List.length_cons, List.length_nil, List.getD_cons_zero, List.getD_cons_succ, Nat.reduceAdd, Nat.reduceLT, Nat.zero_lt_succ, Nat.zero_add, ite_self, Bool.false_or, Bool.true_or, iL_len, Int.cast_ofNat_Int, Bool.and_true, Bool.true_and, bi_len_lst, bi_len_tup, bi_len_rl, bi_list_lst, bi_list_tup, bi_list_rl, bi_tuple_lst, bi_tuple_tup, bi_tuple_rl, bi_int_int, bi_int_b, at_two, int_if, at3_0, at3_1, at3_2, at2_0, at2_1, List.take_succ_cons, List.take_zero, List.drop_succ_cons, List.drop_zero, sum_ok, sl_lst, sl_tup, sl_rl, part_t, part_f, if_true, if_false, ite_true, ite_false, reduceIte, Nat.reduceLeDiff, Nat.reduceSub, eq_self, and_self, and_true, true_and]⟩
  simp -implicitDefEqProofs only [evSs, evS, evE, evEs, evI, RS.of_ok, RS.of_exn, RS.ofL_ok, RS.ofL_exn, RS.then_next, RS.then_ret, RS.then_brk, RS.then_cnt, RS.then_exn, RS.ifB_t, RS.ifB_f, RS.caught_next, RS.caught_ret, RS.caught_exn, RS.caughtN_next, RS.caughtN_ret, RS.suiteN_next, RS.suiteN_ret, RS.suite_next, RS.suite_ret, pIsx, pIs, pIsN, lamR_enc_ok, lamR_enc_exn, Pf.toldTo, R.bind_ok, R.bind_exn, pBin, pCmp, pAdd, pSub, pNeg, pLt, pLe, pNot, pIx, pSeq, pInt, getE, getB, setOwR, Pf.putAt, Pf.popTo, Pf.scrTo, Pf.unpTo, pIsa, asgT, setAll, killAll, PX.isN, PX.isB, PXs.hasB, Bool.false_eq_true, Bool.or_false, Bool.or_self, List.getElem?_cons_zero, List.getElem?_cons_succ, List.set_cons_zero, List.set_cons_succ, List.length_cons, List.length_nil, List.getD_cons_zero, List.getD_cons_succ, Nat.reduceAdd, Nat.reduceLT, Nat.zero_lt_succ, Nat.zero_add, ite_self, Bool.false_or, Bool.true_or, iL_len, Int.cast_ofNat_Int, Bool.and_true, Bool.true_and, bi_len_lst, bi_len_tup, bi_len_rl, bi_list_lst, bi_list_tup, bi_list_rl, bi_tuple_lst, bi_tuple_tup, bi_tuple_rl, bi_int_int, bi_int_b, at_two, int_if, at3_0, at3_1, at3_2, at2_0, at2_1, List.take_succ_cons, List.take_zero, List.drop_succ_cons, List.drop_zero, sum_ok, sl_lst, sl_tup, sl_rl, part_t, part_f, if_true, if_false, ite_true, ite_false, reduceIte, Nat.reduceLeDiff, Nat.reduceSub, eq_self, and_self, and_true, true_and, show s.length ≤ LIM by omega, sL_len, List.length_map, List.length_append, show r.length + 1 + s.length ≤ LIM by omega]
  have e : sL (r.map numW) ++ [PV.str (st [124])] ++ sL (s.map numW) = sL (core r s) := by
    rw [sL_core, List.append_assoc]
    rfl
  rw [e]
  have cl : (sL (core r s)).length + 2 ≤ LIM := by
    rw [sL_len]
    unfold core
    simp
    omega
  by_cases h0 : b = 0
  · subst h0
    rw [wordsOf_0] at j
    simp -implicitDefEqProofs only [evSs, evS, evE, evEs, evI, RS.of_ok, RS.of_exn, RS.ofL_ok, RS.ofL_exn, RS.then_next, RS.then_ret, RS.then_brk, RS.then_cnt, RS.then_exn, RS.ifB_t, RS.ifB_f, RS.caught_next, RS.caught_ret, RS.caught_exn, RS.caughtN_next, RS.caughtN_ret, RS.suiteN_next, RS.suiteN_ret, RS.suite_next, RS.suite_ret, pIsx, pIs, pIsN, lamR_enc_ok, lamR_enc_exn, Pf.toldTo, R.bind_ok, R.bind_exn, pBin, pCmp, pAdd, pSub, pNeg, pLt, pLe, pNot, pIx, pSeq, pInt, getE, getB, setOwR, Pf.putAt, Pf.popTo, Pf.scrTo, Pf.unpTo, pIsa, asgT, setAll, killAll, PX.isN, PX.isB, PXs.hasB, Bool.false_eq_true, Bool.or_false, Bool.or_self, List.getElem?_cons_zero, List.getElem?_cons_succ, List.set_cons_zero, List.set_cons_succ, List.length_cons, List.length_nil, List.getD_cons_zero, List.getD_cons_succ, Nat.reduceAdd, Nat.reduceLT, Nat.zero_lt_succ, Nat.zero_add, ite_self, Bool.false_or, Bool.true_or, iL_len, Int.cast_ofNat_Int, Bool.and_true, Bool.true_and, bi_len_lst, bi_len_tup, bi_len_rl, bi_list_lst, bi_list_tup, bi_list_rl, bi_tuple_lst, bi_tuple_tup, bi_tuple_rl, bi_int_int, bi_int_b, at_two, int_if, at3_0, at3_1, at3_2, at2_0, at2_1, List.take_succ_cons, List.take_zero, List.drop_succ_cons, List.drop_zero, sum_ok, sl_lst, sl_tup, sl_rl, part_t, part_f, if_true, if_false, ite_true, ite_false, reduceIte, Nat.reduceLeDiff, Nat.reduceSub, eq_self, and_self, and_true, true_and, ne_int, decide_true, Bool.not_true, j]
  · rw [sL_words h0] at j
    simp -implicitDefEqProofs only [evSs, evS, evE, evEs, evI, RS.of_ok, RS.of_exn, RS.ofL_ok, RS.ofL_exn, RS.then_next, RS.then_ret, RS.then_brk, RS.then_cnt, RS.then_exn, RS.ifB_t, RS.ifB_f, RS.caught_next, RS.caught_ret, RS.caught_exn, RS.caughtN_next, RS.caughtN_ret, RS.suiteN_next, RS.suiteN_ret, RS.suite_next, RS.suite_ret, pIsx, pIs, pIsN, lamR_enc_ok, lamR_enc_exn, Pf.toldTo, R.bind_ok, R.bind_exn, pBin, pCmp, pAdd, pSub, pNeg, pLt, pLe, pNot, pIx, pSeq, pInt, getE, getB, setOwR, Pf.putAt, Pf.popTo, Pf.scrTo, Pf.unpTo, pIsa, asgT, setAll, killAll, PX.isN, PX.isB, PXs.hasB, Bool.false_eq_true, Bool.or_false, Bool.or_self, List.getElem?_cons_zero, List.getElem?_cons_succ, List.set_cons_zero, List.set_cons_succ, List.length_cons, List.length_nil, List.getD_cons_zero, List.getD_cons_succ, Nat.reduceAdd, Nat.reduceLT, Nat.zero_lt_succ, Nat.zero_add, ite_self, Bool.false_or, Bool.true_or, iL_len, Int.cast_ofNat_Int, Bool.and_true, Bool.true_and, bi_len_lst, bi_len_tup, bi_len_rl, bi_list_lst, bi_list_tup, bi_list_rl, bi_tuple_lst, bi_tuple_tup, bi_tuple_rl, bi_int_int, bi_int_b, at_two, int_if, at3_0, at3_1, at3_2, at2_0, at2_1, List.take_succ_cons, List.take_zero, List.drop_succ_cons, List.drop_zero, sum_ok, sl_lst, sl_tup, sl_rl, part_t, part_f, if_true, if_false, ite_true, ite_false, reduceIte, Nat.reduceLeDiff, Nat.reduceSub, eq_self, and_self, and_true, true_and, ne_int, h0, decide_false, Bool.not_false, str_dig (Nat.lt_trans (by4 w.b0 w.b1) G4_dig), cl, j]
theorem shown_exn (w : Row4 b r s) (h : ¬ (Num4 r ∧ Num4 s)) : s_shown [rowV b r s] = .exn 6 := by
  have hL : LIM = 1000000 := rfl
  have lr := w.lr
  have ls := w.ls
  refine run_exn (ρ := [.sh (rowV b r s), .no, .sh (.int b), .sh (.tup (iL r)), .sh (.tup (iL s)), .no]) rfl ?_
  show evSs [s_number_text] [] false c_shown [.sh (rowV b r s), .no, .no, .no, .no, .no] = _
  simp -implicitDefEqProofs only [c_shown, lit_bar, lit_by, lit_sp, evSs, evS, evE, evEs, evI, RS.of_ok, RS.of_exn, RS.ofL_ok, RS.ofL_exn, RS.then_next, RS.then_ret, RS.then_brk, RS.then_cnt, RS.then_exn, RS.ifB_t, RS.ifB_f, RS.caught_next, RS.caught_ret, RS.caught_exn, RS.caughtN_next, RS.caughtN_ret, RS.suiteN_next, RS.suiteN_ret, RS.suite_next, RS.suite_ret, pIsx, pIs, pIsN, lamR_enc_ok, lamR_enc_exn, Pf.toldTo, R.bind_ok, R.bind_exn, pBin, pCmp, pAdd, pSub, pNeg, pLt, pLe, pNot, pIx, pSeq, pInt, getE, getB, setOwR, Pf.putAt, Pf.popTo, Pf.scrTo, Pf.unpTo, pIsa, asgT, setAll, killAll, PX.isN, PX.isB, PXs.hasB, Bool.false_eq_true, Bool.or_false, Bool.or_self, List.getElem?_cons_zero, List.getElem?_cons_succ, List.set_cons_zero, List.set_cons_succ, List.length_cons, List.length_nil, List.getD_cons_zero, List.getD_cons_succ, Nat.reduceAdd, Nat.reduceLT, Nat.zero_lt_succ, Nat.zero_add, ite_self, Bool.false_or, Bool.true_or, iL_len, Int.cast_ofNat_Int, Bool.and_true, Bool.true_and, bi_len_lst, bi_len_tup, bi_len_rl, bi_list_lst, bi_list_tup, bi_list_rl, bi_tuple_lst, bi_tuple_tup, bi_tuple_rl, bi_int_int, bi_int_b, at_two, int_if, at3_0, at3_1, at3_2, at2_0, at2_1, List.take_succ_cons, List.take_zero, List.drop_succ_cons, List.drop_zero, sum_ok, sl_lst, sl_tup, sl_rl, part_t, part_f, if_true, if_false, ite_true, ite_false, reduceIte, Nat.reduceLeDiff, Nat.reduceSub, eq_self, and_self, and_true, true_and, rowV]
  by_cases hr : Num4 r
  · rw [shown_cp hr _ _ ?h1]
    case h1 => exact fun x _ => ⟨_, rfl, by simp -implicitDefEqProofs only [evSs, evS, evE, evEs, evI, RS.of_ok, RS.of_exn, RS.ofL_ok, RS.ofL_exn, RS.then_next, RS.then_ret, RS.then_brk, RS.then_cnt, RS.then_exn, RS.ifB_t, RS.ifB_f, RS.caught_next, RS.caught_ret, RS.caught_exn, RS.caughtN_next, RS.caughtN_ret, RS.suiteN_next, RS.suiteN_ret, RS.suite_next, RS.suite_ret, pIsx, pIs, pIsN, lamR_enc_ok, lamR_enc_exn, Pf.toldTo, R.bind_ok, R.bind_exn, pBin, pCmp, pAdd, pSub, pNeg, pLt, pLe, pNot, pIx, pSeq, pInt, getE, getB, setOwR, Pf.putAt, Pf.popTo, Pf.scrTo, Pf.unpTo, pIsa, asgT, setAll, killAll, PX.isN, PX.isB, PXs.hasB, Bool.false_eq_true, Bool.or_false, Bool.or_self, List.getElem?_cons_zero, List.getElem?_cons_succ, List.set_cons_zero, List.set_cons_succ, List.length_cons, List.length_nil, List.getD_cons_zero, List.getD_cons_succ, Nat.reduceAdd, Nat.reduceLT, Nat.zero_lt_succ, Nat.zero_add, ite_self, Bool.false_or, Bool.true_or, iL_len, Int.cast_ofNat_Int, Bool.and_true, Bool.true_and, bi_len_lst, bi_len_tup, bi_len_rl, bi_list_lst, bi_list_tup, bi_list_rl, bi_tuple_lst, bi_tuple_tup, bi_tuple_rl, bi_int_int, bi_int_b, at_two, int_if, at3_0, at3_1, at3_2, at2_0, at2_1, List.take_succ_cons, List.take_zero, List.drop_succ_cons, List.drop_zero, sum_ok, sl_lst, sl_tup, sl_rl, part_t, part_f, if_true, if_false, ite_true, ite_false, reduceIte, Nat.reduceLeDiff, Nat.reduceSub, eq_self, and_self, and_true, true_and]⟩
    simp -implicitDefEqProofs only [evSs, evS, evE, evEs, evI, RS.of_ok, RS.of_exn, RS.ofL_ok, RS.ofL_exn, RS.then_next, RS.then_ret, RS.then_brk, RS.then_cnt, RS.then_exn, RS.ifB_t, RS.ifB_f, RS.caught_next, RS.caught_ret, RS.caught_exn, RS.caughtN_next, RS.caughtN_ret, RS.suiteN_next, RS.suiteN_ret, RS.suite_next, RS.suite_ret, pIsx, pIs, pIsN, lamR_enc_ok, lamR_enc_exn, Pf.toldTo, R.bind_ok, R.bind_exn, pBin, pCmp, pAdd, pSub, pNeg, pLt, pLe, pNot, pIx, pSeq, pInt, getE, getB, setOwR, Pf.putAt, Pf.popTo, Pf.scrTo, Pf.unpTo, pIsa, asgT, setAll, killAll, PX.isN, PX.isB, PXs.hasB, Bool.false_eq_true, Bool.or_false, Bool.or_self, List.getElem?_cons_zero, List.getElem?_cons_succ, List.set_cons_zero, List.set_cons_succ, List.length_cons, List.length_nil, List.getD_cons_zero, List.getD_cons_succ, Nat.reduceAdd, Nat.reduceLT, Nat.zero_lt_succ, Nat.zero_add, ite_self, Bool.false_or, Bool.true_or, iL_len, Int.cast_ofNat_Int, Bool.and_true, Bool.true_and, bi_len_lst, bi_len_tup, bi_len_rl, bi_list_lst, bi_list_tup, bi_list_rl, bi_tuple_lst, bi_tuple_tup, bi_tuple_rl, bi_int_int, bi_int_b, at_two, int_if, at3_0, at3_1, at3_2, at2_0, at2_1, List.take_succ_cons, List.take_zero, List.drop_succ_cons, List.drop_zero, sum_ok, sl_lst, sl_tup, sl_rl, part_t, part_f, if_true, if_false, ite_true, ite_false, reduceIte, Nat.reduceLeDiff, Nat.reduceSub, eq_self, and_self, and_true, true_and, show r.length ≤ LIM by omega, sL_len, List.length_map, show r.length + 1 ≤ LIM by omega]
    rw [shown_cx (fun q => h ⟨hr, q⟩) _ _ ?h2]
    case h2 => exact fun x _ => ⟨_, rfl, by simp -implicitDefEqProofs only [evSs, evS, evE, evEs, evI, RS.of_ok, RS.of_exn, RS.ofL_ok, RS.ofL_exn, RS.then_next, RS.then_ret, RS.then_brk, RS.then_cnt, RS.then_exn, RS.ifB_t, RS.ifB_f, RS.caught_next, RS.caught_ret, RS.caught_exn, RS.caughtN_next, RS.caughtN_ret, RS.suiteN_next, RS.suiteN_ret, RS.suite_next, RS.suite_ret, pIsx, pIs, pIsN, lamR_enc_ok, lamR_enc_exn, Pf.toldTo, R.bind_ok, R.bind_exn, pBin, pCmp, pAdd, pSub, pNeg, pLt, pLe, pNot, pIx, pSeq, pInt, getE, getB, setOwR, Pf.putAt, Pf.popTo, Pf.scrTo, Pf.unpTo, pIsa, asgT, setAll, killAll, PX.isN, PX.isB, PXs.hasB, Bool.false_eq_true, Bool.or_false, Bool.or_self, List.getElem?_cons_zero, List.getElem?_cons_succ, List.set_cons_zero, List.set_cons_succ, List.length_cons, List.length_nil, List.getD_cons_zero, List.getD_cons_succ, Nat.reduceAdd, Nat.reduceLT, Nat.zero_lt_succ, Nat.zero_add, ite_self, Bool.false_or, Bool.true_or, iL_len, Int.cast_ofNat_Int, Bool.and_true, Bool.true_and, bi_len_lst, bi_len_tup, bi_len_rl, bi_list_lst, bi_list_tup, bi_list_rl, bi_tuple_lst, bi_tuple_tup, bi_tuple_rl, bi_int_int, bi_int_b, at_two, int_if, at3_0, at3_1, at3_2, at2_0, at2_1, List.take_succ_cons, List.take_zero, List.drop_succ_cons, List.drop_zero, sum_ok, sl_lst, sl_tup, sl_rl, part_t, part_f, if_true, if_false, ite_true, ite_false, reduceIte, Nat.reduceLeDiff, Nat.reduceSub, eq_self, and_self, and_true, true_and]⟩
    simp -implicitDefEqProofs only [evSs, evS, evE, evEs, evI, RS.of_ok, RS.of_exn, RS.ofL_ok, RS.ofL_exn, RS.then_next, RS.then_ret, RS.then_brk, RS.then_cnt, RS.then_exn, RS.ifB_t, RS.ifB_f, RS.caught_next, RS.caught_ret, RS.caught_exn, RS.caughtN_next, RS.caughtN_ret, RS.suiteN_next, RS.suiteN_ret, RS.suite_next, RS.suite_ret, pIsx, pIs, pIsN, lamR_enc_ok, lamR_enc_exn, Pf.toldTo, R.bind_ok, R.bind_exn, pBin, pCmp, pAdd, pSub, pNeg, pLt, pLe, pNot, pIx, pSeq, pInt, getE, getB, setOwR, Pf.putAt, Pf.popTo, Pf.scrTo, Pf.unpTo, pIsa, asgT, setAll, killAll, PX.isN, PX.isB, PXs.hasB, Bool.false_eq_true, Bool.or_false, Bool.or_self, List.getElem?_cons_zero, List.getElem?_cons_succ, List.set_cons_zero, List.set_cons_succ, List.length_cons, List.length_nil, List.getD_cons_zero, List.getD_cons_succ, Nat.reduceAdd, Nat.reduceLT, Nat.zero_lt_succ, Nat.zero_add, ite_self, Bool.false_or, Bool.true_or, iL_len, Int.cast_ofNat_Int, Bool.and_true, Bool.true_and, bi_len_lst, bi_len_tup, bi_len_rl, bi_list_lst, bi_list_tup, bi_list_rl, bi_tuple_lst, bi_tuple_tup, bi_tuple_rl, bi_int_int, bi_int_b, at_two, int_if, at3_0, at3_1, at3_2, at2_0, at2_1, List.take_succ_cons, List.take_zero, List.drop_succ_cons, List.drop_zero, sum_ok, sl_lst, sl_tup, sl_rl, part_t, part_f, if_true, if_false, ite_true, ite_false, reduceIte, Nat.reduceLeDiff, Nat.reduceSub, eq_self, and_self, and_true, true_and, show s.length ≤ LIM by omega]
  · rw [shown_cx hr _ _ ?h1]
    case h1 => exact fun x _ => ⟨_, rfl, by simp -implicitDefEqProofs only [evSs, evS, evE, evEs, evI, RS.of_ok, RS.of_exn, RS.ofL_ok, RS.ofL_exn, RS.then_next, RS.then_ret, RS.then_brk, RS.then_cnt, RS.then_exn, RS.ifB_t, RS.ifB_f, RS.caught_next, RS.caught_ret, RS.caught_exn, RS.caughtN_next, RS.caughtN_ret, RS.suiteN_next, RS.suiteN_ret, RS.suite_next, RS.suite_ret, pIsx, pIs, pIsN, lamR_enc_ok, lamR_enc_exn, Pf.toldTo, R.bind_ok, R.bind_exn, pBin, pCmp, pAdd, pSub, pNeg, pLt, pLe, pNot, pIx, pSeq, pInt, getE, getB, setOwR, Pf.putAt, Pf.popTo, Pf.scrTo, Pf.unpTo, pIsa, asgT, setAll, killAll, PX.isN, PX.isB, PXs.hasB, Bool.false_eq_true, Bool.or_false, Bool.or_self, List.getElem?_cons_zero, List.getElem?_cons_succ, List.set_cons_zero, List.set_cons_succ, List.length_cons, List.length_nil, List.getD_cons_zero, List.getD_cons_succ, Nat.reduceAdd, Nat.reduceLT, Nat.zero_lt_succ, Nat.zero_add, ite_self, Bool.false_or, Bool.true_or, iL_len, Int.cast_ofNat_Int, Bool.and_true, Bool.true_and, bi_len_lst, bi_len_tup, bi_len_rl, bi_list_lst, bi_list_tup, bi_list_rl, bi_tuple_lst, bi_tuple_tup, bi_tuple_rl, bi_int_int, bi_int_b, at_two, int_if, at3_0, at3_1, at3_2, at2_0, at2_1, List.take_succ_cons, List.take_zero, List.drop_succ_cons, List.drop_zero, sum_ok, sl_lst, sl_tup, sl_rl, part_t, part_f, if_true, if_false, ite_true, ite_false, reduceIte, Nat.reduceLeDiff, Nat.reduceSub, eq_self, and_self, and_true, true_and]⟩
    simp -implicitDefEqProofs only [evSs, evS, evE, evEs, evI, RS.of_ok, RS.of_exn, RS.ofL_ok, RS.ofL_exn, RS.then_next, RS.then_ret, RS.then_brk, RS.then_cnt, RS.then_exn, RS.ifB_t, RS.ifB_f, RS.caught_next, RS.caught_ret, RS.caught_exn, RS.caughtN_next, RS.caughtN_ret, RS.suiteN_next, RS.suiteN_ret, RS.suite_next, RS.suite_ret, pIsx, pIs, pIsN, lamR_enc_ok, lamR_enc_exn, Pf.toldTo, R.bind_ok, R.bind_exn, pBin, pCmp, pAdd, pSub, pNeg, pLt, pLe, pNot, pIx, pSeq, pInt, getE, getB, setOwR, Pf.putAt, Pf.popTo, Pf.scrTo, Pf.unpTo, pIsa, asgT, setAll, killAll, PX.isN, PX.isB, PXs.hasB, Bool.false_eq_true, Bool.or_false, Bool.or_self, List.getElem?_cons_zero, List.getElem?_cons_succ, List.set_cons_zero, List.set_cons_succ, List.length_cons, List.length_nil, List.getD_cons_zero, List.getD_cons_succ, Nat.reduceAdd, Nat.reduceLT, Nat.zero_lt_succ, Nat.zero_add, ite_self, Bool.false_or, Bool.true_or, iL_len, Int.cast_ofNat_Int, Bool.and_true, Bool.true_and, bi_len_lst, bi_len_tup, bi_len_rl, bi_list_lst, bi_list_tup, bi_list_rl, bi_tuple_lst, bi_tuple_tup, bi_tuple_rl, bi_int_int, bi_int_b, at_two, int_if, at3_0, at3_1, at3_2, at2_0, at2_1, List.take_succ_cons, List.take_zero, List.drop_succ_cons, List.drop_zero, sum_ok, sl_lst, sl_tup, sl_rl, part_t, part_f, if_true, if_false, ite_true, ite_false, reduceIte, Nat.reduceLeDiff, Nat.reduceSub, eq_self, and_self, and_true, true_and, show r.length ≤ LIM by omega]
end
theorem dat_row (b : Int) (r s : List Int) : dat 8 (rowV b r s) = true := by
  show ([PV.int b, .tup (iL r), .tup (iL s)].all (dat 7)) = true
  rw [List.all_cons, List.all_cons, List.all_cons, dat_tupI 6, dat_tupI 6]
  rfl
theorem ne_row (b : Int) (r s r' s' : List Int) : pNe (rowV b r s) (rowV b r' s') = .ok (.bl (!(decide (r = r') && decide (s = s')))) := by
  unfold pNe
  rw [dat_row, dat_row]
  show R.ok (PV.bl (!pyEqs [.int b, .tup (iL r), .tup (iL s)] [.int b, .tup (iL r'), .tup (iL s')])) = _
  have e : pyEqs [.int b, .tup (iL r), .tup (iL s)] [.int b, .tup (iL r'), .tup (iL s')] = (b == b && (pyEqs (iL r) (iL r') && (pyEqs (iL s) (iL s') && true))) := rfl
  rw [e, pyEqs_iL, pyEqs_iL]
  simp
theorem eq_row (b : Int) (r s r' s' : List Int) : pEq (rowV b r s) (rowV b r' s') = .ok (.bl (decide (r = r') && decide (s = s'))) := by
  unfold pEq
  rw [dat_row, dat_row]
  show R.ok (PV.bl (pyEqs [.int b, .tup (iL r), .tup (iL s)] [.int b, .tup (iL r'), .tup (iL s')])) = _
  have e : pyEqs [.int b, .tup (iL r), .tup (iL s)] [.int b, .tup (iL r'), .tup (iL s')] = (b == b && (pyEqs (iL r) (iL r') && (pyEqs (iL s) (iL s') && true))) := rfl
  rw [e, pyEqs_iL, pyEqs_iL]
  simp
theorem l_row_ok (c : Int) (m : Nat) (hm : m ≤ 500) : ∃ b r s, s_l_row [.int c, .int (m : Int)] = .ok (rowV b r s) ∧ Rw b m r s ∧ b ∈ BYS ∧ ∀ x ∈ s, gd b x := by
  obtain ⟨v1, e1, v10, v11⟩ := l_mix_ok c 1 (by decide) (by decide)
  obtain ⟨v2, e2, v20, v21⟩ := l_mix_ok c 2 (by decide) (by decide)
  obtain ⟨v3, e3, v30, v31⟩ := l_mix_ok c 3 (by decide) (by decide)
  obtain ⟨b, eb, hB⟩ := l_by_ok3 v1
  obtain ⟨b0, b1, bn⟩ := BYS_ok b hB
  have h1 := Int.emod_nonneg (v1 / 10) (b := (m : Int) + 1) (by omega)
  have h2 := Int.emod_lt_of_pos (v1 / 10) (b := (m : Int) + 1) (by omega)
  obtain ⟨r, er, lr, gr⟩ := l_numbers_ok (b := b) (m := v1 / 10 % ((m : Int) + 1)) b0 v20 v21 (by omega) (by omega)
  obtain ⟨s, es, ls, gs⟩ := l_numbers_ok (b := b) (m := v1 / 10 % ((m : Int) + 1)) b0 v30 v31 (by omega) (by omega)
  refine ⟨b, r, s, run_ret rfl ?_, ⟨b0, b1, bn, by omega, by omega, gr, fun x hx => (gs x hx).sd⟩, hB, gs⟩
  show evSs [s_l_mix, s_l_by, s_l_numbers] [] false c_l_row [.sh (.int c), .sh (.int (m : Int)), .no, .no, .no, .no] = _
  simp -implicitDefEqProofs only [c_l_row, evSs, evS, evE, evEs, evI, RS.of_ok, RS.of_exn, RS.ofL_ok, RS.ofL_exn, RS.then_next, RS.then_ret, RS.then_brk, RS.then_cnt, RS.then_exn, RS.ifB_t, RS.ifB_f, RS.caught_next, RS.caught_ret, RS.caught_exn, RS.caughtN_next, RS.caughtN_ret, RS.suiteN_next, RS.suiteN_ret, RS.suite_next, RS.suite_ret, pIsx, pIs, pIsN, lamR_enc_ok, lamR_enc_exn, Pf.toldTo, R.bind_ok, R.bind_exn, pBin, pCmp, pAdd, pSub, pNeg, pLt, pLe, pNot, pIx, pSeq, pInt, getE, getB, setOwR, Pf.putAt, Pf.popTo, Pf.scrTo, Pf.unpTo, pIsa, asgT, setAll, killAll, PX.isN, PX.isB, PXs.hasB, Bool.false_eq_true, Bool.or_false, Bool.or_self, List.getElem?_cons_zero, List.getElem?_cons_succ, List.set_cons_zero, List.set_cons_succ, List.length_cons, List.length_nil, List.getD_cons_zero, List.getD_cons_succ, Nat.reduceAdd, Nat.reduceLT, Nat.zero_lt_succ, Nat.zero_add, ite_self, Bool.false_or, Bool.true_or, iL_len, Int.cast_ofNat_Int, Bool.and_true, Bool.true_and, bi_len_lst, bi_len_tup, bi_len_rl, bi_list_lst, bi_list_tup, bi_list_rl, bi_tuple_lst, bi_tuple_tup, bi_tuple_rl, bi_int_int, bi_int_b, at_two, int_if, at3_0, at3_1, at3_2, at2_0, at2_1, List.take_succ_cons, List.take_zero, List.drop_succ_cons, List.drop_zero, sum_ok, sl_lst, sl_tup, sl_rl, part_t, part_f, if_true, if_false, ite_true, ite_false, reduceIte, Nat.reduceLeDiff, Nat.reduceSub, eq_self, and_self, and_true, true_and, e1, e2, e3, eb, fdiv_pos (b := 10) (by decide) (by decide), mod_pos (show (0 : Int) < (m : Int) + 1 by omega), er, es]
/-! ### powers, great rows -/
theorem pow_bd (i : Nat) (h : i ≤ 4900) : bd 20000 (((10 ^ i : Nat) : Int)) := by
  unfold bd
  rw [Int.natAbs_natCast]
  have h1 : 10 ^ i ≤ 16 ^ i := Nat.pow_le_pow_left (by decide) i
  have h2 : (16 : Nat) ^ i = 2 ^ (4 * i) := by rw [Nat.pow_mul]
  exact Nat.lt_of_le_of_lt (h2 ▸ h1) (Nat.pow_lt_pow_right (by decide) (by omega))
theorem power_ok {k : Nat} (hk : k ≤ 4900) : s_l_power [.int (k : Nat)] = .ok (.int ((10 ^ k : Nat) : Int)) := by
  have hL : LIM = 1000000 := rfl
  refine run_ret rfl ?_
  show evSs [] [] false c_l_power [.sh (.int (k : Nat)), .no, .no] = _
  have hf := forL_rng (asg := asgT [2] false) (body := evSs [] [] false c_l_power_1) 0 k (fun i => [.sh (.int (k : Nat)), .sh (.int ((10 ^ i : Nat) : Int)), .no]) fun i hi => by
    refine ⟨_, rfl, .inl ?_⟩
    have m := mul_bd (pow_bd i (by omega)) (show bd 20000 (10 : Int) by unfold bd; exact Nat.lt_of_lt_of_le (by decide : 10 < 2 ^ 4) (Nat.pow_le_pow_right (by decide) (by decide))) (by decide) (by decide)
    have e : ((10 ^ i : Nat) : Int) * 10 = ((10 ^ (i + 1) : Nat) : Int) := by rw [Nat.pow_succ, Int.natCast_mul]; rfl
    simp -implicitDefEqProofs only [c_l_power_1, evSs, evS, evE, evEs, evI, RS.of_ok, RS.of_exn, RS.ofL_ok, RS.ofL_exn, RS.then_next, RS.then_ret, RS.then_brk, RS.then_cnt, RS.then_exn, RS.ifB_t, RS.ifB_f, RS.caught_next, RS.caught_ret, RS.caught_exn, RS.caughtN_next, RS.caughtN_ret, RS.suiteN_next, RS.suiteN_ret, RS.suite_next, RS.suite_ret, pIsx, pIs, pIsN, lamR_enc_ok, lamR_enc_exn, Pf.toldTo, R.bind_ok, R.bind_exn, pBin, pCmp, pAdd, pSub, pNeg, pLt, pLe, pNot, pIx, pSeq, pInt, getE, getB, setOwR, Pf.putAt, Pf.popTo, Pf.scrTo, Pf.unpTo, pIsa, asgT, setAll, killAll, PX.isN, PX.isB, PXs.hasB, Bool.false_eq_true, Bool.or_false, Bool.or_self, List.getElem?_cons_zero, List.getElem?_cons_succ, List.set_cons_zero, List.set_cons_succ, List.length_cons, List.length_nil, List.getD_cons_zero, List.getD_cons_succ, Nat.reduceAdd, Nat.reduceLT, Nat.zero_lt_succ, Nat.zero_add, ite_self, Bool.false_or, Bool.true_or, iL_len, Int.cast_ofNat_Int, Bool.and_true, Bool.true_and, bi_len_lst, bi_len_tup, bi_len_rl, bi_list_lst, bi_list_tup, bi_list_rl, bi_tuple_lst, bi_tuple_tup, bi_tuple_rl, bi_int_int, bi_int_b, at_two, int_if, at3_0, at3_1, at3_2, at2_0, at2_1, List.take_succ_cons, List.take_zero, List.drop_succ_cons, List.drop_zero, sum_ok, sl_lst, sl_tup, sl_rl, part_t, part_f, if_true, if_false, ite_true, ite_false, reduceIte, Nat.reduceLeDiff, Nat.reduceSub, eq_self, and_self, and_true, true_and, m, e]
  simp -implicitDefEqProofs only [c_l_power, evSs, evS, evE, evEs, evI, RS.of_ok, RS.of_exn, RS.ofL_ok, RS.ofL_exn, RS.then_next, RS.then_ret, RS.then_brk, RS.then_cnt, RS.then_exn, RS.ifB_t, RS.ifB_f, RS.caught_next, RS.caught_ret, RS.caught_exn, RS.caughtN_next, RS.caughtN_ret, RS.suiteN_next, RS.suiteN_ret, RS.suite_next, RS.suite_ret, pIsx, pIs, pIsN, lamR_enc_ok, lamR_enc_exn, Pf.toldTo, R.bind_ok, R.bind_exn, pBin, pCmp, pAdd, pSub, pNeg, pLt, pLe, pNot, pIx, pSeq, pInt, getE, getB, setOwR, Pf.putAt, Pf.popTo, Pf.scrTo, Pf.unpTo, pIsa, asgT, setAll, killAll, PX.isN, PX.isB, PXs.hasB, Bool.false_eq_true, Bool.or_false, Bool.or_self, List.getElem?_cons_zero, List.getElem?_cons_succ, List.set_cons_zero, List.set_cons_succ, List.length_cons, List.length_nil, List.getD_cons_zero, List.getD_cons_succ, Nat.reduceAdd, Nat.reduceLT, Nat.zero_lt_succ, Nat.zero_add, ite_self, Bool.false_or, Bool.true_or, iL_len, Int.cast_ofNat_Int, Bool.and_true, Bool.true_and, bi_len_lst, bi_len_tup, bi_len_rl, bi_list_lst, bi_list_tup, bi_list_rl, bi_tuple_lst, bi_tuple_tup, bi_tuple_rl, bi_int_int, bi_int_b, at_two, int_if, at3_0, at3_1, at3_2, at2_0, at2_1, List.take_succ_cons, List.take_zero, List.drop_succ_cons, List.drop_zero, sum_ok, sl_lst, sl_tup, sl_rl, part_t, part_f, if_true, if_false, ite_true, ite_false, reduceIte, Nat.reduceLeDiff, Nat.reduceSub, eq_self, and_self, and_true, true_and, span_int (i := (k : Int)) (by omega) (by omega), Int.toNat_natCast]
  rw [show ([SV.sh (PV.int (k : Nat)), SV.sh (PV.int 1), SV.no] : Env) = [.sh (.int (k : Nat)), .sh (.int ((10 ^ 0 : Nat) : Int)), .no] from rfl, hf]
  simp -implicitDefEqProofs only [evSs, evS, evE, evEs, evI, RS.of_ok, RS.of_exn, RS.ofL_ok, RS.ofL_exn, RS.then_next, RS.then_ret, RS.then_brk, RS.then_cnt, RS.then_exn, RS.ifB_t, RS.ifB_f, RS.caught_next, RS.caught_ret, RS.caught_exn, RS.caughtN_next, RS.caughtN_ret, RS.suiteN_next, RS.suiteN_ret, RS.suite_next, RS.suite_ret, pIsx, pIs, pIsN, lamR_enc_ok, lamR_enc_exn, Pf.toldTo, R.bind_ok, R.bind_exn, pBin, pCmp, pAdd, pSub, pNeg, pLt, pLe, pNot, pIx, pSeq, pInt, getE, getB, setOwR, Pf.putAt, Pf.popTo, Pf.scrTo, Pf.unpTo, pIsa, asgT, setAll, killAll, PX.isN, PX.isB, PXs.hasB, Bool.false_eq_true, Bool.or_false, Bool.or_self, List.getElem?_cons_zero, List.getElem?_cons_succ, List.set_cons_zero, List.set_cons_succ, List.length_cons, List.length_nil, List.getD_cons_zero, List.getD_cons_succ, Nat.reduceAdd, Nat.reduceLT, Nat.zero_lt_succ, Nat.zero_add, ite_self, Bool.false_or, Bool.true_or, iL_len, Int.cast_ofNat_Int, Bool.and_true, Bool.true_and, bi_len_lst, bi_len_tup, bi_len_rl, bi_list_lst, bi_list_tup, bi_list_rl, bi_tuple_lst, bi_tuple_tup, bi_tuple_rl, bi_int_int, bi_int_b, at_two, int_if, at3_0, at3_1, at3_2, at2_0, at2_1, List.take_succ_cons, List.take_zero, List.drop_succ_cons, List.drop_zero, sum_ok, sl_lst, sl_tup, sl_rl, part_t, part_f, if_true, if_false, ite_true, ite_false, reduceIte, Nat.reduceLeDiff, Nat.reduceSub, eq_self, and_self, and_true, true_and]
theorem gd_4 {b x : Int} (h : gd b x) : x.natAbs < G4 := Nat.lt_of_le_of_lt h.2 (by decide +kernel)
theorem great_ok {r s : List Int} (e : r.length = s.length) (hl : s.length ≤ 12) (hr : Num4 r) (hs : Num4 s) {n : Int} (n0 : 0 ≤ n) (n1 : n < 2147483647) :
    ∃ r' s' d, s_l_great [rowV 0 r s, .int n] = .ok (.tup [rowV 0 r' s', .bl d]) ∧ Row4 0 r' s' ∧ (d = true → ¬ (Num4 r' ∧ Num4 s')) ∧ (d = false → Num4 r' ∧ Num4 s') := by
  have hL : LIM = 1000000 := rfl
  have pw : s_l_power [.int 4000] = .ok (.int ((G4 : Nat) : Int)) := power_ok (k := 4000) (by decide)
  have gb : (2147483647 : Int) < ((G4 : Nat) : Int) := by decide +kernel
  obtain ⟨t, ht, h1, h2⟩ : ∃ t, pAt [PV.int (((G4 : Nat) : Int) - 1), PV.int (1 - ((G4 : Nat) : Int)), PV.int ((G4 : Nat) : Int), PV.int (0 - ((G4 : Nat) : Int)), PV.int (((G4 : Nat) : Int) + n), PV.int (0 - ((G4 : Nat) : Int) - n)] (n % 6) = .ok (.int t) ∧ (1 < n % 6 → G4 ≤ t.natAbs) ∧ (¬ 1 < n % 6 → t.natAbs < G4) := by
    have h : n % 6 = 0 ∨ n % 6 = 1 ∨ n % 6 = 2 ∨ n % 6 = 3 ∨ n % 6 = 4 ∨ n % 6 = 5 := by omega
    rcases h with h | h | h | h | h | h <;> rw [h] <;> exact ⟨_, rfl, by omega, by omega⟩
  obtain ⟨m, hm, m0, m1⟩ : ∃ m : Nat, pBi .max [.int 1, .int (r.length : Nat)] = .ok (.int (m : Nat)) ∧ 0 < m ∧ m ≤ r.length + 1 := by
    by_cases h : (1 : Int) < (r.length : Nat)
    · refine ⟨r.length, ?_, by omega, by omega⟩
      show R.ok (PV.int (if ((r.length : Nat) : Int) > 1 then ((r.length : Nat) : Int) else 1)) = _
      rw [if_pos h]
    · refine ⟨1, ?_, by omega, by omega⟩
      show R.ok (PV.int (if ((r.length : Nat) : Int) > 1 then ((r.length : Nat) : Int) else 1)) = _
      rw [if_neg h]
      rfl
  obtain ⟨k, hk⟩ : ∃ k : Nat, n / 6 % (m : Int) = (k : Int) := ⟨(n / 6 % (m : Int)).toNat, by
    have := Int.emod_nonneg (n / 6) (b := (m : Int)) (by omega)
    omega⟩
  have c1 : pCut (iL r) none (some (k : Int)) = iL (r.take k) := by
    rw [cut_take]
    unfold iL
    rw [List.map_take]
  have c2 : pCut (iL r) (some ((k : Int) + 1)) none = iL (r.drop (k + 1)) := by
    rw [show (k : Int) + 1 = ((k + 1 : Nat) : Int) by omega, cut_drop]
    unfold iL
    rw [List.map_drop]
  have c3 : iL (r.take k) ++ [PV.int t] ++ iL (r.drop (k + 1)) = iL (r.take k ++ t :: r.drop (k + 1)) := by
    unfold iL
    rw [List.map_append, List.append_assoc]
    rfl
  have l1 : (r.take k).length + 1 ≤ LIM := by rw [List.length_take]; omega
  have l2 : (r.take k).length + 1 + (r.drop (k + 1)).length ≤ LIM := by rw [List.length_take, List.length_drop]; omega
  have lu : (r.take k ++ t :: r.drop (k + 1)).length ≤ 13 := by rw [List.length_append, List.length_cons, List.length_take, List.length_drop]; omega
  have nu : Num4 (r.take k ++ t :: r.drop (k + 1)) ↔ t.natAbs < G4 := by
    constructor
    · exact fun h => h t (List.mem_append_right _ (List.mem_cons_self ..))
    · intro h x hx
      rcases List.mem_append.mp hx with hx | hx
      · exact hr x (List.mem_of_mem_take hx)
      · rcases List.mem_cons.mp hx with rfl | hx
        · exact h
        · exact hr x (List.mem_of_mem_drop hx)
  -- a nought behind an empty part
  have pad : ∀ xs : List Int, pMul (.tup [.int 0]) (.int (if decide (xs = []) = true then 1 else 0)) = .ok (.tup (iL (if xs = [] then [0] else []))) := fun xs => by
    by_cases h : xs = []
    · rw [decide_eq_true h, if_pos h]
      rfl
    · rw [decide_eq_false h, if_neg h]
      rfl
  have plen : ∀ xs : List Int, (if xs = [] then [0] else [] : List Int).length ≤ 1 := fun xs => by split <;> decide
  have pnum : ∀ xs : List Int, Num4 xs → Num4 (xs ++ (if xs = [] then [0] else [])) := fun xs h x hx => by
    rcases List.mem_append.mp hx with hx | hx
    · exact h x hx
    · split at hx
      · rw [List.mem_singleton.mp hx]
        exact Nat.lt_of_lt_of_le (by decide : (0 : Int).natAbs < 1) (by decide +kernel)
      · exact nomatch hx
  have app : ∀ xs ys : List Int, iL xs ++ iL ys = iL (xs ++ ys) := fun xs ys => by
    unfold iL
    rw [List.map_append]
  have p1 := plen r
  have p2 := plen s
  have lr : (r ++ (if r = [] then [0] else [])).length ≤ 13 := by rw [List.length_append]; omega
  have ls : (s ++ (if s = [] then [0] else [])).length ≤ 13 := by rw [List.length_append]; omega
  have q1 : r.length + (if r = [] then [0] else [] : List Int).length ≤ LIM := by omega
  have q2 : s.length + (if s = [] then [0] else [] : List Int).length ≤ LIM := by omega
  by_cases hq : n / 72 % 2 = 1
  · refine ⟨r ++ (if r = [] then [0] else []), r.take k ++ t :: r.drop (k + 1), decide (1 < n % 6), run_ret rfl ?_, ⟨by decide, by decide, lr, lu⟩, fun h => ?_, fun h => ?_⟩
    · show evSs [s_l_power] [] false c_l_great [.sh (rowV 0 r s), .sh (.int n), .no, .no, .no, .no] = _
      simp -implicitDefEqProofs only [c_l_great, evSs, evS, evE, evEs, evI, RS.of_ok, RS.of_exn, RS.ofL_ok, RS.ofL_exn, RS.then_next, RS.then_ret, RS.then_brk, RS.then_cnt, RS.then_exn, RS.ifB_t, RS.ifB_f, RS.caught_next, RS.caught_ret, RS.caught_exn, RS.caughtN_next, RS.caughtN_ret, RS.suiteN_next, RS.suiteN_ret, RS.suite_next, RS.suite_ret, pIsx, pIs, pIsN, lamR_enc_ok, lamR_enc_exn, Pf.toldTo, R.bind_ok, R.bind_exn, pBin, pCmp, pAdd, pSub, pNeg, pLt, pLe, pNot, pIx, pSeq, pInt, getE, getB, setOwR, Pf.putAt, Pf.popTo, Pf.scrTo, Pf.unpTo, pIsa, asgT, setAll, killAll, PX.isN, PX.isB, PXs.hasB, Bool.false_eq_true, Bool.or_false, Bool.or_self, List.getElem?_cons_zero, List.getElem?_cons_succ, List.set_cons_zero, List.set_cons_succ, List.length_cons, List.length_nil, List.getD_cons_zero, List.getD_cons_succ, Nat.reduceAdd, Nat.reduceLT, Nat.zero_lt_succ, Nat.zero_add, ite_self, Bool.false_or, Bool.true_or, iL_len, Int.cast_ofNat_Int, Bool.and_true, Bool.true_and, bi_len_lst, bi_len_tup, bi_len_rl, bi_list_lst, bi_list_tup, bi_list_rl, bi_tuple_lst, bi_tuple_tup, bi_tuple_rl, bi_int_int, bi_int_b, at_two, int_if, at3_0, at3_1, at3_2, at2_0, at2_1, List.take_succ_cons, List.take_zero, List.drop_succ_cons, List.drop_zero, sum_ok, sl_lst, sl_tup, sl_rl, part_t, part_f, if_true, if_false, ite_true, ite_false, reduceIte, Nat.reduceLeDiff, Nat.reduceSub, eq_self, and_self, and_true, true_and, rowV, pw, mod_pos (b := 6) (by decide), ht, fdiv_pos (b := 6) (by decide) (by decide), fdiv_pos (b := 72) (by decide) (by decide), mod_pos (b := 2) (by decide), hm, mod_pos (show (0 : Int) < (m : Int) by omega), hk, c1, c2, l1, l2, List.length_append, c3, eq_int, hq, decide_true, eq_tup0, pad, q1, app]
    · exact fun q => Nat.not_lt.mpr (h1 (of_decide_eq_true h)) (nu.mp q.2)
    · exact ⟨pnum r hr, nu.mpr (h2 (of_decide_eq_false h))⟩
  · refine ⟨r.take k ++ t :: r.drop (k + 1), s ++ (if s = [] then [0] else []), decide (1 < n % 6), run_ret rfl ?_, ⟨by decide, by decide, lu, ls⟩, fun h => ?_, fun h => ?_⟩
    · show evSs [s_l_power] [] false c_l_great [.sh (rowV 0 r s), .sh (.int n), .no, .no, .no, .no] = _
      simp -implicitDefEqProofs only [c_l_great, evSs, evS, evE, evEs, evI, RS.of_ok, RS.of_exn, RS.ofL_ok, RS.ofL_exn, RS.then_next, RS.then_ret, RS.then_brk, RS.then_cnt, RS.then_exn, RS.ifB_t, RS.ifB_f, RS.caught_next, RS.caught_ret, RS.caught_exn, RS.caughtN_next, RS.caughtN_ret, RS.suiteN_next, RS.suiteN_ret, RS.suite_next, RS.suite_ret, pIsx, pIs, pIsN, lamR_enc_ok, lamR_enc_exn, Pf.toldTo, R.bind_ok, R.bind_exn, pBin, pCmp, pAdd, pSub, pNeg, pLt, pLe, pNot, pIx, pSeq, pInt, getE, getB, setOwR, Pf.putAt, Pf.popTo, Pf.scrTo, Pf.unpTo, pIsa, asgT, setAll, killAll, PX.isN, PX.isB, PXs.hasB, Bool.false_eq_true, Bool.or_false, Bool.or_self, List.getElem?_cons_zero, List.getElem?_cons_succ, List.set_cons_zero, List.set_cons_succ, List.length_cons, List.length_nil, List.getD_cons_zero, List.getD_cons_succ, Nat.reduceAdd, Nat.reduceLT, Nat.zero_lt_succ, Nat.zero_add, ite_self, Bool.false_or, Bool.true_or, iL_len, Int.cast_ofNat_Int, Bool.and_true, Bool.true_and, bi_len_lst, bi_len_tup, bi_len_rl, bi_list_lst, bi_list_tup, bi_list_rl, bi_tuple_lst, bi_tuple_tup, bi_tuple_rl, bi_int_int, bi_int_b, at_two, int_if, at3_0, at3_1, at3_2, at2_0, at2_1, List.take_succ_cons, List.take_zero, List.drop_succ_cons, List.drop_zero, sum_ok, sl_lst, sl_tup, sl_rl, part_t, part_f, if_true, if_false, ite_true, ite_false, reduceIte, Nat.reduceLeDiff, Nat.reduceSub, eq_self, and_self, and_true, true_and, rowV, pw, mod_pos (b := 6) (by decide), ht, fdiv_pos (b := 6) (by decide) (by decide), fdiv_pos (b := 72) (by decide) (by decide), mod_pos (b := 2) (by decide), hm, mod_pos (show (0 : Int) < (m : Int) by omega), hk, c1, c2, l1, l2, List.length_append, c3, eq_int, hq, decide_false, eq_tup0, pad, q2, app]
    · exact fun q => Nat.not_lt.mpr (h1 (of_decide_eq_true h)) (nu.mp q.1)
    · exact ⟨nu.mpr (h2 (of_decide_eq_false h)), pnum s hs⟩
/-! ### the law -/
theorem asked7 {b : Int} {r s : List Int} (w : Row4 b r s) (hr : Num4 r) (hs : Num4 s) : s_l_asked [rowV b r s] = .ok (.tup [.str (st (textOf b r s)), .non]) := by
  have e := shown4 w hr hs
  unfold rowV at e
  refine run_ret rfl ?_
  show evSs [s_shown] [] false c_l_asked [.sh (rowV b r s), .no, .no, .no, .no] = _
  simp -implicitDefEqProofs only [c_l_asked, evSs, evS, evE, evEs, evI, RS.of_ok, RS.of_exn, RS.ofL_ok, RS.ofL_exn, RS.then_next, RS.then_ret, RS.then_brk, RS.then_cnt, RS.then_exn, RS.ifB_t, RS.ifB_f, RS.caught_next, RS.caught_ret, RS.caught_exn, RS.caughtN_next, RS.caughtN_ret, RS.suiteN_next, RS.suiteN_ret, RS.suite_next, RS.suite_ret, pIsx, pIs, pIsN, lamR_enc_ok, lamR_enc_exn, Pf.toldTo, R.bind_ok, R.bind_exn, pBin, pCmp, pAdd, pSub, pNeg, pLt, pLe, pNot, pIx, pSeq, pInt, getE, getB, setOwR, Pf.putAt, Pf.popTo, Pf.scrTo, Pf.unpTo, pIsa, asgT, setAll, killAll, PX.isN, PX.isB, PXs.hasB, Bool.false_eq_true, Bool.or_false, Bool.or_self, List.getElem?_cons_zero, List.getElem?_cons_succ, List.set_cons_zero, List.set_cons_succ, List.length_cons, List.length_nil, List.getD_cons_zero, List.getD_cons_succ, Nat.reduceAdd, Nat.reduceLT, Nat.zero_lt_succ, Nat.zero_add, ite_self, Bool.false_or, Bool.true_or, iL_len, Int.cast_ofNat_Int, Bool.and_true, Bool.true_and, bi_len_lst, bi_len_tup, bi_len_rl, bi_list_lst, bi_list_tup, bi_list_rl, bi_tuple_lst, bi_tuple_tup, bi_tuple_rl, bi_int_int, bi_int_b, at_two, int_if, at3_0, at3_1, at3_2, at2_0, at2_1, List.take_succ_cons, List.take_zero, List.drop_succ_cons, List.drop_zero, sum_ok, sl_lst, sl_tup, sl_rl, part_t, part_f, if_true, if_false, ite_true, ite_false, reduceIte, Nat.reduceLeDiff, Nat.reduceSub, eq_self, and_self, and_true, true_and, rowV, e]
theorem asked7x {b : Int} {r s : List Int} (w : Row4 b r s) (h : ¬ (Num4 r ∧ Num4 s)) : s_l_asked [rowV b r s] = .ok (.tup [.non, .bl true]) := by
  have e := shown_exn w h
  unfold rowV at e
  refine run_ret rfl ?_
  show evSs [s_shown] [] false c_l_asked [.sh (rowV b r s), .no, .no, .no, .no] = _
  simp -implicitDefEqProofs only [c_l_asked, evSs, evS, evE, evEs, evI, RS.of_ok, RS.of_exn, RS.ofL_ok, RS.ofL_exn, RS.then_next, RS.then_ret, RS.then_brk, RS.then_cnt, RS.then_exn, RS.ifB_t, RS.ifB_f, RS.caught_next, RS.caught_ret, RS.caught_exn, RS.caughtN_next, RS.caughtN_ret, RS.suiteN_next, RS.suiteN_ret, RS.suite_next, RS.suite_ret, pIsx, pIs, pIsN, lamR_enc_ok, lamR_enc_exn, Pf.toldTo, R.bind_ok, R.bind_exn, pBin, pCmp, pAdd, pSub, pNeg, pLt, pLe, pNot, pIx, pSeq, pInt, getE, getB, setOwR, Pf.putAt, Pf.popTo, Pf.scrTo, Pf.unpTo, pIsa, asgT, setAll, killAll, PX.isN, PX.isB, PXs.hasB, Bool.false_eq_true, Bool.or_false, Bool.or_self, List.getElem?_cons_zero, List.getElem?_cons_succ, List.set_cons_zero, List.set_cons_succ, List.length_cons, List.length_nil, List.getD_cons_zero, List.getD_cons_succ, Nat.reduceAdd, Nat.reduceLT, Nat.zero_lt_succ, Nat.zero_add, ite_self, Bool.false_or, Bool.true_or, iL_len, Int.cast_ofNat_Int, Bool.and_true, Bool.true_and, bi_len_lst, bi_len_tup, bi_len_rl, bi_list_lst, bi_list_tup, bi_list_rl, bi_tuple_lst, bi_tuple_tup, bi_tuple_rl, bi_int_int, bi_int_b, at_two, int_if, at3_0, at3_1, at3_2, at2_0, at2_1, List.take_succ_cons, List.take_zero, List.drop_succ_cons, List.drop_zero, sum_ok, sl_lst, sl_tup, sl_rl, part_t, part_f, if_true, if_false, ite_true, ite_false, reduceIte, Nat.reduceLeDiff, Nat.reduceSub, eq_self, and_self, and_true, true_and, rowV, e]
  rfl
abbrev FL : List Sem1 := [s_l_row, s_l_cell_at, s_shown, s_l_text, s_l_great, s_l_mix, s_l_asked, s_l_power, s_l_figures]
theorem law_true (ns : List Int) (hl : ns.length ≤ 63) (hz : ∀ z ∈ ns, PySem.Builtin.Int.intBits z ≤ 1048576) : s_law [script ns] = .ok (.bl true) := by
  have hL : LIM = 1000000 := rfl
  obtain ⟨c20, e20⟩ := l_cell_ok ns 20 (by decide)
  refine run_ret rfl ?_
  show evSs FL [] false c_law [.sh (script ns), .no, .no, .no, .no, .no, .no, .no, .no] = _
  have key := forL_ex (asg := asgT [1] false) (body := evSs FL [] false c_law_1) (fun _ ρ => ρ = [.sh (script ns), .no, .no, .no, .no, .no, .no, .no, .no]) (fun _ => False) (rngL 0 10) 0 _ rfl (by
    rintro i x ρ hx rfl
    obtain ⟨j, hj, rfl⟩ := mem_rng0 (List.mem_of_getElem? hx)
    refine ⟨_, rfl, .inl ⟨_, .inl ?_, rfl⟩⟩
    obtain ⟨v, ev⟩ := l_cell_ok ns (j : Int) (by omega)
    obtain ⟨v2, ev2⟩ := l_cell_ok ns (10 + (j : Int)) (by omega)
    obtain ⟨m, em, m0, m1⟩ := l_mix_ok v2 (j : Int) (by omega) (by omega)
    have mj := mul_ok (a := (j : Int)) (b := (j : Int)) (small_60 (by omega)) (small_60 (by omega))
    obtain ⟨b, r, s, er, w, hb, hg⟩ := l_row_ok (v + (j : Int) * (j : Int)) 12 (by decide)
    have er : s_l_row [.int (v + (j : Int) * (j : Int)), .int 12] = .ok (rowV b r s) := er
    have wl := w.len
    have we := w.le
    have hr : Num4 r := fun x hx => gd_4 (w.rr x hx)
    have hs : Num4 s := fun x hx => gd_4 (hg x hx)
    have w4 : Row4 b r s := ⟨w.b0, by have := w.b1; omega, by omega, by omega⟩
    have h1 := shown4 w4 hr hs
    have h2 := l_text4 w4 hr hs
    obtain ⟨_, ok1⟩ := join4 w4 hr hs
    have h3 : pNe (.str (st (textOf b r s))) (.str (st (textOf b r s))) = .ok (.bl false) := by
      rw [ne_st ok1 ok1, decide_eq_true rfl]
      rfl
    unfold rowV at er h1 h2
    by_cases hc : b = 0 ∧ (j : Int) % 5 = 0
    · obtain ⟨rfl, hj5⟩ := hc
      obtain ⟨r', s', d, eg, w', d1, d2⟩ := great_ok wl we hr hs m0 m1
      cases d with
      | true =>
        have ea := asked7x w' (d1 rfl)
        unfold rowV at eg ea
        simp -implicitDefEqProofs only [c_law_1, evSs, evS, evE, evEs, evI, RS.of_ok, RS.of_exn, RS.ofL_ok, RS.ofL_exn, RS.then_next, RS.then_ret, RS.then_brk, RS.then_cnt, RS.then_exn, RS.ifB_t, RS.ifB_f, RS.caught_next, RS.caught_ret, RS.caught_exn, RS.caughtN_next, RS.caughtN_ret, RS.suiteN_next, RS.suiteN_ret, RS.suite_next, RS.suite_ret, pIsx, pIs, pIsN, lamR_enc_ok, lamR_enc_exn, Pf.toldTo, R.bind_ok, R.bind_exn, pBin, pCmp, pAdd, pSub, pNeg, pLt, pLe, pNot, pIx, pSeq, pInt, getE, getB, setOwR, Pf.putAt, Pf.popTo, Pf.scrTo, Pf.unpTo, pIsa, asgT, setAll, killAll, PX.isN, PX.isB, PXs.hasB, Bool.false_eq_true, Bool.or_false, Bool.or_self, List.getElem?_cons_zero, List.getElem?_cons_succ, List.set_cons_zero, List.set_cons_succ, List.length_cons, List.length_nil, List.getD_cons_zero, List.getD_cons_succ, Nat.reduceAdd, Nat.reduceLT, Nat.zero_lt_succ, Nat.zero_add, ite_self, Bool.false_or, Bool.true_or, iL_len, Int.cast_ofNat_Int, Bool.and_true, Bool.true_and, bi_len_lst, bi_len_tup, bi_len_rl, bi_list_lst, bi_list_tup, bi_list_rl, bi_tuple_lst, bi_tuple_tup, bi_tuple_rl, bi_int_int, bi_int_b, at_two, int_if, at3_0, at3_1, at3_2, at2_0, at2_1, List.take_succ_cons, List.take_zero, List.drop_succ_cons, List.drop_zero, sum_ok, sl_lst, sl_tup, sl_rl, part_t, part_f, if_true, if_false, ite_true, ite_false, reduceIte, Nat.reduceLeDiff, Nat.reduceSub, eq_self, and_self, and_true, true_and, ev, mj, er, h1, h2, h3, rowV, eq_int, mod_pos (b := 5) (by decide), hj5, decide_true, ev2, em, eg, ea, Bool.not_true, Bool.not_false]
      | false =>
        obtain ⟨hr', hs'⟩ := d2 rfl
        have ea := asked7 w' hr' hs'
        have et := l_text4 w' hr' hs'
        obtain ⟨_, ok2⟩ := join4 w' hr' hs'
        have h4 : pNe (.str (st (textOf 0 r' s'))) (.str (st (textOf 0 r' s'))) = .ok (.bl false) := by
          rw [ne_st ok2 ok2, decide_eq_true rfl]
          rfl
        unfold rowV at eg ea et
        simp -implicitDefEqProofs only [c_law_1, evSs, evS, evE, evEs, evI, RS.of_ok, RS.of_exn, RS.ofL_ok, RS.ofL_exn, RS.then_next, RS.then_ret, RS.then_brk, RS.then_cnt, RS.then_exn, RS.ifB_t, RS.ifB_f, RS.caught_next, RS.caught_ret, RS.caught_exn, RS.caughtN_next, RS.caughtN_ret, RS.suiteN_next, RS.suiteN_ret, RS.suite_next, RS.suite_ret, pIsx, pIs, pIsN, lamR_enc_ok, lamR_enc_exn, Pf.toldTo, R.bind_ok, R.bind_exn, pBin, pCmp, pAdd, pSub, pNeg, pLt, pLe, pNot, pIx, pSeq, pInt, getE, getB, setOwR, Pf.putAt, Pf.popTo, Pf.scrTo, Pf.unpTo, pIsa, asgT, setAll, killAll, PX.isN, PX.isB, PXs.hasB, Bool.false_eq_true, Bool.or_false, Bool.or_self, List.getElem?_cons_zero, List.getElem?_cons_succ, List.set_cons_zero, List.set_cons_succ, List.length_cons, List.length_nil, List.getD_cons_zero, List.getD_cons_succ, Nat.reduceAdd, Nat.reduceLT, Nat.zero_lt_succ, Nat.zero_add, ite_self, Bool.false_or, Bool.true_or, iL_len, Int.cast_ofNat_Int, Bool.and_true, Bool.true_and, bi_len_lst, bi_len_tup, bi_len_rl, bi_list_lst, bi_list_tup, bi_list_rl, bi_tuple_lst, bi_tuple_tup, bi_tuple_rl, bi_int_int, bi_int_b, at_two, int_if, at3_0, at3_1, at3_2, at2_0, at2_1, List.take_succ_cons, List.take_zero, List.drop_succ_cons, List.drop_zero, sum_ok, sl_lst, sl_tup, sl_rl, part_t, part_f, if_true, if_false, ite_true, ite_false, reduceIte, Nat.reduceLeDiff, Nat.reduceSub, eq_self, and_self, and_true, true_and, ev, mj, er, h1, h2, h3, rowV, eq_int, mod_pos (b := 5) (by decide), hj5, decide_true, ev2, em, eg, ea, et, h4, Bool.not_true, Bool.not_false]
    · by_cases hb0 : b = 0
      · have hj5 : ¬ (j : Int) % 5 = 0 := fun q => hc ⟨hb0, q⟩
        subst hb0
        simp -implicitDefEqProofs only [c_law_1, evSs, evS, evE, evEs, evI, RS.of_ok, RS.of_exn, RS.ofL_ok, RS.ofL_exn, RS.then_next, RS.then_ret, RS.then_brk, RS.then_cnt, RS.then_exn, RS.ifB_t, RS.ifB_f, RS.caught_next, RS.caught_ret, RS.caught_exn, RS.caughtN_next, RS.caughtN_ret, RS.suiteN_next, RS.suiteN_ret, RS.suite_next, RS.suite_ret, pIsx, pIs, pIsN, lamR_enc_ok, lamR_enc_exn, Pf.toldTo, R.bind_ok, R.bind_exn, pBin, pCmp, pAdd, pSub, pNeg, pLt, pLe, pNot, pIx, pSeq, pInt, getE, getB, setOwR, Pf.putAt, Pf.popTo, Pf.scrTo, Pf.unpTo, pIsa, asgT, setAll, killAll, PX.isN, PX.isB, PXs.hasB, Bool.false_eq_true, Bool.or_false, Bool.or_self, List.getElem?_cons_zero, List.getElem?_cons_succ, List.set_cons_zero, List.set_cons_succ, List.length_cons, List.length_nil, List.getD_cons_zero, List.getD_cons_succ, Nat.reduceAdd, Nat.reduceLT, Nat.zero_lt_succ, Nat.zero_add, ite_self, Bool.false_or, Bool.true_or, iL_len, Int.cast_ofNat_Int, Bool.and_true, Bool.true_and, bi_len_lst, bi_len_tup, bi_len_rl, bi_list_lst, bi_list_tup, bi_list_rl, bi_tuple_lst, bi_tuple_tup, bi_tuple_rl, bi_int_int, bi_int_b, at_two, int_if, at3_0, at3_1, at3_2, at2_0, at2_1, List.take_succ_cons, List.take_zero, List.drop_succ_cons, List.drop_zero, sum_ok, sl_lst, sl_tup, sl_rl, part_t, part_f, if_true, if_false, ite_true, ite_false, reduceIte, Nat.reduceLeDiff, Nat.reduceSub, eq_self, and_self, and_true, true_and, ev, mj, er, h1, h2, h3, rowV, eq_int, mod_pos (b := 5) (by decide), hj5, decide_true, decide_false, Bool.not_true]
      · simp -implicitDefEqProofs only [c_law_1, evSs, evS, evE, evEs, evI, RS.of_ok, RS.of_exn, RS.ofL_ok, RS.ofL_exn, RS.then_next, RS.then_ret, RS.then_brk, RS.then_cnt, RS.then_exn, RS.ifB_t, RS.ifB_f, RS.caught_next, RS.caught_ret, RS.caught_exn, RS.caughtN_next, RS.caughtN_ret, RS.suiteN_next, RS.suiteN_ret, RS.suite_next, RS.suite_ret, pIsx, pIs, pIsN, lamR_enc_ok, lamR_enc_exn, Pf.toldTo, R.bind_ok, R.bind_exn, pBin, pCmp, pAdd, pSub, pNeg, pLt, pLe, pNot, pIx, pSeq, pInt, getE, getB, setOwR, Pf.putAt, Pf.popTo, Pf.scrTo, Pf.unpTo, pIsa, asgT, setAll, killAll, PX.isN, PX.isB, PXs.hasB, Bool.false_eq_true, Bool.or_false, Bool.or_self, List.getElem?_cons_zero, List.getElem?_cons_succ, List.set_cons_zero, List.set_cons_succ, List.length_cons, List.length_nil, List.getD_cons_zero, List.getD_cons_succ, Nat.reduceAdd, Nat.reduceLT, Nat.zero_lt_succ, Nat.zero_add, ite_self, Bool.false_or, Bool.true_or, iL_len, Int.cast_ofNat_Int, Bool.and_true, Bool.true_and, bi_len_lst, bi_len_tup, bi_len_rl, bi_list_lst, bi_list_tup, bi_list_rl, bi_tuple_lst, bi_tuple_tup, bi_tuple_rl, bi_int_int, bi_int_b, at_two, int_if, at3_0, at3_1, at3_2, at2_0, at2_1, List.take_succ_cons, List.take_zero, List.drop_succ_cons, List.drop_zero, sum_ok, sl_lst, sl_tup, sl_rl, part_t, part_f, if_true, if_false, ite_true, ite_false, reduceIte, Nat.reduceLeDiff, Nat.reduceSub, eq_self, and_self, and_true, true_and, ev, mj, er, h1, h2, h3, rowV, eq_int, mod_pos (b := 5) (by decide), hb0, decide_false, Bool.not_true])
  rcases key with ⟨ρ, e, rfl⟩ | ⟨_, _, h⟩
  · obtain ⟨k, hk, k1⟩ : ∃ k : Nat, 61 + c20 % 300 = (k : Int) ∧ k ≤ 400 := ⟨(61 + c20 % 300).toNat, by omega, by omega⟩
    have pw := power_ok (k := k) (by omega)
    obtain ⟨z, hz0⟩ : ∃ z : Int, z = ((10 ^ k : Nat) : Int) := ⟨_, rfl⟩
    have kp : 10 ^ k < G4 := Nat.pow_lt_pow_right (by decide) (by omega)
    have kn : 0 < 10 ^ k := Nat.pow_pos (by decide)
    rw [← hz0] at pw
    have z1 : z.natAbs < G4 := by omega
    have z2 : (1 - z).natAbs < G4 := by omega
    have r1 : Num4 [z] := fun x hx => by
      rw [List.mem_singleton.mp hx]
      exact z1
    have r2 : Num4 [1 - z] := fun x hx => by
      rw [List.mem_singleton.mp hx]
      exact z2
    have w4 : Row4 0 [z] [1 - z] := ⟨by decide, by decide, by show 1 ≤ 13; decide, by show 1 ≤ 13; decide⟩
    have h1 := shown4 w4 r1 r2
    obtain ⟨_, ok1⟩ := join4 w4 r1 r2
    have f1 := figures_ok (z := z) (by have := (len4 z1).1; omega)
    have f2 := figures_ok (z := 1 - z) (by have := (len4 z2).1; omega)
    have g1 := (len4 z1).2
    have g2 := (len4 z2).2
    have te : textOf 0 [z] [1 - z] = (numW z ++ [32, 124, 32]) ++ numW (1 - z) := by
      unfold textOf
      rw [wordsOf_0]
      show numW z ++ ([32] ++ ([124] ++ ([32] ++ numW (1 - z)))) = _
      rw [List.append_assoc]
      rfl
    have h4 : pEq (.str (st (textOf 0 [z] [1 - z]))) (.str (st ((numW z ++ [32, 124, 32]) ++ numW (1 - z)))) = .ok (.bl true) := by
      rw [te] at ok1 ⊢
      rw [eq_st ok1 ok1, decide_eq_true rfl]
    have ls : (" | " : PySem.Str) = st [32, 124, 32] := TL.ext_tl rfl
    have h1 : s_shown [.tup [.int 0, .tup [.int z], .tup [.int (1 - z)]]] = .ok (.str (st (textOf 0 [z] [1 - z]))) := h1
    simp -implicitDefEqProofs only [c_law, evSs, evS, evE, evEs, evI, RS.of_ok, RS.of_exn, RS.ofL_ok, RS.ofL_exn, RS.then_next, RS.then_ret, RS.then_brk, RS.then_cnt, RS.then_exn, RS.ifB_t, RS.ifB_f, RS.caught_next, RS.caught_ret, RS.caught_exn, RS.caughtN_next, RS.caughtN_ret, RS.suiteN_next, RS.suiteN_ret, RS.suite_next, RS.suite_ret, pIsx, pIs, pIsN, lamR_enc_ok, lamR_enc_exn, Pf.toldTo, R.bind_ok, R.bind_exn, pBin, pCmp, pAdd, pSub, pNeg, pLt, pLe, pNot, pIx, pSeq, pInt, getE, getB, setOwR, Pf.putAt, Pf.popTo, Pf.scrTo, Pf.unpTo, pIsa, asgT, setAll, killAll, PX.isN, PX.isB, PXs.hasB, Bool.false_eq_true, Bool.or_false, Bool.or_self, List.getElem?_cons_zero, List.getElem?_cons_succ, List.set_cons_zero, List.set_cons_succ, List.length_cons, List.length_nil, List.getD_cons_zero, List.getD_cons_succ, Nat.reduceAdd, Nat.reduceLT, Nat.zero_lt_succ, Nat.zero_add, ite_self, Bool.false_or, Bool.true_or, iL_len, Int.cast_ofNat_Int, Bool.and_true, Bool.true_and, bi_len_lst, bi_len_tup, bi_len_rl, bi_list_lst, bi_list_tup, bi_list_rl, bi_tuple_lst, bi_tuple_tup, bi_tuple_rl, bi_int_int, bi_int_b, at_two, int_if, at3_0, at3_1, at3_2, at2_0, at2_1, List.take_succ_cons, List.take_zero, List.drop_succ_cons, List.drop_zero, sum_ok, sl_lst, sl_tup, sl_rl, part_t, part_f, if_true, if_false, ite_true, ite_false, reduceIte, Nat.reduceLeDiff, Nat.reduceSub, eq_self, and_self, and_true, true_and, span_int (i := 10) (by decide) (by decide)]
    rw [show Int.toNat 10 = 10 from rfl, e]
    simp -implicitDefEqProofs only [ls, evSs, evS, evE, evEs, evI, RS.of_ok, RS.of_exn, RS.ofL_ok, RS.ofL_exn, RS.then_next, RS.then_ret, RS.then_brk, RS.then_cnt, RS.then_exn, RS.ifB_t, RS.ifB_f, RS.caught_next, RS.caught_ret, RS.caught_exn, RS.caughtN_next, RS.caughtN_ret, RS.suiteN_next, RS.suiteN_ret, RS.suite_next, RS.suite_ret, pIsx, pIs, pIsN, lamR_enc_ok, lamR_enc_exn, Pf.toldTo, R.bind_ok, R.bind_exn, pBin, pCmp, pAdd, pSub, pNeg, pLt, pLe, pNot, pIx, pSeq, pInt, getE, getB, setOwR, Pf.putAt, Pf.popTo, Pf.scrTo, Pf.unpTo, pIsa, asgT, setAll, killAll, PX.isN, PX.isB, PXs.hasB, Bool.false_eq_true, Bool.or_false, Bool.or_self, List.getElem?_cons_zero, List.getElem?_cons_succ, List.set_cons_zero, List.set_cons_succ, List.length_cons, List.length_nil, List.getD_cons_zero, List.getD_cons_succ, Nat.reduceAdd, Nat.reduceLT, Nat.zero_lt_succ, Nat.zero_add, ite_self, Bool.false_or, Bool.true_or, iL_len, Int.cast_ofNat_Int, Bool.and_true, Bool.true_and, bi_len_lst, bi_len_tup, bi_len_rl, bi_list_lst, bi_list_tup, bi_list_rl, bi_tuple_lst, bi_tuple_tup, bi_tuple_rl, bi_int_int, bi_int_b, at_two, int_if, at3_0, at3_1, at3_2, at2_0, at2_1, List.take_succ_cons, List.take_zero, List.drop_succ_cons, List.drop_zero, sum_ok, sl_lst, sl_tup, sl_rl, part_t, part_f, if_true, if_false, ite_true, ite_false, reduceIte, Nat.reduceLeDiff, Nat.reduceSub, eq_self, and_self, and_true, true_and, e20, mod_pos (b := 300) (by decide), hk, pw, h1, f1, f2, st_len, st_app, List.length_append, show (numW z).length + 3 ≤ LIM by omega, show (numW z).length + 3 + (numW (1 - z)).length ≤ LIM by omega, h4]
  · exact h.elim
end Lw

set_option Elab.async false
set_option linter.all false
set_option maxRecDepth 100000
set_option autoImplicit false
set_option maxHeartbeats 4000000
namespace Lw
open PySem PySem.Spec L2 Pf PyProof.Rows
instance tbc0 : Tbc := ⟨[]⟩
def top (i : Nat) : Stmt := PySem.Challenge.pw_nextbyrule_k07_rows_shown.main.body.getD i (.Pass ⟨0, 0, 0, 0⟩)
def ec : Ec := ⟨[(("RuleError" : Str), 0), (("NoNumber" : Str), 1), (("NoBy" : Str), 2), (("NoText" : Str), 3), (("TooFar" : Str), 4), (("TooLong" : Str), 5), (("TooBig" : Str), 6), (("NoRow" : Str), 7), (("NoName" : Str), 8)], [6], [(6, some 2), (6, some 8), (6, some 1), (6, some 7), (6, some 3), (6, some 4), (6, some 5), (6, some 6), (6, none)], [some 2, some 8, some 1, some 7, some 3, some 4, some 5, some 6, none], []⟩
abbrev t_l_power : Stmt := top 24
def n_l_power : Nm := ⟨[("_law_many" : Str), ("_law_found" : Str), ("_law_k" : Str)], [], [("range" : Str)], [], ec, false, [], [], none, false⟩
theorem sc_l_power : FnScope n_l_power.N [("_law_many" : Str)] (defScope t_l_power) := ⟨rfl, rfl, rfl, by decide +kernel, rfl, by decide +kernel, by decide +kernel⟩
theorem ck_l_power : mSs n_l_power false (defScope t_l_power) (defScope t_l_power) c_l_power (defBody t_l_power) = true := by decide +kernel
theorem db_l_power : (n_l_power.N.all (fun x => !(x == ("__debug__" : Str)) && !(x == ("__classdict__" : Str))) && decide (([("_law_many" : Str)] : List Str).length ≤ n_l_power.N.length) && !(("_law_power" : Str) == ("__debug__" : Str))) = true := by decide +kernel
abbrev t_l_mix : Stmt := top 16
def n_l_mix : Nm := ⟨[("_law_cell" : Str), ("_law_k" : Str)], [], [], [], ec, false, [], [], none, false⟩
theorem sc_l_mix : FnScope n_l_mix.N [("_law_cell" : Str), ("_law_k" : Str)] (defScope t_l_mix) := ⟨rfl, rfl, rfl, by decide +kernel, rfl, by decide +kernel, by decide +kernel⟩
theorem ck_l_mix : mSs n_l_mix false (defScope t_l_mix) (defScope t_l_mix) c_l_mix (defBody t_l_mix) = true := by decide +kernel
theorem db_l_mix : (n_l_mix.N.all (fun x => !(x == ("__debug__" : Str)) && !(x == ("__classdict__" : Str))) && decide (([("_law_cell" : Str), ("_law_k" : Str)] : List Str).length ≤ n_l_mix.N.length) && !(("_law_mix" : Str) == ("__debug__" : Str))) = true := by decide +kernel
abbrev t_l_by : Stmt := top 17
def n_l_by : Nm := ⟨[("_law_number_here" : Str), ("_law_other" : Str)], [], [], [], ec, false, [], [], none, false⟩
theorem sc_l_by : FnScope n_l_by.N [("_law_number_here" : Str)] (defScope t_l_by) := ⟨rfl, rfl, rfl, by decide +kernel, rfl, by decide +kernel, by decide +kernel⟩
theorem ck_l_by : mSs n_l_by false (defScope t_l_by) (defScope t_l_by) c_l_by (defBody t_l_by) = true := by decide +kernel
theorem db_l_by : (n_l_by.N.all (fun x => !(x == ("__debug__" : Str)) && !(x == ("__classdict__" : Str))) && decide (([("_law_number_here" : Str)] : List Str).length ≤ n_l_by.N.length) && !(("_law_by" : Str) == ("__debug__" : Str))) = true := by decide +kernel
abbrev t_l_number : Stmt := top 18
def n_l_number : Nm := ⟨[("_law_by_here" : Str), ("_law_number_here" : Str), ("_law_kind" : Str)], [], [], [], ec, false, [], [], none, false⟩
theorem sc_l_number : FnScope n_l_number.N [("_law_by_here" : Str), ("_law_number_here" : Str)] (defScope t_l_number) := ⟨rfl, rfl, rfl, by decide +kernel, rfl, by decide +kernel, by decide +kernel⟩
theorem ck_l_number : mSs n_l_number false (defScope t_l_number) (defScope t_l_number) c_l_number (defBody t_l_number) = true := by decide +kernel
theorem db_l_number : (n_l_number.N.all (fun x => !(x == ("__debug__" : Str)) && !(x == ("__classdict__" : Str))) && decide (([("_law_by_here" : Str), ("_law_number_here" : Str)] : List Str).length ≤ n_l_number.N.length) && !(("_law_number" : Str) == ("__debug__" : Str))) = true := by decide +kernel
abbrev t_l_numbers : Stmt := top 19
def n_l_numbers : Nm := ⟨[("_law_by_here" : Str), ("_law_cell" : Str), ("_law_many" : Str), ("_law_found" : Str), ("_law_number_here" : Str), ("_law_k" : Str)], [(("_law_number" : Str), false)], [("range" : Str)], [], ec, false, [], [], none, false⟩
theorem sc_l_numbers : FnScope n_l_numbers.N [("_law_by_here" : Str), ("_law_cell" : Str), ("_law_many" : Str)] (defScope t_l_numbers) := ⟨rfl, rfl, rfl, by decide +kernel, rfl, by decide +kernel, by decide +kernel⟩
theorem ck_l_numbers : mSs n_l_numbers false (defScope t_l_numbers) (defScope t_l_numbers) c_l_numbers (defBody t_l_numbers) = true := by decide +kernel
theorem db_l_numbers : (n_l_numbers.N.all (fun x => !(x == ("__debug__" : Str)) && !(x == ("__classdict__" : Str))) && decide (([("_law_by_here" : Str), ("_law_cell" : Str), ("_law_many" : Str)] : List Str).length ≤ n_l_numbers.N.length) && !(("_law_numbers" : Str) == ("__debug__" : Str))) = true := by decide +kernel
abbrev t_l_row : Stmt := top 20
def n_l_row : Nm := ⟨[("_law_cell" : Str), ("_law_most" : Str), ("_law_number_here" : Str), ("_law_by_here" : Str), ("_law_many" : Str), ("_law_rule" : Str)], [(("_law_mix" : Str), false), (("_law_by" : Str), false), (("_law_numbers" : Str), false)], [("tuple" : Str)], [], ec, false, [], [], none, false⟩
theorem sc_l_row : FnScope n_l_row.N [("_law_cell" : Str), ("_law_most" : Str)] (defScope t_l_row) := ⟨rfl, rfl, rfl, by decide +kernel, rfl, by decide +kernel, by decide +kernel⟩
theorem ck_l_row : mSs n_l_row false (defScope t_l_row) (defScope t_l_row) c_l_row (defBody t_l_row) = true := by decide +kernel
theorem db_l_row : (n_l_row.N.all (fun x => !(x == ("__debug__" : Str)) && !(x == ("__classdict__" : Str))) && decide (([("_law_cell" : Str), ("_law_most" : Str)] : List Str).length ≤ n_l_row.N.length) && !(("_law_row" : Str) == ("__debug__" : Str))) = true := by decide +kernel
abbrev t_number_text : Stmt := top 12
def n_number_text : Nm := ⟨[("number" : Str)], [], [("str" : Str)], [("GREATEST" : Str)], ec, false, [], [], none, false⟩
theorem sc_number_text : FnScope n_number_text.N [("number" : Str)] (defScope t_number_text) := ⟨rfl, rfl, rfl, by decide +kernel, rfl, by decide +kernel, by decide +kernel⟩
theorem ck_number_text : mSs n_number_text false (defScope t_number_text) (defScope t_number_text) c_number_text (defBody t_number_text) = true := by decide +kernel
theorem db_number_text : (n_number_text.N.all (fun x => !(x == ("__debug__" : Str)) && !(x == ("__classdict__" : Str))) && decide (([("number" : Str)] : List Str).length ≤ n_number_text.N.length) && !(("number_text" : Str) == ("__debug__" : Str))) = true := by decide +kernel
abbrev t_shown : Stmt := top 13
def n_shown : Nm := ⟨[("row" : Str), ("words" : Str), ("by" : Str), ("rule" : Str), ("starts" : Str), ("number" : Str)], [(("number_text" : Str), false)], [("str" : Str)], [], ec, false, [], [], none, false⟩
theorem sc_shown : FnScope n_shown.N [("row" : Str)] (defScope t_shown) := ⟨rfl, rfl, rfl, by decide +kernel, rfl, by decide +kernel, by decide +kernel⟩
theorem ck_shown : mSs n_shown false (defScope t_shown) (defScope t_shown) c_shown (defBody t_shown) = true := by decide +kernel
theorem db_shown : (n_shown.N.all (fun x => !(x == ("__debug__" : Str)) && !(x == ("__classdict__" : Str))) && decide (([("row" : Str)] : List Str).length ≤ n_shown.N.length) && !(("shown" : Str) == ("__debug__" : Str))) = true := by decide +kernel
abbrev t_l_great : Stmt := top 25
def n_l_great : Nm := ⟨[("_law_row_here" : Str), ("_law_number_here" : Str), ("_law_rim" : Str), ("_law_thing" : Str), ("_law_at" : Str), ("_law_rule" : Str)], [(("_law_power" : Str), false)], [("max" : Str), ("len" : Str), ("int" : Str)], [], ec, false, [], [], none, false⟩
theorem sc_l_great : FnScope n_l_great.N [("_law_row_here" : Str), ("_law_number_here" : Str)] (defScope t_l_great) := ⟨rfl, rfl, rfl, by decide +kernel, rfl, by decide +kernel, by decide +kernel⟩
theorem ck_l_great : mSs n_l_great false (defScope t_l_great) (defScope t_l_great) c_l_great (defBody t_l_great) = true := by decide +kernel
theorem db_l_great : (n_l_great.N.all (fun x => !(x == ("__debug__" : Str)) && !(x == ("__classdict__" : Str))) && decide (([("_law_row_here" : Str), ("_law_number_here" : Str)] : List Str).length ≤ n_l_great.N.length) && !(("_law_great" : Str) == ("__debug__" : Str))) = true := by decide +kernel
abbrev t_l_asked : Stmt := top 23
def n_l_asked : Nm := ⟨[("_law_row_here" : Str), ("_law_found" : Str), ("_law_clean" : Str), ("e" : Str), ("_law_strange" : Str)], [(("shown" : Str), false)], [("isinstance" : Str), ("ValueError" : Str)], [], ec, false, [], [], none, false⟩
theorem sc_l_asked : FnScope n_l_asked.N [("_law_row_here" : Str)] (defScope t_l_asked) := ⟨rfl, rfl, rfl, by decide +kernel, rfl, by decide +kernel, by decide +kernel⟩
theorem ck_l_asked : mSs n_l_asked false (defScope t_l_asked) (defScope t_l_asked) c_l_asked (defBody t_l_asked) = true := by decide +kernel
theorem db_l_asked : (n_l_asked.N.all (fun x => !(x == ("__debug__" : Str)) && !(x == ("__classdict__" : Str))) && decide (([("_law_row_here" : Str)] : List Str).length ≤ n_l_asked.N.length) && !(("_law_asked" : Str) == ("__debug__" : Str))) = true := by decide +kernel
abbrev t_l_figures : Stmt := top 21
def n_l_figures : Nm := ⟨[("_law_number_here" : Str), ("_law_left" : Str), ("_law_found" : Str)], [], [("abs" : Str), ("reversed" : Str)], [], ec, false, [], [], none, false⟩
theorem sc_l_figures : FnScope n_l_figures.N [("_law_number_here" : Str)] (defScope t_l_figures) := ⟨rfl, rfl, rfl, by decide +kernel, rfl, by decide +kernel, by decide +kernel⟩
theorem ck_l_figures : mSs n_l_figures false (defScope t_l_figures) (defScope t_l_figures) c_l_figures (defBody t_l_figures) = true := by decide +kernel
theorem db_l_figures : (n_l_figures.N.all (fun x => !(x == ("__debug__" : Str)) && !(x == ("__classdict__" : Str))) && decide (([("_law_number_here" : Str)] : List Str).length ≤ n_l_figures.N.length) && !(("_law_figures" : Str) == ("__debug__" : Str))) = true := by decide +kernel
abbrev t_l_cell_at : Stmt := top 15
def n_l_cell_at : Nm := ⟨[("_law_script" : Str), ("_law_k" : Str)], [], [("len" : Str)], [], ec, false, [], [], none, false⟩
theorem sc_l_cell_at : FnScope n_l_cell_at.N [("_law_script" : Str), ("_law_k" : Str)] (defScope t_l_cell_at) := ⟨rfl, rfl, rfl, by decide +kernel, rfl, by decide +kernel, by decide +kernel⟩
theorem ck_l_cell_at : mSs n_l_cell_at false (defScope t_l_cell_at) (defScope t_l_cell_at) c_l_cell_at (defBody t_l_cell_at) = true := by decide +kernel
theorem db_l_cell_at : (n_l_cell_at.N.all (fun x => !(x == ("__debug__" : Str)) && !(x == ("__classdict__" : Str))) && decide (([("_law_script" : Str), ("_law_k" : Str)] : List Str).length ≤ n_l_cell_at.N.length) && !(("_law_cell_at" : Str) == ("__debug__" : Str))) = true := by decide +kernel
abbrev t_l_text : Stmt := top 22
def n_l_text : Nm := ⟨[("_law_row_here" : Str), ("_law_words" : Str), ("_law_number_here" : Str)], [(("_law_figures" : Str), false)], [], [], ec, false, [], [], none, false⟩
theorem sc_l_text : FnScope n_l_text.N [("_law_row_here" : Str)] (defScope t_l_text) := ⟨rfl, rfl, rfl, by decide +kernel, rfl, by decide +kernel, by decide +kernel⟩
theorem ck_l_text : mSs n_l_text false (defScope t_l_text) (defScope t_l_text) c_l_text (defBody t_l_text) = true := by decide +kernel
theorem db_l_text : (n_l_text.N.all (fun x => !(x == ("__debug__" : Str)) && !(x == ("__classdict__" : Str))) && decide (([("_law_row_here" : Str)] : List Str).length ≤ n_l_text.N.length) && !(("_law_text" : Str) == ("__debug__" : Str))) = true := by decide +kernel
abbrev t_law : Stmt := top 26
def n_law : Nm := ⟨[("_law_script" : Str), ("_law_j" : Str), ("_law_long" : Str), ("_law_row_here" : Str), ("_law_found" : Str), ("_law_great_here" : Str), ("_law_refused" : Str), ("_law_told" : Str), ("_law_clean" : Str)], [(("_law_row" : Str), false), (("_law_cell_at" : Str), false), (("shown" : Str), false), (("_law_text" : Str), false), (("_law_great" : Str), false), (("_law_mix" : Str), false), (("_law_asked" : Str), false), (("_law_power" : Str), false), (("_law_figures" : Str), false)], [("range" : Str), ("isinstance" : Str), ("str" : Str)], [], ec, false, [], [], none, false⟩
theorem sc_law : FnScope n_law.N [("_law_script" : Str)] (defScope t_law) := ⟨rfl, rfl, rfl, by decide +kernel, rfl, by decide +kernel, by decide +kernel⟩
theorem ck_law : mSs n_law false (defScope t_law) (defScope t_law) c_law (defBody t_law) = true := by decide +kernel
theorem db_law : (n_law.N.all (fun x => !(x == ("__debug__" : Str)) && !(x == ("__classdict__" : Str))) && decide (([("_law_script" : Str)] : List Str).length ≤ n_law.N.length) && !(("law" : Str) == ("__debug__" : Str))) = true := by decide +kernel
theorem all_mk {P : Program} {w : World} {K : PySem.W.Frag} {h : Heap} {mg : Str → Option Value} {fa : Addr} (X : K.In h) (G : h.Ns mainGlobals mg) (hfa : mg "law" = some (.ref fa))
    (dn_ : PySem.W.nsIn K cStatics "sys.int_max_str_digits" = some none)
    (d_l_power : DefIs K ("_law_power" : Str) t_l_power)
    (d_l_mix : DefIs K ("_law_mix" : Str) t_l_mix)
    (d_l_by : DefIs K ("_law_by" : Str) t_l_by)
    (d_l_number : DefIs K ("_law_number" : Str) t_l_number)
    (d_l_numbers : DefIs K ("_law_numbers" : Str) t_l_numbers)
    (d_l_row : DefIs K ("_law_row" : Str) t_l_row)
    (d_number_text : DefIs K ("number_text" : Str) t_number_text)
    (d_shown : DefIs K ("shown" : Str) t_shown)
    (d_l_great : DefIs K ("_law_great" : Str) t_l_great)
    (d_l_asked : DefIs K ("_law_asked" : Str) t_l_asked)
    (d_l_figures : DefIs K ("_law_figures" : Str) t_l_figures)
    (d_l_cell_at : DefIs K ("_law_cell_at" : Str) t_l_cell_at)
    (d_l_text : DefIs K ("_law_text" : Str) t_l_text)
    (d_law : DefIs K ("law" : Str) t_law)
    (z_range : PySem.W.nsIn K mainGlobals ("range" : Str) = some none)
    (z_tuple : PySem.W.nsIn K mainGlobals ("tuple" : Str) = some none)
    (z_str : PySem.W.nsIn K mainGlobals ("str" : Str) = some none)
    (z_max : PySem.W.nsIn K mainGlobals ("max" : Str) = some none)
    (z_len : PySem.W.nsIn K mainGlobals ("len" : Str) = some none)
    (z_int : PySem.W.nsIn K mainGlobals ("int" : Str) = some none)
    (z_isinstance : PySem.W.nsIn K mainGlobals ("isinstance" : Str) = some none)
    (z_ValueError : PySem.W.nsIn K mainGlobals ("ValueError" : Str) = some none)
    (z_abs : PySem.W.nsIn K mainGlobals ("abs" : Str) = some none)
    (z_reversed : PySem.W.nsIn K mainGlobals ("reversed" : Str) = some none)
    {y_GREATEST : _} (q_GREATEST : PySem.W.nsIn K mainGlobals ("GREATEST" : Str) = some (some (.int (10000000000000000000000000000000000000000000000000000000000000000000000000000000000000000000000000000000000000000000000000000000000000000000000000000000000000000000000000000000000000000000000000000000000000000000000000000000000000000000000000000000000000000000000000000000000000000000000000000000000000000000000000000000000000000000000000000000000000000000000000000000000000000000000000000000000000000000000000000000000000000000000000000000000000000000000000000000000000000000000000000000000000000000000000000000000000000000000000000000000000000000000000000000000000000000000000000000000000000000000000000000000000000000000000000000000000000000000000000000000000000000000000000000000000000000000000000000000000000000000000000000000000000000000000000000000000000000000000000000000000000000000000000000000000000000000000000000000000000000000000000000000000000000000000000000000000000000000000000000000000000000000000000000000000000000000000000000000000000000000000000000000000000000000000000000000000000000000000000000000000000000000000000000000000000000000000000000000000000000000000000000000000000000000000000000000000000000000000000000000000000000000000000000000000000000000000000000000000000000000000000000000000000000000000000000000000000000000000000000000000000000000000000000000000000000000000000000000000000000000000000000000000000000000000000000000000000000000000000000000000000000000000000000000000000000000000000000000000000000000000000000000000000000000000000000000000000000000000000000000000000000000000000000000000000000000000000000000000000000000000000000000000000000000000000000000000000000000000000000000000000000000000000000000000000000000000000000000000000000000000000000000000000000000000000000000000000000000000000000000000000000000000000000000000000000000000000000000000000000000000000000000000000000000000000000000000000000000000000000000000000000000000000000000000000000000000000000000000000000000000000000000000000000000000000000000000000000000000000000000000000000000000000000000000000000000000000000000000000000000000000000000000000000000000000000000000000000000000000000000000000000000000000000000000000000000000000000000000000000000000000000000000000000000000000000000000000000000000000000000000000000000000000000000000000000000000000000000000000000000000000000000000000000000000000000000000000000000000000000000000000000000000000000000000000000000000000000000000000000000000000000000000000000000000000000000000000000000000000000000000000000000000000000000000000000000000000000000000000000000000000000000000000000000000000000000000000000000000000000000000000000000000000000000000000000000000000000000000000000000000000000000000000000000000000000000000000000000000000000000000000000000000000000000000000000000000000000000000000000000000000000000000000000000000000000000000000000000000000000000000000000000000000000000000000000000000000000000000000000000000000000000000000000000000000000000000000000000000000000000000000000000000000000000000000000000000000000000000000000000000000000000000000000000000000000000000000000000000000000000000000000000000000000000000000000000000000000000000000000000000000000000000000000000000000000000000000000000000000000000000000000000000000000000000000000000000000000000000000000000000000000000000000000000000000000000000000000000000000000000000000000000000000000000000000000000000000000000000000000000000000000000000000000000000000000000000000000000000000000000000000000000000000000000000000000000000000000000000000000000000000000000000000000000000000000000000000000000000000000000000000000000000000000000000000000000000000000000000000000000000000000000000000000000000000000000000000000000000000000000000000000000000000000000000000000000000000000000000000000000000000000000000000000000000000000000000000000000000000000000000000000000000000000000000000000000000000000000000000000000000000000000000000000000000000000000000000000000000000000000000000000000000000000000000000000000000000000000000000000000000000000000000000000000000000000000000000) y_GREATEST)))
    {C_RuleError : Addr} (g_RuleError : PySem.W.nsIn K mainGlobals ("RuleError" : Str) = some (some (.ref C_RuleError))) (kp_RuleError : PySem.W.keepIn K (.ref C_RuleError) = true) (sb_RuleError : PySem.W.subIn K (.ref C_RuleError) (.type "BaseException") = some true) (ty_RuleError : PySem.W.typeIn K (.ref C_RuleError) = some (.type "type"))
    (xx_RuleError : PySem.W.excIn K C_RuleError [.type "ValueError", .type "Exception", .type "BaseException", .type "object"] "ValueError.__new__" = true)
    {C_NoNumber : Addr} (g_NoNumber : PySem.W.nsIn K mainGlobals ("NoNumber" : Str) = some (some (.ref C_NoNumber))) (kp_NoNumber : PySem.W.keepIn K (.ref C_NoNumber) = true) (sb_NoNumber : PySem.W.subIn K (.ref C_NoNumber) (.type "BaseException") = some true) (ty_NoNumber : PySem.W.typeIn K (.ref C_NoNumber) = some (.type "type"))
    (xx_NoNumber : PySem.W.excIn K C_NoNumber [.type "ValueError", .type "Exception", .type "BaseException", .type "object"] "ValueError.__new__" = true)
    {C_NoBy : Addr} (g_NoBy : PySem.W.nsIn K mainGlobals ("NoBy" : Str) = some (some (.ref C_NoBy))) (kp_NoBy : PySem.W.keepIn K (.ref C_NoBy) = true) (sb_NoBy : PySem.W.subIn K (.ref C_NoBy) (.type "BaseException") = some true) (ty_NoBy : PySem.W.typeIn K (.ref C_NoBy) = some (.type "type"))
    (xx_NoBy : PySem.W.excIn K C_NoBy [.type "ValueError", .type "Exception", .type "BaseException", .type "object"] "ValueError.__new__" = true)
    {C_NoText : Addr} (g_NoText : PySem.W.nsIn K mainGlobals ("NoText" : Str) = some (some (.ref C_NoText))) (kp_NoText : PySem.W.keepIn K (.ref C_NoText) = true) (sb_NoText : PySem.W.subIn K (.ref C_NoText) (.type "BaseException") = some true) (ty_NoText : PySem.W.typeIn K (.ref C_NoText) = some (.type "type"))
    (xx_NoText : PySem.W.excIn K C_NoText [.type "ValueError", .type "Exception", .type "BaseException", .type "object"] "ValueError.__new__" = true)
    {C_TooFar : Addr} (g_TooFar : PySem.W.nsIn K mainGlobals ("TooFar" : Str) = some (some (.ref C_TooFar))) (kp_TooFar : PySem.W.keepIn K (.ref C_TooFar) = true) (sb_TooFar : PySem.W.subIn K (.ref C_TooFar) (.type "BaseException") = some true) (ty_TooFar : PySem.W.typeIn K (.ref C_TooFar) = some (.type "type"))
    (xx_TooFar : PySem.W.excIn K C_TooFar [.type "ValueError", .type "Exception", .type "BaseException", .type "object"] "ValueError.__new__" = true)
    {C_TooLong : Addr} (g_TooLong : PySem.W.nsIn K mainGlobals ("TooLong" : Str) = some (some (.ref C_TooLong))) (kp_TooLong : PySem.W.keepIn K (.ref C_TooLong) = true) (sb_TooLong : PySem.W.subIn K (.ref C_TooLong) (.type "BaseException") = some true) (ty_TooLong : PySem.W.typeIn K (.ref C_TooLong) = some (.type "type"))
    (xx_TooLong : PySem.W.excIn K C_TooLong [.type "ValueError", .type "Exception", .type "BaseException", .type "object"] "ValueError.__new__" = true)
    {C_TooBig : Addr} (g_TooBig : PySem.W.nsIn K mainGlobals ("TooBig" : Str) = some (some (.ref C_TooBig))) (kp_TooBig : PySem.W.keepIn K (.ref C_TooBig) = true) (sb_TooBig : PySem.W.subIn K (.ref C_TooBig) (.type "BaseException") = some true) (ty_TooBig : PySem.W.typeIn K (.ref C_TooBig) = some (.type "type"))
    (xx_TooBig : PySem.W.excIn K C_TooBig [.type "ValueError", .type "Exception", .type "BaseException", .type "object"] "ValueError.__new__" = true)
    {C_NoRow : Addr} (g_NoRow : PySem.W.nsIn K mainGlobals ("NoRow" : Str) = some (some (.ref C_NoRow))) (kp_NoRow : PySem.W.keepIn K (.ref C_NoRow) = true) (sb_NoRow : PySem.W.subIn K (.ref C_NoRow) (.type "BaseException") = some true) (ty_NoRow : PySem.W.typeIn K (.ref C_NoRow) = some (.type "type"))
    (xx_NoRow : PySem.W.excIn K C_NoRow [.type "ValueError", .type "Exception", .type "BaseException", .type "object"] "ValueError.__new__" = true)
    {C_NoName : Addr} (g_NoName : PySem.W.nsIn K mainGlobals ("NoName" : Str) = some (some (.ref C_NoName))) (kp_NoName : PySem.W.keepIn K (.ref C_NoName) = true) (sb_NoName : PySem.W.subIn K (.ref C_NoName) (.type "BaseException") = some true) (ty_NoName : PySem.W.typeIn K (.ref C_NoName) = some (.type "type"))
    (xx_NoName : PySem.W.excIn K C_NoName [.type "ValueError", .type "Exception", .type "BaseException", .type "object"] "ValueError.__new__" = true)
    (hg_TooBig : PySem.W.findIn K (.ref C_TooBig) "__getattribute__" = some (some (.builtin "BaseException.__getattribute__")))
    (hk_TooBig : PySem.W.findIn K (.ref C_TooBig) "__getattr__" = some none)
    (hd_TooBig : PySem.W.hasDictIn K C_TooBig = true)
    (ha_TooBig : PySem.W.findIn K (.ref C_TooBig) "__class__" = some (some (.builtin "object.__class__")))
    (hm_TooBig : PySem.W.mroIn K C_TooBig (.type "object") = some true)
    (em_TooBig : PySem.W.exmOne K (.ref C_TooBig) (.ref C_RuleError) = some true)
    (hn_ : PySem.W.specialIn K (.builtin "object.__class__") "__get__" = some (some (.builtin "getset_descriptor.__get__"))) (ht_ : PySem.W.takesIn K (.builtin "object.__class__") = some true)
    (kt_TooBig_NoBy : PySem.W.kitOne K (.ref C_TooBig) (.ref C_NoBy) = some false)
    (kt_TooBig_NoName : PySem.W.kitOne K (.ref C_TooBig) (.ref C_NoName) = some false)
    (kt_TooBig_NoNumber : PySem.W.kitOne K (.ref C_TooBig) (.ref C_NoNumber) = some false)
    (kt_TooBig_NoRow : PySem.W.kitOne K (.ref C_TooBig) (.ref C_NoRow) = some false)
    (kt_TooBig_NoText : PySem.W.kitOne K (.ref C_TooBig) (.ref C_NoText) = some false)
    (kt_TooBig_TooFar : PySem.W.kitOne K (.ref C_TooBig) (.ref C_TooFar) = some false)
    (kt_TooBig_TooLong : PySem.W.kitOne K (.ref C_TooBig) (.ref C_TooLong) = some false)
    (kt_TooBig_TooBig : PySem.W.kitOne K (.ref C_TooBig) (.ref C_TooBig) = some true)
    (kt_TooBig_VE : PySem.W.kitOne K (.ref C_TooBig) (.type "ValueError") = some true)
    (kn_NoBy : PySem.W.kitOne K (.type "NoneType") (.ref C_NoBy) = some false)
    (kn_NoName : PySem.W.kitOne K (.type "NoneType") (.ref C_NoName) = some false)
    (kn_NoNumber : PySem.W.kitOne K (.type "NoneType") (.ref C_NoNumber) = some false)
    (kn_NoRow : PySem.W.kitOne K (.type "NoneType") (.ref C_NoRow) = some false)
    (kn_NoText : PySem.W.kitOne K (.type "NoneType") (.ref C_NoText) = some false)
    (kn_TooFar : PySem.W.kitOne K (.type "NoneType") (.ref C_TooFar) = some false)
    (kn_TooLong : PySem.W.kitOne K (.type "NoneType") (.ref C_TooLong) = some false)
    (kn_TooBig : PySem.W.kitOne K (.type "NoneType") (.ref C_TooBig) = some false)
    (kn_VE : PySem.W.kitOne K (.type "NoneType") (.type "ValueError") = some false)
    : LawOk K P w mg fa ("_law_script" : Str) 4 s_law := by
  obtain ⟨f_l_power, e_l_power, a_l_power, F_l_power⟩ := d_l_power
  replace a_l_power := PySem.W.mg_of X G a_l_power
  obtain ⟨f_l_mix, e_l_mix, a_l_mix, F_l_mix⟩ := d_l_mix
  replace a_l_mix := PySem.W.mg_of X G a_l_mix
  obtain ⟨f_l_by, e_l_by, a_l_by, F_l_by⟩ := d_l_by
  replace a_l_by := PySem.W.mg_of X G a_l_by
  obtain ⟨f_l_number, e_l_number, a_l_number, F_l_number⟩ := d_l_number
  replace a_l_number := PySem.W.mg_of X G a_l_number
  obtain ⟨f_l_numbers, e_l_numbers, a_l_numbers, F_l_numbers⟩ := d_l_numbers
  replace a_l_numbers := PySem.W.mg_of X G a_l_numbers
  obtain ⟨f_l_row, e_l_row, a_l_row, F_l_row⟩ := d_l_row
  replace a_l_row := PySem.W.mg_of X G a_l_row
  obtain ⟨f_number_text, e_number_text, a_number_text, F_number_text⟩ := d_number_text
  replace a_number_text := PySem.W.mg_of X G a_number_text
  obtain ⟨f_shown, e_shown, a_shown, F_shown⟩ := d_shown
  replace a_shown := PySem.W.mg_of X G a_shown
  obtain ⟨f_l_great, e_l_great, a_l_great, F_l_great⟩ := d_l_great
  replace a_l_great := PySem.W.mg_of X G a_l_great
  obtain ⟨f_l_asked, e_l_asked, a_l_asked, F_l_asked⟩ := d_l_asked
  replace a_l_asked := PySem.W.mg_of X G a_l_asked
  obtain ⟨f_l_figures, e_l_figures, a_l_figures, F_l_figures⟩ := d_l_figures
  replace a_l_figures := PySem.W.mg_of X G a_l_figures
  obtain ⟨f_l_cell_at, e_l_cell_at, a_l_cell_at, F_l_cell_at⟩ := d_l_cell_at
  replace a_l_cell_at := PySem.W.mg_of X G a_l_cell_at
  obtain ⟨f_l_text, e_l_text, a_l_text, F_l_text⟩ := d_l_text
  replace a_l_text := PySem.W.mg_of X G a_l_text
  obtain ⟨f_law, e_law, a_law, F_law⟩ := d_law
  have a_lawq := hfa.symm.trans (PySem.W.mg_of X G a_law)
  cases a_lawq
  replace z_range := PySem.W.mg_none_of X G z_range
  replace z_tuple := PySem.W.mg_none_of X G z_tuple
  replace z_str := PySem.W.mg_none_of X G z_str
  replace z_max := PySem.W.mg_none_of X G z_max
  replace z_len := PySem.W.mg_none_of X G z_len
  replace z_int := PySem.W.mg_none_of X G z_int
  replace z_isinstance := PySem.W.mg_none_of X G z_isinstance
  replace z_ValueError := PySem.W.mg_none_of X G z_ValueError
  replace z_abs := PySem.W.mg_none_of X G z_abs
  replace z_reversed := PySem.W.mg_none_of X G z_reversed
  replace q_GREATEST := PySem.W.mg_of X G q_GREATEST
  have n_TooBig := g_TooBig
  have E_RuleError : ExG K mg ("RuleError" : Str) C_RuleError := ⟨by decide +kernel, PySem.W.mg_of X G g_RuleError, kp_RuleError, xx_RuleError, sb_RuleError, ty_RuleError⟩
  have E_NoNumber : ExG K mg ("NoNumber" : Str) C_NoNumber := ⟨by decide +kernel, PySem.W.mg_of X G g_NoNumber, kp_NoNumber, xx_NoNumber, sb_NoNumber, ty_NoNumber⟩
  have E_NoBy : ExG K mg ("NoBy" : Str) C_NoBy := ⟨by decide +kernel, PySem.W.mg_of X G g_NoBy, kp_NoBy, xx_NoBy, sb_NoBy, ty_NoBy⟩
  have E_NoText : ExG K mg ("NoText" : Str) C_NoText := ⟨by decide +kernel, PySem.W.mg_of X G g_NoText, kp_NoText, xx_NoText, sb_NoText, ty_NoText⟩
  have E_TooFar : ExG K mg ("TooFar" : Str) C_TooFar := ⟨by decide +kernel, PySem.W.mg_of X G g_TooFar, kp_TooFar, xx_TooFar, sb_TooFar, ty_TooFar⟩
  have E_TooLong : ExG K mg ("TooLong" : Str) C_TooLong := ⟨by decide +kernel, PySem.W.mg_of X G g_TooLong, kp_TooLong, xx_TooLong, sb_TooLong, ty_TooLong⟩
  have E_TooBig : ExG K mg ("TooBig" : Str) C_TooBig := ⟨by decide +kernel, PySem.W.mg_of X G g_TooBig, kp_TooBig, xx_TooBig, sb_TooBig, ty_TooBig⟩
  have E_NoRow : ExG K mg ("NoRow" : Str) C_NoRow := ⟨by decide +kernel, PySem.W.mg_of X G g_NoRow, kp_NoRow, xx_NoRow, sb_NoRow, ty_NoRow⟩
  have E_NoName : ExG K mg ("NoName" : Str) C_NoName := ⟨by decide +kernel, PySem.W.mg_of X G g_NoName, kp_NoName, xx_NoName, sb_NoName, ty_NoName⟩
  have E_ec : EcOk K mg (fun c => ([C_RuleError, C_NoNumber, C_NoBy, C_NoText, C_TooFar, C_TooLong, C_TooBig, C_NoRow, C_NoName] : List Addr).getD c 0) ec := by
    refine ⟨?_, ?_, ?_, ?_, ?_, ?_, ?_, dn_⟩
    · intro c hc
      have hc : c ∈ ([(("RuleError" : Str), 0), (("NoNumber" : Str), 1), (("NoBy" : Str), 2), (("NoText" : Str), 3), (("TooFar" : Str), 4), (("TooLong" : Str), 5), (("TooBig" : Str), 6), (("NoRow" : Str), 7), (("NoName" : Str), 8)] : List (Str × Nat)) := hc
      simp only [List.mem_cons, List.not_mem_nil, or_false] at hc
      rcases hc with rfl | rfl | rfl | rfl | rfl | rfl | rfl | rfl | rfl
      · exact E_RuleError
      · exact E_NoNumber
      · exact E_NoBy
      · exact E_NoText
      · exact E_TooFar
      · exact E_TooLong
      · exact E_TooBig
      · exact E_NoRow
      · exact E_NoName
    · intro c hc
      have hc : c ∈ ([6] : List Nat) := hc
      simp only [List.mem_cons, List.not_mem_nil, or_false] at hc
      rcases hc with rfl
      · exact n_TooBig
    · intro c hc
      have hc : c ∈ ([6] : List Nat) := hc
      simp only [List.mem_cons, List.not_mem_nil, or_false] at hc
      rcases hc with rfl
      · exact (⟨hg_TooBig, hk_TooBig, sb_TooBig, hd_TooBig, ha_TooBig, hn_, ht_, hm_TooBig⟩ : ExcC K C_TooBig)
    · intro c hc
      have hc : c ∈ ([(6, some 2), (6, some 8), (6, some 1), (6, some 7), (6, some 3), (6, some 4), (6, some 5), (6, some 6), (6, none)] : List (Nat × Option Nat)) := hc
      simp only [List.mem_cons, List.not_mem_nil, or_false] at hc
      rcases hc with rfl | rfl | rfl | rfl | rfl | rfl | rfl | rfl | rfl
      · exact kt_TooBig_NoBy
      · exact kt_TooBig_NoName
      · exact kt_TooBig_NoNumber
      · exact kt_TooBig_NoRow
      · exact kt_TooBig_NoText
      · exact kt_TooBig_TooFar
      · exact kt_TooBig_TooLong
      · exact kt_TooBig_TooBig
      · exact kt_TooBig_VE
    · intro c hc
      have hc : c ∈ ([some 2, some 8, some 1, some 7, some 3, some 4, some 5, some 6, none] : List (Option Nat)) := hc
      simp only [List.mem_cons, List.not_mem_nil, or_false] at hc
      rcases hc with rfl | rfl | rfl | rfl | rfl | rfl | rfl | rfl | rfl
      · exact kn_NoBy
      · exact kn_NoName
      · exact kn_NoNumber
      · exact kn_NoRow
      · exact kn_NoText
      · exact kn_TooFar
      · exact kn_TooLong
      · exact kn_TooBig
      · exact kn_VE
    · intro c hc
      have hc : c ∈ ([6] : List Nat) := hc
      simp only [List.mem_cons, List.not_mem_nil, or_false] at hc
      rcases hc with rfl
      · exact em_TooBig
    · intro c hc
      have hc : c ∈ ([] : List (Nat × Nat)) := hc
      exact nomatch hc
  refine ⟨e_law, binds_law F_law fun _ _ _ _ _ _ _ => rfl, fun base KB GB => ?_⟩
  clear X G KB GB
  have A_l_power : Fn.At P w K mg base (fun c => ([C_RuleError, C_NoNumber, C_NoBy, C_NoText, C_TooFar, C_TooLong, C_TooBig, C_NoRow, C_NoName] : List Addr).getD c 0) 1 ⟨("_law_power" : Str), [("_law_many" : Str)], f_l_power, e_l_power, s_l_power, false⟩ := def_ok (nm := n_l_power) (ps := [("_law_many" : Str)]) (body := c_l_power) (fr := false) (fd := e_l_power) [] [] [] a_l_power F_l_power sc_l_power at_nil ato_nil (bl_cons z_range bl_nil) E_ec rfl cn_nil rfl rfl rfl ⟨rfl, rfl, rfl⟩ db_l_power ck_l_power (F_l_power.binds (ps := [("_law_many" : Str)]) fun _ _ _ _ _ _ us hl => match us, hl with | [_], _ => rfl)
  have A_l_mix : Fn.At P w K mg base (fun c => ([C_RuleError, C_NoNumber, C_NoBy, C_NoText, C_TooFar, C_TooLong, C_TooBig, C_NoRow, C_NoName] : List Addr).getD c 0) 1 ⟨("_law_mix" : Str), [("_law_cell" : Str), ("_law_k" : Str)], f_l_mix, e_l_mix, s_l_mix, false⟩ := def_ok (nm := n_l_mix) (ps := [("_law_cell" : Str), ("_law_k" : Str)]) (body := c_l_mix) (fr := false) (fd := e_l_mix) [] [] [] a_l_mix F_l_mix sc_l_mix at_nil ato_nil bl_nil E_ec rfl cn_nil rfl rfl rfl ⟨rfl, rfl, rfl⟩ db_l_mix ck_l_mix (F_l_mix.binds (ps := [("_law_cell" : Str), ("_law_k" : Str)]) fun _ _ _ _ _ _ us hl => match us, hl with | [_, _], _ => rfl)
  have A_l_by : Fn.At P w K mg base (fun c => ([C_RuleError, C_NoNumber, C_NoBy, C_NoText, C_TooFar, C_TooLong, C_TooBig, C_NoRow, C_NoName] : List Addr).getD c 0) 1 ⟨("_law_by" : Str), [("_law_number_here" : Str)], f_l_by, e_l_by, s_l_by, false⟩ := def_ok (nm := n_l_by) (ps := [("_law_number_here" : Str)]) (body := c_l_by) (fr := false) (fd := e_l_by) [] [] [] a_l_by F_l_by sc_l_by at_nil ato_nil bl_nil E_ec rfl cn_nil rfl rfl rfl ⟨rfl, rfl, rfl⟩ db_l_by ck_l_by (F_l_by.binds (ps := [("_law_number_here" : Str)]) fun _ _ _ _ _ _ us hl => match us, hl with | [_], _ => rfl)
  have A_l_number : Fn.At P w K mg base (fun c => ([C_RuleError, C_NoNumber, C_NoBy, C_NoText, C_TooFar, C_TooLong, C_TooBig, C_NoRow, C_NoName] : List Addr).getD c 0) 1 ⟨("_law_number" : Str), [("_law_by_here" : Str), ("_law_number_here" : Str)], f_l_number, e_l_number, s_l_number, false⟩ := def_ok (nm := n_l_number) (ps := [("_law_by_here" : Str), ("_law_number_here" : Str)]) (body := c_l_number) (fr := false) (fd := e_l_number) [] [] [] a_l_number F_l_number sc_l_number at_nil ato_nil bl_nil E_ec rfl cn_nil rfl rfl rfl ⟨rfl, rfl, rfl⟩ db_l_number ck_l_number (F_l_number.binds (ps := [("_law_by_here" : Str), ("_law_number_here" : Str)]) fun _ _ _ _ _ _ us hl => match us, hl with | [_, _], _ => rfl)
  have A_l_numbers : Fn.At P w K mg base (fun c => ([C_RuleError, C_NoNumber, C_NoBy, C_NoText, C_TooFar, C_TooLong, C_TooBig, C_NoRow, C_NoName] : List Addr).getD c 0) 2 ⟨("_law_numbers" : Str), [("_law_by_here" : Str), ("_law_cell" : Str), ("_law_many" : Str)], f_l_numbers, e_l_numbers, s_l_numbers, false⟩ := def_ok (nm := n_l_numbers) (ps := [("_law_by_here" : Str), ("_law_cell" : Str), ("_law_many" : Str)]) (body := c_l_numbers) (fr := false) (fd := e_l_numbers) [⟨("_law_number" : Str), [("_law_by_here" : Str), ("_law_number_here" : Str)], f_l_number, e_l_number, s_l_number, false⟩] [] [] a_l_numbers F_l_numbers sc_l_numbers (at_cons A_l_number (by decide) at_nil) ato_nil (bl_cons z_range bl_nil) E_ec rfl cn_nil rfl rfl rfl ⟨rfl, rfl, rfl⟩ db_l_numbers ck_l_numbers (F_l_numbers.binds (ps := [("_law_by_here" : Str), ("_law_cell" : Str), ("_law_many" : Str)]) fun _ _ _ _ _ _ us hl => match us, hl with | [_, _, _], _ => rfl)
  have A_l_row : Fn.At P w K mg base (fun c => ([C_RuleError, C_NoNumber, C_NoBy, C_NoText, C_TooFar, C_TooLong, C_TooBig, C_NoRow, C_NoName] : List Addr).getD c 0) 3 ⟨("_law_row" : Str), [("_law_cell" : Str), ("_law_most" : Str)], f_l_row, e_l_row, s_l_row, false⟩ := def_ok (nm := n_l_row) (ps := [("_law_cell" : Str), ("_law_most" : Str)]) (body := c_l_row) (fr := false) (fd := e_l_row) [⟨("_law_mix" : Str), [("_law_cell" : Str), ("_law_k" : Str)], f_l_mix, e_l_mix, s_l_mix, false⟩, ⟨("_law_by" : Str), [("_law_number_here" : Str)], f_l_by, e_l_by, s_l_by, false⟩, ⟨("_law_numbers" : Str), [("_law_by_here" : Str), ("_law_cell" : Str), ("_law_many" : Str)], f_l_numbers, e_l_numbers, s_l_numbers, false⟩] [] [] a_l_row F_l_row sc_l_row (at_cons A_l_mix (by decide) (at_cons A_l_by (by decide) (at_cons A_l_numbers (by decide) at_nil))) ato_nil (bl_cons z_tuple bl_nil) E_ec rfl cn_nil rfl rfl rfl ⟨rfl, rfl, rfl⟩ db_l_row ck_l_row (F_l_row.binds (ps := [("_law_cell" : Str), ("_law_most" : Str)]) fun _ _ _ _ _ _ us hl => match us, hl with | [_, _], _ => rfl)
  have A_number_text : Fn.At P w K mg base (fun c => ([C_RuleError, C_NoNumber, C_NoBy, C_NoText, C_TooFar, C_TooLong, C_TooBig, C_NoRow, C_NoName] : List Addr).getD c 0) 1 ⟨("number_text" : Str), [("number" : Str)], f_number_text, e_number_text, s_number_text, false⟩ := def_ok (nm := n_number_text) (ps := [("number" : Str)]) (body := c_number_text) (fr := false) (fd := e_number_text) [] [] [(("GREATEST" : Str), cn_GREATEST)] a_number_text F_number_text sc_number_text at_nil ato_nil (bl_cons z_str bl_nil) E_ec rfl (cn_cons (p := (("GREATEST" : Str), cn_GREATEST)) ⟨by decide +kernel, V.int (10000000000000000000000000000000000000000000000000000000000000000000000000000000000000000000000000000000000000000000000000000000000000000000000000000000000000000000000000000000000000000000000000000000000000000000000000000000000000000000000000000000000000000000000000000000000000000000000000000000000000000000000000000000000000000000000000000000000000000000000000000000000000000000000000000000000000000000000000000000000000000000000000000000000000000000000000000000000000000000000000000000000000000000000000000000000000000000000000000000000000000000000000000000000000000000000000000000000000000000000000000000000000000000000000000000000000000000000000000000000000000000000000000000000000000000000000000000000000000000000000000000000000000000000000000000000000000000000000000000000000000000000000000000000000000000000000000000000000000000000000000000000000000000000000000000000000000000000000000000000000000000000000000000000000000000000000000000000000000000000000000000000000000000000000000000000000000000000000000000000000000000000000000000000000000000000000000000000000000000000000000000000000000000000000000000000000000000000000000000000000000000000000000000000000000000000000000000000000000000000000000000000000000000000000000000000000000000000000000000000000000000000000000000000000000000000000000000000000000000000000000000000000000000000000000000000000000000000000000000000000000000000000000000000000000000000000000000000000000000000000000000000000000000000000000000000000000000000000000000000000000000000000000000000000000000000000000000000000000000000000000000000000000000000000000000000000000000000000000000000000000000000000000000000000000000000000000000000000000000000000000000000000000000000000000000000000000000000000000000000000000000000000000000000000000000000000000000000000000000000000000000000000000000000000000000000000000000000000000000000000000000000000000000000000000000000000000000000000000000000000000000000000000000000000000000000000000000000000000000000000000000000000000000000000000000000000000000000000000000000000000000000000000000000000000000000000000000000000000000000000000000000000000000000000000000000000000000000000000000000000000000000000000000000000000000000000000000000000000000000000000000000000000000000000000000000000000000000000000000000000000000000000000000000000000000000000000000000000000000000000000000000000000000000000000000000000000000000000000000000000000000000000000000000000000000000000000000000000000000000000000000000000000000000000000000000000000000000000000000000000000000000000000000000000000000000000000000000000000000000000000000000000000000000000000000000000000000000000000000000000000000000000000000000000000000000000000000000000000000000000000000000000000000000000000000000000000000000000000000000000000000000000000000000000000000000000000000000000000000000000000000000000000000000000000000000000000000000000000000000000000000000000000000000000000000000000000000000000000000000000000000000000000000000000000000000000000000000000000000000000000000000000000000000000000000000000000000000000000000000000000000000000000000000000000000000000000000000000000000000000000000000000000000000000000000000000000000000000000000000000000000000000000000000000000000000000000000000000000000000000000000000000000000000000000000000000000000000000000000000000000000000000000000000000000000000000000000000000000000000000000000000000000000000000000000000000000000000000000000000000000000000000000000000000000000000000000000000000000000000000000000000000000000000000000000000000000000000000000000000000000000000000000000000000000000000000000000000000000000000000000000000000000000000000000000000000000000000000000000000000000000000000000000000000000000000000000000000000000000000000000000000000000000000000000000000000000000000000000000000000000000000000000000000000000000000000000000000000000000000000000000000000000000000000000000000000000000000000000000000000000000000000000000000000000000000000000000000000000000000000000000000000000000000000000000000000000), _, q_GREATEST, ⟨_, rfl⟩, fun _ => rep_int.mpr rfl⟩ cn_nil) rfl rfl rfl ⟨rfl, rfl, rfl⟩ db_number_text ck_number_text (F_number_text.binds (ps := [("number" : Str)]) fun _ _ _ _ _ _ us hl => match us, hl with | [_], _ => rfl)
  have A_shown : Fn.At P w K mg base (fun c => ([C_RuleError, C_NoNumber, C_NoBy, C_NoText, C_TooFar, C_TooLong, C_TooBig, C_NoRow, C_NoName] : List Addr).getD c 0) 2 ⟨("shown" : Str), [("row" : Str)], f_shown, e_shown, s_shown, false⟩ := def_ok (nm := n_shown) (ps := [("row" : Str)]) (body := c_shown) (fr := false) (fd := e_shown) [⟨("number_text" : Str), [("number" : Str)], f_number_text, e_number_text, s_number_text, false⟩] [] [] a_shown F_shown sc_shown (at_cons A_number_text (by decide) at_nil) ato_nil (bl_cons z_str bl_nil) E_ec rfl cn_nil rfl rfl rfl ⟨rfl, rfl, rfl⟩ db_shown ck_shown (F_shown.binds (ps := [("row" : Str)]) fun _ _ _ _ _ _ us hl => match us, hl with | [_], _ => rfl)
  have A_l_great : Fn.At P w K mg base (fun c => ([C_RuleError, C_NoNumber, C_NoBy, C_NoText, C_TooFar, C_TooLong, C_TooBig, C_NoRow, C_NoName] : List Addr).getD c 0) 2 ⟨("_law_great" : Str), [("_law_row_here" : Str), ("_law_number_here" : Str)], f_l_great, e_l_great, s_l_great, false⟩ := def_ok (nm := n_l_great) (ps := [("_law_row_here" : Str), ("_law_number_here" : Str)]) (body := c_l_great) (fr := false) (fd := e_l_great) [⟨("_law_power" : Str), [("_law_many" : Str)], f_l_power, e_l_power, s_l_power, false⟩] [] [] a_l_great F_l_great sc_l_great (at_cons A_l_power (by decide) at_nil) ato_nil (bl_cons z_max (bl_cons z_len (bl_cons z_int bl_nil))) E_ec rfl cn_nil rfl rfl rfl ⟨rfl, rfl, rfl⟩ db_l_great ck_l_great (F_l_great.binds (ps := [("_law_row_here" : Str), ("_law_number_here" : Str)]) fun _ _ _ _ _ _ us hl => match us, hl with | [_, _], _ => rfl)
  have A_l_asked : Fn.At P w K mg base (fun c => ([C_RuleError, C_NoNumber, C_NoBy, C_NoText, C_TooFar, C_TooLong, C_TooBig, C_NoRow, C_NoName] : List Addr).getD c 0) 3 ⟨("_law_asked" : Str), [("_law_row_here" : Str)], f_l_asked, e_l_asked, s_l_asked, false⟩ := def_ok (nm := n_l_asked) (ps := [("_law_row_here" : Str)]) (body := c_l_asked) (fr := false) (fd := e_l_asked) [⟨("shown" : Str), [("row" : Str)], f_shown, e_shown, s_shown, false⟩] [] [] a_l_asked F_l_asked sc_l_asked (at_cons A_shown (by decide) at_nil) ato_nil (bl_cons z_isinstance (bl_cons z_ValueError bl_nil)) E_ec rfl cn_nil rfl rfl rfl ⟨rfl, rfl, rfl⟩ db_l_asked ck_l_asked (F_l_asked.binds (ps := [("_law_row_here" : Str)]) fun _ _ _ _ _ _ us hl => match us, hl with | [_], _ => rfl)
  have A_l_figures : Fn.At P w K mg base (fun c => ([C_RuleError, C_NoNumber, C_NoBy, C_NoText, C_TooFar, C_TooLong, C_TooBig, C_NoRow, C_NoName] : List Addr).getD c 0) 1 ⟨("_law_figures" : Str), [("_law_number_here" : Str)], f_l_figures, e_l_figures, s_l_figures, false⟩ := def_ok (nm := n_l_figures) (ps := [("_law_number_here" : Str)]) (body := c_l_figures) (fr := false) (fd := e_l_figures) [] [] [] a_l_figures F_l_figures sc_l_figures at_nil ato_nil (bl_cons z_abs (bl_cons z_reversed bl_nil)) E_ec rfl cn_nil rfl rfl rfl ⟨rfl, rfl, rfl⟩ db_l_figures ck_l_figures (F_l_figures.binds (ps := [("_law_number_here" : Str)]) fun _ _ _ _ _ _ us hl => match us, hl with | [_], _ => rfl)
  have A_l_cell_at : Fn.At P w K mg base (fun c => ([C_RuleError, C_NoNumber, C_NoBy, C_NoText, C_TooFar, C_TooLong, C_TooBig, C_NoRow, C_NoName] : List Addr).getD c 0) 1 ⟨("_law_cell_at" : Str), [("_law_script" : Str), ("_law_k" : Str)], f_l_cell_at, e_l_cell_at, s_l_cell_at, false⟩ := def_ok (nm := n_l_cell_at) (ps := [("_law_script" : Str), ("_law_k" : Str)]) (body := c_l_cell_at) (fr := false) (fd := e_l_cell_at) [] [] [] a_l_cell_at F_l_cell_at sc_l_cell_at at_nil ato_nil (bl_cons z_len bl_nil) E_ec rfl cn_nil rfl rfl rfl ⟨rfl, rfl, rfl⟩ db_l_cell_at ck_l_cell_at (F_l_cell_at.binds (ps := [("_law_script" : Str), ("_law_k" : Str)]) fun _ _ _ _ _ _ us hl => match us, hl with | [_, _], _ => rfl)
  have A_l_text : Fn.At P w K mg base (fun c => ([C_RuleError, C_NoNumber, C_NoBy, C_NoText, C_TooFar, C_TooLong, C_TooBig, C_NoRow, C_NoName] : List Addr).getD c 0) 2 ⟨("_law_text" : Str), [("_law_row_here" : Str)], f_l_text, e_l_text, s_l_text, false⟩ := def_ok (nm := n_l_text) (ps := [("_law_row_here" : Str)]) (body := c_l_text) (fr := false) (fd := e_l_text) [⟨("_law_figures" : Str), [("_law_number_here" : Str)], f_l_figures, e_l_figures, s_l_figures, false⟩] [] [] a_l_text F_l_text sc_l_text (at_cons A_l_figures (by decide) at_nil) ato_nil bl_nil E_ec rfl cn_nil rfl rfl rfl ⟨rfl, rfl, rfl⟩ db_l_text ck_l_text (F_l_text.binds (ps := [("_law_row_here" : Str)]) fun _ _ _ _ _ _ us hl => match us, hl with | [_], _ => rfl)
  have A_law : Fn.At P w K mg base (fun c => ([C_RuleError, C_NoNumber, C_NoBy, C_NoText, C_TooFar, C_TooLong, C_TooBig, C_NoRow, C_NoName] : List Addr).getD c 0) 4 ⟨"law", [("_law_script" : Str)], fa, e_law, s_law, false⟩ := def_ok (nm := n_law) (ps := [("_law_script" : Str)]) (body := c_law) (fr := false) (fd := e_law) [⟨("_law_row" : Str), [("_law_cell" : Str), ("_law_most" : Str)], f_l_row, e_l_row, s_l_row, false⟩, ⟨("_law_cell_at" : Str), [("_law_script" : Str), ("_law_k" : Str)], f_l_cell_at, e_l_cell_at, s_l_cell_at, false⟩, ⟨("shown" : Str), [("row" : Str)], f_shown, e_shown, s_shown, false⟩, ⟨("_law_text" : Str), [("_law_row_here" : Str)], f_l_text, e_l_text, s_l_text, false⟩, ⟨("_law_great" : Str), [("_law_row_here" : Str), ("_law_number_here" : Str)], f_l_great, e_l_great, s_l_great, false⟩, ⟨("_law_mix" : Str), [("_law_cell" : Str), ("_law_k" : Str)], f_l_mix, e_l_mix, s_l_mix, false⟩, ⟨("_law_asked" : Str), [("_law_row_here" : Str)], f_l_asked, e_l_asked, s_l_asked, false⟩, ⟨("_law_power" : Str), [("_law_many" : Str)], f_l_power, e_l_power, s_l_power, false⟩, ⟨("_law_figures" : Str), [("_law_number_here" : Str)], f_l_figures, e_l_figures, s_l_figures, false⟩] [] [] hfa F_law sc_law (at_cons A_l_row (by decide) (at_cons A_l_cell_at (by decide) (at_cons A_shown (by decide) (at_cons A_l_text (by decide) (at_cons A_l_great (by decide) (at_cons A_l_mix (by decide) (at_cons A_l_asked (by decide) (at_cons A_l_power (by decide) (at_cons A_l_figures (by decide) at_nil))))))))) ato_nil (bl_cons z_range (bl_cons z_isinstance (bl_cons z_str bl_nil))) E_ec rfl cn_nil rfl rfl rfl ⟨rfl, rfl, rfl⟩ db_law ck_law (F_law.binds (ps := [("_law_script" : Str)]) fun _ _ _ _ _ _ us hl => match us, hl with | [_], _ => rfl)
  exact ⟨_, A_law.ok⟩
end Lw
open PySem PySem.W PyProof.Rows in
set_option maxRecDepth 100000 in
set_option maxHeartbeats 0 in
theorem PySem.Challenge.cw_nextbyrule_k07_rows_shown_holds : PySem.Challenge.rw_nextbyrule_k07_rows_shown.Holds := by
  w_on; o_law; k_head; (case hw => w_witness2)
  k_fill
  refine Pf.walk rfl (l := PySem.Challenge.rw_nextbyrule_k07_rows_shown) (x := ("_law_script" : Str)) (k := 4) (sem := Lw.s_law) rfl rfl ⟨rfl, by decide, by decide⟩ Lw.law_true (fun w h Y => PySem.W.kIn_of Y) ?F
  case F =>
    intro w mg fa h KX G hmg
    refine' Lw.all_mk KX G hmg ?dn_ ?d_l_power ?d_l_mix ?d_l_by ?d_l_number ?d_l_numbers ?d_l_row ?d_number_text ?d_shown ?d_l_great ?d_l_asked ?d_l_figures ?d_l_cell_at ?d_l_text ?d_law ?z_range ?z_tuple ?z_str ?z_max ?z_len ?z_int ?z_isinstance ?z_ValueError ?z_abs ?z_reversed ?q_GREATEST ?g_RuleError ?kp_RuleError ?sb_RuleError ?ty_RuleError ?xx_RuleError ?g_NoNumber ?kp_NoNumber ?sb_NoNumber ?ty_NoNumber ?xx_NoNumber ?g_NoBy ?kp_NoBy ?sb_NoBy ?ty_NoBy ?xx_NoBy ?g_NoText ?kp_NoText ?sb_NoText ?ty_NoText ?xx_NoText ?g_TooFar ?kp_TooFar ?sb_TooFar ?ty_TooFar ?xx_TooFar ?g_TooLong ?kp_TooLong ?sb_TooLong ?ty_TooLong ?xx_TooLong ?g_TooBig ?kp_TooBig ?sb_TooBig ?ty_TooBig ?xx_TooBig ?g_NoRow ?kp_NoRow ?sb_NoRow ?ty_NoRow ?xx_NoRow ?g_NoName ?kp_NoName ?sb_NoName ?ty_NoName ?xx_NoName ?hg_TooBig ?hk_TooBig ?hd_TooBig ?ha_TooBig ?hm_TooBig ?em_TooBig ?hn_ ?ht_ ?kt_TooBig_NoBy ?kt_TooBig_NoName ?kt_TooBig_NoNumber ?kt_TooBig_NoRow ?kt_TooBig_NoText ?kt_TooBig_TooFar ?kt_TooBig_TooLong ?kt_TooBig_TooBig ?kt_TooBig_VE ?kn_NoBy ?kn_NoName ?kn_NoNumber ?kn_NoRow ?kn_NoText ?kn_TooFar ?kn_TooLong ?kn_TooBig ?kn_VE
    (case dn_ => first | k_is | rfl | decide +kernel)
    (case d_l_power => (refine' Pf.DefIs.mk ?a ?l ?c ?k; (case a => k_is); (case l => k_is); (case c => k_is); (case k => k_is)))
    (case d_l_mix => (refine' Pf.DefIs.mk ?a ?l ?c ?k; (case a => k_is); (case l => k_is); (case c => k_is); (case k => k_is)))
    (case d_l_by => (refine' Pf.DefIs.mk ?a ?l ?c ?k; (case a => k_is); (case l => k_is); (case c => k_is); (case k => k_is)))
    (case d_l_number => (refine' Pf.DefIs.mk ?a ?l ?c ?k; (case a => k_is); (case l => k_is); (case c => k_is); (case k => k_is)))
    (case d_l_numbers => (refine' Pf.DefIs.mk ?a ?l ?c ?k; (case a => k_is); (case l => k_is); (case c => k_is); (case k => k_is)))
    (case d_l_row => (refine' Pf.DefIs.mk ?a ?l ?c ?k; (case a => k_is); (case l => k_is); (case c => k_is); (case k => k_is)))
    (case d_number_text => (refine' Pf.DefIs.mk ?a ?l ?c ?k; (case a => k_is); (case l => k_is); (case c => k_is); (case k => k_is)))
    (case d_shown => (refine' Pf.DefIs.mk ?a ?l ?c ?k; (case a => k_is); (case l => k_is); (case c => k_is); (case k => k_is)))
    (case d_l_great => (refine' Pf.DefIs.mk ?a ?l ?c ?k; (case a => k_is); (case l => k_is); (case c => k_is); (case k => k_is)))
    (case d_l_asked => (refine' Pf.DefIs.mk ?a ?l ?c ?k; (case a => k_is); (case l => k_is); (case c => k_is); (case k => k_is)))
    (case d_l_figures => (refine' Pf.DefIs.mk ?a ?l ?c ?k; (case a => k_is); (case l => k_is); (case c => k_is); (case k => k_is)))
    (case d_l_cell_at => (refine' Pf.DefIs.mk ?a ?l ?c ?k; (case a => k_is); (case l => k_is); (case c => k_is); (case k => k_is)))
    (case d_l_text => (refine' Pf.DefIs.mk ?a ?l ?c ?k; (case a => k_is); (case l => k_is); (case c => k_is); (case k => k_is)))
    (case d_law => (refine' Pf.DefIs.mk ?a ?l ?c ?k; (case a => k_is); (case l => k_is); (case c => k_is); (case k => k_is)))
    (case z_range => k_is)
    (case z_tuple => k_is)
    (case z_str => k_is)
    (case z_max => k_is)
    (case z_len => k_is)
    (case z_int => k_is)
    (case z_isinstance => k_is)
    (case z_ValueError => k_is)
    (case z_abs => k_is)
    (case z_reversed => k_is)
    (case q_GREATEST => k_is)
    (case g_RuleError => k_is)
    (case kp_RuleError => k_is)
    (case sb_RuleError => k_is)
    (case ty_RuleError => k_is)
    (case xx_RuleError => k_exc)
    (case g_NoNumber => k_is)
    (case kp_NoNumber => k_is)
    (case sb_NoNumber => k_is)
    (case ty_NoNumber => k_is)
    (case xx_NoNumber => k_exc)
    (case g_NoBy => k_is)
    (case kp_NoBy => k_is)
    (case sb_NoBy => k_is)
    (case ty_NoBy => k_is)
    (case xx_NoBy => k_exc)
    (case g_NoText => k_is)
    (case kp_NoText => k_is)
    (case sb_NoText => k_is)
    (case ty_NoText => k_is)
    (case xx_NoText => k_exc)
    (case g_TooFar => k_is)
    (case kp_TooFar => k_is)
    (case sb_TooFar => k_is)
    (case ty_TooFar => k_is)
    (case xx_TooFar => k_exc)
    (case g_TooLong => k_is)
    (case kp_TooLong => k_is)
    (case sb_TooLong => k_is)
    (case ty_TooLong => k_is)
    (case xx_TooLong => k_exc)
    (case g_TooBig => k_is)
    (case kp_TooBig => k_is)
    (case sb_TooBig => k_is)
    (case ty_TooBig => k_is)
    (case xx_TooBig => k_exc)
    (case g_NoRow => k_is)
    (case kp_NoRow => k_is)
    (case sb_NoRow => k_is)
    (case ty_NoRow => k_is)
    (case xx_NoRow => k_exc)
    (case g_NoName => k_is)
    (case kp_NoName => k_is)
    (case sb_NoName => k_is)
    (case ty_NoName => k_is)
    (case xx_NoName => k_exc)
    (case hg_TooBig => k_is)
    (case hk_TooBig => k_is)
    (case hd_TooBig => k_is)
    (case ha_TooBig => k_is)
    (case hm_TooBig => k_is)
    (case em_TooBig => first | k_is | rfl | decide +kernel)
    (case hn_ => k_is)
    (case ht_ => k_is)
    (case kt_TooBig_NoBy => first | k_is | rfl | decide +kernel)
    (case kt_TooBig_NoName => first | k_is | rfl | decide +kernel)
    (case kt_TooBig_NoNumber => first | k_is | rfl | decide +kernel)
    (case kt_TooBig_NoRow => first | k_is | rfl | decide +kernel)
    (case kt_TooBig_NoText => first | k_is | rfl | decide +kernel)
    (case kt_TooBig_TooFar => first | k_is | rfl | decide +kernel)
    (case kt_TooBig_TooLong => first | k_is | rfl | decide +kernel)
    (case kt_TooBig_TooBig => first | k_is | rfl | decide +kernel)
    (case kt_TooBig_VE => first | k_is | rfl | decide +kernel)
    (case kn_NoBy => first | k_is | rfl | decide +kernel)
    (case kn_NoName => first | k_is | rfl | decide +kernel)
    (case kn_NoNumber => first | k_is | rfl | decide +kernel)
    (case kn_NoRow => first | k_is | rfl | decide +kernel)
    (case kn_NoText => first | k_is | rfl | decide +kernel)
    (case kn_TooFar => first | k_is | rfl | decide +kernel)
    (case kn_TooLong => first | k_is | rfl | decide +kernel)
    (case kn_TooBig => first | k_is | rfl | decide +kernel)
    (case kn_VE => first | k_is | rfl | decide +kernel)

