import PyProof.Rows.All
import Wide.All
import OpenK.AllK
import Wide.FinOn
import PySem.Challenge.RW_wedgespace_k60_all_images
import HandS.GenList
import HandS.ExcOwn
import HandS.ForMost
import HandS.ForExc
import HandS.Strs
import HandS.Conv
import HandS.Walk
import HandS.TryMany
import HandS.Flow
import HandS.RaiseOp
import KE.GoesMore
import PyProof.ReprRoads
import PyProof.Rows.SeqMore
set_option Elab.async false
set_option linter.all false
set_option maxRecDepth 100000
set_option maxHeartbeats 4000000
/-! Generators that sleep are kept by whatever runs meanwhile: told at a state whose generators cannot be woken. -/
namespace G6
open PySem PyProof.Rows GenW
open Sem (wp)

theorem no_runs_stuck {M : Model} {what : String} {Γ : PySem.Ctx} {p : Pos} {t : Sem PySem.Fin} {fs : List Frame} {s s' : Shared} {e : End}
    (h : Runs M Γ p t fs s e s') : t = .unsupported what → False := by
  induction h <;> intro ht <;> first | (cases ht; done) | skip
  case segRet ih _ => exact ih ht
  case segGen ih _ => exact ih ht
  case segSuspOut ih => exact ih ht
  case segSuspGen ih _ => exact ih ht

/-- two states of a generator that look alike from outside; the first one cannot be woken -/
structure Twin (M : Model) (X Y : GenState) : Prop where
  seen : X.seen = Y.seen
  dead : ∃ k l c p fs cl, X = .suspended k l c p fs cl ∧ ∀ r Γ p fs s e s', ¬ Runs M Γ p (k r) fs s e s'

def Plain : GenState → Prop
  | .suspended _ _ _ _ fs _ => splitAtGen fs = none
  | _ => True

/-- the generators of two states: twins where D tells so, the same elsewhere -/
structure Alike (M : Model) (D : Nat → Option (GenState × GenState)) (gx gy : Array GenState) : Prop where
  size : gx.size = gy.size
  lt : ∀ i z, D i = some z → i < gx.size
  twin : ∀ i z, D i = some z → Twin M z.1 z.2
  at1 : ∀ (i : Nat) (z : GenState × GenState), D i = some z → gx[i]? = some z.1 ∧ gy[i]? = some z.2
  at0 : ∀ (i : Nat), D i = none → gx[i]? = gy[i]?
  plain : ∀ (i : Nat) (y : GenState), D i = none → gx[i]? = some y → Plain y

section
variable {M : Model} {D : Nat → Option (GenState × GenState)} {gx gy : Array GenState} {g : Nat} {x y : GenState}
theorem Alike.set (a : Alike M D gx gy) (h : D g = none) (hp : Plain x) : Alike M D (gx.setIfInBounds g x) (gy.setIfInBounds g x) where
  size := by simp [a.size]
  lt := fun i z hz => by simpa using a.lt i z hz
  twin := a.twin
  at1 := fun i z hz => by
    have : g ≠ i := by rintro rfl; rw [h] at hz; cases hz
    rw [Array.getElem?_setIfInBounds_ne this, Array.getElem?_setIfInBounds_ne this]
    exact a.at1 i z hz
  at0 := fun i hi => by
    by_cases e : g = i
    · subst e
      simp only [Array.getElem?_setIfInBounds_self, a.size]
    · rw [Array.getElem?_setIfInBounds_ne e, Array.getElem?_setIfInBounds_ne e]
      exact a.at0 i hi
  plain := fun i z hi hz => by
    by_cases e : g = i
    · subst e
      rw [Array.getElem?_setIfInBounds_self] at hz
      split at hz
      · cases hz; exact hp
      · cases hz
    · rw [Array.getElem?_setIfInBounds_ne e] at hz
      exact a.plain i z hi hz
theorem Alike.push (a : Alike M D gx gy) (hp : Plain x) : Alike M D (gx.push x) (gy.push x) where
  size := by simp [a.size]
  lt := fun i z hz => by have := a.lt i z hz; simp; omega
  twin := a.twin
  at1 := fun i z hz => by
    have h1 := a.lt i z hz
    have h2 : i < gy.size := a.size ▸ h1
    rw [Array.getElem?_push_lt h1, Array.getElem?_push_lt h2, ← Array.getElem?_eq_getElem h1, ← Array.getElem?_eq_getElem h2]
    exact a.at1 i z hz
  at0 := fun i hi => by
    rw [Array.getElem?_push, Array.getElem?_push, a.size, a.at0 i hi]
  plain := fun i z hi hz => by
    rw [Array.getElem?_push] at hz
    split at hz
    · cases hz; exact hp
    · exact a.plain i z hi hz
end

theorem split_append : ∀ {a b : List Frame}, splitAtGen a = none → splitAtGen b = none → splitAtGen (a ++ b) = none
  | [], _, _, hb => hb
  | .ret .. :: r, b, ha, hb => by
    have ha' : (splitAtGen r).map _ = none := ha
    have : splitAtGen r = none := by cases q : splitAtGen r with | none => rfl | some z => rw [q] at ha'; cases ha'
    show (splitAtGen (r ++ b)).map _ = none
    rw [split_append this hb]; rfl
  | .gen .. :: r, b, ha, hb => by cases ha
theorem split_tail {F : Frame} {r : List Frame} (h : splitAtGen (F :: r) = none) : splitAtGen r = none := by
  cases F with
  | ret =>
    have ha' : (splitAtGen r).map _ = none := h
    cases q : splitAtGen r with | none => rfl | some z => rw [q] at ha'; cases ha'
  | gen => cases h

theorem runs_sleep {M : Model} {D : Nat → Option (GenState × GenState)} {Γ : PySem.Ctx} {p : Pos} {t : Sem PySem.Fin} {fs : List Frame} {s s' : Shared} {e : End} (h : Runs M Γ p t fs s e s') :
    splitAtGen fs = none → ∀ gy, Alike M D s.gens gy → Plain e.genState ∧ ∃ gy', Alike M D s'.gens gy' ∧ Runs M Γ p t fs { s with gens := gy } e { s' with gens := gy' } := by
  induction h with
  | done => exact fun _ gy a => ⟨trivial, gy, a, .done⟩
  | raise => exact fun _ gy a => ⟨trivial, gy, a, .raise⟩
  | again hq _ ih => intro _ gy a; obtain ⟨q, gz, b, r⟩ := ih rfl gy a; exact ⟨q, gz, b, .again hq r⟩
  | rule _ ih => intro _ gy a; obtain ⟨q, gz, b, r⟩ := ih rfl gy a; exact ⟨q, gz, b, .rule r⟩
  | «at» _ ih => intro _ gy a; obtain ⟨q, gz, b, r⟩ := ih rfl gy a; exact ⟨q, gz, b, .at r⟩
  | load ho _ ih => intro _ gy a; obtain ⟨q, gz, b, r⟩ := ih rfl gy a; exact ⟨q, gz, b, .load ho r⟩
  | update ho _ ih => intro _ gy a; obtain ⟨q, gz, b, r⟩ := ih rfl gy a; exact ⟨q, gz, b, .update ho r⟩
  | loadIfAlive _ ih => intro _ gy a; obtain ⟨q, gz, b, r⟩ := ih rfl gy a; exact ⟨q, gz, b, .loadIfAlive r⟩
  | point _ ih => intro _ gy a; obtain ⟨q, gz, b, r⟩ := ih rfl gy a; exact ⟨q, gz, b, .point r⟩
  | alloc _ ih => intro _ gy a; obtain ⟨q, gz, b, r⟩ := ih rfl gy a; exact ⟨q, gz, b, .alloc r⟩
  | fresh _ ih => intro _ gy a; obtain ⟨q, gz, b, r⟩ := ih rfl gy a; exact ⟨q, gz, b, .fresh r⟩
  | ask _ ih => intro _ gy a; obtain ⟨q, gz, b, r⟩ := ih rfl gy a; exact ⟨q, gz, b, .ask r⟩
  | choose hn _ ih => intro _ gy a; obtain ⟨q, gz, b, r⟩ := ih rfl gy a; exact ⟨q, gz, b, .choose hn r⟩
  | os _ ih => intro _ gy a; obtain ⟨q, gz, b, r⟩ := ih rfl gy a; exact ⟨q, gz, b, .os r⟩
  | handled _ ih => intro _ gy a; obtain ⟨q, gz, b, r⟩ := ih rfl gy a; exact ⟨q, gz, b, .handled r⟩
  | stack _ ih => intro _ gy a; obtain ⟨q, gz, b, r⟩ := ih rfl gy a; exact ⟨q, gz, b, .stack r⟩
  | thread _ ih => intro _ gy a; obtain ⟨q, gz, b, r⟩ := ih rfl gy a; exact ⟨q, gz, b, .thread r⟩
  | genState hs _ ih =>
    rename_i g' st Γ p k e s'
    intro _ gy a
    obtain ⟨q, gz, b, r⟩ := ih rfl gy a
    refine ⟨q, gz, b, ?_⟩
    cases hd : D ‹Nat› with
    | none => exact .genState ((a.at0 _ hd).symm.trans hs) r
    | some z =>
      have e1 := (a.at1 _ z hd).1
      rw [hs] at e1; cases e1
      rw [(a.twin _ z hd).seen] at r
      exact .genState (a.at1 _ z hd).2 r
  | newGen _ ih =>
    intro _ gy a
    obtain ⟨q, gz, b, r⟩ := ih rfl _ (a.push (x := .fresh _) trivial)
    refine ⟨q, gz, b, .newGen ?_⟩
    have e1 : ({ ‹Shared› with gens := gy } : Shared).gens.size = _ := a.size.symm
    rw [e1]
    exact r
  | call _ _ ih1 ih2 =>
    intro _ gy a
    obtain ⟨_, gz, b, r⟩ := ih1 rfl gy a
    obtain ⟨q, gw, b2, r2⟩ := ih2 rfl gz b
    exact ⟨q, gw, b2, .call r r2⟩
  | callSusp _ ih =>
    intro _ gy a
    obtain ⟨q, gz, b, r⟩ := ih rfl gy a
    exact ⟨split_append q rfl, gz, b, .callSusp r⟩
  | yield => exact fun _ gy a => ⟨rfl, gy, a, .yield⟩
  | resumeFresh hs _ hq _ ih1 ih2 =>
    intro _ gy a
    cases hd : D ‹Nat› with
    | none =>
      obtain ⟨q1, gz, b, r⟩ := ih1 rfl _ (a.set hd (x := .running) trivial)
      obtain ⟨q, gw, b2, r2⟩ := ih2 rfl _ (b.set hd q1)
      exact ⟨q, gw, b2, .resumeFresh ((a.at0 _ hd).symm.trans hs) r hq r2⟩
    | some z =>
      have e1 := (a.at1 _ z hd).1
      obtain ⟨k, l, c, p, fs, cl, e2, _⟩ := (a.twin _ z hd).dead
      rw [hs, e2] at e1; cases e1
  | resumeSuspended hs hr hq _ ih1 ih2 =>
    intro _ gy a
    cases hd : D ‹Nat› with
    | none =>
      obtain ⟨q1, gz, b, r⟩ := ih1 (a.plain _ _ hd hs) _ (a.set hd (x := .running) trivial)
      obtain ⟨q, gw, b2, r2⟩ := ih2 rfl _ (b.set hd q1)
      exact ⟨q, gw, b2, .resumeSuspended ((a.at0 _ hd).symm.trans hs) r hq r2⟩
    | some z =>
      have e1 := (a.at1 _ z hd).1
      obtain ⟨k, l, c, p, fs, cl, e2, dd⟩ := (a.twin _ z hd).dead
      rw [hs, e2] at e1; cases e1
      exact absurd hr (dd _ _ _ _ _ _ _)
  | resumeJustStarted hs hv _ ih =>
    intro _ gy a
    obtain ⟨q, gz, b, r⟩ := ih rfl gy a
    cases hd : D ‹Nat› with
    | none => exact ⟨q, gz, b, .resumeJustStarted ((a.at0 _ hd).symm.trans hs) hv r⟩
    | some z =>
      have e1 := (a.at1 _ z hd).1
      obtain ⟨k, l, c, p, fs, cl, e2, _⟩ := (a.twin _ z hd).dead
      rw [hs, e2] at e1; cases e1
  | resumeThrowFresh hs _ ih =>
    intro _ gy a
    cases hd : D ‹Nat› with
    | none =>
      obtain ⟨q, gz, b, r⟩ := ih rfl _ (a.set hd (x := .finished) trivial)
      exact ⟨q, gz, b, .resumeThrowFresh ((a.at0 _ hd).symm.trans hs) r⟩
    | some z =>
      have e1 := (a.at1 _ z hd).1
      obtain ⟨k, l, c, p, fs, cl, e2, _⟩ := (a.twin _ z hd).dead
      rw [hs, e2] at e1; cases e1
  | resumeRunning hs _ ih =>
    intro _ gy a
    obtain ⟨q, gz, b, r⟩ := ih rfl gy a
    cases hd : D ‹Nat› with
    | none => exact ⟨q, gz, b, .resumeRunning ((a.at0 _ hd).symm.trans hs) r⟩
    | some z =>
      have e1 := (a.at1 _ z hd).1
      obtain ⟨k, l, c, p, fs, cl, e2, _⟩ := (a.twin _ z hd).dead
      rw [hs, e2] at e1; cases e1
  | resumeFinished hs _ ih =>
    intro _ gy a
    obtain ⟨q, gz, b, r⟩ := ih rfl gy a
    cases hd : D ‹Nat› with
    | none => exact ⟨q, gz, b, .resumeFinished ((a.at0 _ hd).symm.trans hs) r⟩
    | some z =>
      have e1 := (a.at1 _ z hd).1
      obtain ⟨k, l, c, p, fs, cl, e2, _⟩ := (a.twin _ z hd).dead
      rw [hs, e2] at e1; cases e1
  | segRet _ _ ih1 ih2 =>
    intro hf gy a
    obtain ⟨_, gz, b, r⟩ := ih1 rfl gy a
    obtain ⟨q, gw, b2, r2⟩ := ih2 (split_tail hf) gz b
    exact ⟨q, gw, b2, .segRet r r2⟩
  | segGen _ _ ih1 ih2 => intro hf; cases hf
  | segSuspOut hsp _ ih =>
    intro hf gy a
    obtain ⟨q, gz, b, r⟩ := ih rfl gy a
    exact ⟨split_append q hsp, gz, b, .segSuspOut hsp r⟩
  | segSuspGen hsp _ hq _ ih1 ih2 => intro hf; rw [hf] at hsp; cases hsp

/-- the same of a piece of a run -/
theorem wp_sleep {α : Type} {M : Model} {D : Nat → Option (GenState × GenState)} {Γ : PySem.Ctx} (t : Sem α) : ∀ {Q : α → Pos → Shared → Prop} {E : Value → Pos → Shared → Prop} {p : Pos} {s : Shared} (gy : Array GenState), Alike M D s.gens gy → wp M Γ t Q E p s →
    wp M Γ t (fun a p' s' => ∃ s1, Q a p' s1 ∧ Alike M D s1.gens s'.gens ∧ s' = { s1 with gens := s'.gens }) (fun x p' s' => ∃ s1, E x p' s1 ∧ Alike M D s1.gens s'.gens ∧ s' = { s1 with gens := s'.gens }) p { s with gens := gy } := by
  induction t with
  | pure a => intro Q E p s gy al h; exact ⟨s, h, al, rfl⟩
  | raise x => intro Q E p s gy al h; exact ⟨s, h, al, rfl⟩
  | unsupported what => intro Q E p s gy al h; exact h.elim
  | finish x => intro Q E p s gy al h; exact h.elim
  | register a k => intro Q E p s gy al h; exact h.elim
  | yield v g l k => intro Q E p s gy al h; exact h.elim
  | fork c k => intro Q E p s gy al h; exact h.elim
  | await a f d l k => intro Q E p s gy al h; exact h.elim
  | rule tag k ih => intro Q E p s gy al h; exact ih () gy al h
  | «at» p' k ih => intro Q E p s gy al h; exact ih () gy al h
  | load a part k ih => intro Q E p s gy al h; obtain ⟨o, ho, h⟩ := h; exact ⟨o, ho, ih o gy al h⟩
  | update a part f k ih => intro Q E p s gy al h; exact ⟨h.1, ih () (s := { s with heap := s.heap.update a f }) gy al h.2⟩
  | alloc o k ih => intro Q E p s gy al h; exact ih _ (s := { s with heap := s.heap.push o }) gy al h
  | loadIfAlive a k ih => intro Q E p s gy al h; exact ih _ gy al h
  | point l k ih => intro Q E p s gy al h; exact ih () gy al h
  | fresh k ih => intro Q E p s gy al h; exact ih _ (s := { s with toks := s.toks + 1 }) gy al h
  | ask k ih => intro Q E p s gy al h; exact ih _ gy al h
  | choose src n k ih => intro Q E p s gy al h; exact ⟨h.1, ih _ (s := { s with drawn := s.drawn.bump src }) gy al h.2⟩
  | os q l k ih => intro Q E p s gy al h; exact ih _ (s := { s with os := (Os.step s.os q).1 }) gy al h
  | call c hd g l k ih =>
    intro Q E p s gy al h
    obtain ⟨r, s1, hr, h⟩ := h
    obtain ⟨_, gz, b, hr2⟩ := runs_sleep (D := D) hr rfl gy al
    exact ⟨r, _, hr2, ih r gz b h⟩
  | handled own k ih => intro Q E p s gy al h; exact ih _ gy al h
  | newGen c k ih =>
    intro Q E p s gy al h
    have h' := ih _ (s := { s with gens := s.gens.push (.fresh c) }) _ (al.push (x := .fresh c) trivial) h
    rw [al.size] at h'
    exact h'
  | genState g k ih =>
    intro Q E p s gy al h
    obtain ⟨st, hs, h⟩ := h
    cases hd : D g with
    | none => exact ⟨st, (al.at0 g hd).symm.trans hs, ih _ gy al h⟩
    | some z =>
      have e1 := (al.at1 g z hd).1
      rw [hs] at e1; cases e1
      rw [(al.twin g z hd).seen] at h
      exact ⟨z.2, (al.at1 g z hd).2, ih _ gy al h⟩
  | resume g r l k ih =>
    intro Q E p s gy al h
    obtain ⟨res, s1, hw, h⟩ := h
    have main : ∃ gz, Alike M D s1.gens gz ∧ Wakes M Γ p g r { s with gens := gy } res { s1 with gens := gz } := by
      unfold Wakes at hw
      cases hd : D g with
      | some z =>
        exfalso
        have e1 := (al.at1 g z hd).1
        obtain ⟨k, l, c, p, fs, cl, e2, dd⟩ := (al.twin g z hd).dead
        rw [e2] at e1
        rw [e1] at hw
        obtain ⟨_, _, hr, _⟩ := hw
        exact dd _ _ _ _ _ _ _ hr
      | none =>
        have e0 := al.at0 g hd
        have e0' : ({ s with gens := gy } : Shared).gens[g]? = s.gens[g]? := e0.symm
        unfold Wakes
        rw [e0']
        cases hg : s.gens[g]? with
        | none => rw [hg] at hw; exact hw.elim
        | some st =>
          rw [hg] at hw
          cases st with
          | fresh c =>
            cases r with
            | send v =>
              cases v with
              | none =>
                obtain ⟨e1, s2, hr, hq, rfl, rfl⟩ := hw
                obtain ⟨q1, gz, b, hr2⟩ := runs_sleep (D := D) hr rfl _ (al.set hd (x := .running) trivial)
                exact ⟨_, b.set hd q1, e1, _, hr2, hq, rfl, rfl⟩
              | _ => obtain ⟨rfl, rfl⟩ := hw; exact ⟨gy, al, rfl, rfl⟩
            | throw x => obtain ⟨rfl, rfl⟩ := hw; exact ⟨_, al.set hd (x := .finished) trivial, rfl, rfl⟩
          | suspended k0 l0 c0 p0 fs0 cl0 =>
            obtain ⟨e1, s2, hr, hq, rfl, rfl⟩ := hw
            obtain ⟨q1, gz, b, hr2⟩ := runs_sleep (D := D) hr (al.plain g _ hd hg) _ (al.set hd (x := .running) trivial)
            exact ⟨_, b.set hd q1, e1, _, hr2, hq, rfl, rfl⟩
          | running => obtain ⟨rfl, rfl⟩ := hw; exact ⟨gy, al, rfl, rfl⟩
          | finished => obtain ⟨rfl, rfl⟩ := hw; exact ⟨gy, al, rfl, rfl⟩
    obtain ⟨gz, b, hw2⟩ := main
    exact ⟨res, _, hw2, ih res gz b h⟩
  | stack k ih => intro Q E p s gy al h; exact ih _ gy al h
  | thread k ih => intro Q E p s gy al h; exact ih _ gy al h

/-- the state of a generator that cannot be woken -/
def dull : GenState → GenState
  | .suspended _ l c p fs cl => .suspended (fun _ => .unsupported "asleep") l c p fs cl
  | x => x
def dulled : Array GenState → Array GenState := Array.map dull
def twins (a : Array GenState) (i : Nat) : Option (GenState × GenState) :=
  match a[i]? with
  | some (.suspended k l c p fs cl) => some (dull (.suspended k l c p fs cl), .suspended k l c p fs cl)
  | _ => none
theorem alike_dulled (M : Model) (a : Array GenState) : Alike M (twins a) (dulled a) a := by
  have key : ∀ i z, twins a i = some z → ∃ k l c p fs cl, a[i]? = some (.suspended k l c p fs cl) ∧ z = (dull (.suspended k l c p fs cl), .suspended k l c p fs cl) := fun i z h => by
    unfold twins at h
    split at h
    · rename_i k l c p fs cl he
      exact ⟨k, l, c, p, fs, cl, he, (Option.some.inj h).symm⟩
    · cases h
  have key0 : ∀ i y, twins a i = none → a[i]? = some y → dull y = y ∧ Plain y := fun i y h he => by
    unfold twins at h
    rw [he] at h
    cases y with
    | suspended => cases h
    | fresh => exact ⟨rfl, trivial⟩
    | running => exact ⟨rfl, trivial⟩
    | finished => exact ⟨rfl, trivial⟩
  refine ⟨by simp [dulled], fun i z h => ?_, fun i z h => ?_, fun i z h => ?_, fun i h => ?_, fun i y h he => ?_⟩
  · obtain ⟨k, l, c, p, fs, cl, he, rfl⟩ := key i z h
    have := (Array.getElem?_eq_some_iff.mp he).1
    simpa [dulled] using this
  · obtain ⟨k, l, c, p, fs, cl, he, rfl⟩ := key i z h
    exact ⟨rfl, _, l, c, p, fs, cl, rfl, fun _ _ _ _ _ _ _ hr => no_runs_stuck hr rfl⟩
  · obtain ⟨k, l, c, p, fs, cl, he, rfl⟩ := key i z h
    exact ⟨by simp [dulled, he], he⟩
  · cases he : a[i]? with
    | none => simp [dulled, he]
    | some y => simp [dulled, he, (key0 i y h he).1]
  · cases he' : a[i]? with
    | none => simp [dulled, he'] at he
    | some y' =>
      simp [dulled, he'] at he
      obtain ⟨k1, k2⟩ := key0 i y' h he'
      rw [← he, k1]; exact k2
theorem bare_dulled {a : Array GenState} (h : AllBare a) : AllBare (dulled a) := fun y hy => by
  unfold dulled at hy
  obtain ⟨z, hz, rfl⟩ := Array.mem_map.mp hy
  have := h z hz
  cases z <;> exact this
theorem bare_alike {M : Model} {a gx gy : Array GenState} (ha : AllBare a) (al : Alike M (twins a) gx gy) (h : AllBare gx) : AllBare gy := fun y hy => by
  obtain ⟨i, hi, e⟩ := Array.mem_iff_getElem.mp hy
  have he : gy[i]? = some y := by rw [Array.getElem?_eq_getElem hi, e]
  cases hd : twins a i with
  | none => rw [← al.at0 i hd] at he; exact h y (Array.mem_of_getElem? he)
  | some z =>
    have h2 := (al.at1 i z hd).2
    rw [he] at h2; cases h2
    unfold twins at hd
    split at hd
    · rename_i k l c p fs cl hq
      cases hd
      exact ha _ (Array.mem_of_getElem? hq)
    · cases hd

/-- THE RULE: what runs while generators sleep leaves them asleep -/
theorem wpAny_asleep {α : Type} {M : Model} {A : Around} {t : Sem α} {Q : α → Shared → Prop} {E : Value → Shared → Prop} {s : Shared}
    (h : wpAny M A t Q E { s with gens := dulled s.gens }) :
    wpAny M A t (fun a s' => ∃ s1, Q a s1 ∧ Alike M (twins s.gens) s1.gens s'.gens ∧ s' = { s1 with gens := s'.gens }) (fun x s' => ∃ s1, E x s1 ∧ Alike M (twins s.gens) s1.gens s'.gens ∧ s' = { s1 with gens := s'.gens }) s :=
  fun Γ p hΓ => wp_sleep t (s := { s with gens := dulled s.gens }) s.gens (alike_dulled M s.gens) (h Γ p hΓ)
end G6
/-! A generator's body, told piece by piece: what is known at each waking (the abstract heap and the state) may differ. -/
namespace G6
open PySem PySem.Spec PyProof.Rows GenW L2

/-! ### a run from here to the next end, whatever is asked of that end -/
def Goes6 (M : Model) (A : Around) (Φ : End → Shared → Prop) (c : Code) (t : Sem PySem.Fin) (fs : List Frame) (s : Shared) : Prop :=
  ∀ (Γ : PySem.Ctx) (p : Pos), Γ.code = c → Γ.Woken A → ∃ e s', Runs M Γ p t fs s e s' ∧ Φ e s'
section
variable {M : Model} {A : Around} {Φ : End → Shared → Prop} {c : Code} {fs : List Frame} {s : Shared}
theorem go_wrap {α : Type} {m : Sem α} {K : α → Sem PySem.Fin} {J : Value → Sem PySem.Fin} {gd : Bool → Bool} {lv : List Value → List Value}
    (h : wpAny M (A.over c fs) m (fun a s' => Goes6 M A Φ c (K a) fs s') (fun x s' => Goes6 M A Φ c (J x) fs s') s) : Goes6 M A Φ c (m.wrap K J gd lv) fs s := by
  intro Γ p hc hΓ
  subst hc
  exact runs_wrap_of_wp K J gd lv m (h _ p (hΓ.over fs)) (fun a q s1 k => k Γ q rfl hΓ) fun x q s1 k => k Γ q rfl hΓ
theorem go_at {q : Pos} {k : Unit → Sem PySem.Fin} (h : Goes6 M A Φ c (k ()) fs s) : Goes6 M A Φ c (.at q k) fs s :=
  go_wrap (gd := id) (lv := id) (m := standAt q) (J := .raise) (K := k) (wpAny_standAt h)
theorem go_point {l : List Value} {k : Unit → Sem PySem.Fin} (h : Goes6 M A Φ c (k ()) fs s) : Goes6 M A Φ c (.point l k) fs s :=
  go_wrap (gd := id) (lv := fun _ => l) (m := point) (J := .raise) (K := k) (wpAny_point h)
theorem go_call {d : Code} {o : Option Value} {g : Bool} {l : List Value} {k : Result → Sem PySem.Fin} (h : ∀ p, Goes6 M A Φ d (M.den d) (.ret k o g l c p [] :: fs) s) : Goes6 M A Φ c (.call d o g l k) fs s := by
  intro Γ p hc hΓ
  subst hc
  obtain ⟨e, s1, r, q⟩ := h p (Γ.goto d) p rfl (hΓ.goto d)
  exact ⟨e, s1, runs_call_seg r, q⟩
theorem go_leaf {k : Result → Sem PySem.Fin} {o : Option Value} {g : Bool} {l kp : List Value} {d : Code} {q : Pos} (r : Result) (h : Goes6 M A Φ d (k r) fs s) : Goes6 M A Φ c (leafOf r) (.ret k o g l d q kp :: fs) s := by
  intro Γ p hc hΓ
  subst hc
  obtain ⟨e, s1, a, z⟩ := h (Γ.goto d) q rfl (hΓ.goto d)
  exact ⟨e, s1, Runs.pop r a, z⟩
theorem go_again {d : Code} (hq : d.quiet = true) (h : Goes6 M A Φ d (M.den d) fs s) : Goes6 M A Φ c (.pure (.again d)) fs s := by
  intro Γ p hc hΓ
  subst hc
  obtain ⟨e, s1, a, z⟩ := h (Γ.goto d) p rfl (hΓ.goto d)
  exact ⟨e, s1, Runs.head (c₁ := d) (fun _ _ x => .again hq x) a, z⟩
theorem go_end (r : Result) (h : Φ (.ret r) s) : Goes6 M A Φ c (leafOf r) [] s := by
  intro Γ p hc _
  exact ⟨_, s, Runs.leaf r, h⟩
theorem go_yield {v : Value} {g : Bool} {l : List Value} {k : Resume → Sem PySem.Fin} (hfs : splitAtGen fs = none) (h : ∀ p, Φ (.susp v g l k c p fs) s) : Goes6 M A Φ c (.yield v g l k) fs s := by
  intro Γ p hc _
  subst hc
  exact ⟨_, s, Runs.yield' fs hfs, h p⟩
theorem go_imp {Φ' : End → Shared → Prop} {t : Sem PySem.Fin} (h : Goes6 M A Φ c t fs s) (k : ∀ e s', Φ e s' → Φ' e s') : Goes6 M A Φ' c t fs s := by
  intro Γ p hc hΓ
  obtain ⟨e, s1, a, z⟩ := h Γ p hc hΓ
  exact ⟨e, s1, a, k _ _ z⟩
end

/-! ### a state, cut down to its first objects -/
def trunc (n : Nat) (s : Shared) : Shared := { s with heap := ⟨s.heap.objs.extract 0 n, s.heap.life⟩ }
theorem trunc_size {n : Nat} {s : Shared} (h : n ≤ s.heap.objs.size) : (trunc n s).heap.objs.size = n := by
  simp [trunc]; omega
theorem trunc_get {n : Nat} {s : Shared} {b : Addr} {o : Obj} : (trunc n s).heap.get? b = some o ↔ b < n ∧ s.heap.get? b = some o := by
  have e : (trunc n s).heap.objs[b]? = if b < n then s.heap.objs[b]? else none := by
    simp only [trunc]
    have key : ∀ (k : Nat) (a : Array Obj), (a.extract 0 n)[k]? = if k < n then a[k]? else none := fun k a => by
      rw [Array.getElem?_extract]
      by_cases h1 : k < n
      · by_cases h2 : k < a.size
        · rw [if_pos (by omega), if_pos h1, Nat.zero_add]
        · rw [if_neg (by omega), if_pos h1, Array.getElem?_eq_none (by omega)]
      · rw [if_neg (by omega), if_neg h1]
    exact key b _
  unfold Heap.get?
  rw [e]
  by_cases hb : b < n
  · simp [hb]
  · simp [hb]

/-! ### the generator's place -/
structure GP where
  P : Program
  w : World
  K : PySem.W.Frag
  mg : Str → Option Value
  base : Heap
  N : List Str
  A : Around
  env : Env
  outer : List Env
  n0 : Nat
  a : Addr
  g : Nat
  go : Obj
/-- its own objects -/
def GP.own (C : GP) : List Addr := C.a :: C.n0 :: C.env.cells.filterMap fun p => C.env.cells.lookup p.1
def GP.cx (C : GP) (Hw : Hp) (sw : Shared) (xe : Value → Shared → Prop) : Cx :=
  { prog := C.P, w := C.w, K := C.K, mg := C.mg, base := C.base, A := C.A.deeper C.env, N := C.N, s_0 := trunc C.n0 sw, H_0 := Hw, env := C.env, outer := C.outer, stack := C.env :: C.outer,
    ex := [], calm := true, fn := fun _ => true, pn := [(C.a, C.go)], xe := xe }
/-- where no exception leaves -/
abbrev GP.nx (C : GP) (Hw : Hp) (sw : Shared) : Cx := C.cx Hw sw fun _ _ => False
/-- what is known when it wakes -/
structure Wk (C : GP) (Hw : Hp) (sw : Shared) : Prop where
  size : C.n0 ≤ sw.heap.objs.size
  bare : AllBare sw.gens
  hok : HOk C.P C.w Hw sw.heap
  bs : ∀ b o, C.base.get? b = some o → sw.heap.get? b = some o ∧ Hw b = none
  funs : sw.heap.FunFrames C.base C.outer
  frf : ∀ b ∈ frs C.outer, Hw b = none ∧ b < C.n0
  young : ∀ b o, C.n0 ≤ b → b ∉ C.own → sw.heap.get? b = some o → Hw b ≠ none
  own : ∀ b ∈ C.own, Hw b = none

theorem funs_trunc {base : Heap} {s : Shared} {n : Nat} : ∀ {l : List Env}, (∀ b ∈ frs l, b < n) → s.heap.FunFrames base l → (trunc n s).heap.FunFrames base l
  | [], _, _ => trivial
  | env :: r, hn, ⟨hk, ⟨L, o, hf, hb, ho, hd⟩, hr⟩ => by
    have hL : L ∈ frs (env :: r) := by unfold frs; rw [List.filterMap_cons, hf]; exact List.mem_cons_self
    refine ⟨hk, ⟨L, o, hf, hb, trunc_get.mpr ⟨hn L hL, ho⟩, hd⟩, funs_trunc (fun b hb => hn b ?_) hr⟩
    unfold frs at hb ⊢
    rw [List.filterMap_cons, hf]
    exact List.mem_cons_of_mem _ hb

theorem own_cell {C : GP} {x : Str} {c : Addr} (h : C.env.cells.lookup x = some c) : c ∈ C.own :=
  List.mem_cons_of_mem _ (List.mem_cons_of_mem _ (List.mem_filterMap.mpr ⟨_, PySem.mem_of_lookup h, h⟩))
theorem own_a {C : GP} : C.a ∈ C.own := List.mem_cons_self
theorem own_L {C : GP} : C.n0 ∈ C.own := List.mem_cons_of_mem _ List.mem_cons_self

/-- what is fixed -/
structure GP.Ok (C : GP) : Prop where
  locals : C.env.locals = C.n0
  frame : C.env.frame = some C.n0
  godata : ∃ nm qn, C.go.cls = .type "generator" ∧ C.go.data = .fields #[.int C.g 0, nm, qn] ∧ C.go.slots = #[]
  bsz : C.base.objs.size ≤ C.n0
  an : C.n0 < C.a

/-- a context of this place -/
structure GP.Same (C : GP) (X : Cx) : Prop where
  prog : X.prog = C.P
  w : X.w = C.w
  K : X.K = C.K
  mg : X.mg = C.mg
  base : X.base = C.base
  A : X.A = C.A.deeper C.env
  N : X.N = C.N
  env : X.env = C.env
  outer : X.outer = C.outer
  stack : X.stack = C.env :: C.outer
  fn : X.fn = fun _ => true
  calm : X.calm = true
  size : X.s_0.heap.objs.size = C.n0

/-- THE NEXT WAKING: the frame as it was, over what is known now -/
theorem rebase0 {C : GP} (ok : C.Ok) {X : Cx} (sm : C.Same X) {Hv H1 : Hp} {s1 sv : Shared} {σ : L2.St} {xe' : Value → Shared → Prop} (I : Inv X [] σ H1 s1) (V : Wk C Hv sv)
    (hk : ∀ b ∈ C.own, b ≠ C.a → ∀ o, s1.heap.get? b = some o → sv.heap.get? b = some o) (hgo : sv.heap.get? C.a = some C.go) (hac : ∀ x c, C.env.cells.lookup x = some c → c ≠ C.a) : Inv (C.cx Hv sv xe') [] σ Hv sv := by
  obtain ⟨prog, w, K, mg, base, A, N, s0, H0, env, outer, stack, ex, fn, calm, pn, xe⟩ := X
  obtain ⟨e1, e2, e3, e4, e5, e6, e7, e8, e9, e10, e11, e12, e13⟩ := sm
  simp only at e1 e2 e3 e4 e5 e6 e7 e8 e9 e10 e11 e12 e13
  subst e1 e2 e3 e4 e5 e6 e7 e8 e9 e10 e11 e12
  have szv := trunc_size V.size
  have eL : (C.cx Hv sv xe').env.locals = C.n0 := ok.locals
  have hcell : ∀ x c, C.env.cells.lookup x = some c → ∀ v, s1.heap.IsCell c v → sv.heap.IsCell c v := fun x c e v ⟨o, ho, hd⟩ => ⟨o, hk c (own_cell e) (hac x c e) o ho, hd⟩
  refine ⟨⟨I.ok.mod, I.ok.kind, I.ok.glob, I.ok.blt, ?_, I.ok.inj, I.ok.has, fun x c hf e => ?_, I.ok.hd, I.ok.frames, .inr ⟨rfl, ?_⟩, fun b hb => (nomatch hb), fun b o e => ?_, ?_, fun b o e hb => (nomatch hb), fun b hb => (nomatch hb), ?_, fun b hb => (V.frf b hb).1⟩,
    rfl, V.bare, Un.kept fun b o e => (trunc_get.mp e).2, ?_, fun x c e => ?_, V.own _ (by rw [eL]; exact own_L), fun x c e => V.own c (own_cell e), fun p hp => ?_, V.hok, I.len⟩
  · show (trunc C.n0 sv).heap.objs.size ≤ C.env.locals
    rw [szv, ok.locals]; exact Nat.le_refl _
  · show (trunc C.n0 sv).heap.objs.size ≤ c
    have this : s0.heap.objs.size ≤ c := I.ok.cab x c hf e
    rw [szv]; rw [e13] at this; exact this
  · show C.env.frame = some C.env.locals
    rw [ok.locals]; exact ok.frame
  · obtain ⟨e1, e2⟩ := V.bs b o e
    exact ⟨trunc_get.mpr ⟨Nat.lt_of_lt_of_le (Heap.lt_size e) ok.bsz, e1⟩, e2⟩
  · show C.base.objs.size ≤ (trunc C.n0 sv).heap.objs.size
    rw [szv]; exact ok.bsz
  · exact funs_trunc (fun b hb => (V.frf b hb).2) V.funs
  · obtain ⟨m, hn, hl⟩ := I.loc
    have hn2 : sv.heap.Ns C.env.locals m := by
      obtain ⟨o, es, ep, ho, r⟩ := hn
      exact ⟨o, es, ep, hk _ (by show C.env.locals ∈ C.own; rw [ok.locals]; exact own_L) (by show C.env.locals ≠ _; rw [ok.locals]; exact Nat.ne_of_lt ok.an) o ho, r⟩
    refine ⟨m, hn2, fun i x v h1 h2 h3 => ?_⟩
    obtain ⟨u, r, q⟩ := hl i x v h1 h2 h3
    refine ⟨u, r, ?_⟩
    rcases q with q | ⟨k, c, e, z⟩
    · exact .inl q
    · exact .inr ⟨k, c, e, hcell x c e _ z⟩
  · obtain ⟨v, z⟩ := I.cell x c e
    exact ⟨v, hcell x c e v z⟩
  · have hp1 : p = (C.a, C.go) := by
      have : p ∈ [(C.a, C.go)] := by
        rcases List.mem_append.mp hp with z | z
        · exact z
        · exact absurd z (by simp)
      exact List.mem_singleton.mp this
    subst hp1
    obtain ⟨nm, qn, _, g2, _⟩ := ok.godata
    refine ⟨hgo, V.own _ own_a, ?_, fun hb => ?_, fun v q => by rw [g2] at q; cases q⟩
    · show C.a ≠ C.env.locals
      rw [ok.locals]; exact Nat.ne_of_gt ok.an
    · exact absurd (V.frf _ hb).2 (Nat.not_lt.mpr (Nat.le_of_lt ok.an))
theorem rebase {C : GP} (ok : C.Ok) {Hw H1 Hv : Hp} {sw s1 sv : Shared} {σ : L2.St} {xe xe' : Value → Shared → Prop} (I : Inv (C.cx Hw sw xe) [] σ H1 s1) (W : Wk C Hw sw) (V : Wk C Hv sv)
    (hk : ∀ b ∈ C.own, ∀ o, s1.heap.get? b = some o → sv.heap.get? b = some o) : Inv (C.cx Hv sv xe') [] σ Hv sv := by
  obtain ⟨ea, _⟩ := I.pin (C.a, C.go) (by simp [GP.cx])
  refine rebase0 ok ⟨rfl, rfl, rfl, rfl, rfl, rfl, rfl, rfl, rfl, rfl, rfl, rfl, trunc_size W.size⟩ I V (fun b hb _ => hk b hb) (hk _ own_a _ ea) fun x c e z => ?_
  obtain ⟨v, o, ho, hd⟩ := I.cell x c e
  obtain ⟨nm, qn, _, g2, _⟩ := ok.godata
  have ea' : s1.heap.get? C.a = some C.go := ea
  rw [z, ea'] at ho
  cases ho
  rw [g2] at hd; cases hd

/-- an object that is tracked is there -/
theorem there_of {P : Program} {w : World} {H : Hp} {h : Heap} {a : Addr} {o : HO} (x : ObjOk P w H h a o) : ∃ ob, h.get? a = some ob := by
  cases o with
  | lst xs => obtain ⟨_, _, _, _, e⟩ := x; exact ⟨_, e⟩
  | tup xs => obtain ⟨_, _, _, ob, e, _⟩ := x; exact ⟨_, e⟩
  | dK kvs => obtain ⟨_, _, _, _, o, _, _, e, _⟩ := x; exact ⟨_, e⟩
  | dT kvs => obtain ⟨_, _, _, _, o, _, _, e, _⟩ := x; exact ⟨_, e⟩
  | set S n => obtain ⟨o, _, _, _, e, _⟩ := x; exact ⟨_, e⟩
  | ins C dx fs => obtain ⟨_, _, _, e, _⟩ := x; exact ⟨_, e⟩
  | own y => exact x
  | xd fs => obtain ⟨_, ⟨_, _, _, e, _⟩, _⟩ := x; exact ⟨_, e⟩
  | rng lo hi => obtain ⟨_, _, _, e⟩ := x; exact ⟨_, e⟩
  | frz ob u => obtain ⟨e, _⟩ := x; exact ⟨_, e⟩
  | tbl ps => exact ⟨_, (show h.get? a = some _ from x)⟩
  | met f y => exact ⟨_, (show h.get? a = some _ from x)⟩
  | ext φ => obtain ⟨_, e, _⟩ := x; exact e

/-- what stays tracked -/
def Stay (Hw H1 : Hp) : Prop := ∀ b, Hw b ≠ none → H1 b ≠ none
/-- what the consumer learns of a run between two sleeps -/
structure Out (C : GP) (Hw : Hp) (sw : Shared) (H1 : Hp) (s1 : Shared) : Prop where
  os : s1.os = sw.os
  bare : AllBare s1.gens
  un : Un (frs C.outer) C.own Hw H1 sw.heap s1.heap
  hok : HOk C.P C.w H1 s1.heap
  own : ∀ b ∈ C.own, H1 b = none ∧ ∃ o, s1.heap.get? b = some o
  gen : s1.heap.IsGen C.a C.g
  lim : s1.heap.NoLimit
theorem isGen_of {C : GP} (ok : C.Ok) {Hw H1 : Hp} {sw s1 : Shared} {σ : L2.St} {xe : Value → Shared → Prop} (I : Inv (C.cx Hw sw xe) [] σ H1 s1) : s1.heap.IsGen C.a C.g := by
  obtain ⟨nm, qn, h1, h2, h3⟩ := ok.godata
  exact ⟨C.go, nm, qn, (I.pin (C.a, C.go) (by simp [GP.cx])).1, h1, h2, h3⟩
theorem out_of {C : GP} (ok : C.Ok) {Hw H1 : Hp} {sw s1 : Shared} {σ : L2.St} {xe : Value → Shared → Prop} (I : Inv (C.cx Hw sw xe) [] σ H1 s1) (W : Wk C Hw sw) (hs : Stay Hw H1) : Out C Hw sw H1 s1 := by
  have lo : ∀ b o, sw.heap.get? b = some o → Hw b = none → b ∉ C.own → b < C.n0 := fun b o e n ho => by
    rcases Nat.lt_or_ge b C.n0 with z | z
    · exact z
    · exact absurd n (W.young b o z ho e)
  refine ⟨I.os, I.bare, ⟨fun b o e n hb hx => ?_, fun b o e n hb hx => ?_, fun b o e n hx => ?_, fun b o e hx => ?_, I.base.tups, I.base.frzs, I.base.tbls⟩, I.hok, fun b hb => ?_, isGen_of ok I, I.nolimit⟩
  · exact I.base.keep b o (trunc_get.mpr ⟨lo b o e n hx, e⟩) n hb (by simp [GP.cx])
  · exact I.base.slot b o (trunc_get.mpr ⟨lo b o e n hx, e⟩) n hb (by simp [GP.cx])
  · exact I.base.free b o (trunc_get.mpr ⟨lo b o e n hx, e⟩) n (by simp [GP.cx])
  · by_cases z : b < C.n0
    · exact I.base.there b o (trunc_get.mpr ⟨z, e⟩) (by simp [GP.cx])
    · have t := hs b (W.young b o (Nat.le_of_not_lt z) hx e)
      cases q : H1 b with
      | none => exact absurd q t
      | some u => exact there_of (I.hok b u q)
  · rcases List.mem_cons.mp hb with z | hb
    · rw [z]
      obtain ⟨e, n, _⟩ := I.pin (C.a, C.go) (by simp [GP.cx])
      exact ⟨n, _, e⟩
    · rcases List.mem_cons.mp hb with z | hb
      · rw [z]
        have q := I.free
        obtain ⟨m, ⟨o, es, ep, ho, r⟩, _⟩ := I.loc
        have eL : C.env.locals = C.n0 := ok.locals
        have q' : H1 C.env.locals = none := q
        have ho' : s1.heap.get? C.env.locals = some o := ho
        rw [eL] at q' ho'
        exact ⟨q', _, ho'⟩
      · obtain ⟨p, _, hp⟩ := List.mem_filterMap.mp hb
        obtain ⟨v, o, ho, _⟩ := I.cell p.1 b hp
        exact ⟨I.freeC p.1 b hp, _, ho⟩
end G6
namespace G6
open PySem PySem.Spec PyProof.Rows GenW L2

/-- what a generator promises: what was tracked when it first woke; what it hands out (so many are left behind it); what holds at its end -/
structure Sp6 where
  H00 : Hp
  It : Nat → V → Hp → Prop
  Qe : Hp → Prop
/-- a run between two sleeps leaves alone what was tracked when it first woke -/
def Adv (H00 Hw H1 : Hp) : Prop := ∀ b o, H00 b ≠ none → Hw b = some o → H1 b = some o
/-- the consumer leaves alone what is the generator's -/
def Wake (H00 H1 Hv : Hp) : Prop := (∀ b o, H00 b = none → H1 b = some o → Hv b = some o) ∧ ∀ b xs, H1 b = some (.tup xs) → Hv b = some (.tup xs)

def RetP (C : GP) (S : Sp6) (n : Nat) (Hw : Hp) (sw : Shared) (r : Result) (s' : Shared) : Prop :=
  (r = .ok (.ret .none) ∨ r = .ok .next) ∧ n = 0 ∧ ∃ H1, Out C Hw sw H1 s' ∧ Adv S.H00 Hw H1 ∧ S.Qe H1

def GEnd (C : GP) (S : Sp6) : Nat → Hp → Shared → End → Shared → Prop
  | 0 => fun Hw sw e s' => match e with
    | .ret r => RetP C S 0 Hw sw r s'
    | .susp .. => False
  | n + 1 => fun Hw sw e s' => match e with
    | .ret r => RetP C S (n + 1) Hw sw r s'
    | .susp v g l k c p fs => (End.susp v g l k c p fs).quiet = true ∧ ∃ x H1, RelV x v ∧ Out C Hw sw H1 s' ∧ Adv S.H00 Hw H1 ∧ S.It n x H1 ∧
      ∀ Hv sv, Wk C Hv sv → (∀ b ∈ C.own, ∀ o, s'.heap.get? b = some o → sv.heap.get? b = some o) → Wake S.H00 H1 Hv → Goes6 (model C.P C.w) C.A (GEnd C S n Hv sv) c (k (.send .none)) fs sv

/-- what is wanted behind a statement -/
structure DG where
  nx : Nat → Hp → L2.St → Hp → Prop
  bk : Nat → Hp → L2.St → Hp → Prop := fun _ _ _ _ => False
  ct : Nat → Hp → L2.St → Hp → Prop := fun _ _ _ _ => False
abbrev TG6 := DG → Nat → Hp → L2.St → Hp → Prop
def DG.at (D : DG) (n : Nat) (Hw : Hp) : Ends := { nx := D.nx n Hw, rt := fun _ _ => False, bk := D.bk n Hw, ct := D.ct n Hw }
def JP (C : GP) (D : DG) (n : Nat) (Hw : Hp) (sw : Shared) (f : Flow) (s : Shared) : Prop := SP (C.nx Hw sw) [] (D.at n Hw) f s
structure GC6 (C : GP) (c : Code) (fs : List Frame) (gd : Bool → Bool) : Prop where
  over : C.A.over c fs = C.A.deeper C.env
  split : splitAtGen fs = none
  guard : fs.any Frame.guarded = false
  gd : gd false = false

section
variable (C : GP) (S : Sp6)
abbrev Go6 (n : Nat) (Hw : Hp) (sw : Shared) (c : Code) (t : Sem PySem.Fin) (fs : List Frame) (s : Shared) : Prop := Goes6 (model C.P C.w) C.A (GEnd C S n Hw sw) c t fs s
def GK6 (c : Code) (fs : List Frame) (K : Flow → Sem PySem.Fin) (D : DG) : Prop := ∀ n Hw sw f s, Wk C Hw sw → JP C D n Hw sw f s → Go6 C S n Hw sw c (K f) fs s
structure GJ (st : Stmt) (t : TG6) : Prop where
  run : ∀ (n : Nat) (Hw : Hp) (sw : Shared) (c : Code) (fs : List Frame) (K : Flow → Sem PySem.Fin) (J : Value → Sem PySem.Fin) (gd : Bool → Bool) (lv : List Value → List Value) (s : Shared) (σ : L2.St) (H : Hp) (D : DG),
    GC6 C c fs gd → Wk C Hw sw → GK6 C S c fs K D → Inv (C.nx Hw sw) [] σ H s → t D n Hw σ H → Go6 C S n Hw sw c ((exec st C.env).wrap K J gd lv) fs s
structure GJs (st : List Stmt) (t : TG6) : Prop where
  run : ∀ (n : Nat) (Hw : Hp) (sw : Shared) (c : Code) (fs : List Frame) (K : Flow → Sem PySem.Fin) (J : Value → Sem PySem.Fin) (gd : Bool → Bool) (lv : List Value → List Value) (s : Shared) (σ : L2.St) (H : Hp) (D : DG),
    GC6 C c fs gd → Wk C Hw sw → GK6 C S c fs K D → Inv (C.nx Hw sw) [] σ H s → t D n Hw σ H → Go6 C S n Hw sw c ((execs st C.env).wrap K J gd lv) fs s
end

section
variable {C : GP} {S : Sp6} {st : Stmt} {rest : List Stmt}
def tPl (t : TS) : TG6 := fun D n Hw σ H => t (D.at n Hw) σ H
theorem gj_ps {t : TS} (h : ∀ Hw sw, PS (C.nx Hw sw) st t) : GJ C S st (tPl t) := by
  refine ⟨fun n Hw sw c fs K J gd lv s σ H D g W k I ht => go_wrap ?_⟩
  rw [g.over]
  exact wpAny_mono ((h Hw sw).run _ s σ H _ I ht) (fun f s' hs => k n Hw sw f s' W hs) fun x s' hx => hx.elim
theorem gjs_pss {t : TS} (h : ∀ Hw sw, PSs (C.nx Hw sw) rest t) : GJs C S rest (tPl t) := by
  refine ⟨fun n Hw sw c fs K J gd lv s σ H D g W k I ht => go_wrap ?_⟩
  rw [g.over]
  exact wpAny_mono ((h Hw sw).run _ s σ H _ I ht) (fun f s' hs => k n Hw sw f s' W hs) fun x s' hx => hx.elim
def tNil6 : TG6 := fun D n Hw σ H => D.nx n Hw σ H
theorem gjs_nil : GJs C S [] tNil6 := ⟨fun n Hw sw c fs K J gd lv s σ H D g W k I ht => k n Hw sw .next s W ⟨σ, H, I, ht⟩⟩
def tThen (t u : TG6) : TG6 := fun D n Hw σ H => t { D with nx := fun m Hv σ' H' => u D m Hv σ' H' } n Hw σ H
theorem gjs_cons {t u : TG6} (a : GJ C S st t) (b : GJs C S rest u) : GJs C S (st :: rest) (tThen t u) := by
  refine ⟨fun n Hw sw c fs K J gd lv s σ H D g W k I ht => ?_⟩
  rw [execs_cons_wrap]
  refine a.run n Hw sw c fs _ J gd lv s σ H _ g W (fun m Hv sv f s' V hs => ?_) I ht
  cases f with
  | next =>
    obtain ⟨σ', H', I', q⟩ := hs
    exact b.run m Hv sv c fs K J gd lv s' σ' H' D g V k I' q
  | brk => exact k m Hv sv .brk s' V hs
  | cont => exact k m Hv sv .cont s' V hs
  | ret u =>
    obtain ⟨_, _, _, _, _, q⟩ := hs
    exact q.elim
def tIf6 (tc : TT) (tb te : TG6) : TG6 := fun D n Hw σ H => tc σ H fun b H1 => if b = true then tb D n Hw σ H1 else te D n Hw σ H1
theorem gj_if {test : Expr} {body orelse : List Stmt} {pos : Pos} {tc : TT} {tb te : TG6} (hc : ∀ Hw sw, PT (C.nx Hw sw) test tc) (hb : GJs C S body tb) (he : GJs C S orelse te) : GJ C S (.If test body orelse pos) (tIf6 tc tb te) := by
  refine ⟨fun n Hw sw c fs K J gd lv s σ H D g W k I ht => ?_⟩
  rw [exec_If]
  refine go_at ?_
  show Goes6 _ _ _ _ ((isTrue test C.env (eval test C.env) >>= fun b => if b = true then execs body C.env else execs orelse C.env).wrap K J gd lv) fs s
  rw [Sem.bind_eq_wrap', Sem.wrap_wrap]
  refine go_wrap ?_
  rw [g.over]
  refine wpAny_mono ((hc Hw sw).run _ s σ H _ I ht) (fun b s' hs => ?_) fun x s' hx => hx.elim
  obtain ⟨H1, I1, q⟩ := hs
  cases b with
  | true =>
    rw [if_pos rfl] at q ⊢
    exact hb.run n Hw sw c fs K J gd lv s' σ H1 D g W k I1 q
  | false =>
    rw [if_neg Bool.false_ne_true] at q ⊢
    exact he.run n Hw sw c fs K J gd lv s' σ H1 D g W k I1 q
def tY6 (H00 : Hp) (It : Nat → V → Hp → Prop) (te : TE) : TG6 := fun D n Hw σ H => ∃ m, n = m + 1 ∧ te σ H fun x H1 => Stay Hw H1 ∧ Adv H00 Hw H1 ∧ It m x H1 ∧ ∀ Hv, Wake H00 H1 Hv → D.nx m Hv σ Hv
theorem gj_yield {e : Expr} {yp pos : Pos} {te : TE} (ok : C.Ok) (h : ∀ Hw sw, PE (C.nx Hw sw) e te) (hco : C.env.scope.isCoroutine = false) (hi : interactive C.env = false) : GJ C S (.Expr (.Yield (some e) yp) pos) (tY6 S.H00 S.It te) := by
  refine ⟨fun n Hw sw c fs K J gd lv s σ H D g W k I ht => ?_⟩
  obtain ⟨m, rfl, ht⟩ := ht
  have hy : ∀ v, yieldOut C.env v = yieldValue v := fun v => by unfold yieldOut; rw [hco]; rfl
  rw [exec_Expr C.env _ pos hi rfl]
  refine go_at ?_
  show Goes6 _ _ _ _ (((eval e C.env >>= fun v => (standAt yp >>= fun _ => yieldOut C.env v)) >>= fun x => dropValue (.Yield (some e) yp) pos x).wrap K J gd lv) fs s
  simp only [hy]
  rw [Sem.bind_eq_wrap', Sem.bind_eq_wrap', Sem.wrap_wrap, Sem.wrap_wrap]
  refine go_wrap ?_
  rw [g.over]
  refine wpAny_mono ((h Hw sw).run _ s σ H _ I ht) (fun v s' hv => ?_) fun x s' hx => hx.elim
  obtain ⟨x, H1, I1, rv, hst, hadv, hit, hnx⟩ := hv
  refine go_at (go_yield g.split fun p => ?_)
  refine ⟨by simp [End.quiet, g.gd, g.guard], x, H1, rv, out_of ok I1 W hst, hadv, hit, fun Hv sv V hk hw => ?_⟩
  have I2 : Inv (C.nx Hv sv) [] σ Hv sv := rebase ok I1 W V hk
  exact k m Hv sv .next sv V ⟨σ, Hv, I2, hnx Hv hw⟩
def tW6 (tc : TT) (tb : TG6) : TG6 := fun D n Hw σ H => ∃ T : Nat → Nat → Hp → L2.St → Hp → Prop, (∃ m, T m n Hw σ H) ∧ ∀ m n Hw σ H, T m n Hw σ H →
  tc σ H fun b H1 => if b = true then ∃ N : Nat → Hp → L2.St → Hp → Prop, (∀ n' Hv σ' H', N n' Hv σ' H' → ∃ m', m' < m ∧ T m' n' Hv σ' H') ∧ tb { nx := N, ct := N, bk := D.nx } n Hw σ H1 else D.nx n Hw σ H1
theorem gj_while {test : Expr} {body : List Stmt} {pos : Pos} {tc : TT} {tb : TG6} (hc : ∀ Hw sw, PT (C.nx Hw sw) test tc) (hb : GJs C S body tb) : GJ C S (.While test body [] pos) (tW6 tc tb) := by
  refine ⟨fun n Hw sw c fs K J gd lv s σ H D g W k I ht => ?_⟩
  obtain ⟨T, ⟨m0, t0⟩, turn⟩ := ht
  refine go_at (go_call fun p => ?_)
  have main : ∀ (m n : Nat) (Hw : Hp) (sw s : Shared) (σ : L2.St) (H : Hp) (kk : Result → Sem PySem.Fin), (∀ f, kk (.ok f) = K f) → Wk C Hw sw → T m n Hw σ H → Inv (C.nx Hw sw) [] σ H s →
      Go6 C S n Hw sw (.whileLoop test body [] C.env) ((model C.P C.w).den (.whileLoop test body [] C.env)) (.ret kk none (gd false) (lv []) c p [] :: fs) s := by
    intro m
    induction m using Nat.strongRecOn with
    | ind m ih =>
      intro n Hw sw s σ H kk hkk W t I
      have g' : GC6 C (.whileLoop test body [] C.env) (.ret kk none (gd false) (lv []) c p [] :: fs) id :=
        ⟨(over_loop rfl rfl).trans g.over, by show (splitAtGen fs).map _ = none; rw [g.split]; rfl, by show (gd false || fs.any Frame.guarded) = false; rw [g.gd, g.guard]; rfl, rfl⟩
      show Goes6 _ _ _ _ ((whileTurn test body [] C.env).onRaise _) _ s
      unfold whileTurn
      rw [Sem.onRaise_eq_wrap, Sem.bind_eq_wrap', Sem.wrap_wrap]
      refine go_wrap ?_
      rw [g'.over]
      refine wpAny_mono ((hc Hw sw).run _ s σ H _ I (turn m n Hw σ H t)) (fun b s' hs => ?_) fun x s' hx => hx.elim
      obtain ⟨H1, I1, q⟩ := hs
      cases b with
      | true =>
        obtain ⟨N, hN, q⟩ := (if_pos (rfl : true = true)) ▸ q
        rw [if_pos rfl, Sem.bind_eq_wrap', Sem.wrap_wrap]
        refine hb.run n Hw sw _ _ _ _ _ _ s' σ H1 _ g' W (fun n' Hv sv f s3 V hs => ?_) I1 q
        cases f with
        | next =>
          obtain ⟨σ3, H3, I3, q3⟩ := hs
          obtain ⟨m', hm, t3⟩ := hN _ _ _ _ q3
          exact go_again rfl (ih m' hm n' Hv sv s3 σ3 H3 kk hkk V t3 I3)
        | cont =>
          obtain ⟨σ3, H3, I3, q3⟩ := hs
          obtain ⟨m', hm, t3⟩ := hN _ _ _ _ q3
          exact go_again rfl (ih m' hm n' Hv sv s3 σ3 H3 kk hkk V t3 I3)
        | brk =>
          refine go_leaf (.ok .next) ?_
          rw [hkk]
          exact k n' Hv sv .next s3 V hs
        | ret u =>
          obtain ⟨_, _, _, _, _, z⟩ := hs
          exact z.elim
      | false =>
        have q' : D.nx n Hw σ H1 := by rw [if_neg Bool.false_ne_true] at q; exact q
        rw [if_neg Bool.false_ne_true]
        refine go_leaf (.ok .next) ?_
        rw [hkk]
        exact k n Hw sw .next s' W ⟨σ, H1, I1, q'⟩
  exact main m0 n Hw sw s σ H _ (fun f => by cases f <;> rfl) W t0 I
end
end G6
namespace G6
open PySem PySem.Spec PyProof.Rows GenW L2

/-- an exception ahead of all items: it leaves the frame -/
def xeOf (C : GP) (Hw : Hp) (sw : Shared) (E : XK) (e : Value) (s' : Shared) : Prop :=
  wpAny (model C.P C.w) (C.A.deeper C.env) (leaving C.env e) (fun _ s'' => CX C.P C.w C.outer Hw (trunc C.n0 sw) E e s'' ∧ ∀ p ∈ [(C.a, C.go)], s''.heap.get? p.1 = some p.2) (fun _ _ => False) s'
theorem takes6 {C : GP} (ok : C.Ok) {Hw : Hp} {sw : Shared} {E : XK} : Takes (C.cx Hw sw (xeOf C Hw sw E)) (fun cls d _ H' => E cls d H') := fun u s' x =>
  XE.leaveG (W := fun cls d _ H' => E cls d H') (E := E) rfl (by show C.env.frame = some C.env.locals; rw [ok.locals]; exact ok.frame) rfl (fun _ _ _ _ h => h) x

def EndE (C : GP) (S : Sp6) (H : Hp) (s : Shared) (E : XK) (n : Nat) (Hw : Hp) (sw : Shared) (e : End) (s' : Shared) : Prop :=
  GEnd C S n Hw sw e s' ∨ ∃ x, e = .ret (.error x) ∧ CX C.P C.w C.outer H s E x s' ∧ s'.heap.IsGen C.a C.g
abbrev SpG6 := List V → Hp → Nat → (Nat → V → Hp → Prop) → (Hp → Prop) → XK → Prop
abbrev GP.on (C : GP) (A : Around) : GP := { C with A := A }
/-- a generator was made; it has not begun -/
structure Made6 (P : Program) (w : World) (base : Heap) (k : Nat) (outer : List Env) (H : Hp) (s : Shared) (N : Nat) (It : Nat → V → Hp → Prop) (Qe : Hp → Prop) (E : XK) (C : GP) (c : Code) (s' : Shared) : Prop where
  ok : C.Ok
  eP : C.P = P
  ew : C.w = w
  eb : C.base = base
  eo : C.outer = outer
  en : C.n0 = s.heap.objs.size
  go : s'.heap.get? C.a = some C.go
  gen : s'.gens[C.g]? = some (.fresh c)
  os : s'.os = s.os
  bare : AllBare s'.gens
  kept : ∀ b o, s.heap.get? b = some o → s'.heap.get? b = some o
  own : ∀ b ∈ C.own, C.n0 ≤ b ∧ ∃ o, s'.heap.get? b = some o
  run : ∀ A Hw sw, Room k A → A.frames = some outer → Wk (C.on A) Hw sw → (∀ b ∈ C.own, ∀ o, s'.heap.get? b = some o → sw.heap.get? b = some o) → (∀ b o, s.heap.get? b = some o → sw.heap.get? b = some o) →
    (∀ b, b < C.n0 → Hw b = H b) → sw.os = s.os → Goes6 (model P w) A (EndE (C.on A) ⟨Hw, It, Qe⟩ H s E N Hw sw) c ((model P w).den c) [] sw
structure GFn6 (P : Program) (w : World) (K : PySem.W.Frag) (mg : Str → Option Value) (base : Heap) (k : Nat) (f : Addr) (fd : FuncData) (ps : List Str) (sp : SpG6) : Prop where
  len : ∀ vs H N It Qe E, sp vs H N It Qe E → vs.length = ps.length
  run : ∀ (A : Around) (outer : List Env) (s : Shared) (H : Hp) (args : Args) (us : List Value) (vs : List V) (N : Nat) (It : Nat → V → Hp → Prop) (Qe : Hp → Prop) (E : XK), Room k A → Env0 P w K mg base A outer s H → BindsTo s fd args (ps.zip us) → Vals vs us → sp vs H N It Qe E →
    codeAny (model P w) A (.call (.ref f) args) (fun r s' => ∃ C c, r = .ok (.ret (.ref C.a)) ∧ Made6 P w base k outer H s N It Qe E C c s') s

theorem cx_back {P : Program} {w : World} {outer : List Env} {H Hw : Hp} {s sw : Shared} {E : XK} {e : Value} {s' : Shared} (hok : HOk P w H s.heap) (hk : ∀ b o, s.heap.get? b = some o → sw.heap.get? b = some o) (hH : ∀ b, b < s.heap.objs.size → Hw b = H b) (os : sw.os = s.os)
    (c : CX P w outer Hw (trunc s.heap.objs.size sw) E e s') : CX P w outer H s E e s' := by
  obtain ⟨a, B, H', cls, d, z1, fl, z2, ub, z3, z4, z5, z6⟩ := c
  have up : ∀ b o, s.heap.get? b = some o → (trunc s.heap.objs.size sw).heap.get? b = some o := fun b o e => trunc_get.mpr ⟨Heap.lt_size e, hk b o e⟩
  refine ⟨a, B, H', cls, d, z1, fl, z2, ⟨fun b o e n hb => ub.keep b o (up b o e) ((hH b (Heap.lt_size e)).trans n) hb, fun b o e hb => ub.slot b o (up b o e) hb, fun b o e n => ub.free b o (up b o e) ((hH b (Heap.lt_size e)).trans n), fun b o e hb => ub.there b o (up b o e) hb,
    fun b xs q => ub.tups b xs ((hH b (hok.lt q)).trans q), fun b o xs q => ub.frzs b o xs ((hH b (hok.lt q)).trans q), fun b ps q => ub.tbls b ps ((hH b (hok.lt q)).trans q)⟩, z3, z4.trans os, z5, z6⟩

/-- THE RULE: a generator def by its body; the first statement alone may raise, and hands out nothing -/
theorem gfn6_of {P : Program} {w : World} {K : PySem.W.Frag} {mg : Str → Option Value} {base : Heap} {k : Nat} {f : Addr} {name qual : Str} {params : Arguments} {st : Stmt} {rest : List Stmt} {scope : Scope} {dV kV doc pm cdv ct oc : Value} {an od : Option Addr}
    {osl : Array (Option Value)} {N ps : List Str} {sp : SpG6} (lk : K.lookup f = some ⟨oc, od, .func (PySem.W.fnOf name qual params (st :: rest) scope dV kV doc pm an cdv ct), osl⟩) (hcd : PySem.W.codeIn K cdv qual = true) (S : GScope N ps scope)
    (len : ∀ vs H n It Qe E, sp vs H n It Qe E → vs.length = ps.length)
    (hbody : ∀ (C : GP) (Hw : Hp) (sw : Shared) (vs : List V) (H : Hp) (n : Nat) (It : Nat → V → Hp → Prop) (Qe : Hp → Prop) (E : XK), C.P = P → C.w = w → C.K = K → C.mg = mg → C.base = base → C.N = N → C.env = envOfC qual scope C.n0 f cdv → C.Ok → Room k (C.A.deeper C.env) →
      sp vs H n It Qe E → (∀ b o, H b = some o → Hw b = some o) → ∃ t0 t, PS (C.cx Hw sw (xeOf C Hw sw E)) st t0 ∧ GJs C ⟨Hw, It, Qe⟩ rest t ∧
        t0 { nx := fun σ H1 => t { nx := fun m Hv _ H' => m = 0 ∧ Stay Hv H' ∧ Adv Hw Hv H' ∧ Qe H' } n Hw σ H1, rt := fun _ _ => False } (start N vs) Hw) :
    GFn6 P w K mg base (k + 1) f (PySem.W.fnOf name qual params (st :: rest) scope dV kV doc pm an cdv ct) ps sp := by
  refine ⟨len, fun A outer s H args us vs n It Qe E hr e0 hb r hsp => ?_⟩
  have hl := len _ _ _ _ _ _ hsp
  have KX : K.In s.heap := e0.mod.kin.keeps fun b o e => (e0.bs b o e).1
  have lim : s.heap.NoLimit := e0.mod.nolimit.keeps fun b o e => (e0.bs b o e).1
  have kinds : ∀ y ∈ ps.zip us, scope.names.lookup y.1 = some .local ∨ (scope.names.lookup y.1 = some .cell ∧ ((cellsFrom (s.heap.objs.size + 1) scope.names []).lookup y.1).isSome = true) := by
    rintro ⟨y, v⟩ hy
    rcases S.par y (List.of_mem_zip hy).1 with q | q
    · exact .inl q
    · exact .inr ⟨q, PySem.W.cellsFrom_some _ _ _ (.inl q)⟩
  refine codeAny_call_generator hr.depth (KX _ _ lk) rfl S.co S.gen rfl (PySem.W.codeRec_of KX hcd) (hb _ _ _ _ ?_)
  refine wpAny_newFunctionEnv_cells S.kind kinds fun env he s1 x => ?_
  subst he
  refine ⟨lim.keeps x.toInCall.keep, ?_⟩
  have kp1 : ∀ b o, s.heap.get? b = some o → s1.heap.get? b = some o := x.toInCall.keep
  have lt1 : s.heap.objs.size < s1.heap.objs.size := x.toInCall.ns.lt
  have same1 : s1.os = s.os ∧ s1.gens = s.gens := by
    obtain ⟨h1, tk, rfl, _⟩ := x.done
    exact ⟨rfl, rfl⟩
  have build : ∀ (go : Obj) (nm qn : Value) (tk : Nat), go.cls = .type "generator" → go.data = .fields #[.int s1.gens.size 0, nm, qn] → go.slots = #[] → (∀ h : Heap, (h.push go).get? h.objs.size = some go) →
      ∃ C c, (Except.ok (Flow.ret (.ref s1.heap.objs.size)) : Result) = .ok (.ret (.ref C.a)) ∧ Made6 P w base (k + 1) outer H s n It Qe E C c { s1 with gens := s1.gens.push (.fresh (.func (st :: rest) (envOfC qual scope s.heap.objs.size f cdv))), toks := tk, heap := s1.heap.push go } := by
    intro go nm qn tk g1 g2 g3 g4
    have cellLt : ∀ y c, (cellsFrom (s.heap.objs.size + 1) scope.names []).lookup y = some c → s.heap.objs.size < c ∧ c < s1.heap.objs.size ∧ ∃ o, s1.heap.get? c = some o := fun y c e => by
      obtain ⟨o, ho, _⟩ := x.cell y c e
      exact ⟨x.above y c (PySem.mem_of_lookup e), Heap.lt_size ho, o, ho⟩
    let C : GP := { P := P, w := w, K := K, mg := mg, base := base, N := N, A := A, env := envOfC qual scope s.heap.objs.size f cdv, outer := outer, n0 := s.heap.objs.size, a := s1.heap.objs.size, g := s1.gens.size, go := go }
    have ok : C.Ok := ⟨rfl, rfl, ⟨nm, qn, g1, g2, g3⟩, e0.bsz, lt1⟩
    have up : ∀ b o, s1.heap.get? b = some o → (s1.heap.push go).get? b = some o := fun b o e => Heap.get?_push_of_some _ e
    have ownC : ∀ b ∈ C.own, b = C.a ∨ b = C.n0 ∨ ∃ y, C.env.cells.lookup y = some b := fun b hb => by
      rcases List.mem_cons.mp hb with z | hb
      · exact .inl z
      · rcases List.mem_cons.mp hb with z | hb
        · exact .inr (.inl z)
        · obtain ⟨p, _, hp⟩ := List.mem_filterMap.mp hb
          exact .inr (.inr ⟨p.1, hp⟩)
    refine ⟨C, _, rfl, ⟨ok, rfl, rfl, rfl, rfl, rfl, g4 _, Array.getElem?_push_size .., same1.1, ?_, fun b o e => up b o (kp1 b o e), fun b hb => ?_, ?_⟩⟩
    · exact AllBare.push (by rw [same1.2]; exact e0.bare) rfl
    · rcases ownC b hb with z | z | ⟨y, z⟩
      · rw [z]; exact ⟨Nat.le_of_lt lt1, _, g4 _⟩
      · rw [z]
        obtain ⟨o, es, ep, ho, _⟩ := x.toInCall.ns
        exact ⟨Nat.le_refl _, o, up _ o ho⟩
      · obtain ⟨h1, _, o, ho⟩ := cellLt y b z
        exact ⟨Nat.le_of_lt h1, o, up _ o ho⟩
    · intro B Hw sw hrB hfB V hown hkp hH hos
      have e0B : Env0 P w K mg base B outer s H := ⟨hfB, e0.mod, e0.bs, e0.bsz, e0.funs, e0.frf, e0.hok, e0.bare⟩
      have I1 : Inv (gcxOf P w K mg base N qual scope f cdv B outer s H E []) [] (start N vs) H s1 := inv_startG S hrB.hd e0B hl r x
      have okB : (C.on B).Ok := ⟨ok.locals, ok.frame, ok.godata, ok.bsz, ok.an⟩
      have I2 : Inv ((C.on B).cx Hw sw (xeOf (C.on B) Hw sw E)) [] (start N vs) Hw sw :=
        rebase0 (C := C.on B) okB ⟨rfl, rfl, rfl, rfl, rfl, rfl, rfl, rfl, rfl, rfl, rfl, rfl, rfl⟩ I1 V (fun b hb _ o e => hown b hb o (up b o e)) (hown C.a (own_a (C := C)) go (g4 _)) fun y c e => Nat.ne_of_lt (cellLt y c e).2.1
      obtain ⟨t0, t, hst, hrest, ht⟩ := hbody (C.on B) Hw sw vs H n It Qe E rfl rfl rfl rfl rfl rfl rfl okB (hrB.deeper _) hsp fun b o q => (hH b (e0.hok.lt q)).trans q
      refine go_point ?_
      rw [Sem.onRaise_eq_wrap, Sem.bind_eq_wrap', Sem.wrap_wrap, execs_cons_wrap]
      refine go_wrap ?_
      rw [over_func]
      refine wpAny_mono (hst.run _ sw (start N vs) Hw _ I2 ht) (fun fl s' hs => ?_) fun e s' hx => ?_
      · cases fl with
        | next =>
          obtain ⟨σ', H', I', q⟩ := hs
          have I3 : Inv ((C.on B).nx Hw sw) [] σ' H' s' := ⟨⟨I'.ok.mod, I'.ok.kind, I'.ok.glob, I'.ok.blt, I'.ok.above, I'.ok.inj, I'.ok.has, I'.ok.cab, I'.ok.hd, I'.ok.frames, I'.ok.stk, I'.ok.exf, I'.ok.bs, I'.ok.bsz, I'.ok.noex, I'.ok.exfs, I'.ok.funs, I'.ok.frf⟩,
            I'.os, I'.bare, I'.base, I'.loc, I'.cell, I'.free, I'.freeC, I'.pin, I'.hok, I'.len⟩
          refine go_imp (hrest.run n Hw sw _ [] _ _ _ _ s' σ' H' _ ⟨over_func, rfl, rfl, rfl⟩ V (fun m Hv sv f2 s2 V2 h2 => ?_) I3 q) fun e s3 he => .inl he
          have fin : ∀ (u : Value), u = .none → f2 = .next → Goes6 (model P w) B (GEnd (C.on B) ⟨Hw, It, Qe⟩ m Hv sv) (.func (st :: rest) (envOfC qual scope s.heap.objs.size f cdv)) (.pure (.done (.ret u))) [] s2 := fun u hu hf => by
            subst hf hu
            obtain ⟨σ4, H4, I4, hm, hst4, hadv, hq⟩ := h2
            subst hm
            exact go_end (.ok (.ret .none)) ⟨.inl rfl, rfl, H4, out_of okB I4 V2 hst4, hadv, hq⟩
          cases f2 with
          | next => exact fin _ rfl rfl
          | brk => obtain ⟨_, _, _, z⟩ := h2; exact z.elim
          | cont => obtain ⟨_, _, _, z⟩ := h2; exact z.elim
          | ret u => obtain ⟨_, _, _, _, _, z⟩ := h2; exact z.elim
        | brk => obtain ⟨_, _, _, z⟩ := hs; exact z.elim
        | cont => obtain ⟨_, _, _, z⟩ := hs; exact z.elim
        | ret u => obtain ⟨_, _, _, _, _, z⟩ := hs; exact z.elim
      · have hx' : wpAny (model P w) (B.deeper (envOfC qual scope s.heap.objs.size f cdv)) (leaving (envOfC qual scope s.heap.objs.size f cdv) e) (fun _ s'' => CX P w outer Hw (trunc s.heap.objs.size sw) E e s'' ∧ ∀ p ∈ [(C.a, C.go)], s''.heap.get? p.1 = some p.2) (fun _ _ => False) s' := hx
        rw [Sem.bind_eq_wrap, Sem.wrap_wrap]
        refine go_wrap ?_
        rw [over_func]
        refine wpAny_mono hx' (fun _ s'' hq => ?_) fun _ _ hq => hq.elim
        obtain ⟨hc, hp⟩ := hq
        refine go_end (.error e) (.inr ⟨e, rfl, cx_back e0.hok hkp hH hos hc, ?_⟩)
        exact ⟨go, nm, qn, hp (C.a, C.go) (by simp), g1, g2, g3⟩
  exact build _ _ _ _ rfl rfl rfl fun h => Heap.get?_push_size _ rfl
end G6
namespace G6
open PySem PySem.Spec PyProof.Rows GenW L2
open Sem (wp)

/-! ### waking -/
def Ready (M : Model) (A : Around) (Φ : End → Shared → Prop) (gs : GenState) (s : Shared) : Prop :=
  match gs with
  | .fresh c => Goes6 M A Φ c (M.den c) [] s
  | .suspended k _ c _ fs _ => Goes6 M A Φ c (k (.send .none)) fs s
  | _ => False
theorem resume6 {M : Model} {A : Around} {Φ : End → Shared → Prop} {E : Value → Shared → Prop} {s : Shared} {g : Nat} {gs : GenState} {l : List Value} {α : Type} {k : GenResult → Sem α} {Q : α → Shared → Prop}
    (hg : s.gens[g]? = some gs) (hgo : Ready M A Φ gs (s.setGen g .running)) (h : ∀ e s1, Φ e s1 → e.quiet = true ∧ wpAny M A (k e.result) Q E (s1.setGen g e.genState)) : wpAny M A (.resume g (.send .none) l k) Q E s := by
  intro Γ p hΓ
  rw [Sem.wp_resume]
  cases gs with
  | fresh c =>
    obtain ⟨e, s1, hr, he⟩ := hgo (Γ.wake c p) p rfl (hΓ.wake c p)
    obtain ⟨hq, hk⟩ := h e s1 he
    exact ⟨_, _, by unfold Wakes; rw [hg]; exact ⟨e, s1, hr, hq, rfl, rfl⟩, hk Γ p hΓ⟩
  | suspended k0 l0 c0 p0 fs0 cl0 =>
    obtain ⟨e, s1, hr, he⟩ := hgo (Γ.wake c0 p) p0 rfl (hΓ.wake c0 p)
    obtain ⟨hq, hk⟩ := h e s1 he
    exact ⟨_, _, by unfold Wakes; rw [hg]; exact ⟨e, s1, hr, hq, rfl, rfl⟩, hk Γ p hΓ⟩
  | running => exact hgo.elim
  | finished => exact hgo.elim

/-- the next item of a generator -/
theorem next6 {P : Program} {w : World} {A : Around} {Φ : End → Shared → Prop} {E : Value → Shared → Prop} {s : Shared} {a : Addr} {g : Nat} {gs : GenState} {Q : Option Value → Shared → Prop}
    (hh : A.handled = none) (hl : s.heap.NoLimit) (hroom : A.depth < recursionLimit) (hg : s.heap.IsGen a g) (hgs : s.gens[g]? = some gs) (hgo : Ready (model P w) A.in1 Φ gs (s.setGen g .running))
    (hY : ∀ v gd l k c p fs s1, Φ (.susp v gd l k c p fs) s1 → (End.susp v gd l k c p fs).quiet = true ∧ Q (some v) (s1.setGen g (End.susp v gd l k c p fs).genState))
    (hR : ∀ r s1, Φ (.ret r) s1 → ((r = .ok (.ret .none) ∨ r = .ok .next) ∧ ∀ h', (∀ b o, s1.heap.get? b = some o → h'.get? b = some o) → Q none { s1.setGen g .finished with heap := h' }) ∨
      ∃ e, r = .error e ∧ s1.heap.IsGen a g ∧ NotStop (model P w) e s1.heap ∧ E e (s1.setGen g .finished)) : wpAny (model P w) A (pyNext (.ref a)) Q E s := by
  unfold pyNext
  refine wpAny_bind (wpAny_attempt ?_)
  refine wpAny_callSpecial?_slot (name := Str.ofString "__next__") hg.typeIs slot_gen_next ?_
  refine wpAny_call_entry slot_gen_next hg.typeIs entry_gen_next ?_ (args_gen_next _)
  show wpAny _ A.in1 (Builtin.Generator.genWake (.ref a) (.send .none)) _ _ s
  unfold Builtin.Generator.genWake
  refine wpAny_bind ?_
  refine wpAny_holding (wpAny_genNumber hg ?_)
  refine wpAny_bind (wpAny_genState hgs ?_)
  cases gs with
  | running => exact hgo.elim
  | finished => exact hgo.elim
  | _ =>
    refine wpAny_bind (wpAny_roomToWake hl hroom ?_)
    show wpAny _ A.in1 (.resume g (.send .none) [] _) _ _ s
    refine resume6 hgs hgo fun e s1 he => ?_
    cases e with
    | susp v gd l k c p fs =>
      obtain ⟨h1, h2⟩ := hY v gd l k c p fs s1 he
      exact ⟨h1, wpAny_pure ⟨v, rfl, wpAny_pure h2⟩⟩
    | ret r =>
      refine ⟨rfl, ?_⟩
      rcases hR r s1 he with ⟨hr, hq⟩ | ⟨e, rfl, hg1, hns, hq⟩
      · have hres : End.result (.ret r) = .returned .none := by
          rcases hr with z | z <;> rw [z] <;> rfl
        rw [hres]
        show wpAny _ A.in1 (newExc (.type "StopIteration") [] >>= _) _ _ _
        refine wpAny_bind ?_
        simp only [newExc, newTuple]
        refine wpAny_bind (wpAny_newObj_type ?_ (by size_fits))
        refine wpAny_bind (m := firstArgMember _ _) ?_
        refine wpAny_of_eq (a := Value.none) (by first | rfl | (simp only [firstArgMember]; rfl)) ?_
        refine wpAny_newObj_type ?_ (by size_fits)
        simp only [raiseNew]
        refine wpAny_bind (wpAny_bind ?_)
        refine wpAny_handled ?_
        rw [show A.in1.handled = none from hh]
        refine wpAny_throw ?_
        refine wpAny_bind ?_
        refine wpAny_isInstance (T := "StopIteration") (b := true) ⟨_, Heap.get?_push_size _ rfl, rfl⟩ isSubtype_stop ?_
        refine wpAny_pure (hq _ fun b o hb => ?_)
        exact Heap.get?_push_of_some _ (Heap.get?_push_of_some _ hb)
      · obtain ⟨o, nm, qn, ho, _, _, _⟩ := hg1
        show wpAny _ A.in1 (Builtin.Generator.genLeft (.ref a) e) _ _ _
        unfold Builtin.Generator.genLeft Builtin.Generator.madeByALambda
        refine wpAny_bind (wpAny_bind ?_)
        refine wpAny_load (o := o) ho (wpAny_pure ?_)
        refine wpAny_bind ?_
        refine hns _ _ _ _ rfl ?_
        rw [Bool.and_false, if_neg Bool.false_ne_true]
        unfold Builtin.Generator.genEscaped
        first
          | refine wpAny_bind (hns _ _ _ _ rfl ?_)
          | refine wpAny_bind (wpAny_pure (wpAny_bind (hns _ _ _ _ rfl ?_)))
        rw [if_pos (show (!false) = true from rfl)]
        first
          | refine wpAny_throw ?_
          | refine wpAny_bind (wpAny_throw ?_)
        refine wpAny_bind ?_
        refine hns _ _ _ _ rfl ?_
        rw [if_neg Bool.false_ne_true]
        exact wpAny_throw hq

/-! ### tracking young objects as they stand -/
abbrev held (o : Obj) : HO := .frz o (.ext fun _ => True)
theorem retrack {X : Cx} {pins : List (Addr × Obj)} {σ : L2.St} {H H2 : Hp} {s : Shared} {n0 : Nat} (I : Inv X pins σ H s) (hL : X.env.locals < n0) (h0 : X.s_0.heap.objs.size ≤ n0) (hc : ∀ x c, X.env.cells.lookup x = some c → c < n0) (hp : ∀ p ∈ X.pn ++ pins, p.1 < n0)
    (nf : ∀ b, n0 ≤ b → (∀ xs, X.H_0 b ≠ some (.tup xs)) ∧ (∀ o u, X.H_0 b ≠ some (.frz o u)) ∧ ∀ ps, X.H_0 b ≠ some (.tbl ps))
    (d : ∀ b, H2 b = H b ∨ (n0 ≤ b ∧ (H b = none ∨ ∃ o, H b = some (held o)) ∧ (H2 b = none ∨ ∃ o, s.heap.get? b = some o ∧ H2 b = some (held o)))) : Inv X pins σ H2 s := by
  have low : ∀ b, b < n0 → H2 b = H b := fun b hb => by
    rcases d b with z | ⟨z, _⟩
    · exact z
    · exact absurd hb (Nat.not_lt.mpr z)
  have same : ∀ b u, H b = some u → (∀ o, u ≠ held o) → H2 b = some u := fun b u q hn => by
    rcases d b with z | ⟨_, z | ⟨o, z⟩, _⟩
    · rw [z]; exact q
    · rw [z] at q; cases q
    · rw [z] at q; cases q; exact absurd rfl (hn o)
  have hs0 : ∀ b o, X.s_0.heap.get? b = some o → b < n0 := fun b o e => Nat.lt_of_lt_of_le (Heap.lt_size e) h0
  refine ⟨I.ok, I.os, I.bare, ⟨I.base.keep, I.base.slot, fun b o e n hx => ?_, I.base.there, fun b xs e => ?_, fun b o u e => ?_, fun b ps e => ?_⟩, I.loc, I.cell, ?_, fun x c e => ?_, fun p hm => ?_, fun b u q => ?_, I.len⟩
  · rw [low b (hs0 b o e)]; exact I.base.free b o e n hx
  · exact same b _ (I.base.tups b xs e) fun o z => by cases z
  · by_cases hb : b < n0
    · rw [low b hb]; exact I.base.frzs b o u e
    · exact absurd e ((nf b (Nat.le_of_not_lt hb)).2.1 o u)
  · obtain ⟨more, e1⟩ := I.base.tbls b ps e
    exact ⟨more, same b _ e1 fun o z => by cases z⟩
  · rw [low _ hL]; exact I.free
  · rw [low c (hc x c e)]; exact I.freeC x c e
  · obtain ⟨e, n, r⟩ := I.pin p hm
    exact ⟨e, (low _ (hp p hm)).trans n, r⟩
  · have stay : ∀ v, H b = some v → ObjOk X.prog X.w H2 s.heap b v := fun v q => (I.hok b v q).stay (fun _ _ _ z => z) (fun c z => same c _ z fun o q => by cases q) fun c xs z => same c _ z fun o q => by cases q
    rcases d b with z | ⟨_, _, z | ⟨o, ho, z⟩⟩
    · exact stay u (by rw [← z]; exact q)
    · rw [z] at q; cases q
    · rw [z] at q; cases q
      exact ⟨ho, trivial, ⟨o, ho⟩, fun _ _ _ _ => trivial⟩

/-- what the generator sees when it wakes -/
def wakeH (C : GP) (H : Hp) (s : Shared) : Hp := fun b => if b ∈ C.own then none else match H b with
  | some o => some o
  | none => if C.n0 ≤ b then (s.heap.get? b).map held else none
/-- what the consumer sees while it sleeps -/
def layH (C : GP) (H : Hp) (s : Shared) : Hp := fun b => if b ∈ C.own then (s.heap.get? b).map held else H b

/-- the consumer's side -/
structure Fits (X : Cx) (pins : List (Addr × Obj)) (C : GP) : Prop where
  P : C.P = X.prog
  w : C.w = X.w
  base : C.base = X.base
  outer : C.outer = X.stack
  A : C.A = X.A.in1
  L : X.env.locals < C.n0
  s0 : X.s_0.heap.objs.size ≤ C.n0
  c : ∀ x c, X.env.cells.lookup x = some c → c < C.n0
  pin : ∀ p ∈ X.pn ++ pins, p.1 < C.n0
  nf : ∀ b, C.n0 ≤ b → (∀ xs, X.H_0 b ≠ some (.tup xs)) ∧ (∀ o u, X.H_0 b ≠ some (.frz o u)) ∧ ∀ ps, X.H_0 b ≠ some (.tbl ps)
  own : ∀ b ∈ C.own, C.n0 ≤ b
/-- the generator's own, as the consumer sees it -/
def Laid (C : GP) (H : Hp) (s : Shared) : Prop := ∀ b ∈ C.own, (∃ o, s.heap.get? b = some o) ∧ (H b = none ∨ ∃ o, s.heap.get? b = some o ∧ H b = some (held o))

section
variable {X : Cx} {pins : List (Addr × Obj)} {C : GP} {σ : L2.St} {H : Hp} {s : Shared}
theorem inv_gens {s' : Shared} (I : Inv X pins σ H s) (hb : AllBare s'.gens) (hh : s'.heap = s.heap) (ho : s'.os = s.os) : Inv X pins σ H s' :=
  I.call' (ch := []) ho (by rw [hh]; exact Un.refl) (by rw [hh]; exact I.hok) hb fun b z => absurd z (by simp)
theorem inv_wake (F : Fits X pins C) (I : Inv X pins σ H s) (l : Laid C H s) : Inv X pins σ (wakeH C H s) s := by
  refine retrack I F.L F.s0 F.c F.pin F.nf fun b => ?_
  unfold wakeH
  by_cases hb : b ∈ C.own
  · rw [if_pos hb]
    refine .inr ⟨F.own b hb, ?_, .inl rfl⟩
    rcases (l b hb).2 with z | ⟨o, _, z⟩
    · exact .inl z
    · exact .inr ⟨o, z⟩
  · rw [if_neg hb]
    cases q : H b with
    | some o => exact .inl rfl
    | none =>
      dsimp only
      by_cases hn : C.n0 ≤ b
      · rw [if_pos hn]
        cases e : s.heap.get? b with
        | none => exact .inl rfl
        | some o => exact .inr ⟨hn, .inl rfl, .inr ⟨o, rfl, rfl⟩⟩
      · rw [if_neg hn]; exact .inl rfl
theorem wk_of (F : Fits X pins C) (I : Inv X pins σ H s) (l : Laid C H s) {g : Nat} : Wk C (wakeH C H s) (s.setGen g .running) := by
  have J := inv_wake F I l
  have e0 := J.env0
  have hn0 : C.n0 ≤ s.heap.objs.size := by
    obtain ⟨⟨o, ho⟩, _⟩ := l C.n0 own_L
    exact Nat.le_of_lt (Heap.lt_size ho)
  refine ⟨hn0, allBare_setGen J.bare rfl, by rw [F.P, F.w]; exact J.hok, by rw [F.base]; exact e0.bs, by rw [F.base, F.outer]; exact e0.funs, fun b hb => ?_, fun b o h1 h2 h3 => ?_, fun b hb => ?_⟩
  · rw [F.outer] at hb
    refine ⟨e0.frf b hb, ?_⟩
    rcases List.mem_cons.mp (J.stkSub b hb) with z | z
    · rw [z]; exact F.L
    · obtain ⟨_, o, ho, _⟩ := J.ok.funs.mem z
      exact Nat.lt_of_lt_of_le (Heap.lt_size ho) F.s0
  · unfold wakeH
    rw [if_neg h2]
    cases q : H b with
    | some o => simp
    | none =>
      have h3' : s.heap.get? b = some o := h3
      dsimp only
      rw [if_pos h1, h3']; simp
  · unfold wakeH; rw [if_pos hb]
/-- behind a run of the generator -/
theorem inv_slept (F : Fits X pins C) (I : Inv X pins σ H s) (l : Laid C H s) {g : Nat} {gs : GenState} {H1 : Hp} {s1 : Shared} (hb : gs.bare = true) (O : Out C (wakeH C H s) (s.setGen g .running) H1 s1) :
    Inv X pins σ (layH C H1 s1) (s1.setGen g gs) ∧ Laid C (layH C H1 s1) (s1.setGen g gs) := by
  have J := inv_wake F I l
  have I1 : Inv X pins σ H1 (s1.setGen g gs) := by
    refine J.call' (s' := s1.setGen g gs) (ch := C.own) O.os ?_ ?_ (allBare_setGen O.bare hb) fun b hb => ?_
    · have u := O.un
      rw [F.outer] at u
      exact u
    · have h := O.hok
      rw [F.P, F.w] at h
      exact h
    · have hn := F.own b hb
      refine ⟨.inr (Nat.le_trans F.s0 hn), fun z => ?_, fun x c e z => ?_, fun p hp z => ?_⟩
      · have := F.L; rw [← z] at this; exact absurd this (Nat.not_lt.mpr hn)
      · have := F.c x c e; rw [z] at this; exact absurd this (Nat.not_lt.mpr hn)
      · have := F.pin p hp; rw [z] at this; exact absurd this (Nat.not_lt.mpr hn)
  refine ⟨retrack I1 F.L F.s0 F.c F.pin F.nf fun b => ?_, fun b hb => ?_⟩
  · unfold layH
    by_cases hb : b ∈ C.own
    · rw [if_pos hb]
      obtain ⟨hn, o, ho⟩ := O.own b hb
      refine .inr ⟨F.own b hb, .inl hn, .inr ⟨o, ho, by rw [ho]; rfl⟩⟩
    · rw [if_neg hb]; exact .inl rfl
  · obtain ⟨hn, o, ho⟩ := O.own b hb
    refine ⟨⟨o, ho⟩, .inr ⟨o, ho, ?_⟩⟩
    unfold layH
    rw [if_pos hb, ho]; rfl
end
end G6
namespace G6
open PySem PySem.Spec PyProof.Rows GenW L2

def Susp : GenState → Prop
  | .suspended .. => True
  | _ => False
theorem asleep6 {α : Type} {M : Model} {A : Around} {t : Sem α} {Q : α → Shared → Prop} {E : Value → Shared → Prop} {s : Shared} {g : Nat} {gs : GenState} (hb : AllBare s.gens) (hg : s.gens[g]? = some gs) (hs : Susp gs)
    (h : wpAny M A t Q (fun _ _ => False) { s with gens := dulled s.gens }) (hQ : ∀ a s1, Q a s1 → AllBare s1.gens) :
    wpAny M A t (fun a s' => ∃ s1, Q a s1 ∧ s'.heap = s1.heap ∧ s'.os = s1.os ∧ AllBare s'.gens ∧ s'.gens[g]? = some gs) E s := by
  refine wpAny_mono (wpAny_asleep h) (fun a s' hq => ?_) fun x s' hq => ?_
  · obtain ⟨s1, q, al, e⟩ := hq
    refine ⟨s1, q, by rw [e], by rw [e], bare_alike hb al (hQ a s1 q), ?_⟩
    cases gs with
    | suspended k l c p fs cl =>
      have ht : twins s.gens g = some (dull (.suspended k l c p fs cl), .suspended k l c p fs cl) := by unfold twins; rw [hg]
      exact (al.at1 g _ ht).2
    | fresh => exact hs.elim
    | running => exact hs.elim
    | finished => exact hs.elim
  · obtain ⟨_, q, _⟩ := hq
    exact q.elim

abbrev MonoIt (It : Nat → V → Hp → Prop) : Prop := ∀ n x (H H' : Hp), (∀ b o, H b = some o → H' b = some o) → It n x H → It n x H'
abbrev MonoH (Q : Hp → Prop) : Prop := ∀ (H H' : Hp), (∀ b o, H b = some o → H' b = some o) → Q H → Q H'

/-- the consumer's loop: W m: so many items are to come; H00: what was tracked ahead of the first one -/
def LoopG (g : TG) (tb : TS) (D : Ends) (σ : L2.St) (H1 : Hp) (N : Nat) (It : Nat → V → Hp → Prop) (Qe : Hp → Prop) : Prop :=
  ∀ H00 : Hp, (∀ b o, H1 b = some o → H00 b = some o) → ∃ W : Nat → L2.St → Hp → Prop, W N σ H1 ∧ ∀ n σ H H', W n σ H → (∀ b o, H00 b ≠ none → H b = some o → H' b = some o) → (∀ b xs, H b = some (.tup xs) → H' b = some (.tup xs)) →
    (n = 0 → Qe H' → D.nx σ H') ∧ ∀ m x, n = m + 1 → It m x H' → g x σ H' fun σ2 H2 => tb { D with nx := fun σ3 H3 => Wake H00 H' H3 ∧ W m σ3 H3, ct := fun σ3 H3 => Wake H00 H' H3 ∧ W m σ3 H3, bk := D.nx } σ2 H2
def tForG (sp : SpG6) (E : L2.St → XK) (ta : TA) (g : TG) (tb : TS) : TS := fun D σ H => ta σ H fun vs H1 => ∃ N It Qe, sp vs H1 N It Qe (E σ) ∧ MonoIt It ∧ MonoH Qe ∧ LoopG g tb D σ H1 N It Qe

section
variable {X : Cx} {k : Nat} {f : Addr} {fd : FuncData} {ps : List Str} {sp : SpG6} {x nm : Str} {px p pos pos' : Pos} {e : Expr} {es : List Expr} {ta : TA} {body : List Stmt} {g : TG} {tb : TS} {E : L2.St → XK}

/-- for x in f(e, ..): body, over a generator -/
theorem ps_forG (F : GFn6 X.prog X.w X.K X.mg X.base k f fd ps sp) (hr : Room (k + 1) X.A) (hg : Gl X nm) (hm : X.mg nm = some (.ref f)) (hk : PySem.W.keepIn X.K (.ref f) = true) (hb : Binds X.K fd ps [])
    (ha : PA X (e :: es) ta) (hc : X.calm = true) (hp : PassesOwn (model X.prog X.w) X.A X.env X.xe) (hx : ∀ σ, PassesAt (L2.CX X.prog X.w) X σ (E σ)) (hns : ∀ σ, NoStop X.K (E σ)) (hgt : PG X.nox (.Name x px) g) (hbd : PSs X.nox body tb)
    (hdb : (nm == ("__debug__" : Str)) = false := by decide) (he : starEach (e :: es) X.env = (false, eval e X.env) :: starEach es X.env := by rfl) (hpl : (backTo pos' (starEach es X.env)).any (·.1) = false := by rfl)
    (hfold : ∀ v, foldedSetIterable (.Call (.Name nm p) (e :: es) [] pos') X.env v = pure v := by intro _; rfl) :
    PS X (.For (.Name x px) (.Call (.Name nm p) (e :: es) [] pos') body [] pos) (tForG sp E ta g tb) := by
  refine ⟨fun pins s σ H D I h => ?_⟩
  have hrk : Room k X.A := hr.mono (by omega)
  refine wpAny_For (thn (Q := fun u s' => ∃ H1 sc N It Qe C c, Inv X pins σ H1 sc ∧ u = .ref C.a ∧ Made6 X.prog X.w X.base k X.stack H1 sc N It Qe (E σ) C c s' ∧ MonoIt It ∧ MonoH Qe ∧ LoopG g tb D σ H1 N It Qe) ?_ fun u s1 h1 => ?_) hfold
  · refine wpAny_Call_Name_kw (ld_glob I hg hm ?_ hdb)
    refine PySem.W.callWith_K (h₀ := X.base) I.ok.mod.kin hk (thn (ha.run pos' pins s σ H _ I h) fun us s1 ⟨vs, H1, I1, r, N, It, Qe, q1, q2, q3, q4⟩ => ⟨I1.kIn, ?_⟩) he hpl
    have hl : (us ++ []).length = ps.length := by rw [List.append_nil, ← r.length]; exact F.len _ _ _ _ _ _ q1
    have bd := hb s1 us I1.kIn hl
    rw [List.append_nil] at bd
    refine wpAny_call (codeAny_mono (F.run X.A X.stack s1 H1 ⟨us, []⟩ us vs N It Qe (E σ) hrk I1.env0 bd r q1) fun r s' hq => ?_)
    obtain ⟨C, c, rfl, hM⟩ := hq
    exact ⟨H1, s1, N, It, Qe, C, c, I1, rfl, hM, q2, q3, q4⟩
  · obtain ⟨H1, sc, N, It, Qe, C0, c, I0, rfl, M, mIt, mQ, hW⟩ := h1
    have gen1 : s1.heap.IsGen C0.a C0.g := by
      obtain ⟨nm, qn, g1, g2, g3⟩ := M.ok.godata
      exact ⟨_, nm, qn, M.go, g1, g2, g3⟩
    refine wpAny_pyIter_gen gen1 ?_
    -- the place
    let C : GP := C0.on X.A.in1
    have I1 : Inv X pins σ H1 s1 := I0.call' (ch := []) M.os (Un.kept M.kept) (I0.hok.kept M.kept) M.bare fun b z => absurd z (by simp)
    have en : C.n0 = sc.heap.objs.size := M.en
    have ownge : ∀ b ∈ C.own, C.n0 ≤ b := fun b hb => (M.own b hb).1
    have fresh : ∀ b, C.n0 ≤ b → H1 b = none := fun b hb => I0.hok.fresh (by rw [← en]; exact hb)
    have Fi : Fits X pins C := by
      refine ⟨M.eP, M.ew, M.eb, M.eo, rfl, ?_, ?_, fun x c e => ?_, fun p hp => ?_, fun b hb => ?_, ownge⟩
      · rw [en]; exact I0.lt
      · rw [en]; exact I0.sz
      · rw [en]
        obtain ⟨v, q⟩ := I0.cell x c e
        exact q.lt
      · rw [en]; exact Heap.lt_size (I0.pin p hp).1
      · have f := fresh b hb
        refine ⟨fun xs z => ?_, fun o u z => ?_, fun ps z => ?_⟩
        · have := I0.base.tups b xs z; rw [f] at this; cases this
        · have := I0.base.frzs b o u z; rw [f] at this; cases this
        · obtain ⟨more, this⟩ := I0.base.tbls b ps z; rw [f] at this; cases this
    have l1 : Laid C H1 s1 := fun b hb => ⟨(M.own b hb).2, .inl (fresh b (ownge b hb))⟩
    obtain ⟨H00, e00⟩ : ∃ Z, Z = wakeH C H1 s1 := ⟨_, rfl⟩
    have own00 : ∀ b ∈ C.own, H00 b = none := fun b hb => by rw [e00]; unfold wakeH; rw [if_pos hb]
    have notown : ∀ {Hx : Hp} {sx : Shared} {b : Addr} {o : HO}, Hx b = some o → b ∉ C.own → wakeH C Hx sx b = some o := fun {Hx sx b o} q hb => by unfold wakeH; rw [if_neg hb, q]
    have up00 : ∀ b o, H1 b = some o → H00 b = some o := fun b o q => by
      rw [e00]
      refine notown q fun hb => ?_
      rw [fresh b (ownge b hb)] at q; cases q
    obtain ⟨W, w0, turn⟩ := hW H00 up00
    let S : Sp6 := ⟨H00, It, Qe⟩
    let Φ : Nat → Hp → Shared → End → Shared → Prop := fun n Hw sw e s' => GEnd C S n Hw sw e s' ∨ ∃ x, e = .ret (.error x) ∧ s'.heap.IsGen C.a C.g ∧ NotStop (model X.prog X.w) x s'.heap ∧ X.xe x (s'.setGen C.g .finished)
    let LI : Nat → Shared → Prop := fun n s => ∃ σ H gs, Inv X pins σ H s ∧ Laid C H s ∧ s.heap.IsGen C.a C.g ∧ s.gens[C.g]? = some gs ∧ Ready (model X.prog X.w) X.A.in1 (Φ n (wakeH C H s) (s.setGen C.g .running)) gs (s.setGen C.g .running) ∧ W n σ H
    refine codeAny_forLoop_any LI ?_ N ⟨σ, H1, .fresh c, I1, l1, gen1, M.gen, ?_, w0⟩
    · -- a turn
      rintro n s3 ⟨σ3, H3, gs, I3, l3, gen3, hgs, rdy, w3⟩
      have hH : ∀ (H4 : Hp) (s4 : Shared), Out C (wakeH C H3 s3) (s3.setGen C.g .running) H4 s4 → Adv S.H00 (wakeH C H3 s3) H4 →
          (∀ b o, H00 b ≠ none → H3 b = some o → layH C H4 s4 b = some o) ∧ (∀ b xs, H3 b = some (.tup xs) → layH C H4 s4 b = some (.tup xs)) ∧ ∀ b o, H4 b = some o → layH C H4 s4 b = some o := fun H4 s4 O adv => by
        have lay : ∀ b o, b ∉ C.own → H4 b = some o → layH C H4 s4 b = some o := fun b o hb q => by unfold layH; rw [if_neg hb]; exact q
        refine ⟨fun b o hn q => ?_, fun b xs q => ?_, fun b o q => ?_⟩
        · have hb : b ∉ C.own := fun z => hn (own00 b z)
          exact lay b o hb (adv b o hn (notown q hb))
        · have hb : b ∉ C.own := fun z => by
            rcases (l3 b z).2 with y | ⟨o, _, y⟩
            · rw [y] at q; cases q
            · rw [y] at q; cases q
          exact lay b _ hb (O.un.tups b xs (notown q hb))
        · exact lay b o (fun z => by rw [(O.own b z).1] at q; cases q) q
      have hg3 : C.g + 1 ≤ s3.gens.size := (Array.getElem?_eq_some_iff.mp hgs).1
      refine wpAny_gsz hg3 (next6 (Φ := Φ n (wakeH C H3 s3) (s3.setGen C.g .running)) (I3.ok.hd hc) I3.nolimit hr.depth gen3 hgs rdy (fun v gd l kk cc pp fs s4 hΦ => ?_) fun r s4 hΦ => ?_)
      · -- an item
        rcases hΦ with hΦ | ⟨x, z, _⟩
        · cases n with
          | zero => exact hΦ.elim
          | succ m =>
            obtain ⟨hq, y, H4, ry, O, adv, it, cont⟩ := hΦ
            refine ⟨hq, fun hsz => ?_⟩
            have hbare : (End.susp v gd l kk cc pp fs).genState.bare = true := End.bare_of_quiet hq
            obtain ⟨I4, l4⟩ := inv_slept Fi I3 l3 (g := C.g) hbare O
            obtain ⟨k1, k2, k3⟩ := hH H4 s4 O adv
            have t4 := (turn (m + 1) σ3 H3 (layH C H4 s4) w3 k1 k2).2 m y rfl (mIt m y H4 _ k3 it)
            have hgl : C.g < s4.gens.size := by
              have h1 : (s4.setGen C.g (End.susp v gd l kk cc pp fs).genState).gens.size = s4.gens.size := setGen_size _ _ _
              rw [h1] at hsz; exact hsz
            have hg4 : (s4.setGen C.g (End.susp v gd l kk cc pp fs).genState).gens[C.g]? = some (End.susp v gd l kk cc pp fs).genState := setGen_at hgl
            have hsus : Susp (End.susp v gd l kk cc pp fs).genState := trivial
            show wpAny _ _ (letOwnedTupleGo (.Name x px) (.ref C.a) v) _ _ _
            unfold letOwnedTupleGo
            refine wpAny_pure ?_
            refine thn (asleep6 (Q := fun _ s' => ∃ σ' H', Inv X.nox pins σ' H' s' ∧ _) I4.bare hg4 hsus (hgt.run pins _ σ3 _ y v _ ((inv_gens (s' := { s4.setGen C.g (End.susp v gd l kk cc pp fs).genState with gens := dulled (s4.setGen C.g (End.susp v gd l kk cc pp fs).genState).gens }) I4 (bare_dulled I4.bare) rfl rfl).wish _) ry t4) fun _ s5 hq5 => ?_) fun _ s5 hq5 => ?_
            · obtain ⟨_, _, J, _⟩ := hq5; exact J.bare
            · obtain ⟨s5', ⟨σ5, H5, J5, q5⟩, eh5, eo5, b5, hg5⟩ := hq5
              have I5 : Inv X pins σ5 H5 s5 := inv_gens J5.unwish b5 eh5 eo5
              refine thn (asleep6 (Q := SP X.nox pins _) b5 hg5 hsus (hbd.run pins _ σ5 H5 _ ((inv_gens (s' := { s5 with gens := dulled s5.gens }) I5 (bare_dulled b5) rfl rfl).wish _) q5) fun fl s6 hq6 => ?_) fun fl s6 hq6 => ?_
              · cases fl with
                | next => obtain ⟨_, _, J, _⟩ := hq6; exact J.bare
                | cont => obtain ⟨_, _, J, _⟩ := hq6; exact J.bare
                | brk => obtain ⟨_, _, J, _⟩ := hq6; exact J.bare
                | ret u => obtain ⟨_, _, _, J, _⟩ := hq6; exact J.bare
              · obtain ⟨s6', hf, eh6, eo6, b6, hg6⟩ := hq6
                have again : ∀ {σ6 : L2.St} {H6 : Hp}, Inv X.nox pins σ6 H6 s6' → Wake H00 (layH C H4 s4) H6 → W m σ6 H6 → ∃ m', m' < m + 1 ∧ LI m' s6 := fun {σ6 H6} J6 wk6 w6 => by
                  have I6 : Inv X pins σ6 H6 s6 := inv_gens J6.unwish b6 eh6 eo6
                  have own6 : ∀ b ∈ C.own, ∃ o, s4.heap.get? b = some o ∧ H6 b = some (held o) ∧ s6.heap.get? b = some o := fun b hb => by
                    obtain ⟨_, o, ho⟩ := O.own b hb
                    have e1 : layH C H4 s4 b = some (held o) := by unfold layH; rw [if_pos hb, ho]; rfl
                    have e2 := wk6.1 b _ (own00 b hb) e1
                    exact ⟨o, ho, e2, (I6.hok b _ e2).1⟩
                  have l6 : Laid C H6 s6 := fun b hb => by
                    obtain ⟨o, _, e2, e3⟩ := own6 b hb
                    exact ⟨⟨o, e3⟩, .inr ⟨o, e3, e2⟩⟩
                  have gen6 : s6.heap.IsGen C.a C.g := by
                    obtain ⟨o, nm, qn, ho, r⟩ := O.gen
                    obtain ⟨o', ho', _, e3⟩ := own6 C.a own_a
                    rw [ho] at ho'; cases ho'
                    exact ⟨o, nm, qn, e3, r⟩
                  have low6 : ∀ b o, H4 b = some o → b ∉ C.own := fun b o q z => by rw [(O.own b z).1] at q; cases q
                  refine ⟨m, Nat.lt_succ_self m, σ6, H6, _, I6, l6, gen6, hg6, ?_, w6⟩
                  have go := cont (wakeH C H6 s6) (s6.setGen C.g .running) (wk_of Fi I6 l6) (fun b hb o ho => ?_) ⟨fun b o hn q => ?_, fun b xs q => ?_⟩
                  · show Goes6 _ _ _ _ _ _ _
                    have go' : Goes6 (model X.prog X.w) X.A.in1 (GEnd C S m (wakeH C H6 s6) (s6.setGen C.g .running)) cc (kk (.send .none)) fs (s6.setGen C.g .running) := by
                      have h := go
                      have hP : C.P = X.prog := Fi.P
                      have hw : C.w = X.w := Fi.w
                      rw [← hP, ← hw]
                      exact h
                    exact go_imp go' fun _ _ z => .inl z
                  · obtain ⟨o', ho', _, e3⟩ := own6 b hb
                    rw [ho] at ho'; cases ho'
                    exact e3
                  · exact notown (wk6.1 b o hn (k3 b o q)) (low6 b o q)
                  · exact notown (wk6.2 b xs (k3 b _ q)) (low6 b _ q)
                cases fl with
                | next => obtain ⟨σ6, H6, J6, w1, w2⟩ := hf; exact again J6 w1 w2
                | cont => obtain ⟨σ6, H6, J6, w1, w2⟩ := hf; exact again J6 w1 w2
                | brk =>
                  obtain ⟨σ6, H6, J6, q⟩ := hf
                  exact ⟨σ6, H6, inv_gens J6.unwish b6 eh6 eo6, q⟩
                | ret u =>
                  obtain ⟨v6, σ6, H6, J6, r6, q⟩ := hf
                  exact ⟨v6, σ6, H6, inv_gens J6.unwish b6 eh6 eo6, r6, q⟩
        · cases z
      · -- the end
        rcases hΦ with hΦ | ⟨e, er, g4, ns4, x4⟩
        · have hR : RetP C S n (wakeH C H3 s3) (s3.setGen C.g .running) r s4 := by cases n <;> exact hΦ
          obtain ⟨hr, hn, H4, O, adv, hq⟩ := hR
          refine .inl ⟨hr, fun h' hk' hsz => ?_⟩
          obtain ⟨I4, _⟩ := inv_slept Fi I3 l3 (g := C.g) (gs := .finished) rfl O
          obtain ⟨k1, k2, k3⟩ := hH H4 s4 O adv
          have q4 := (turn n σ3 H3 (layH C H4 s4) w3 k1 k2).1 hn (mQ H4 _ k3 hq)
          refine wpAny_execs_nil ?_
          exact ⟨σ3, _, I4.kept (t' := s4.toks) hk', q4⟩
        · have er' : r = .error e := by injection er
          refine .inr ⟨e, er', g4, ns4, fun _ => ?_⟩
          exact hp e _ x4
    · -- it begins
      have go := M.run X.A.in1 (wakeH C H1 s1) (s1.setGen C.g .running) (hr.in1) I1.ok.frames (wk_of Fi I1 l1) (fun b hb o ho => ho) (fun b o q => M.kept b o q) (fun b hb => ?_) M.os
      · show Goes6 _ _ _ _ _ _ _
        refine go_imp go fun e s' he => ?_
        rcases he with he | ⟨x, rfl, hcx, hgen⟩
        · left
          rw [← e00] at he ⊢
          exact he
        · right
          have hcx' : L2.CX X.prog X.w X.stack H1 sc (E σ) x s' := by
            have h := hcx
            have hP : C.P = X.prog := Fi.P
            have hw : C.w = X.w := Fi.w
            have ho : C.outer = X.stack := Fi.outer
            rw [← hP, ← hw, ← ho]
            exact h
          refine ⟨x, rfl, hgen, ?_, ?_⟩
          · have kin : X.K.In s'.heap := by
              obtain ⟨a, B, H', cls, d, _, fl, _, ub, _⟩ := id hcx'
              refine I0.ok.mod.kin.keeps fun b o eb => fl.1 b o (ub.keep b o (I0.bs b o eb).1 (I0.bs b o eb).2 fun hm => ?_)
              rcases List.mem_cons.mp (I0.stkSub b hm) with z | z
              · have h1 := Heap.lt_size eb
                have h2 := Nat.le_trans I0.ok.bsz I0.ok.above
                rw [z] at h1
                exact absurd (Nat.lt_of_lt_of_le h1 h2) (Nat.lt_irrefl _)
              · exact I0.ok.nofr eb z
            exact notStop_of (hns σ) kin hcx'
          · refine hx σ pins H1 sc x _ I0 ?_
            obtain ⟨a, B, H', cls, d, z1, fl, z2, ub, z3, z4, z5, z6⟩ := hcx'
            exact ⟨a, B, H', cls, d, z1, fl, z2, ub, z3, z4, allBare_setGen z5 rfl, z6⟩
      · have hno : b ∉ C.own := fun z => absurd hb (Nat.not_lt.mpr (ownge b z))
        have hlt : ¬ C.n0 ≤ b := Nat.not_le.mpr hb
        unfold wakeH
        rw [if_neg hno]
        cases q : H1 b with
        | some o => rfl
        | none => dsimp only; rw [if_neg hlt]
end
end G6
namespace G6
open PySem PySem.Spec PyProof.Rows GenW L2
open AutoSeq1 (wpAny_loadPart')

/-! ### () + t -/
section
variable {X : Cx}
def rCat0 (K : PySem.W.Frag) : R2 := fun x y H Q => ∃ a b xs ys, x = .ref a ∧ y = .ref b ∧ SqT K H a xs ∧ SqT K H b ys ∧ xs.length + ys.length ≤ sizeLine ∧ (xs = [] → Q (.ref b) H) ∧ (xs ≠ [] → ys ≠ []) ∧
  (xs ≠ [] → ∀ p, H p = none → Q (.ref p) (upd H p (.tup (xs ++ ys))))
theorem op_cat0 : OpR X (binaryOp .Add) (rCat0 X.K) := by
  intro pins s σ H x y v u Q I rx ry h
  obtain ⟨a, b, xs, ys, ex, ey, ha, hb, hz, q0, qy, q1⟩ := h
  by_cases hx : xs = []
  · subst ex ey
    cases rx
    cases ry
    obtain ⟨its, r1, p1, _⟩ := I.tuple ha
    obtain ⟨its2, r2, p2, _⟩ := I.tuple hb
    obtain ⟨⟨cls, dd, data, sl⟩, ho, hc, n, hd⟩ := id p1
    obtain ⟨⟨cls2, dd2, data2, sl2⟩, ho2, hc2, n2, hd2⟩ := id p2
    simp only at hc hd hc2 hd2
    subst hc hd hc2 hd2
    have hw : its = [] := r1.nil_iff.mpr hx
    refine concat_meets ⟨_, ho, rfl⟩ ⟨_, ho2, rfl⟩ noFill_tuple_add seq_tuple_add PySem.F.slot_tuple_add PySem.F.entry_tuple_add (PySem.F.args_tuple_add_2 _ _)
      (tuple_addW0 a b its.toArray its2.toArray n n2 dd dd2 sl sl2 (by simp [hw])) ⟨ho, ho2, ?_⟩
    exact ⟨.ref b, H, I, rfl, q0 hx⟩
  · exact op_catT pins s σ H x y v u Q I rx ry ⟨a, b, xs, ys, ex, ey, ha, hb, hx, hz, fun z => absurd z (qy hx), fun _ => q1 hx⟩
end

/-! ### t.index(i), whole numbers -/
section
variable {X : Cx}
theorem mt_tup_indexI : MtR X "tuple.index" (fun x xs H Q => ∃ p, ∃ ys : List Int, ∃ z j, x = .ref p ∧ xs = [.int z] ∧ SqT X.K H p (ys.map V.int) ∧ ys[j]? = some z ∧ (∀ m, m < j → ys[m]? ≠ some z) ∧ Q (.int (j : Nat)) H) := by
  intro pins s σ H x xs v us Q I rx rs h
  obtain ⟨p, ys, z, j, rfl, rfl, hq, hy, hno, q⟩ := h
  cases rx
  obtain ⟨u, rfl, t, rfl⟩ := vals1 rs
  obtain ⟨its, r, pl, hz⟩ := I.tuple hq
  obtain ⟨⟨cls, dd, dt, sl⟩, ho, hc, n, hd⟩ := pl
  simp only at hc hd
  subst hc
  subst hd
  have hl : its.toArray.size = ys.length := by rw [List.size_toArray, ← r.length, List.length_map]
  have hj : j < its.toArray.size := by rw [hl]; exact (List.getElem?_eq_some_iff.mp hy).1
  have item : ∀ (m : Nat) (hm : m < its.toArray.size), ∃ y t', ys[m]? = some y ∧ its.toArray[m] = Value.int y t' := fun m hm => by
    have hm' : m < ys.length := by rw [← hl]; exact hm
    obtain ⟨w, hw, t', hw'⟩ := r.get (i := m) (x := .int ys[m]) (by simp [hm'])
    refine ⟨ys[m], t', List.getElem?_eq_getElem hm', ?_⟩
    have e := (List.getElem?_eq_some_iff.mp hw).2
    rw [← hw', ← e]
    simp
  have flat : (ys.map V.int).all flatV = true := by
    rw [List.all_map]
    exact List.all_eq_true.mpr fun _ _ => rfl
  refine call_meets PySem.F.slot_tuple_index ⟨_, ho, rfl⟩ PySem.F.entry_tuple_index (PySem.F.args_tuple_index_2 _ _) (TI.tuple_indexAt p its.toArray n dd sl (.int z t) (eqU (.int z)) j hj ?_ ?_) ?_
  · obtain ⟨y, t', h1, h2⟩ := item j hj
    rw [hy] at h1
    cases h1
    rw [h2]
    show eqV (.int z) (.int z) = true
    simp [eqV]
  · intro m hm hmj
    obtain ⟨y, t', h1, h2⟩ := item m hm
    rw [h2]
    show eqV (.int y) (.int z) = false
    have hne : y ≠ z := fun e => hno m hmj (by rw [h1, e])
    simp [eqV, hne]
  · exact ⟨ho, fun w hw => mem_eqAt (x := .int z) ⟨t, rfl⟩ rfl r flat w (by simpa using hw), ⟨.int (j : Nat), H, I.tok _, ⟨_, rfl⟩, q⟩⟩
end

/-! ### repr of data -/
section
variable {X : Cx}
theorem cr_reprD (hg : X.A.guards = some []) (hu : X.A.units + 60 < cLine) : CallR X (.builtin "repr") (fun xs H Q => ∃ a d, xs = [.ref a] ∧ Dp X.K H (.ref a) d ∧ d.showable = true ∧ d.hasDict = false ∧ d.depth ≤ 50 ∧ d.shown.length ≤ sizeLine ∧ Q (.str d.shown) H) := by
  intro pins s σ H xs us Q I r h
  obtain ⟨a, d, rfl, hd, h1, h2, h3, h4, q⟩ := h
  obtain ⟨u, rfl, ru⟩ := vals1 r
  cases ru
  obtain ⟨as, rd⟩ := Dp.reads I d (.ref a) (.ref a) hd rfl
  refine repr_of_reads' rd h1 (fun e => by rw [h2] at e; cases e) hg (by omega) (fun _ _ e => e) (fun h' u tk hk => ?_) h4
  exact ⟨.str d.shown, H, I.kept (t' := tk) hk, ⟨_, rfl⟩, q⟩
end

/-! ### enumerate of a tuple -/
theorem meets_enumT (l : Addr) (items : Array Value) (n : Nat) (dct : Option Addr) (sl : Array (Option Value)) :
    Meets (Builtin.«enumerate.__new__» ⟨[.type "enumerate", .ref l], []⟩) (fun _ R s => s.heap.get? l = some { cls := .type "tuple", dict := dct, data := .seq items n, slots := sl } ∧
      R (.ok (.ret (.ref (s.heap.push { cls := .type "tuple_iterator", data := .fields #[.ref l, .int 0 0] }).objs.size)))
        { s with heap := (s.heap.push { cls := .type "tuple_iterator", data := .fields #[.ref l, .int 0 0] }).push { cls := .type "enumerate", data := .fields #[.none, .bool false, .ref s.heap.objs.size, rawInt 0, .none, .none] } }) :=
  .of_wp fun prog w A R s h => by
    obtain ⟨hp, g, d, tk, os⟩ := s
    obtain ⟨hl, h⟩ := h
    have hsub := sub_enumerate
    have hT : Heap.IsTuple (Shared.heap ⟨hp, g, d, tk, os⟩) l items := ⟨_, hl, rfl, n, rfl⟩
    wp_walk using wpAny_loadPart' hl
    refine wpAny_stack_any fun st => wpAny_pure ?_
    split
    · rename_i c _ _ _ _ _
      cases (c == Value.type "enumerate")
      · wp_walk using wpAny_loadPart' hl, wpAny_pyIter_tuple hT
        exact ⟨_, rfl, h⟩
      · wp_walk using wpAny_loadPart' hl, wpAny_pyIter_tuple hT
        exact ⟨_, rfl, h⟩
    · wp_walk using wpAny_loadPart' hl, wpAny_pyIter_tuple hT
      exact ⟨_, rfl, h⟩
theorem call_enumT {prog : Program} {w : World} {A : Around} {E : Value → Shared → Prop} {s : Shared} {l : Addr} {items : Array Value} {Q : Value → Shared → Prop} (hL : s.heap.IsTuple l items)
    (h : ∀ h', IsEnum h' (s.heap.objs.size + 1) s.heap.objs.size 0 .none → h'.IsTupleIter s.heap.objs.size l 0 → (∀ b o, s.heap.get? b = some o → h'.get? b = some o) → Q (.ref (s.heap.objs.size + 1)) { s with heap := h' }) :
    wpAny (model prog w) A (call (.type "enumerate") [.ref l]) Q E s := by
  obtain ⟨⟨c, dct, dt, sl⟩, hl, hc, n, hd⟩ := hL
  simp only at hc hd
  subst hc hd
  refine callType_new F.called_enumerate (by decide) (F.typeCall_enumerate_1 _) (F.newCall_enumerate_1 _) (fun obj => F.args_object_init_2 obj _) F.entry_enumerate_new (meets_enumT l items n dct sl) ⟨hl, ?_⟩
  have hz : (s.heap.push { cls := .type "tuple_iterator", data := .fields #[.ref l, .int 0 0] }).objs.size = s.heap.objs.size + 1 := Heap.size_push ..
  show _ ∧ _
  rw [hz]
  have he : IsEnum ((s.heap.push { cls := .type "tuple_iterator", data := .fields #[.ref l, .int 0 0] }).push
      { cls := .type "enumerate", data := .fields #[.none, .bool false, .ref s.heap.objs.size, rawInt 0, .none, .none] }) (s.heap.objs.size + 1) s.heap.objs.size 0 .none := by
    have q := Heap.get?_push_size (s.heap.push { cls := .type "tuple_iterator", data := .fields #[.ref l, .int 0 0] })
      (o := { cls := .type "enumerate", data := .fields #[.none, .bool false, .ref s.heap.objs.size, rawInt 0, .none, .none] }) rfl
    rw [hz] at q
    exact q
  exact ⟨⟨_, he, rfl⟩, h _ he ⟨_, Heap.get?_push_of_some _ (Heap.get?_push_size _ rfl), rfl, rfl⟩ fun b o x => Heap.get?_push_of_some _ (Heap.get?_push_of_some _ x)⟩

/-- enumerate(t) at turn i: a new pair -/
def Iten (K : PySem.W.Frag) (a : Addr) : It :=
  ⟨fun i H => ∃ (xs : List V) (x : V), SqT K H a xs ∧ xs[i]? = some x, fun i H v H' => ∃ T x, v = .ref T ∧ H T = none ∧ H' = upd H T (.tup [.int (i : Nat), x]) ∧ ∀ xs, SqT K H a xs → xs[i]? = some x, fun i H => ∃ xs : List V, SqT K H a xs ∧ xs.length = i⟩
theorem turn_enumT {P : Program} {w : World} {K : PySem.W.Frag} {elts : List Expr} {kk : Nat} {tpos : Pos} (a e it : Addr) :
    Turn P w K (.Tuple elts kk tpos) (Iten K a) [e, it] e (fun i h => (∃ old, IsEnum h e it ((i : Nat) : Int) old) ∧ h.IsTupleIter it a i ∧ e ≠ it ∧ a ≠ it ∧ a ≠ e) where
  mem := by simp
  obj := fun i h st b hb => by
    obtain ⟨⟨old, he⟩, ⟨o, ho, hc, hd⟩, _⟩ := st
    have e' : b = e ∨ b = it := by simpa using hb
    rcases e' with z | z
    · rw [z]; exact ⟨_, he, fun v q => nomatch q⟩
    · rw [z]; exact ⟨o, ho, fun v q => by rw [hd] at q; cases q⟩
  keep := fun i h h' st k => let ⟨⟨old, he⟩, hi, hne⟩ := st; ⟨⟨old, k e (by simp) _ he⟩, hi.at fun o q => k it (by simp) o q, hne⟩
  item := by
    intro X hP hw hK hc i pins s σ H E I hf st hg
    subst hP hw hK
    obtain ⟨⟨old, he⟩, hit, hne, hai, hae⟩ := st
    obtain ⟨xs, x, hq, hx⟩ := hg
    obtain ⟨its, rv, p, hz⟩ := I.tuple hq
    obtain ⟨u, hu, ru⟩ := rv.get hx
    have hel : e < s.heap.objs.size := Heap.lt_size he
    have hil : it < s.heap.objs.size := by obtain ⟨_, q, _⟩ := hit; exact Heap.lt_size q
    have hlt : i < its.toArray.size := by
      have := (List.getElem?_eq_some_iff.mp hu).1
      simpa using this
    have D := Draws.tuple (prog := X.prog) (w := X.w) (A := X.A.in1) (I.ok.hd hc) it a hai its.toArray
    refine wpAny_pyNext_enum_itemD D he ⟨hit, p⟩ hlt hne (by simp [hne, Ne.symm hae]) fun v h' tk hPx ho hst hT hsz hk => ?_
    have ev : v = u := by
      have h1 : its.toArray[i]? = some v := hPx
      have h2 : its.toArray[i]? = some u := by simpa using hu
      rw [h1] at h2
      exact Option.some.inj h2
    subst ev
    refine ⟨_, rfl, wpAny_letOwnedTupleGo_enum (s := { s with heap := h', toks := tk + 1 }) ho fun h'' he' sb => ?_⟩
    have hT2 : h''.get? s.heap.objs.size = some { cls := .type "tuple", data := .seq #[.int i tk, v] } := (sb.2 _ (Nat.ne_of_gt hel)).trans hT
    have new : ObjOk X.prog X.w (upd H s.heap.objs.size (.tup [.int (i : Nat), x])) h'' s.heap.objs.size (.tup [.int (i : Nat), x]) :=
      ⟨by show 2 ≤ sizeLine; decide, [.int i tk, v], .cons ⟨_, rfl⟩ (.cons ru .nil), ⟨_, hT2, rfl, _, rfl⟩⟩
    have I1 : Inv X pins σ (upd H s.heap.objs.size (.tup [.int (i : Nat), x])) { s with heap := h'', toks := tk + 1 } :=
      I.turnedNew (ch := [e, it]) (fun b ob hb q => (sb.2 b (fun z => hb (by simp [z]))).trans (hk b ob (fun z => hb (by simp [z])) (fun z => hb (by simp [z])) q)) hf (Nat.le_refl _) new
    refine ⟨.ref s.heap.objs.size, _, I1, rfl, ⟨_, x, rfl, I.hok.fresh (Nat.le_refl _), rfl, fun ys hy => by rw [I.tuple_inj hy hq]; exact hx⟩, ⟨⟨v, ?_⟩, hst.1.at fun o q => (sb.2 it (Ne.symm hne)).trans q, hne, hai, hae⟩, fun b hb => ?_⟩
    · have e1 : ((i + 1 : Nat) : Int) = (i : Int) + 1 := by omega
      rw [e1]; exact he'
    · have hb' : b < s.heap.objs.size := by
        have e' : b = e ∨ b = it := by simpa using hb
        rcases e' with z | z
        · rw [z]; exact hel
        · rw [z]; exact hil
      rw [upd_ne (Nat.ne_of_lt hb')]
      exact (hf b hb).1
  done := by
    intro X hP hw hK hc i pins s σ H E I hf st hg
    subst hP hw hK
    obtain ⟨⟨old, he⟩, hit, hne, hai, hae⟩ := st
    obtain ⟨xs, hq, hx⟩ := hg
    obtain ⟨its, rv, p, hz⟩ := I.tuple hq
    obtain ⟨f0, f1, f2, f3, f4, f5⟩ := hf it (by simp)
    have hl := rv.length
    have hsz : its.toArray.size = i := by rw [List.size_toArray, ← hl]; exact hx
    have D := Draws.tuple (prog := X.prog) (w := X.w) (A := X.A.in1) (I.ok.hd hc) it a hai its.toArray
    refine wpAny_pyNext_enum_endD D he ⟨by rw [hsz]; exact hit, p⟩ fun h' eb => ⟨rfl, I.turned (t' := s.toks) (fun b o hb q => eb b o hb q) f0 f1 f3 f4 f5⟩
  self := fun A i s Q E st h => let ⟨⟨_, he⟩, _⟩ := st; wpAny_pyIter_enum he h
def iEnumT (K : PySem.W.Frag) (ta : TA) : TI := fun σ H R => ta σ H fun vs H1 => ∃ a xs, vs = [.ref a] ∧ SqT K H1 a xs ∧ R (Iten K a) H1
theorem pi_enumT {X : Cx} {e : Expr} {ta : TA} {p pos tpos : Pos} {elts : List Expr} {kk : Nat} (hg : Gl X "enumerate") (hm : X.mg "enumerate" = none) (ha : PA X [e] ta) (hs : starEach [e] X.env = [(false, eval e X.env)] := by rfl) :
    PI X (.Tuple elts kk tpos) (.Call (.Name "enumerate" p) [e] [] pos) (iEnumT X.K ta) := by
  refine ⟨fun pins s σ H R I h => ?_⟩
  refine Call_ (ld_blt I hg hm boot_enumerate (PyProof.Rows.callWith_type1 (thn (ha.run pos pins s σ H _ I h) fun us s1 ⟨vs, H1, I1, r1, q1⟩ => ?_) hs rfl))
  obtain ⟨a, xs, ex, hq, q⟩ := q1
  subst ex
  cases r1 with
  | cons r rr =>
    cases rr
    cases r
    obtain ⟨its, rv, p', hz⟩ := I1.tuple hq
    have hal : a < s1.heap.objs.size := by obtain ⟨o, ho, _⟩ := p'; exact Heap.lt_size ho
    refine call_enumT p' fun h' he hit hk => wpAny_pyIter_enum he ?_
    have I2 : Inv X pins σ H1 { s1 with heap := h' } := I1.kept (t' := s1.toks) hk
    refine ⟨s1.heap.objs.size + 1, [s1.heap.objs.size + 1, s1.heap.objs.size], _, _, H1, rfl, I2, turn_enumT a (s1.heap.objs.size + 1) s1.heap.objs.size, ⟨⟨.none, he⟩, hit, Nat.succ_ne_self _, Nat.ne_of_lt hal, Nat.ne_of_lt (Nat.lt_succ_of_lt hal)⟩, fun b hb => ?_, q⟩
    have e' : b = s1.heap.objs.size + 1 ∨ b = s1.heap.objs.size := by simpa using hb
    have hle : s1.heap.objs.size ≤ b := by
      rcases e' with z | z
      · rw [z]; exact Nat.le_add_right _ _
      · rw [z]; exact Nat.le_refl _
    exact I1.fpOk hle (I1.hok.fresh hle)
theorem walk_enumT {K : PySem.W.Frag} {a : Addr} {xs : List V} : Walk (Iten K a) xs.length (fun H => SqT K H a xs) (YPair (fun i => some (.int (i : Nat))) (fun i => xs[i]?)) := by
  refine ⟨fun i _ hi q => ⟨xs, xs[i], q, by simp [hi]⟩, fun _ q => ⟨xs, q, rfl⟩, fun i H v H' _ q y => ?_⟩
  obtain ⟨T, x, h1, h2, h3, h4⟩ := y
  exact ⟨T, .int (i : Nat), x, h1, h2, h3, rfl, h4 xs q⟩
end G6
namespace G6
open PySem PySem.Spec PyProof.Rows GenW L2
section
variable {X : Cx} {es : List Expr} {t : TA} {pos : Pos}
/-- a written tuple, its object known to have no dict -/
def tTupZ (t : TA) : TE := fun σ H Q => t σ H fun xs H1 => xs.length ≤ sizeLine ∧ ∀ (p : Addr) (o : Obj), H1 p = none → o.dict = none → Q (.ref p) (upd H1 p (.frz o (.tup xs)))
theorem pe_tupZ {x1} (h : PA X es t) : PE X (.Tuple es x1 pos) (tTupZ t) := by
  refine ⟨fun pins s σ H Q I hq => ?_⟩
  refine wpAny_Tuple_spliced (thn (h.run pos pins s σ H _ I hq) fun us s1 ⟨xs, H1, I1, r, z, q⟩ => ⟨by rw [← r.length]; exact z, ?_⟩)
  have hf : H1 s1.heap.objs.size = none := I1.hok.fresh (Nat.le_refl _)
  refine ⟨.ref s1.heap.objs.size, upd H1 s1.heap.objs.size (.frz { cls := .type "tuple", data := .seq us.toArray } (.tup xs)), I1.laid (t' := s1.toks) (fun b u e => Heap.get?_push_of_some _ e) (Nat.le_refl _) ?_, rfl, q _ _ hf rfl⟩
  exact ⟨Heap.get?_push_size _ rfl, z, us, r, ⟨_, Heap.get?_push_size _ rfl, rfl, _, rfl⟩⟩
/-- a + b of tuples, the sum's object known to have no dict -/
def rCatZ (K : PySem.W.Frag) : R2 := fun x y H Q => ∃ a b xs ys, x = .ref a ∧ y = .ref b ∧ SqT K H a xs ∧ SqT K H b ys ∧ xs.length + ys.length ≤ sizeLine ∧ ys ≠ [] ∧ (xs = [] → Q (.ref b) H) ∧
  (xs ≠ [] → ∀ (p : Addr) (o : Obj), H p = none → o.dict = none → Q (.ref p) (upd H p (.frz o (.tup (xs ++ ys)))))
theorem op_catZ : OpR X (binaryOp .Add) (rCatZ X.K) := by
  intro pins s σ H x y v u Q I rx ry h
  obtain ⟨a, b, xs, ys, ex, ey, ha, hb, hz, hy, q0, q1⟩ := h
  by_cases hx : xs = []
  · exact op_cat0 pins s σ H x y v u Q I rx ry ⟨a, b, xs, ys, ex, ey, ha, hb, hz, q0, fun z => absurd hx z, fun z => absurd hx z⟩
  · subst ex ey
    cases rx
    cases ry
    obtain ⟨its, r1, p1, _⟩ := I.tuple ha
    obtain ⟨its2, r2, p2, _⟩ := I.tuple hb
    refine HT.cat_tup p1 p2 (fun z => hx (r1.nil_iff.mp z)) (fun z => absurd (r2.nil_iff.mp z) hy) (fun z => ?_) (by rw [← r1.length, ← r2.length]; exact hz)
    refine ⟨.ref s.heap.objs.size, _, I.laid (t' := s.toks) (o := .frz { cls := .type "tuple", data := .seq (its ++ its2).toArray } (.tup (xs ++ ys))) (fun b ob q => Heap.get?_push_of_some _ q) (Nat.le_refl _) ?_, rfl, q1 hx _ _ (I.hok.fresh (Nat.le_refl _)) rfl⟩
    exact ⟨Heap.get?_push_size _ rfl, by rw [List.length_append]; exact hz, _, r1.append r2, IsTup.new _ _⟩
end
section
variable {X : Cx} {e o : Expr} {to : TE} {t : TA} {apos cpos : Pos}
/-- t.index(i), t a tuple of whole numbers without a dict -/
def tTix (to : TE) (t : TA) : TE := fun σ H Q => to σ H fun x H1 => ∃ (p : Addr) (ob : Obj) (ys : List Int), x = .ref p ∧ H1 p = some (.frz ob (.tup (ys.map V.int))) ∧ ob.dict = none ∧
  t σ H1 fun vs H2 => ∃ (z : Int) (j : Nat), vs = [.int z] ∧ H2 p = some (.frz ob (.tup (ys.map V.int))) ∧ ys[j]? = some z ∧ (∀ m, m < j → ys[m]? ≠ some z) ∧ Q (.int (j : Nat)) H2
theorem pe_tix (ho : PE X o to) (ha : PA X [e] t)
    (hbase : attributeBase o "index" X.env (eval o X.env) = eval o X.env := by rfl)
    (hfew : ((backTo cpos (starEach [e] X.env)).all (fun x => !x.1) && (backToKw cpos (keywordEach [] X.env)).all (fun x => x.1.isSome)
      && decide ([e].length + ([] : List Keyword).length + (if ([] : List Keyword).isEmpty then 0 else 1) < 30)) = true := by rfl)
    (hline : (apos.endLine == cpos.line) = true := by rfl) (hs : starEach [e] X.env = (false, eval e X.env) :: starEach [] X.env := by rfl) :
    PE X (.Call (.Attribute o "index" apos) [e] [] cpos) (tTix to t) := by
  refine ⟨fun pins s σ H Q I h => ?_⟩
  refine wpAny_Call_method_late hbase hfew hline rfl (thn (ho.run pins s σ H _ I h) fun v s1 hh => ?_)
  obtain ⟨x, H1, I1, r1, p, ob, ys, rfl, hp, hdc, q1⟩ := hh
  cases r1
  obtain ⟨hob, hz, its, rv, ht⟩ := I1.hok p _ hp
  obtain ⟨ob', hob', hcls, _⟩ := ht
  have hob1 : s1.heap.get? p = some ob := hob
  refine ⟨"tuple", "tuple.index", PySem.F.plainAttrs_tuple, PySem.F.slot_tuple_index, PySem.F.type_tuple_index, ⟨ob', hob', hcls⟩, fun a ea => ?_, ?_⟩
  · cases ea
    exact ⟨ob, hob1, hdc⟩
  have hA := ha.run cpos pins s1 σ H1 _ I1 q1
  rw [hs] at hA ⊢
  refine Calls.callWith_builtin (by rfl) (Calls.evalArgs_plain ?_)
  refine thn hA fun us s2 hh2 => ?_
  obtain ⟨vs, H2, I2, r2, z, j, rfl, hp2, hj, hno, q2⟩ := hh2
  exact mt_tup_indexI pins s2 σ H2 (.ref p) [.int z] (.ref p) us Q I2 rfl r2 ⟨p, ys, z, j, rfl, rfl, .inl (.inr ⟨ob, hp2⟩), hj, hno, q2⟩
end
end G6
namespace G6
open PySem PySem.Spec PyProof.Rows L2
/-! ### a law's promise where the claim's caller calls it, and nowhere else -/
structure FnAt (P : Program) (w : World) (K : PySem.W.Frag) (mg : Str → Option Value) (base : Heap) (f : Addr) (fd : FuncData) (ps : List Str) (sp : Sp) : Prop where
  run : ∀ (s : Shared) (H : Hp) (args : Args) (us : List Value) (vs : List V) (Q : VK) (E : XK), Env0 P w K mg base callerA [] s H → BindsTo s fd args (ps.zip us) → Vals vs us → sp vs H Q E →
    codeAny (model P w) callerA (.call (.ref f) args) (CR CX0 [] P w H s Q E) s
theorem fnAt_of {P : Program} {w : World} {K : PySem.W.Frag} {mg : Str → Option Value} {base : Heap} {k : Nat} {f : Addr} {x qual : Str} {st : Stmt} {fd : FuncData} {N ps : List Str} {sp : Sp} (F : Fun K x qual st f fd) (S : FnScope N ps (defScope st)) (hr : Room (k + 1) callerA)
    (len : ∀ vs H Q E, sp vs H Q E → vs.length = ps.length)
    (hbody : ∀ (cdv : Value) (s : Shared) (H : Hp) (vs : List V) (Q : VK) (E : XK), Room k (callerA.deeper (envOfC qual (defScope st) s.heap.objs.size f cdv)) → sp vs H Q E →
      ∃ t, PSs (cxOf CX0 P w K mg base N qual (defScope st) f cdv callerA [] s H E).nox (defBody st) t ∧ t { nx := fun _ H' => Q .non H', rt := Q } (start N vs) H) : FnAt P w K mg base f fd ps sp := by
  obtain ⟨oc, od, kV, doc, pm, an, cdv, ct, osl, rfl, lk, hcd⟩ := F.ex
  refine ⟨fun s H args us vs Q E e0 hb r hsp => ?_⟩
  have hl := len _ _ _ _ hsp
  have KX : K.In s.heap := e0.mod.kin.keeps fun b o e => (e0.bs b o e).1
  have kinds : ∀ y ∈ ps.zip us, (defScope st).names.lookup y.1 = some .local ∨ ((defScope st).names.lookup y.1 = some .cell ∧ ((cellsFrom (s.heap.objs.size + 1) (defScope st).names []).lookup y.1).isSome = true) := by
    rintro ⟨y, v⟩ hy
    rcases S.par y (List.of_mem_zip hy).1 with q | q
    · exact .inl q
    · exact .inr ⟨q, PySem.W.cellsFrom_some _ _ _ (.inl q)⟩
  refine codeAny_call_function hr.depth (KX _ _ lk) rfl S.co S.gen rfl (PySem.W.codeRec_of KX hcd) (hb _ _ _ _ ?_)
  refine wpAny_newFunctionEnv_cells S.kind kinds fun env he s1 x => ?_
  subst he
  refine ⟨(e0.mod.nolimit.keeps fun b o e => (e0.bs b o e).1).keeps x.toInCall.keep, codeAny_func ?_⟩
  obtain ⟨t, ht0, hq⟩ := hbody cdv s H vs Q E (hr.deeper _) hsp
  have ht := ht0.nox
  have I : Inv (cxOf CX0 P w K mg base N qual (defScope st) f cdv callerA [] s H E) [] (start N vs) H s1 := inv_start S hr.hd e0 hl r x
  refine wpAny_mono (ht.run [] s1 (start N vs) H _ I hq) (fun fl s' hs => ?_) fun e s' hs => hs
  cases fl with
  | ret u =>
    obtain ⟨v, σ', H', J, rv, q⟩ := hs
    exact ⟨v, H', J.os, J.bare, J.base, J.hok, rv, q⟩
  | next =>
    obtain ⟨σ', H', J, q⟩ := hs
    exact ⟨V.non, H', J.os, J.bare, J.base, J.hok, rfl, q⟩
  | brk => obtain ⟨_, _, _, q⟩ := hs; exact q.elim
  | cont => obtain ⟨_, _, _, q⟩ := hs; exact q.elim

theorem law_callA {P : Program} {w : World} {K : PySem.W.Frag} {mg mb : Str → Option Value} {fa a : Addr} {fd : FuncData} {x : Str} {sp : Sp} {s₁ : Shared} {vs : List Value} {ns : List Int}
    (KX : K.In s₁.heap) (hns : s₁.heap.Ns mainGlobals mg) (hb : s₁.heap.Ns builtinsNs mb) (hbb : ∀ x : Str, x ≠ "__name__" → mb x = bootBuiltins x) (hlim : s₁.heap.NoLimit) (hg : s₁.gens = #[])
    (ha : s₁.heap.get? a = some { cls := .type "list", data := .seq vs.toArray }) (hi : IntsAre vs ns) (hl : ns.length ≤ sizeLine)
    (F : ∀ base : Heap, K.In base → base.Ns mainGlobals mg → FnAt P w K mg base fa fd [x] sp) (hbind : ∀ (s : Shared) (u : Value), BindsTo s fd ⟨[u], []⟩ [(x, u)])
    (hsp : ∀ H : Hp, Only H → SqL K H a (ns.map V.int) → sp [.ref a] H (fun v _ => v = .bl true) fun _ _ _ => False) :
    codeAny (model P w) callerA (.call (.ref fa) ⟨[.ref a], []⟩) (fun r s' => r = .ok (.ret (.bool true)) ∧ OldK s₁.heap s'.heap ∧ s'.os = s₁.os ∧ AllBare s'.gens) s₁ := by
  have rv := vals_ints hi
  have lenV := hi.length
  have core : ∀ H : Hp, Only H → SqL K H a (ns.map V.int) → HOk P w H s₁.heap → (∀ b, H b ≠ none → b = a) → (H a ≠ none → K.lookup a = none) →
      codeAny (model P w) callerA (.call (.ref fa) ⟨[.ref a], []⟩) (fun r s' => r = .ok (.ret (.bool true)) ∧ OldK s₁.heap s'.heap ∧ s'.os = s₁.os ∧ AllBare s'.gens) s₁ := by
    intro H hO hS hok hA hK
    have low : ∀ {b : Addr} {o : Obj}, s₁.heap.get? b = some o → H b = none → (hidT s₁.heap H).get? b = some o := fun e n => hidT_get e n
    have dictFree : ∀ {b : Addr} {o : Obj} {es : Array DictEntry} {ep : Nat}, s₁.heap.get? b = some o → o.data = .dict es ep → H b = none := fun {b o es ep} e d => by
      cases q : H b with
      | none => rfl
      | some u =>
        obtain rfl : b = a := hA b (by rw [q]; simp)
        rw [ha] at e
        cases e
        exact absurd (show Data.seq vs.toArray _ = Data.dict es ep from d) (fun z => by cases z)
    have nsK : ∀ {b : Addr} {m : Str → Option Value}, s₁.heap.Ns b m → (hidT s₁.heap H).Ns b m := fun {b m} ⟨o, es, ep, e, d, r⟩ => ⟨o, es, ep, low e (dictFree e d), d, r⟩
    have hKb : K.In (hidT s₁.heap H) := fun b o e => low (KX b o e) (by
      cases q : H b with
      | none => rfl
      | some u =>
        obtain rfl : b = a := hA b (by rw [q]; simp)
        rw [hK (by rw [q]; simp)] at e
        cases e)
    have hM : Mod K mg (hidT s₁.heap H) := ⟨hKb, nsK hns, ⟨mb, nsK hb, hbb⟩, let ⟨mc, h1, h2⟩ := hlim; ⟨mc, nsK h1, h2⟩⟩
    have e0 : Env0 P w K mg (hidT s₁.heap H) callerA [] s₁ H := ⟨rfl, hM, fun b o e => of_hidT e, Nat.le_of_eq (hidT_size _ _), trivial, fun b hb => absurd (show b ∈ ([] : List Addr) from hb) (by simp), hok, .of_eq hg⟩
    refine codeAny_mono ((F _ hKb (nsK hns)).run s₁ H ⟨[.ref a], []⟩ [.ref a] [.ref a] _ _ e0 (hbind s₁ (.ref a)) (.cons rfl .nil) (hsp H hO hS)) fun r s' h => ?_
    cases r with
    | error e => exact (show False from h).elim
    | ok fl =>
      cases fl with
      | next => exact (show False from h).elim
      | brk => exact (show False from h).elim
      | cont => exact (show False from h).elim
      | ret u =>
        obtain ⟨v, H', os, bare, un, hok', r', q⟩ := h
        obtain rfl : v = .bl true := q
        obtain rfl : u = Value.bool true := r'
        refine ⟨rfl, OldK.of_keep fun b o e => ?_, os, bare⟩
        cases q : H b with
        | none => exact un.keep b o e q (fun z => absurd (show b ∈ ([] : List Addr) from z) (by simp)) (by simp)
        | some u =>
          rcases hO b with z | ⟨ob, xs, z⟩
          · rw [q] at z; cases z
          · obtain ⟨e1, _⟩ := hok b _ z
            obtain ⟨e2, _⟩ := hok' b _ (un.frzs b ob _ z)
            rw [e] at e1
            cases e1
            exact e2
  cases hk : K.lookup a with
  | some o =>
    have e := KX a o hk
    rw [ha] at e
    cases e
    refine core (fun _ => none) (fun _ => .inl rfl) (.inr ⟨_, vs.toArray, _, hk, rfl, rfl, rfl, by rw [List.size_toArray, lenV]; exact hl, by simpa using rv⟩) (fun b u z => ?_) (fun b z => absurd rfl z) fun z => absurd rfl z
    have z' : (none : Option HO) = some u := z
    cases z'
  | none =>
    refine core (fun b => if b = a then some (.frz { cls := .type "list", data := .seq vs.toArray } (.lst (ns.map V.int))) else none) (fun b => ?_) (.inl (.inr ⟨{ cls := .type "list", data := .seq vs.toArray }, if_pos rfl⟩)) (fun b u z => ?_) (fun b z => ?_) fun _ => hk
    · by_cases hb : b = a
      · exact .inr ⟨_, _, if_pos hb⟩
      · exact .inl (if_neg hb)
    · by_cases hb : b = a
      · subst hb
        have z' := (if_pos (rfl : b = b)).symm.trans z
        cases z'
        exact ⟨ha, by rw [List.length_map]; exact hl, vs, _, rv, ha⟩
      · have z' := (if_neg hb).symm.trans z
        cases z'
    · by_cases hb : b = a
      · exact hb
      · exact absurd (if_neg hb) z
theorem walk_ofA {l : PySem.W.OpenLaw} {n : Nat} {q : Program} {loose : List Str} {XP : (Str → Option Value) → Heap → Prop} {YP : World → Heap → Prop} {d : DefRec} {K : Params → PySem.W.Frag} {sp : World → Sp} {x : Str}
    (hn : l.most = some n) (hn2 : n ≤ sizeLine) (hdf : d.params.defaults = []) (hY : ∀ (w : World) (h : Heap), YP w h → (K w.params).In h)
    (F : ∀ (w : World) (mg : Str → Option Value) (fa : Addr) (h : Heap), (K w.params).In h → h.Ns mainGlobals mg → mg d.name = some (.ref fa) →
      ∃ fd : FuncData, (∀ (s : Shared) (u : Value), BindsTo s fd ⟨[u], []⟩ [(x, u)]) ∧ ∀ base : Heap, (K w.params).In base → base.Ns mainGlobals mg → FnAt l.prog w (K w.params) mg base fa fd [x] (sp w))
    (hsp : ∀ (w : World) (H : Hp) (a : Addr) (ns : List Int), ns.length ≤ n → Only H → SqL (K w.params) H a (ns.map V.int) → sp w [.ref a] H (fun v _ => v = .bl true) fun _ _ _ => False) :
    PySem.W.WalkO q loose XP YP l.row.toRowW d [] (fun f vs => PySem.call f vs) := by
  refine Att.attach_call hn hdf fun w s₀ s₁ mg mb fa o pm cd doc a vs ns G Y ho hd hcd hmg hobj hints hlen hg => ?_
  have KX := hY w _ Y
  obtain ⟨fd, hb, hF⟩ := F w mg fa _ KX G.T.g hmg
  exact law_callA KX G.T.g G.T.b G.T.builtins G.T.nolimit hg hobj hints (Nat.le_trans hlen hn2) hF hb fun H hO hS => hsp w H a ns hlen hO hS
end G6
namespace K60
open PySem PySem.Spec PyProof.Rows GenW L2 G6
abbrev topS (i : Nat) : Stmt := PySem.Challenge.pw_wedgespace_k60_all_images.main.body.getD i (.Pass ⟨0, 0, 0, 0⟩)

/-! ### what stands in the heap -/
def rowV (r : List Nat) : List V := r.map fun (n : Nat) => V.int (n : Int)
def RowAt (H : Hp) (v : V) (r : List Nat) : Prop := ∃ a, v = .ref a ∧ H a = some (.tup (rowV r))
def WordAt (H : Hp) (v : V) (w : List Int) : Prop := ∃ a, v = .ref a ∧ H a = some (.tup (w.map V.int))
def AllR {α : Type} (P : V → α → Prop) (xs : List V) (rs : List α) : Prop := xs.length = rs.length ∧ ∀ (i : Nat) (x : V) (r : α), xs[i]? = some x → rs[i]? = some r → P x r
def TupOf {α : Type} (P : Hp → V → α → Prop) (H : Hp) (v : V) (rs : List α) : Prop := ∃ a xs, v = .ref a ∧ H a = some (.tup xs) ∧ AllR (P H) xs rs
def LstOf {α : Type} (P : Hp → V → α → Prop) (H : Hp) (v : V) (rs : List α) : Prop := ∃ a xs, v = .ref a ∧ H a = some (.lst xs) ∧ AllR (P H) xs rs
section
variable {α : Type} {H H' : Hp} {v : V}
theorem RowAt.same {r : List Nat} (h : RowAt H v r) (s : Same H H') : RowAt H' v r := let ⟨a, e, q⟩ := h; ⟨a, e, s _ _ q⟩
theorem WordAt.same {r : List Int} (h : WordAt H v r) (s : Same H H') : WordAt H' v r := let ⟨a, e, q⟩ := h; ⟨a, e, s _ _ q⟩
theorem AllR.imp {P Q : V → α → Prop} {xs : List V} {rs : List α} (h : AllR P xs rs) (k : ∀ x r, P x r → Q x r) : AllR Q xs rs := ⟨h.1, fun i x r e1 e2 => k x r (h.2 i x r e1 e2)⟩
theorem AllR.nil {P : V → α → Prop} : AllR P [] [] := ⟨rfl, fun i x r e _ => by simp at e⟩
theorem AllR.snoc {P : V → α → Prop} {xs : List V} {rs : List α} {x : V} {r : α} (h : AllR P xs rs) (p : P x r) : AllR P (xs ++ [x]) (rs ++ [r]) := by
  refine ⟨by simp [h.1], fun i y s e1 e2 => ?_⟩
  by_cases hi : i < xs.length
  · rw [List.getElem?_append_left hi] at e1
    rw [List.getElem?_append_left (h.1 ▸ hi)] at e2
    exact h.2 i y s e1 e2
  · rw [List.getElem?_append_right (by omega)] at e1
    rw [List.getElem?_append_right (by rw [← h.1]; omega)] at e2
    have h1 : i - xs.length = 0 := by
      cases q : i - xs.length with
      | zero => rfl
      | succ n => rw [q] at e1; simp at e1
    rw [h1] at e1
    rw [← h.1, h1] at e2
    simp at e1 e2
    subst e1 e2
    exact p
theorem AllR.append {P : V → α → Prop} {xs ys : List V} {rs ss : List α} (h : AllR P xs rs) (k : AllR P ys ss) : AllR P (xs ++ ys) (rs ++ ss) := by
  refine ⟨by simp [h.1, k.1], fun i y s e1 e2 => ?_⟩
  by_cases hi : i < xs.length
  · rw [List.getElem?_append_left hi] at e1
    rw [List.getElem?_append_left (h.1 ▸ hi)] at e2
    exact h.2 i y s e1 e2
  · rw [List.getElem?_append_right (by omega)] at e1
    rw [List.getElem?_append_right (by rw [← h.1]; omega), ← h.1] at e2
    exact k.2 _ y s e1 e2
theorem AllR.get {P : V → α → Prop} {xs : List V} {rs : List α} (h : AllR P xs rs) {i : Nat} (hi : i < rs.length) : ∃ x, xs[i]? = some x ∧ P x rs[i] :=
  ⟨xs[i]'(h.1 ▸ hi), List.getElem?_eq_getElem _, h.2 i _ _ (List.getElem?_eq_getElem _) (List.getElem?_eq_getElem _)⟩
theorem AllR.item {P : V → α → Prop} {xs : List V} {rs : List α} (h : AllR P xs rs) {i : Nat} {x : V} (e : xs[i]? = some x) : ∃ r, rs[i]? = some r ∧ P x r := by
  have hi : i < rs.length := by rw [← h.1]; exact (List.getElem?_eq_some_iff.mp e).1
  exact ⟨rs[i], List.getElem?_eq_getElem hi, h.2 i x _ e (List.getElem?_eq_getElem hi)⟩
theorem TupOf.same {P : Hp → V → α → Prop} (hP : ∀ v r, P H v r → P H' v r) {rs : List α} (h : TupOf P H v rs) (s : Same H H') : TupOf P H' v rs := let ⟨a, xs, e, q, r⟩ := h; ⟨a, xs, e, s _ _ q, r.imp hP⟩
theorem LstOf.same {P : Hp → V → α → Prop} (hP : ∀ v r, P H v r → P H' v r) {rs : List α} (h : LstOf P H v rs) (s : Same H H') : LstOf P H' v rs := let ⟨a, xs, e, q, r⟩ := h; ⟨a, xs, e, s _ _ q, r.imp hP⟩
theorem same_upd {p : Addr} {o : HO} (h : H p = none) : Same H (upd H p o) := fun b x e => by
  rw [upd_ne (ne_of_none e h)]
  exact e
/-- a change of what was not there at the start -/
theorem same_put {p : Addr} {o : HO} (s : Same H H') (h : H p = none) : Same H (upd H' p o) := fun b x e => by
  rw [upd_ne (ne_of_none e h)]
  exact s b x e
end
theorem rowV_len (r : List Nat) : (rowV r).length = r.length := by simp [rowV]
theorem rowV_get {r : List Nat} {i : Nat} (h : i < r.length) : (rowV r)[i]? = some (.int (r[i] : Int)) := by simp [rowV, h]
theorem rowV_set (r : List Nat) (i n : Nat) : rowV (r.set i n) = (rowV r).set i (.int (n : Int)) := by simp [rowV, List.map_set]
theorem ixN_nat {n i : Nat} (h : i < n) : ixN n (i : Int) = some i := by
  unfold ixN
  rw [if_pos (by omega), if_pos (by omega)]
  simp
theorem sz_small {n : Nat} (h : n ≤ 100000) : n < sizeLine := by
  have : (100000 : Nat) < sizeLine := by rw [sizeLine_eq]; decide
  omega

/-! ### turned -/
def turnM (r : List Nat) : List Nat := r.zipIdx.foldl (fun acc p => acc.set p.1 p.2) (List.replicate r.length 0)
def turnP (r : List Nat) (i : Nat) : List Nat := (r.zipIdx.take i).foldl (fun acc p => acc.set p.1 p.2) (List.replicate r.length 0)
theorem turnP_len (r : List Nat) : ∀ i, (turnP r i).length = r.length := by
  have key : ∀ (l : List (Nat × Nat)) (acc : List Nat), (l.foldl (fun acc p => acc.set p.1 p.2) acc).length = acc.length := by
    intro l
    induction l with
    | nil => intro acc; rfl
    | cons x t ih => intro acc; rw [List.foldl_cons, ih]; simp
  intro i
  unfold turnP
  rw [key]; simp
theorem turnP_succ {r : List Nat} {i : Nat} (h : i < r.length) : turnP r (i + 1) = (turnP r i).set r[i] i := by
  unfold turnP
  have e : r.zipIdx[i]? = some (r[i], i) := by simp [h]
  rw [List.take_add_one, e]
  simp [List.foldl_append]
theorem turnP_all (r : List Nat) : turnP r r.length = turnM r := by
  unfold turnP turnM
  rw [List.take_of_length_le (by simp)]
abbrev sTurned : Stmt := topS 10
theorem scTurned : FnScope ["image", "result", "point", "other"] ["image"] (defScope sTurned) := ⟨rfl, rfl, rfl, by decide +kernel, rfl, by decide +kernel, by decide +kernel⟩
section
variable {P : Program} {w : World} {K : PySem.W.Frag} {mg : Str → Option Value} {base : Heap}
def spTurned : Sp := fun vs H Q _ => ∃ v r, vs = [v] ∧ RowAt H v r ∧ r.length ≤ 1000 ∧ (∀ p ∈ r, p < r.length) ∧ ∀ H' v', Same H H' → RowAt H' v' (turnM r) → Q v' H'
theorem ok_turned {f : Addr} {fd : FuncData} {k : Nat} (F : Fun K "turned" "turned" sTurned f fd) (ml : mg "len" = none) (me : mg "enumerate" = none) (mt : mg "tuple" = none) : FnOk P w K mg base CX0 (k + 1) f fd ["image"] spTurned := by
  refine F.ok scTurned (fun vs H Q E h => ?_) (fun cdv A outer s H vs Q E hr h => ?_)
  · obtain ⟨v, r, rfl, _⟩ := h
    rfl
  · obtain ⟨v, r, rfl, ⟨a, rfl, ha⟩, hlen, hlt, q⟩ := h
    refine ⟨_, pss_cons (ps_set (i := 1) scTurned.nd rfl (.inl rfl) (pe_op op_rep (pe_lst (pa_cons pe_int pa_nil)) (pe_callB call_len_seq (by rfl) ml PySem.boot_len (pa_cons (pv 0) pa_nil))))
      (pss_cons (ps_for PassesOwn.never rfl (pi_enumT (by rfl) me (pa_cons (pv 0) pa_nil)) (pg_tup rfl (pgs_cons (pg_name (i := 2) scTurned.nd rfl (.inl rfl)) (pgs_cons (pg_name (i := 3) scTurned.nd rfl (.inl rfl)) pgs_nil)))
        (pss_one (ps_asg (pv 2) (pg_sub (pv 1) (pv 3) set_list))))
      (pss_one (ps_ret (pe_tupleOf (by rfl) mt (pv 1))))), ?_⟩
    -- result = [0] * len(image)
    refine ⟨Nat.le_of_lt (sz_small (by decide)), fun o no => ?_⟩
    have sa : Same H (upd H o (.lst [.int 0])) := same_upd no
    refine ⟨.ref a, rfl, a, rowV r, rfl, .inr (.inl (.inl (sa _ _ ha))), o, r.length, [.int 0], rfl, by rw [rowV_len], upd_same, by omega, by omega, ?_, fun p np => ?_⟩
    · have h1 : ((r.length : Nat) : Int).toNat = r.length := by omega
      rw [h1]
      show 1 * r.length ≤ sizeLine
      have := sz_small (n := r.length) (by omega)
      omega
    have nop : H p = none := sa.free np
    have er : (List.replicate ((r.length : Nat) : Int).toNat [V.int 0]).flatten = rowV (List.replicate r.length 0) := by
      have h1 : ((r.length : Nat) : Int).toNat = r.length := by omega
      rw [h1]
      unfold rowV
      rw [List.map_replicate]
      generalize r.length = n
      induction n with
      | zero => rfl
      | succ n ih => rw [List.replicate_succ, List.flatten_cons, ih]; rfl
    rw [er]
    have s0 : Same H (upd (upd H o (.lst [.int 0])) p (.lst (rowV (List.replicate r.length 0)))) := same_put sa nop
    -- the loop
    refine ⟨.ref a, rfl, a, rowV r, rfl, .inl (.inl (s0 _ _ ha)), for_it walk_enumT (fun i σ H3 => ∃ y2 y3, σ = [some (.ref a), some (.ref p), y2, y3] ∧ Same H H3 ∧ H3 p = some (.lst (rowV (turnP r i)))) ⟨none, none, rfl, s0, ?_⟩
      (fun i σ H3 _ h => .inl (.inl (h.choose_spec.choose_spec.2.1 _ _ ha))) (fun i x σ H3 H4 hi hP hY => ?_) (fun σ H3 hP => ?_)⟩
    · rw [upd_same]; rfl
    · obtain ⟨y2, y3, rfl, s3, e3⟩ := hP
      obtain ⟨T, x1, x2, rfl, nT, rfl, h1, h2⟩ := hY
      rw [rowV_len] at hi
      have h2' : (rowV r)[i]? = some x2 := h2
      rw [rowV_get hi] at h2'
      cases h1
      cases h2'
      have pT : p ≠ T := ne_of_none e3 nT
      have eT : (upd H3 T (.tup [.int (i : Nat), .int (r[i] : Nat)])) p = some (.lst (rowV (turnP r i))) := by rw [upd_ne pT]; exact e3
      have hri : r[i] < (turnP r i).length := by rw [turnP_len]; exact hlt _ (List.getElem_mem hi)
      refine ⟨T, _, rfl, .inl (.inl upd_same), rfl, _, _, rfl, _, _, rfl, rfl, ?_⟩
      refine ⟨_, rfl, _, rfl, _, rfl, p, _, _, r[i], rfl, rfl, eT, by rw [rowV_len]; exact ixN_nat hri, ?_⟩
      refine ⟨_, _, rfl, same_put (same_put s3 (s3.free nT)) nop, ?_⟩
      rw [upd_same, turnP_succ hi, rowV_set]
    · obtain ⟨y2, y3, rfl, s3, e3⟩ := hP
      rw [rowV_len, turnP_all] at e3
      -- return tuple(result)
      refine ⟨_, rfl, .inl ⟨p, _, rfl, .inl (.inl e3), fun t nt => ?_⟩⟩
      exact q _ _ (same_put s3 (s3.free nt)) ⟨t, rfl, upd_same⟩
end
end K60
namespace K60
open PySem PySem.Spec PyProof.Rows GenW L2 G6
def pick (ims invs : List (List Nat)) (l : Int) : List Nat := if 0 < l then ims.getD (l - 1).toNat [] else invs.getD (-l - 1).toNat []
def actStep (ims invs : List (List Nat)) (pts : List Nat) (l : Int) : List Nat := pts.map fun p => (pick ims invs l).getD p 0
def actM (ims invs : List (List Nat)) (w : List Int) : List Nat := w.foldl (actStep ims invs) (List.range (ims.headD []).length)
abbrev sActed : Stmt := topS 11
abbrev nActed : List Str := ["images", "inverses", "word", "points", "letter", "image", "point"]
theorem scActed : FnScope nActed ["images", "inverses", "word"] (defScope sActed) := ⟨rfl, rfl, rfl, by decide +kernel, rfl, by decide +kernel, by decide +kernel⟩
/-- letters that name one of n rows -/
def Letters (n : Nat) (w : List Int) : Prop := ∀ l ∈ w, l ≠ 0 ∧ -(n : Int) ≤ l ∧ l ≤ n
/-- rows of the points below d -/
def RowsOk (d : Nat) (rs : List (List Nat)) : Prop := ∀ r ∈ rs, r.length = d ∧ ∀ p ∈ r, p < d
theorem pick_ok {d : Nat} {ims invs : List (List Nat)} {l : Int} (h1 : RowsOk d ims) (h2 : RowsOk d invs) (he : invs.length = ims.length) (hl : l ≠ 0 ∧ -(ims.length : Int) ≤ l ∧ l ≤ ims.length) : (pick ims invs l).length = d ∧ ∀ p ∈ pick ims invs l, p < d := by
  unfold pick
  split
  · have h : (l - 1).toNat < ims.length := by omega
    rw [List.getD_eq_getElem?_getD, List.getElem?_eq_getElem h]
    exact h1 _ (List.getElem_mem h)
  · have h : (-l - 1).toNat < invs.length := by omega
    rw [List.getD_eq_getElem?_getD, List.getElem?_eq_getElem h]
    exact h2 _ (List.getElem_mem h)
def PtsOk (d : Nat) (pts : List Nat) : Prop := pts.length = d ∧ ∀ p ∈ pts, p < d
theorem actStep_ok {d : Nat} {ims invs : List (List Nat)} {l : Int} {pts : List Nat} (hp : (pick ims invs l).length = d ∧ ∀ p ∈ pick ims invs l, p < d) (h : PtsOk d pts) : PtsOk d (actStep ims invs pts l) := by
  refine ⟨by unfold actStep; simp [h.1], fun p hm => ?_⟩
  unfold actStep at hm
  obtain ⟨q, hq, rfl⟩ := List.mem_map.mp hm
  have hlt : q < (pick ims invs l).length := by rw [hp.1]; exact h.2 q hq
  rw [List.getD_eq_getElem?_getD, List.getElem?_eq_getElem hlt]
  exact hp.2 _ (List.getElem_mem hlt)
theorem atI_of {xs : List V} {i : Int} {n : Nat} {v : V} (h : i = (n : Int)) (e : xs[n]? = some v) : atI xs i = some v := by rw [h]; exact atI_nat e
theorem rgV_row (n : Nat) : rgV 0 (n : Int) = rowV (List.range n) := by
  simp [rgV, rowV]
section
variable {P : Program} {w : World} {K : PySem.W.Frag} {mg : Str → Option Value} {base : Heap}
def spActed : Sp := fun vs H Q _ => ∃ v1 v2 v3 ims invs wd d, vs = [v1, v2, v3] ∧ TupOf RowAt H v1 ims ∧ LstOf RowAt H v2 invs ∧ WordAt H v3 wd ∧ ims ≠ [] ∧ invs.length = ims.length ∧ RowsOk d ims ∧ RowsOk d invs ∧ Letters ims.length wd ∧ d ≤ 1000 ∧
  ∀ H' v', Same H H' → RowAt H' v' (actM ims invs wd) → Q v' H'
theorem ok_acted {f : Addr} {fd : FuncData} {k : Nat} (F : Fun K "acted" "acted" sActed f fd) (ml : mg "len" = none) (mr : mg "range" = none) (mi : mg "list" = none) (mt : mg "tuple" = none) : FnOk P w K mg base CX0 (k + 1) f fd ["images", "inverses", "word"] spActed := by
  refine F.ok scActed (fun vs H Q E h => ?_) (fun cdv A outer s H vs Q E hr h => ?_)
  · obtain ⟨v1, v2, v3, ims, invs, wd, d, rfl, _⟩ := h
    rfl
  · obtain ⟨v1, v2, v3, ims, invs, wd, d, rfl, ⟨a1, xs1, rfl, e1, r1⟩, ⟨a2, xs2, rfl, e2, r2⟩, ⟨a3, rfl, e3⟩, hne, hie, ok1, ok2, hL, hd, q⟩ := h
    refine ⟨_, pss_cons (ps_set (i := 3) scActed.nd rfl (.inl rfl) (pe_listRg rfl (by rfl) mi (prg_1 (by rfl) mr (pe_callB call_len_seq (by rfl) ml PySem.boot_len (pa_cons (pe_ix ix_tup (pv 0) pe_int (fun _ _ => rfl)) pa_nil)))))
      (pss_cons (ps_for PassesOwn.never rfl (pi_tup (pv 2)) (pg_name (i := 4) scActed.nd rfl (.inl rfl))
        (pss_cons (ps_set (i := 5) scActed.nd rfl (.inr rfl) (pe_ifExp (pt_cmpR op_gt (pv 4) pe_int (nomark _)) (pe_ix ix_tup (pv 0) (pe_op op_sub (pv 4) pe_int) (fun _ _ => rfl)) (pe_ix ix_list (pv 1) (pe_op op_sub (pe_un un_neg (pv 4)) pe_int) (fun _ _ => rfl))))
        (pss_one (ps_setLc (i := 3) (own := [("point", 6)]) (g := gName 6) (tt := tYes) rfl scActed.nd rfl rfl (sw_true rfl rfl rfl (by decide +kernel)) (pi_list (pv 3)) (blkOk_by (N := nActed) (sc := defScope sActed) (by decide +kernel))
          (fun _ _ _ _ _ => pg_name (i := 6) scActed.nd rfl (Or.inl rfl)) (fun _ _ _ _ _ => pts_nil) (fun _ _ _ _ _ => pe_ix (show IxR _ (rIxT K) from ix_tup) (pv 5) (pv 6) (fun _ _ => rfl))))))
      (pss_one (ps_ret (pe_tupleOf (by rfl) mt (pv 3))))), ?_⟩
    have hd0 : (ims.headD []).length = d := by
      cases ims with
      | nil => exact absurd rfl hne
      | cons r t => exact (ok1 r List.mem_cons_self).1
    have h0 : 0 < ims.length := List.length_pos_iff.mpr hne
    obtain ⟨x0, g0, b0, rfl, eb0⟩ := r1.get h0
    have l0 : ims[0].length = d := (ok1 _ (List.getElem_mem h0)).1
    -- points = list(range(len(images[0])))
    refine ⟨.ref a1, rfl, a1, xs1, 0, .ref b0, rfl, rfl, .inl (.inl e1), atI_of rfl g0, b0, rowV ims[0], rfl, .inr (.inl (.inl eb0)), _, rfl, ?_, fun p np => ?_⟩
    · rw [rowV_len, l0]
      exact .of_le (by omega) (by omega) (by omega) (by omega)
    rw [rowV_len, l0, rgV_row]
    have s0 : Same H (upd H p (.lst (rowV (List.range d)))) := same_upd np
    -- for letter in word
    refine ⟨.ref a3, rfl, a3, rfl, ⟨_, .inl (.inl (s0 _ _ e3))⟩, for_it (walk_tup (xs := wd.map V.int)) (fun i σ H3 => ∃ y4 y5 y6 b, σ = [some (.ref a1), some (.ref a2), some (.ref a3), some (.ref b), y4, y5, y6] ∧ Same H H3 ∧ H3 b = some (.lst (rowV ((wd.take i).foldl (actStep ims invs) (List.range d)))) ∧ PtsOk d ((wd.take i).foldl (actStep ims invs) (List.range d)))
      ⟨none, none, none, p, rfl, s0, upd_same, by simp, fun q hq => List.mem_range.mp hq⟩ (fun i σ H3 _ h => ?_) (fun i x σ H3 H4 hi hP hY => ?_) (fun σ H3 hP => ?_)⟩
    · obtain ⟨_, _, _, _, _, s3, _⟩ := h
      exact .inl (.inl (s3 _ _ e3))
    · obtain ⟨y4, y5, y6, b, rfl, s3, eb, pk⟩ := hP
      obtain ⟨rfl, hx⟩ := hY
      rw [List.length_map] at hi
      have hx' : x = .int wd[i] := by
        rw [List.getElem?_map, List.getElem?_eq_getElem hi] at hx
        exact (Option.some.inj hx).symm
      subst hx'
      have hl := hL wd[i] (List.getElem_mem hi)
      have pok := pick_ok ok1 ok2 hie hl
      -- image = ..
      have body : ∀ bi, RowAt H4 (.ref bi) (pick ims invs wd[i]) → tLc (iList K (tVar 3)) (gName 6) tYes (tOp (rIxT K) (tVar 5) (tVar 6)) [6] [some (.ref a1), some (.ref a2), some (.ref a3), some (.ref b), some (.int wd[i]), some (.ref bi), y6] H4 fun y H5 =>
          gName 3 y [some (.ref a1), some (.ref a2), some (.ref a3), some (.ref b), some (.int wd[i]), some (.ref bi), y6] H5 fun σ H3 => ∃ y4 y5 y6 b, σ = [some (.ref a1), some (.ref a2), some (.ref a3), some (.ref b), y4, y5, y6] ∧ Same H H3 ∧ H3 b = some (.lst (rowV ((wd.take (i + 1)).foldl (actStep ims invs) (List.range d)))) ∧ PtsOk d ((wd.take (i + 1)).foldl (actStep ims invs) (List.range d)) := by
        intro bi hbi
        have step : (wd.take (i + 1)).foldl (actStep ims invs) (List.range d) = actStep ims invs ((wd.take i).foldl (actStep ims invs) (List.range d)) wd[i] := by
          rw [List.take_add_one, List.getElem?_eq_getElem hi, List.foldl_append]
          rfl
        rw [step]
        generalize (wd.take i).foldl (actStep ims invs) (List.range d) = pts at eb pk
        obtain ⟨_, ec, ebi⟩ := hbi
        cases ec
        refine ⟨.ref b, rfl, b, rfl, ⟨_, .inl (.inl eb)⟩, fun D nD => ?_⟩
        have nDH : H D = none := s3.free nD
        refine lc_it (walk_list (xs := rowV pts)) (fun j H5 => Same H4 H5 ∧ H5 D = some (.lst (rowV ((actStep ims invs pts wd[i]).take j)))) ⟨same_upd nD, by rw [upd_same]; simp [rowV]⟩ (fun j H5 _ h => .inl (.inl (h.1 _ _ eb))) (fun j x H5 H6 hj hP hY => ?_) fun H5 hP => ?_
        · obtain ⟨s5, eD⟩ := hP
          obtain ⟨rfl, hx⟩ := hY
          rw [rowV_len] at hj
          rw [rowV_get hj] at hx
          cases hx
          have hlt : pts[j] < (pick ims invs wd[i]).length := by rw [pok.1]; exact pk.2 _ (List.getElem_mem hj)
          refine ⟨rfl, _, rfl, _, rfl, _, _, _, _, rfl, rfl, .inl (.inl (s5 _ _ ebi)), atI_of rfl (rowV_get hlt), _, eD, ?_, same_put s5 nD, ?_⟩
          · rw [rowV_len, List.length_take]
            have h1 : pts.length = d := pk.1
            exact sz_small (by omega)
          · rw [upd_same, List.take_add_one]
            have e : (actStep ims invs pts wd[i])[j]? = some (pick ims invs wd[i])[pts[j]] := by
              unfold actStep
              rw [List.getElem?_map, List.getElem?_eq_getElem hj]
              simp [List.getD_eq_getElem?_getD, List.getElem?_eq_getElem hlt]
            rw [e]
            simp [rowV]
        · obtain ⟨s5, eD⟩ := hP
          have hlen : (actStep ims invs pts wd[i]).length = pts.length := by simp [actStep]
          rw [rowV_len, ← hlen, List.take_length] at eD
          exact ⟨_, _, _, D, rfl, s3.trans s5, eD, actStep_ok pok pk⟩
      refine ⟨_, rfl, _, _, rfl, rfl, _, rfl, ite2 (fun c => ?_) fun c => ?_⟩
      · have c' : 0 < wd[i] := of_decide_eq_true c
        have hlt : (wd[i] - 1).toNat < ims.length := by omega
        obtain ⟨x, gx, hxr⟩ := r1.get hlt
        obtain ⟨bi, rfl, ebi⟩ := id hxr
        refine ⟨_, rfl, _, rfl, _, _, rfl, rfl, a1, xs1, wd[i] - 1, .ref bi, rfl, rfl, .inl (.inl (s3 _ _ e1)), atI_of (by omega) gx, ?_⟩
        refine body bi ⟨bi, rfl, ?_⟩
        have e : pick ims invs wd[i] = ims[(wd[i] - 1).toNat] := by
          unfold pick
          rw [if_pos c', List.getD_eq_getElem?_getD, List.getElem?_eq_getElem hlt]
          rfl
        rw [e]
        exact s3 _ _ ebi
      · have c' : ¬ 0 < wd[i] := fun z => c (decide_eq_true z)
        have hlt : (-wd[i] - 1).toNat < invs.length := by omega
        obtain ⟨x, gx, hxr⟩ := r2.get hlt
        obtain ⟨bi, rfl, ebi⟩ := id hxr
        refine ⟨_, rfl, _, rfl, _, rfl, _, _, rfl, rfl, a2, xs2, -wd[i] - 1, .ref bi, rfl, rfl, .inl (.inl (s3 _ _ e2)), atI_of (by omega) gx, ?_⟩
        refine body bi ⟨bi, rfl, ?_⟩
        have e : pick ims invs wd[i] = invs[(-wd[i] - 1).toNat] := by
          unfold pick
          rw [if_neg c', List.getD_eq_getElem?_getD, List.getElem?_eq_getElem hlt]
          rfl
        rw [e]
        exact s3 _ _ ebi
    · obtain ⟨y4, y5, y6, b, rfl, s3, eb, pk⟩ := hP
      rw [List.length_map, List.take_length] at eb
      refine ⟨_, rfl, .inl ⟨b, _, rfl, .inl (.inl eb), fun t nt => ?_⟩⟩
      refine q _ _ (same_put s3 (s3.free nt)) ⟨t, rfl, ?_⟩
      rw [upd_same]
      unfold actM
      rw [hd0]
end
end K60
namespace K60
open PySem PySem.Spec PyProof.Rows GenW L2 G6
theorem turnM_ok {d : Nat} {r : List Nat} (h : r.length = d) : (turnM r).length = d ∧ ∀ p ∈ turnM r, p < d := by
  have key : ∀ i, i ≤ r.length → ∀ p ∈ turnP r i, p < r.length := by
    intro i
    induction i with
    | zero =>
      intro _ p hp
      unfold turnP at hp
      rw [List.take_zero, List.foldl_nil] at hp
      obtain ⟨h1, h2⟩ := List.mem_replicate.mp hp
      omega
    | succ i ih =>
      intro hi p hp
      rw [turnP_succ (by omega)] at hp
      rcases List.mem_or_eq_of_mem_set hp with z | z
      · exact ih (by omega) p z
      · omega
  rw [← turnP_all]
  refine ⟨by rw [turnP_len, h], fun p hp => ?_⟩
  rw [← h]
  exact key _ (Nat.le_refl _) p hp
theorem turns_ok {d : Nat} {ims : List (List Nat)} (h : RowsOk d ims) : RowsOk d (ims.map turnM) := fun r hr => by
  obtain ⟨t, ht, rfl⟩ := List.mem_map.mp hr
  exact turnM_ok (h t ht).1

/-! ### data -/
def rowD (r : List Nat) : PyData := .tuple (r.map fun (n : Nat) => .int (n : Int))
theorem rowD_all : ∀ r : List Nat, PyData.canLayAll0 (r.map fun (n : Nat) => .int (n : Int)) = true ∧ PyData.depthAll (r.map fun (n : Nat) => .int (n : Int)) = 0
  | [] => ⟨rfl, rfl⟩
  | n :: r => by
    obtain ⟨h1, h2⟩ := rowD_all r
    exact ⟨by rw [List.map_cons, PyData.canLayAll0, h1]; rfl, by rw [List.map_cons, PyData.depthAll, h2]; rfl⟩
theorem rowD_shaped (r : List Nat) : SeqAt.shaped (rowD r) = true := by
  unfold SeqAt.shaped rowD
  rw [PyData.canLay0, (rowD_all r).1, PyData.depth, (rowD_all r).2]
  rfl
theorem rowD_eqv : ∀ r t : List Nat, PyData.eqv (rowD r) (rowD t) = decide (r = t) := by
  have key : ∀ r t : List Nat, PyData.eqvAll (r.map fun (n : Nat) => .int (n : Int)) (t.map fun (n : Nat) => .int (n : Int)) = decide (r = t) := by
    intro r
    induction r with
    | nil => intro t; cases t <;> simp [PyData.eqvAll]
    | cons a r ih =>
      intro t
      cases t with
      | nil => simp [PyData.eqvAll]
      | cons b t =>
        simp only [List.map_cons, PyData.eqvAll, PyData.eqv, ih]
        by_cases h1 : a = b
        · by_cases h2 : r = t <;> simp [h1, h2]
        · have : ¬ ((a : Int) = (b : Int)) := by omega
          simp [h1, this]
  intro r t
  unfold rowD
  rw [PyData.eqv, key]
theorem dp_ints {K : PySem.W.Frag} {H : Hp} : ∀ r : List Nat, DpAll K H (rowV r) (r.map fun (n : Nat) => .int (n : Int))
  | [] => .nil
  | n :: r => .cons (.int _) (dp_ints r)
theorem dp_row {K : PySem.W.Frag} {H : Hp} {v : V} {r : List Nat} (h : RowAt H v r) : Dp K H v (rowD r) := by
  obtain ⟨a, rfl, e⟩ := h
  exact .tup (.inl (.inl e)) (dp_ints r)

/-! ### inverses_of, fulfils -/
abbrev sInv : Stmt := topS 12
abbrev nInv : List Str := ["images", "image"]
theorem scInv : FnScope nInv ["images"] (defScope sInv) := ⟨rfl, rfl, rfl, by decide +kernel, rfl, by decide +kernel, by decide +kernel⟩
abbrev sFul : Stmt := topS 13
abbrev nFul : List Str := ["relators", "images", "still", "inverses", "relator"]
theorem scFul : FnScope nFul ["relators", "images"] (defScope sFul) := ⟨rfl, rfl, rfl, by decide +kernel, rfl, by decide +kernel, by decide +kernel⟩
def okWord (ims : List (List Nat)) (wd : List Int) : Bool := decide (actM ims (ims.map turnM) wd = List.range (ims.headD []).length)
def fulM (rels : List (List Int)) (ims : List (List Nat)) : Bool := rels.all (okWord ims)
section
variable {P : Program} {w : World} {K : PySem.W.Frag} {mg : Str → Option Value} {base : Heap}
def spInv : Sp := fun vs H Q _ => ∃ v ims d, vs = [v] ∧ TupOf RowAt H v ims ∧ RowsOk d ims ∧ d ≤ 1000 ∧ ims.length ≤ 1000 ∧ ∀ H' v', Same H H' → LstOf RowAt H' v' (ims.map turnM) → Q v' H'
theorem ok_inv {f fT : Addr} {fd fdT : FuncData} {k : Nat} (F : Fun K "inverses_of" "inverses_of" sInv f fd) (FT : Fun K "turned" "turned" sTurned fT fdT) (bT : Binds K fdT ["image"] []) (gT : mg "turned" = some (.ref fT)) (G : FnOk P w K mg base CX0 k fT fdT ["image"] spTurned) :
    FnOk P w K mg base CX0 (k + 1) f fd ["images"] spInv := by
  refine F.ok scInv (fun vs H Q E h => ?_) (fun cdv A outer s H vs Q E hr h => ?_)
  · obtain ⟨v, ims, d, rfl, _⟩ := h
    rfl
  · obtain ⟨v, ims, d, rfl, ⟨a, xs, rfl, e1, r1⟩, ok, hd, hl, q⟩ := h
    refine ⟨_, pss_one (ps_ret (pe_lc (own := [("image", 1)]) (g := gName 1) (tt := tYes) rfl scInv.nd (pi_tup (pv 0)) (blkOk_by (N := nInv) (sc := defScope sInv) (by decide +kernel)) (fun _ _ _ _ _ => pg_name (i := 1) scInv.nd rfl (Or.inl rfl)) (fun _ _ _ _ _ => pts_nil)
      (fun _ _ _ _ _ => pe_call G hr (by rfl) gT FT.kp bT .nil pass0 (pa_cons (pv 1) pa_nil)))), ?_⟩
    refine ⟨_, rfl, a, rfl, ⟨_, .inl (.inl e1)⟩, fun D nD => ?_⟩
    refine lc_it (walk_tup (xs := xs)) (fun j H5 => Same H H5 ∧ ∃ ys, H5 D = some (.lst ys) ∧ AllR (RowAt H5) ys ((ims.map turnM).take j)) ⟨same_upd nD, [], upd_same, by simpa using AllR.nil⟩ (fun j H5 _ h => .inl (.inl (h.1 _ _ e1))) (fun j x H5 H6 hj hP hY => ?_) fun H5 hP => ?_
    · obtain ⟨s5, ys, eD, ry⟩ := hP
      obtain ⟨rfl, hx⟩ := hY
      obtain ⟨r, hr1, hrow⟩ := r1.item hx
      have hmem : r ∈ ims := List.mem_of_getElem? hr1
      refine ⟨rfl, _, rfl, _, r, rfl, hrow.same s5, by rw [(ok r hmem).1]; exact hd, fun p hp => by rw [(ok r hmem).1]; exact (ok r hmem).2 p hp, fun H7 v' s7 hv => ?_⟩
      have hys : ys.length = j := by
        rw [ry.1, List.length_take, List.length_map, ← r1.1]; omega
      have hj' : j ≤ 1000 := by have := r1.1; omega
      refine ⟨ys, s7 _ _ eD, by rw [hys]; exact small1000 hj', same_put (s5.trans s7) nD, _, upd_same, ?_⟩
      have hn : v' ≠ .ref D ∨ True := .inr trivial
      have keep : Same H7 (upd H7 D (.lst (ys ++ [v']))) ∨ True := .inr trivial
      rw [List.take_add_one, List.getElem?_map, hr1]
      have up : ∀ x r, RowAt H7 x r → RowAt (upd H7 D (.lst (ys ++ [v']))) x r := fun x r hh => by
        obtain ⟨b, rfl, eb⟩ := hh
        refine ⟨b, rfl, ?_⟩
        rw [upd_ne (ne_of eb (s7 _ _ eD) (by intro z; cases z))]
        exact eb
      exact (ry.imp fun x r hh => up x r (hh.same s7)).snoc (up _ _ hv)
    · obtain ⟨s5, ys, eD, ry⟩ := hP
      have hl2 : (ims.map turnM).length = xs.length := by rw [List.length_map, r1.1]
      rw [← hl2, List.take_length] at ry
      exact q _ _ s5 ⟨D, ys, rfl, eD, ry⟩
def spFul : Sp := fun vs H Q _ => ∃ v1 v2 rels ims d, vs = [v1, v2] ∧ LstOf WordAt H v1 rels ∧ TupOf RowAt H v2 ims ∧ ims ≠ [] ∧ RowsOk d ims ∧ d ≤ 1000 ∧ ims.length ≤ 1000 ∧ rels.length ≤ 1000 ∧ (∀ wd ∈ rels, Letters ims.length wd) ∧
  ∀ H', Same H H' → Q (.bl (fulM rels ims)) H'
theorem ok_ful {f fI fA : Addr} {fd fdI fdA : FuncData} {k : Nat} (F : Fun K "fulfils" "fulfils" sFul f fd) (FI : Fun K "inverses_of" "inverses_of" sInv fI fdI) (bI : Binds K fdI ["images"] []) (gI : mg "inverses_of" = some (.ref fI)) (GI : FnOk P w K mg base CX0 k fI fdI ["images"] spInv)
    (FA : Fun K "acted" "acted" sActed fA fdA) (bA : Binds K fdA ["images", "inverses", "word"] []) (gA : mg "acted" = some (.ref fA)) (GA : FnOk P w K mg base CX0 k fA fdA ["images", "inverses", "word"] spActed)
    (ml : mg "len" = none) (mr : mg "range" = none) (mt : mg "tuple" = none) (ma : mg "all" = none) :
    FnOk P w K mg base CX0 (k + 1) f fd ["relators", "images"] spFul := by
  refine F.ok scFul (fun vs H Q E h => ?_) (fun cdv A outer s H vs Q E hr h => ?_)
  · obtain ⟨v1, v2, rels, ims, d, rfl, _⟩ := h
    rfl
  · obtain ⟨v1, v2, rels, ims, d, rfl, ⟨a1, xs1, rfl, e1, r1⟩, ⟨a2, xs2, rfl, e2, r2⟩, hne, ok, hd, hl, hlr, hL, q⟩ := h
    refine ⟨_, pss_cons (ps_set (i := 2) scFul.nd rfl (.inr rfl) (pe_tupRg rfl (by rfl) mt (prg_1 (by rfl) mr (pe_callB call_len_seq (by rfl) ml PySem.boot_len (pa_cons (pe_ix ix_tup (pv 1) pe_int (fun _ _ => rfl)) pa_nil)))))
      (pss_cons (ps_set (i := 3) scFul.nd rfl (.inr rfl) (pe_call GI hr (by rfl) gI FI.kp bI .nil pass0 (pa_cons (pv 1) pa_nil)))
      (pss_one (ps_ret (pe_callB (cr_all rfl) (by rfl) ma (by decide +kernel) (pa_cons (pe_lc (own := [("relator", 4)]) (g := gName 4) (tt := tYes) rfl scFul.nd (pi_list (pv 0)) (blkOk_by (N := nFul) (sc := defScope sFul) (by decide +kernel))
        (fun _ _ _ _ _ => pg_name (i := 4) scFul.nd rfl (Or.inl rfl)) (fun _ _ _ _ _ => pts_nil)
        (fun _ _ _ _ _ => pe_cmpR (r := rEqD K) (op_eqD hr.units) (pe_call GA hr (by rfl) gA FA.kp bA .nil pass0 (pa_cons (pv 1) (pa_cons (pv 3) (pa_cons (pv 4) pa_nil)))) (pv 2) (nomark _))) pa_nil))))), ?_⟩
    have h0 : 0 < ims.length := List.length_pos_iff.mpr hne
    obtain ⟨x0, g0, b0, rfl, eb0⟩ := r2.get h0
    have l0 : ims[0].length = d := (ok _ (List.getElem_mem h0)).1
    have hd0 : (ims.headD []).length = d := by
      cases ims with
      | nil => exact absurd rfl hne
      | cons r t => exact (ok r List.mem_cons_self).1
    -- still
    refine ⟨.ref a2, rfl, a2, xs2, 0, .ref b0, rfl, rfl, .inl (.inl e2), atI_of rfl g0, b0, rowV ims[0], rfl, .inr (.inl (.inl eb0)), _, rfl, ?_, fun p np => ?_⟩
    · rw [rowV_len, l0]
      exact .of_le (by omega) (by omega) (by omega) (by omega)
    rw [rowV_len, l0, rgV_row]
    have s0 : Same H (upd H p (.tup (rowV (List.range d)))) := same_upd np
    have st0 : RowAt (upd H p (.tup (rowV (List.range d)))) (.ref p) (List.range d) := ⟨p, rfl, upd_same⟩
    have t2 : TupOf RowAt H (.ref a2) ims := ⟨a2, xs2, rfl, e2, r2⟩
    -- inverses
    refine ⟨_, rfl, _, ims, d, rfl, t2.same (fun _ _ h => h.same s0) s0, ok, hd, hl, fun H1 vi s1 hi => ?_⟩
    have s01 : Same H H1 := s0.trans s1
    -- all([..])
    refine ⟨_, rfl, a1, rfl, ⟨_, .inl (.inl (s01 _ _ e1))⟩, fun D nD => ?_⟩
    refine lc_it (walk_list (xs := xs1)) (fun j H5 => Same H1 H5 ∧ H5 D = some (.lst (((rels.map (okWord ims)).take j).map V.bl))) ⟨same_upd nD, by rw [upd_same]; simp⟩ (fun j H5 _ h => .inl (.inl (h.1 _ _ (s01 _ _ e1)))) (fun j x H5 H6 hj hP hY => ?_) fun H5 hP => ?_
    · obtain ⟨s5, eD⟩ := hP
      obtain ⟨rfl, hx⟩ := hY
      obtain ⟨wd, hw1, hw⟩ := r1.item hx
      have hmem : wd ∈ rels := List.mem_of_getElem? hw1
      have sH : Same H H6 := s01.trans s5
      refine ⟨rfl, _, rfl, vi, rfl, _, rfl, _, _, _, ims, ims.map turnM, wd, d, rfl, t2.same (fun _ _ h => h.same sH) sH, hi.same (fun _ _ h => h.same s5) s5, hw.same sH, hne, by simp, ok, turns_ok ok, hL wd hmem, hd, fun H7 v7 s7 hv => ?_⟩
      refine ⟨_, rfl, rowD (actM ims (ims.map turnM) wd), rowD (List.range d), dp_row hv, dp_row (st0.same (s1.trans (s5.trans s7))), rowD_shaped _, rowD_shaped _, ?_⟩
      have hj2 : ((rels.map (okWord ims)).take j).length = j := by
        rw [List.length_take, List.length_map, ← r1.1]; omega
      refine ⟨_, s7 _ _ eD, ?_, same_put (s5.trans s7) nD, ?_⟩
      · rw [List.length_map, hj2]
        exact small1000 (by have := r1.1; omega)
      · rw [upd_same, List.take_add_one, List.getElem?_map, hw1, rowD_eqv, ← hd0, List.map_append]
        rfl
    · obtain ⟨s5, eD⟩ := hP
      have hl2 : (rels.map (okWord ims)).length = xs1.length := by rw [List.length_map, r1.1]
      rw [← hl2, List.take_length] at eD
      refine ⟨D, _, rfl, .inl (.inl eD), ?_⟩
      have e : (rels.map (okWord ims)).all id = fulM rels ims := by unfold fulM; rw [List.all_map]; rfl
      rw [e]
      exact q _ (s01.trans s5)
end
end K60
namespace K60
open PySem PySem.Spec PyProof.Rows GenW L2 G6

/-- turns of any body over a walk -/
theorem it_any {J : It} {n : Nat} {G : Hp → Prop} {Y : Nat → Hp → V → Hp → Prop} (w : Walk J n G Y) {B : (Hp → Prop) → V → Hp → Prop} {Qd : Hp → Prop} {H0 : Hp} (Pv : Nat → Hp → Prop) (h0 : Pv 0 H0) (hG : ∀ i H, i ≤ n → Pv i H → G H)
    (hs : ∀ i x H H', i < n → Pv i H → Y i H x H' → B (Pv (i + 1)) x H') (hd : ∀ H, Pv n H → Qd H) :
    ∃ W : Nat → Nat → Hp → Prop, (∃ m, W 0 m H0) ∧ ∀ i m H, W i m H → (J.stop i H ∧ Qd H) ∨ (J.go i H ∧ ∃ Nx : Hp → Prop, (∀ H', Nx H' → ∃ m', m' < m ∧ W (i + 1) m' H') ∧ ∀ x H', J.yld i H x H' → B Nx x H') := by
  refine ⟨fun i m H => m = n - i ∧ i ≤ n ∧ Pv i H, ⟨n, (Nat.sub_zero n).symm, Nat.zero_le _, h0⟩, ?_⟩
  rintro i m H ⟨rfl, hi, hp⟩
  have hg := hG i H hi hp
  rcases Nat.lt_or_ge i n with z | z
  · exact .inr ⟨w.goes i H z hg, Pv (i + 1), fun H' k => ⟨n - (i + 1), by omega, rfl, z, k⟩, fun x H' y => hs i x H H' z hp (w.yields i H x H' z hg y)⟩
  · obtain rfl : i = n := Nat.le_antisymm hi z
    exact .inl ⟨w.stops H hg, hd H hp⟩

/-! ### groups -/
def GrpAt (H : Hp) (v : V) (c : Int) (rels : List (List Int)) : Prop := ∃ a b, v = .ref a ∧ H a = some (.tup [.int c, .ref b]) ∧ TupOf WordAt H (.ref b) rels
theorem GrpAt.same {H H' : Hp} {v : V} {c : Int} {rels : List (List Int)} (h : GrpAt H v c rels) (s : Same H H') : GrpAt H' v c rels := by
  obtain ⟨a, b, rfl, e, t⟩ := h
  exact ⟨a, b, rfl, s _ _ e, t.same (fun _ _ q => q.same s) s⟩
def okLetter (c l : Int) : Bool := decide (l ≠ 0) && decide ((if l < 0 then -l else l) ≤ c)
def isGrp (c : Int) (rels : List (List Int)) : Bool := decide (1 ≤ c) && rels.all fun wd => wd.all (okLetter c)
structure ExcF (K : PySem.W.Frag) (mg : Str → Option Value) (nm : Str) (C : Addr) : Prop where
  g : mg nm = some (.ref C)
  x : PySem.W.excIn K C [.type "ValueError", .type "Exception", .type "BaseException", .type "object"] "ValueError.__new__" = true
  k : PySem.W.keepIn K (.ref C) = true
  b : PySem.W.subIn K (.ref C) (.type "BaseException") = some true
  t : PySem.W.typeIn K (.ref C) = some (.type "type")

abbrev sIsG : Stmt := topS 8
abbrev nIsG : List Str := ["group", "count", "relators", "relator", "letter"]
theorem scIsG : FnScope nIsG ["group"] (defScope sIsG) := ⟨rfl, rfl, rfl, by decide +kernel, rfl, by decide +kernel, by decide +kernel⟩
abbrev sChG : Stmt := topS 9
theorem scChG : FnScope ["group"] ["group"] (defScope sChG) := ⟨rfl, rfl, rfl, by decide +kernel, rfl, by decide +kernel, by decide +kernel⟩
abbrev sChS : Stmt := topS 15
theorem scChS : FnScope ["group", "degree"] ["group", "degree"] (defScope sChS) := ⟨rfl, rfl, rfl, by decide +kernel, rfl, by decide +kernel, by decide +kernel⟩
section
variable {P : Program} {w : World} {K : PySem.W.Frag} {mg : Str → Option Value} {base : Heap}
def Small (rels : List (List Int)) : Prop := rels.length ≤ 100 ∧ ∀ wd ∈ rels, wd.length ≤ 100
def spIsG : Sp := fun vs H Q _ => ∃ v c rels, vs = [v] ∧ GrpAt H v c rels ∧ Small rels ∧ ∀ H', Same H H' → Q (.bl (isGrp c rels)) H'
theorem flat_len {α : Type} (f : List Int → List α) (hf : ∀ wd, (f wd).length = wd.length) : ∀ (rels : List (List Int)), (∀ wd ∈ rels, wd.length ≤ 100) → (rels.flatMap f).length ≤ 100 * rels.length
  | [], _ => by simp
  | wd :: r, h => by
    have h1 := flat_len f hf r fun x hx => h x (List.mem_cons_of_mem _ hx)
    have h2 := h wd List.mem_cons_self
    rw [List.flatMap_cons, List.length_append, hf, List.length_cons]
    omega
theorem ok_isg {f : Addr} {fd : FuncData} {k : Nat} (F : Fun K "is_group" "is_group" sIsG f fd) (ma : mg "all" = none) (mb : mg "abs" = none) : FnOk P w K mg base CX0 (k + 1) f fd ["group"] spIsG := by
  refine F.ok scIsG (fun vs H Q E h => ?_) (fun cdv A outer s H vs Q E hr h => ?_)
  · obtain ⟨v, c, rels, rfl, _⟩ := h
    rfl
  · obtain ⟨v, c, rels, rfl, ⟨a, b, rfl, ea, ⟨_, xs, eb', eb, rb⟩⟩, ⟨hs1, hs2⟩, q⟩ := h
    cases eb'
    refine ⟨_, pss_cons (ps_asg (pv 0) (pg_tup rfl (pgs_cons (pg_name (i := 1) scIsG.nd rfl (.inr rfl)) (pgs_cons (pg_name (i := 2) scIsG.nd rfl (.inl rfl)) pgs_nil))))
      (pss_cons (ps_if (pt_cmpR op_lt (pv 1) pe_int (nomark _)) (pss_one (ps_ret pe_bl)) pss_nil)
      (pss_one (ps_ret (pe_callB (cr_all rfl) (by rfl) ma (by decide +kernel) (pa_cons (pe_lc2 (own := [("relator", 3), ("letter", 4)]) (vs1 := [4]) (g := gName 3) (tt := tYes) (wi1 := iTup K (tVar 3)) (g1 := gName 4) (tt1 := tYes) rfl scIsG.nd (pi_tup (pv 2)) (blkOk_by (N := nIsG) (sc := defScope sIsG) (by decide +kernel)) (by decide)
        (fun _ _ _ _ _ => pg_name (i := 3) scIsG.nd rfl (Or.inl rfl)) (fun _ _ _ _ _ => pts_nil)
        (fun _ _ _ _ _ => pi_tup (pv 3)) (fun _ _ _ _ _ => pg_name (i := 4) scIsG.nd rfl (Or.inl rfl)) (fun _ _ _ _ _ => pts_nil)
        (fun _ _ _ _ _ => pe_and (pe_cmpR op_ne (pv 4) pe_int (nomark _)) (pe_one (pe_cmpR op_le (pe_callB call_abs (by rfl) mb (by decide +kernel) (pa_cons (pv 4) pa_nil)) (pv 1) (nomark _))))) pa_nil))))), ?_⟩
    -- count, relators = group
    refine ⟨_, rfl, a, _, rfl, .inl (.inl ea), rfl, _, _, rfl, _, _, rfl, rfl, ?_⟩
    refine ⟨_, rfl, _, _, rfl, rfl, _, rfl, ite2 (fun c1 => ?_) fun c1 => ?_⟩
    · have h1 : c < 1 := of_decide_eq_true c1
      have e : isGrp c rels = false := by
        unfold isGrp
        rw [decide_eq_false (by omega), Bool.false_and]
      have h2 := q H (Same.refl H)
      rw [e] at h2
      exact h2
    · have h1 : 1 ≤ c := by
        have : ¬ c < 1 := fun z => c1 (decide_eq_true z)
        omega
      refine ⟨_, rfl, b, rfl, ⟨_, .inl (.inl eb)⟩, fun D nD => ?_⟩
      have tot := flat_len (fun wd => wd.map (okLetter c)) (fun wd => List.length_map ..) rels hs2
      refine it_any (walk_tup (xs := xs)) (fun i H5 => Same H H5 ∧ H5 D = some (.lst (((rels.take i).flatMap fun wd => wd.map (okLetter c)).map V.bl))) ⟨same_upd nD, by rw [upd_same]; simp⟩ (fun i H5 _ h => .inl (.inl (h.1 _ _ eb))) (fun i x H5 H6 hi hP hY => ?_) fun H5 hP => ?_
      · obtain ⟨s5, eD⟩ := hP
        obtain ⟨rfl, hx⟩ := hY
        obtain ⟨wd, hw1, ⟨bw, rfl, ebw⟩⟩ := rb.item hx
        have hmem : wd ∈ rels := List.mem_of_getElem? hw1
        have fl : ∀ j, (((rels.take i).flatMap fun wd => wd.map (okLetter c)) ++ (wd.map (okLetter c)).take j).length ≤ 10100 := fun j => by
          have t1 := flat_len (fun wd => wd.map (okLetter c)) (fun wd => List.length_map ..) (rels.take i) fun x hx => hs2 x (List.mem_of_mem_take hx)
          have t2 := hs2 wd hmem
          rw [List.length_append, List.length_take, List.length_map]
          rw [List.length_take] at t1
          omega
        refine ⟨rfl, .ref bw, rfl, bw, rfl, ⟨_, .inl (.inl (s5 _ _ ebw))⟩, it_any (walk_tup (xs := wd.map V.int)) (fun j H7 => Same H H7 ∧ H7 D = some (.lst ((((rels.take i).flatMap fun wd => wd.map (okLetter c)) ++ (wd.map (okLetter c)).take j).map V.bl)))
          ⟨s5, by simpa using eD⟩ (fun j H7 _ h => .inl (.inl (h.1 _ _ ebw))) (fun j x H7 H8 hj hP hY => ?_) fun H7 hP => ?_⟩
        · obtain ⟨s7, eD7⟩ := hP
          obtain ⟨rfl, hx2⟩ := hY
          rw [List.length_map] at hj
          have hx3 : x = .int wd[j] := by
            rw [List.getElem?_map, List.getElem?_eq_getElem hj] at hx2
            exact (Option.some.inj hx2).symm
          subst hx3
          have fin : ∀ bb, bb = okLetter c wd[j] → ∃ acc, H8 D = some (.lst acc) ∧ acc.length < sizeLine ∧ Same H (upd H8 D (.lst (acc ++ [V.bl bb]))) ∧ upd H8 D (.lst (acc ++ [V.bl bb])) D = some (.lst ((((rels.take i).flatMap fun wd => wd.map (okLetter c)) ++ (wd.map (okLetter c)).take (j + 1)).map V.bl)) := fun bb hbb => by
            refine ⟨_, eD7, by rw [List.length_map]; exact sz_small (Nat.le_trans (fl j) (by decide)), same_put s7 nD, ?_⟩
            · rw [upd_same, List.take_add_one, List.getElem?_map, List.getElem?_eq_getElem hj, hbb]
              simp
          refine ⟨rfl, _, rfl, rfl, _, rfl, ite2 (fun d1 => ?_) fun d1 => ?_⟩
          · refine ⟨_, rfl, _, rfl, _, rfl, _, _, rfl, rfl, ?_⟩
            refine fin _ ?_
            have d2 : wd[j] ≠ 0 := fun z => by
              rw [z] at d1
              simp at d1
            unfold okLetter
            rw [decide_eq_true d2, Bool.true_and]
          · refine fin _ ?_
            have d2 : wd[j] = 0 := by
              have d3 : (!decide (V.int wd[j] = V.int 0)) = false := by simpa using d1
              have d4 : decide (V.int wd[j] = V.int 0) = true := by simpa using d3
              exact V.int.inj (of_decide_eq_true d4)
            unfold okLetter
            rw [decide_eq_false (fun z => z d2), Bool.false_and]
        · obtain ⟨s7, eD7⟩ := hP
          refine ⟨s7, ?_⟩
          rw [List.length_map] at eD7
          have hl2 : (wd.map (okLetter c)).take wd.length = wd.map (okLetter c) := List.take_of_length_le (by simp)
          rw [hl2] at eD7
          rw [eD7, List.take_add_one, hw1]
          simp
      · obtain ⟨s5, eD⟩ := hP
        rw [rb.1, List.take_length] at eD
        refine ⟨D, _, rfl, .inl (.inl eD), ?_⟩
        have e : ((rels.flatMap fun wd => wd.map (okLetter c)).all id) = isGrp c rels := by
          unfold isGrp
          rw [decide_eq_true h1, Bool.true_and, List.all_flatMap]
          congr 1
          funext wd
          rw [List.all_map]; rfl
        rw [e]
        exact q _ s5
end
end K60
namespace K60
open PySem PySem.Spec PyProof.Rows GenW L2 G6
section
variable {P : Program} {w : World} {K : PySem.W.Frag} {mg : Str → Option Value} {base : Heap}
def spChG (Cg : Addr) : Sp := fun vs H Q E => ∃ v c rels, vs = [v] ∧ GrpAt H v c rels ∧ Small rels ∧ (isGrp c rels = true → ∀ H', Same H H' → Q .non H') ∧ (isGrp c rels = false → ∀ H', Same H H' → E (.ref Cg) none H')
theorem ok_chg {f fI Cg : Addr} {fd fdI : FuncData} {k : Nat} (F : Fun K "check_group" "check_group" sChG f fd) (FI : Fun K "is_group" "is_group" sIsG fI fdI) (bI : Binds K fdI ["group"] []) (gI : mg "is_group" = some (.ref fI)) (GI : FnOk P w K mg base CX0 k fI fdI ["group"] spIsG) (T : ExcF K mg "NotGroup" Cg) :
    FnOk P w K mg base (L2.CX P w) (k + 1) f fd ["group"] (spChG Cg) := by
  refine F.okX scChG (fun vs H Q E h => ?_) (fun cdv A outer s H vs Q E hr h => ?_)
  · obtain ⟨v, c, rels, rfl, _⟩ := h
    rfl
  · obtain ⟨v, c, rels, rfl, hg, hs, q1, q2⟩ := h
    refine ⟨_, pss_one (ps_if (pt_not (pt_val (pe_call GI hr (by rfl) gI FI.kp bI .nil pass0 (pa_cons (pv 0) pa_nil)))) (pss_one (ps_raise rfl (takes_of rfl rfl rfl rfl) (pmk_own PySem.F.excBase_ValueError T.x T.g T.k (raises_own T.b T.t) rfl))) pss_nil), ?_⟩
    refine ⟨_, rfl, v, c, rels, rfl, hg, hs, fun H1 s1 => ?_⟩
    refine ⟨_, rfl, ?_⟩
    cases e : isGrp c rels with
    | true => exact q1 e H1 s1
    | false => exact q2 e H1 s1
def spChS (Cg Cb Ct : Addr) : Sp := fun vs H Q E => ∃ v c rels deg, vs = [v, .int deg] ∧ GrpAt H v c rels ∧ Small rels ∧ (isGrp c rels = false → ∀ H', Same H H' → E (.ref Cg) none H') ∧
  (isGrp c rels = true → ¬ (1 ≤ deg ∧ deg ≤ 3) → ∀ H', Same H H' → E (.ref Cb) none H') ∧ (isGrp c rels = true → 1 ≤ deg → deg ≤ 3 → 6 < c → ∀ H', Same H H' → E (.ref Ct) none H') ∧
  (isGrp c rels = true → 1 ≤ deg → deg ≤ 3 → c ≤ 6 → ∀ H', Same H H' → Q .non H')
theorem ok_chs {f fC Cg Cb Ct : Addr} {fd fdC : FuncData} {k : Nat} {t1 t2 : Tok} (F : Fun K "check_search" "check_search" sChS f fd) (FC : Fun K "check_group" "check_group" sChG fC fdC) (bC : Binds K fdC ["group"] []) (gC : mg "check_group" = some (.ref fC)) (GC : FnOk P w K mg base (L2.CX P w) k fC fdC ["group"] (spChG Cg))
    (Tb : ExcF K mg "BadNumber" Cb) (Tt : ExcF K mg "TooLarge" Ct) (m1 : mg "MOST_SEARCHED" = some (.int 3 t1)) (m2 : mg "MOST_GENERATORS" = some (.int 6 t2)) :
    FnOk P w K mg base (L2.CX P w) (k + 1) f fd ["group", "degree"] (spChS Cg Cb Ct) := by
  refine F.okX scChS (fun vs H Q E h => ?_) (fun cdv A outer s H vs Q E hr h => ?_)
  · obtain ⟨v, c, rels, deg, rfl, _⟩ := h
    rfl
  · obtain ⟨v, c, rels, deg, rfl, hg, hs, q1, q2, q3, q4⟩ := h
    refine ⟨_, pss_cons (ps_expr (pe_callS GC hr (by rfl) gC FC.kp bC (fun σ => passAt (takes_of rfl rfl rfl rfl) σ) (pa_cons (pv 0) pa_nil)))
      (pss_cons (ps_if (pt_not (pt_chain op_le op_le pe_int (pv 1) (pe_glob (v := .int 3) (by rfl) m1 ⟨_, rfl⟩))) (pss_one (ps_raise rfl (takes_of rfl rfl rfl rfl) (pmk_own PySem.F.excBase_ValueError Tb.x Tb.g Tb.k (raises_own Tb.b Tb.t) rfl))) pss_nil)
      (pss_one (ps_if (pt_cmpR op_gt (pe_ix ix_tup (pv 0) pe_int (fun _ _ => rfl)) (pe_glob (v := .int 6) (by rfl) m2 ⟨_, rfl⟩) (nomark _)) (pss_one (ps_raise rfl (takes_of rfl rfl rfl rfl) (pmk_own PySem.F.excBase_ValueError Tt.x Tt.g Tt.k (raises_own Tt.b Tt.t) rfl))) pss_nil))), ?_⟩
    refine ⟨_, rfl, v, c, rels, rfl, hg, hs, fun e H1 s1 => ?_, fun e H1 s1 => q1 e H1 s1⟩
    obtain ⟨a, b, rfl, ea, tb⟩ := id hg
    have last : 1 ≤ deg → deg ≤ 3 → tIfS (tTest (tOp (rI0 fun i j => V.bl (decide (j < i))) (tOp (rIxT K) (tVar 0) (tC (.int 0))) (tC (.int 6)))) (fun _ _ H => E (.ref Ct) none H) tNext { nx := fun _ H' => Q .non H', rt := Q } [some (.ref a), some (.int deg)] H1 := fun h1 h2 => by
      refine ⟨_, rfl, _, _, 0, .int c, rfl, rfl, .inl (.inl (s1 _ _ ea)), atI_of (n := 0) rfl rfl, _, _, rfl, rfl, _, rfl, ite2 (fun c1 => ?_) fun c1 => ?_⟩
      · exact q3 e h1 h2 (of_decide_eq_true c1) H1 s1
      · have c2 : ¬ 6 < c := fun z => c1 (decide_eq_true z)
        exact q4 e h1 h2 (by omega) H1 s1
    refine ⟨_, rfl, _, _, rfl, rfl, _, rfl, ite2 (fun c1 => ?_) fun c1 => ?_⟩
    · have h1 : 1 ≤ deg := of_decide_eq_true c1
      refine ⟨_, _, rfl, rfl, _, rfl, ?_⟩
      refine ite2 (fun c2 => ?_) fun c2 => ?_
      · refine q2 e (fun z => ?_) H1 s1
        rw [decide_eq_true z.2] at c2
        cases c2
      · refine last h1 ?_
        by_cases z : deg ≤ 3
        · exact z
        · rw [decide_eq_false z] at c2
          exact absurd rfl c2
    · refine ⟨_, rfl, ?_⟩
      exact q2 e (fun z => c1 (decide_eq_true z.1)) H1 s1
end
end K60
namespace K60
open PySem PySem.Spec PyProof.Rows GenW L2 G6
def arrRow (d : Nat) (r : List Nat) : List (List Nat) := ((List.range d).filter fun p => !r.contains p).map fun p => r ++ [p]
def arrStep (d : Nat) (rows : List (List Nat)) : List (List Nat) := rows.flatMap (arrRow d)
def arrP (d : Nat) : Nat → List (List Nat)
  | 0 => [[]]
  | i + 1 => arrStep d (arrP d i)
def arrM (d : Nat) : List (List Nat) := arrP d d
theorem arr_small : ∀ d, d < 4 → ∀ i, i < 4 → (arrP d i).length ≤ 30 ∧ ∀ r ∈ arrP d i, r.length ≤ 3 := by decide
theorem inV_row (p : Nat) : ∀ r : List Nat, inV (.int (p : Int)) (rowV r) = r.contains p
  | [] => rfl
  | n :: r => by
    have ih := inV_row p r
    unfold inV at ih ⊢
    show (eqV (.int (n : Int)) (.int (p : Int)) || (rowV r).any fun y => eqV y (.int (p : Int))) = _
    rw [ih, List.contains_cons]
    have e : eqV (.int (n : Int)) (.int (p : Int)) = (p == n) := by
      by_cases h : p = n
      · subst h; simp [eqV]
      · have : (n : Int) ≠ (p : Int) := by omega
        show ((n : Int) == (p : Int)) = (p == n)
        rw [beq_eq_false_iff_ne.mpr this, beq_eq_false_iff_ne.mpr h]
    rw [e]
theorem flat_row (r : List Nat) : (rowV r).all flatV = true := by
  unfold rowV
  rw [List.all_map]
  exact List.all_eq_true.mpr fun _ _ => rfl
theorem flat_le {α β : Type} {f : α → List β} {c : Nat} (hf : ∀ x, (f x).length ≤ c) : ∀ l : List α, (l.flatMap f).length ≤ c * l.length
  | [] => by simp
  | x :: l => by
    have h1 := flat_le hf l
    have h2 := hf x
    rw [List.flatMap_cons, List.length_append, List.length_cons, Nat.mul_add, Nat.mul_one]
    omega
theorem arrRow_len (d : Nat) (r : List Nat) : (arrRow d r).length ≤ d := by
  unfold arrRow
  rw [List.length_map]
  have := List.length_filter_le (fun p => !r.contains p) (List.range d)
  rwa [List.length_range] at this
theorem range_filter (f : Nat → Bool) (j : Nat) : ((List.range (j + 1)).filter f) = (List.range j).filter f ++ (if f j then [j] else []) := by
  rw [List.range_succ, List.filter_append]
  cases h : f j <;> simp [h]
abbrev sArr : Stmt := topS 14
abbrev nArr : List Str := ["degree", "rows", "_", "row", "point"]
theorem scArr : FnScope nArr ["degree"] (defScope sArr) := ⟨rfl, rfl, rfl, by decide +kernel, rfl, by decide +kernel, by decide +kernel⟩
theorem arrRow_take (r : List Nat) (m : Nat) : (((List.range (m + 1)).filter fun p => !r.contains p).map fun p => r ++ [p]) = (((List.range m).filter fun p => !r.contains p).map fun p => r ++ [p]) ++ (if (!r.contains m) = true then [r ++ [m]] else []) := by
  rw [range_filter, List.map_append]
  cases h : !r.contains m <;> simp
theorem up_row {H : Hp} {D : Addr} {xs ys : List V} {x : V} {r : List Nat} (e : H D = some (.lst xs)) (h : RowAt H x r) : RowAt (upd H D (.lst ys)) x r := by
  obtain ⟨b, rfl, eb⟩ := h
  refine ⟨b, rfl, ?_⟩
  rw [upd_ne (ne_of eb e (by intro z; cases z))]
  exact eb
section
variable {P : Program} {w : World} {K : PySem.W.Frag} {mg : Str → Option Value} {base : Heap}
def spArr : Sp := fun vs H Q _ => ∃ d : Nat, vs = [.int (d : Int)] ∧ d < 4 ∧ ∀ H' b ys, Same H H' → H b = none → H' b = some (.lst ys) → AllR (RowAt H') ys (arrM d) → Q (.ref b) H'
theorem ok_arr {f : Addr} {fd : FuncData} {k : Nat} (F : Fun K "arrangements" "arrangements" sArr f fd) (mr : mg "range" = none) : FnOk P w K mg base CX0 (k + 1) f fd ["degree"] spArr := by
  refine F.ok scArr (fun vs H Q E h => ?_) (fun cdv A outer s H vs Q E hr h => ?_)
  · obtain ⟨d, rfl, _⟩ := h
    rfl
  · obtain ⟨d, rfl, hd, q⟩ := h
    refine ⟨_, pss_cons (ps_set (i := 1) scArr.nd rfl (.inl rfl) (pe_lst (pa_cons (pe_tup pa_nil) pa_nil)))
      (pss_cons (ps_for PassesOwn.never rfl (pi_range1 (by rfl) mr (pa_cons (pv 0) pa_nil)) (pg_name (i := 2) scArr.nd rfl (.inl rfl))
        (pss_one (ps_setLc2 (i := 1) (own := [("row", 3), ("point", 4)]) (vs1 := [4]) (g := gName 3) (tt := tYes) (g1 := gName 4) (wi1 := iRng1 (tCons (tVar 0) tNil)) (te := tOp (rCat0 K) (tVar 3) (tTup (tCons (tVar 4) tNil))) (tt1 := tTest (tOp (rIn K true) (tVar 4) (tVar 3))) rfl scArr.nd rfl rfl (sw_true rfl rfl rfl (by decide +kernel)) (pi_list (pv 1)) (blkOk_by (N := nArr) (sc := defScope sArr) (by decide +kernel)) (by decide)
          (fun _ _ _ _ _ => pg_name (i := 3) scArr.nd rfl (Or.inl rfl)) (fun _ _ _ _ _ => pts_nil)
          (fun _ _ _ _ _ => pi_range1 (by rfl) mr (pa_cons (pv 0) pa_nil)) (fun _ _ _ _ _ => pg_name (i := 4) scArr.nd rfl (Or.inl rfl)) (fun _ _ _ _ _ => pts_one (pt_cmpR op_notIn_seq (pv 4) (pv 3) (by rfl)))
          (fun _ _ _ _ _ => pe_op op_cat0 (pv 3) (pe_tup (pa_cons (pv 4) pa_nil))))))
      (pss_one (ps_ret (pv 1)))), ?_⟩
    -- rows = [()]
    refine ⟨Nat.zero_le _, fun t nt => ⟨Nat.le_of_lt (sz_small (n := 1) (by decide)), fun l nl => ?_⟩⟩
    have s1 : Same H (upd H t (.tup [])) := same_upd nt
    have s2 : Same (upd H t (.tup [])) (upd (upd H t (.tup [])) l (.lst [.ref t])) := same_upd nl
    have rt : RowAt (upd (upd H t (.tup [])) l (.lst [.ref t])) (.ref t) [] := ⟨t, rfl, s2 _ _ upd_same⟩
    have hdn : ((d : Nat) : Int).toNat = d := by omega
    refine ⟨_, rfl, (d : Int), rfl, by omega, by omega, for_it walk_range (fun i σ H3 => ∃ y2 y3 y4 b ys, σ = [some (.int (d : Int)), some (.ref b), y2, y3, y4] ∧ Same H H3 ∧ H b = none ∧ H3 b = some (.lst ys) ∧ AllR (RowAt H3) ys (arrP d i))
      ⟨none, none, none, l, [.ref t], rfl, s1.trans s2, s1.free nl, upd_same, AllR.nil.snoc rt⟩ (fun _ _ _ _ _ => trivial) (fun i x σ H3 H4 hi hP hY => ?_) fun σ H3 hP => ?_⟩
    · obtain ⟨y2, y3, y4, b, ys, rfl, s3, nbH, eb, rb⟩ := hP
      obtain ⟨rfl, rfl⟩ := hY
      rw [hdn] at hi
      obtain ⟨sm1, sm2⟩ := arr_small d hd i (by omega)
      obtain ⟨sm3, _⟩ := arr_small d hd (i + 1) (by omega)
      refine ⟨_, rfl, b, rfl, ⟨_, .inl (.inl eb)⟩, fun D nD => ?_⟩
      refine it_any (walk_list (xs := ys)) (fun j H5 => Same H4 H5 ∧ ∃ zs, H5 D = some (.lst zs) ∧ AllR (RowAt H5) zs (((arrP d i).take j).flatMap (arrRow d))) ⟨same_upd nD, [], upd_same, by simpa using AllR.nil⟩ (fun j H5 _ h => .inl (.inl (h.1 _ _ eb))) (fun j x H5 H6 hj hP hY => ?_) fun H5 hP => ?_
      · obtain ⟨s5, zs, eD, rz⟩ := hP
        obtain ⟨rfl, hx⟩ := hY
        obtain ⟨r, hr1, hrow⟩ := rb.item hx
        have hmem : r ∈ arrP d i := List.mem_of_getElem? hr1
        have tot : ∀ m, m ≤ 1000 → (((arrP d i).take j).flatMap (arrRow d)).length + (((List.range m).filter fun p => !r.contains p).map fun p => r ++ [p]).length ≤ 100000 := fun m hm => by
          have t1 := flat_le (arrRow_len d) ((arrP d i).take j)
          have t2 := List.length_filter_le (fun p => !r.contains p) (List.range m)
          rw [List.length_range] at t2
          rw [List.length_take] at t1
          rw [List.length_map]
          have t3 : d * min j (arrP d i).length ≤ 3 * 30 := Nat.mul_le_mul (by omega) (by omega)
          omega
        refine ⟨rfl, _, rfl, (d : Int), rfl, by omega, by omega, it_any walk_range (fun m H7 => Same H4 H7 ∧ ∃ zs, H7 D = some (.lst zs) ∧ AllR (RowAt H7) zs (((arrP d i).take j).flatMap (arrRow d) ++ (((List.range m).filter fun p => !r.contains p).map fun p => r ++ [p])))
          ⟨s5, zs, eD, by simpa using rz⟩ (fun _ _ _ _ => trivial) (fun m x H7 H8 hm hP hY => ?_) fun H7 hP => ?_⟩
        · obtain ⟨s7, zs7, eD7, rz7⟩ := hP
          obtain ⟨rfl, hxm⟩ := hY
          obtain rfl : x = .int (m : Int) := by
            rw [hxm]
            show V.int (0 + (m : Int)) = _
            rw [Int.zero_add]
          obtain ⟨br, ebr0, ebr⟩ := hrow.same s7
          subst ebr0
          refine ⟨rfl, _, rfl, _, rfl, br, rowV r, rfl, .inr (.inl (.inl ebr)), rfl, flat_row r, _, rfl, ?_⟩
          rw [inV_row]
          have stepE := arrRow_take r m
          refine ite2 (fun c1 => ?_) fun c1 => ?_
          · have c2 : (!r.contains m) = true := c1
            rw [if_pos c2] at stepE
            have szz : zs7.length < sizeLine := by
              rw [rz7.1, List.length_append]
              exact sz_small (tot m (by omega))
            refine ⟨_, rfl, _, rfl, Nat.le_of_lt (sz_small (n := 1) (by decide)), fun p np => ?_⟩
            have sp : Same H8 (upd H8 p (.tup [.int (m : Int)])) := same_upd np
            refine ⟨br, p, rowV r, [.int (m : Int)], rfl, rfl, .inl (.inl (sp _ _ ebr)), .inl (.inl upd_same), ?_, fun hr0 => ?_, fun _ z => List.cons_ne_nil _ _ z, fun hr0 p2 np2 => ?_⟩
            · rw [rowV_len]
              have := sm2 r hmem
              exact Nat.le_of_lt (sz_small (by simp; omega))
            · -- r is empty
              have er : r = [] := by
                cases r with
                | nil => rfl
                | cons a t => cases hr0
              refine ⟨zs7, sp _ _ eD7, szz, same_put (s7.trans sp) nD, _, upd_same, ?_⟩
              rw [stepE, ← List.append_assoc]
              refine (rz7.imp fun x r h => up_row (sp _ _ eD7) (h.same sp)).snoc (up_row (sp _ _ eD7) ⟨p, rfl, ?_⟩)
              rw [upd_same, er]; rfl
            · have sp2 : Same (upd H8 p (.tup [.int (m : Int)])) (upd (upd H8 p (.tup [.int (m : Int)])) p2 (.tup (rowV r ++ [.int (m : Int)]))) := same_upd np2
              have eDD := sp2 _ _ (sp _ _ eD7)
              refine ⟨zs7, eDD, szz, same_put ((s7.trans sp).trans sp2) nD, _, upd_same, ?_⟩
              rw [stepE, ← List.append_assoc]
              refine (rz7.imp fun x r h => up_row eDD ((h.same sp).same sp2)).snoc (up_row eDD ⟨p2, rfl, ?_⟩)
              rw [upd_same]
              simp [rowV]
          · have c2 : ¬ (!r.contains m) = true := c1
            rw [if_neg c2, List.append_nil] at stepE
            refine ⟨s7, zs7, eD7, ?_⟩
            rw [stepE]
            exact rz7
        · obtain ⟨s7, zs7, eD7, rz7⟩ := hP
          rw [hdn] at rz7
          refine ⟨s7, zs7, eD7, ?_⟩
          rw [List.take_add_one, hr1]
          simpa [arrRow] using rz7
      · obtain ⟨s5, zs, eD, rz⟩ := hP
        rw [rb.1, List.take_length] at rz
        exact ⟨_, _, _, D, zs, rfl, s3.trans s5, s3.free nD, eD, rz⟩
    · obtain ⟨y2, y3, y4, b, ys, rfl, s3, nbH, eb, rb⟩ := hP
      rw [hdn] at rb
      exact ⟨_, rfl, q _ _ _ s3 nbH eb rb⟩
end
end K60
namespace K60
open PySem PySem.Spec PyProof.Rows GenW L2 G6
abbrev sHol : Stmt := topS 17
abbrev nHol : List Str := ["group", "images", "known", "relator", "letter"]
theorem scHol : FnScope nHol ["group", "images"] (defScope sHol) := ⟨rfl, rfl, rfl, by decide +kernel, rfl, by decide +kernel, by decide +kernel⟩
def isKnown (n : Nat) (wd : List Int) : Bool := wd.all fun l => decide ((if l < 0 then -l else l) ≤ (n : Int))
def holdsM (rels : List (List Int)) (ims : List (List Nat)) : Bool := fulM (rels.filter (isKnown ims.length)) ims
theorem up_word {H : Hp} {D : Addr} {xs ys : List V} {x : V} {r : List Int} (e : H D = some (.lst xs)) (h : WordAt H x r) : WordAt (upd H D (.lst ys)) x r := by
  obtain ⟨b, rfl, eb⟩ := h
  refine ⟨b, rfl, ?_⟩
  rw [upd_ne (ne_of eb e (by intro z; cases z))]
  exact eb
theorem grp_letters {c : Int} {rels : List (List Int)} (h : isGrp c rels = true) : ∀ wd ∈ rels, ∀ l ∈ wd, l ≠ 0 ∧ -c ≤ l ∧ l ≤ c := fun wd hw l hl => by
  unfold isGrp at h
  rw [Bool.and_eq_true, List.all_eq_true] at h
  have h2 := List.all_eq_true.mp (h.2 wd hw) l hl
  unfold okLetter at h2
  rw [Bool.and_eq_true] at h2
  have h3 := of_decide_eq_true h2.1
  have h4 := of_decide_eq_true h2.2
  refine ⟨h3, ?_⟩
  split at h4 <;> omega
theorem known_letters {c : Int} {n : Nat} {rels : List (List Int)} (h : isGrp c rels = true) : ∀ wd ∈ rels.filter (isKnown n), Letters n wd := fun wd hw l hl => by
  obtain ⟨h1, h2⟩ := List.mem_filter.mp hw
  have h3 := grp_letters h wd h1 l hl
  unfold isKnown at h2
  have h4 := of_decide_eq_true (List.all_eq_true.mp h2 l hl)
  refine ⟨h3.1, ?_⟩
  split at h4 <;> omega
section
variable {P : Program} {w : World} {K : PySem.W.Frag} {mg : Str → Option Value} {base : Heap}
def spHol : Sp := fun vs H Q _ => ∃ v1 v2 c rels ims d, vs = [v1, v2] ∧ GrpAt H v1 c rels ∧ Small rels ∧ isGrp c rels = true ∧ TupOf RowAt H v2 ims ∧ ims ≠ [] ∧ RowsOk d ims ∧ d ≤ 1000 ∧ ims.length ≤ 1000 ∧ ∀ H', Same H H' → Q (.bl (holdsM rels ims)) H'
theorem ok_hol {f fF : Addr} {fd fdF : FuncData} {k : Nat} (F : Fun K "holds_so_far" "holds_so_far" sHol f fd) (FF : Fun K "fulfils" "fulfils" sFul fF fdF) (bF : Binds K fdF ["relators", "images"] []) (gF : mg "fulfils" = some (.ref fF)) (GF : FnOk P w K mg base CX0 k fF fdF ["relators", "images"] spFul)
    (ma : mg "all" = none) (mb : mg "abs" = none) (ml : mg "len" = none) : FnOk P w K mg base CX0 (k + 1) f fd ["group", "images"] spHol := by
  refine F.ok scHol (fun vs H Q E h => ?_) (fun cdv A outer s H vs Q E hr h => ?_)
  · obtain ⟨v1, v2, c, rels, ims, d, rfl, _⟩ := h
    rfl
  · obtain ⟨v1, v2, c, rels, ims, d, rfl, ⟨a, b, rfl, ea, ⟨_, xs, eb', eb, rb⟩⟩, ⟨hs1, hs2⟩, hG, ⟨a2, xs2, rfl, e2, r2⟩, hne, ok, hd, hl, q⟩ := h
    cases eb'
    refine ⟨_, pss_cons (ps_setLc (i := 2) (own := [("relator", 3)]) (g := gName 3) (te := tVar 3) (tt := tB (tCB (rAll K) (tCons (tLc (iTup K (tVar 3)) (gName 4) tYes (tOp (rI0 fun i j => .bl (decide (i ≤ j))) (tCB (fun xs H Q => ∃ i, xs = [V.int i] ∧ Q (.int (if i < 0 then -i else i)) H) (tCons (tVar 4) tNil)) (tCB (fun xs H Q => ∃ p ys, xs = [.ref p] ∧ (SqL K H p ys ∨ SqT K H p ys) ∧ Q (.int ys.length) H) (tCons (tVar 1) tNil))) [4]) tNil))) rfl scHol.nd rfl rfl (sw_true rfl rfl rfl (by decide +kernel)) (pi_tup (pe_ix ix_tup (pv 0) pe_int (fun _ _ => rfl))) (blkOk_by (N := nHol) (sc := defScope sHol) (by decide +kernel))
      (fun _ _ _ _ _ => pg_name (i := 3) scHol.nd rfl (Or.inl rfl))
      (fun _ _ _ _ _ => pts_one (pt_val (pe_callB (cr_all rfl) (by rfl) ma (by decide +kernel) (pa_cons (pe_lc (own := [("letter", 4)]) (g := gName 4) (tt := tYes) rfl scHol.nd (pi_tup (pv 3)) (blkOk_by (by rfl))
        (fun _ _ _ _ _ => pg_name (i := 4) scHol.nd rfl (Or.inl rfl)) (fun _ _ _ _ _ => pts_nil) (fun _ _ _ _ _ => pe_cmpR op_le (pe_callB call_abs (by rfl) mb (by decide +kernel) (pa_cons (pv 4) pa_nil)) (pe_callB call_len_seq (by rfl) ml PySem.boot_len (pa_cons (pv 1) pa_nil)) (nomark _))) pa_nil))))
      (fun _ _ _ _ _ => pv 3)) (pss_one (ps_ret (pe_call GF hr (by rfl) gF FF.kp bF .nil pass0 (pa_cons (pv 2) (pa_cons (pv 1) pa_nil))))), ?_⟩
    refine ⟨_, rfl, a, _, 1, .ref b, rfl, rfl, .inl (.inl ea), atI_of (n := 1) rfl rfl, b, rfl, ⟨_, .inl (.inl eb)⟩, fun D nD => ?_⟩
    refine lc_it (walk_tup (xs := xs)) (fun j H5 => Same H H5 ∧ ∃ zs, H5 D = some (.lst zs) ∧ AllR (WordAt H5) zs ((rels.take j).filter (isKnown ims.length))) ⟨same_upd nD, [], upd_same, by simpa using AllR.nil⟩ (fun j H5 _ h => .inl (.inl (h.1 _ _ eb))) (fun j x H5 H6 hj hP hY => ?_) fun H5 hP => ?_
    · obtain ⟨s5, zs, eD, rz⟩ := hP
      obtain ⟨rfl, hx⟩ := hY
      obtain ⟨wd, hw1, hwd⟩ := rb.item hx
      have hmem : wd ∈ rels := List.mem_of_getElem? hw1
      obtain ⟨bw, rfl, ebw⟩ := id hwd
      have ebw6 := s5 _ _ ebw
      have tk : (rels.take (j + 1)).filter (isKnown ims.length) = (rels.take j).filter (isKnown ims.length) ++ (if isKnown ims.length wd = true then [wd] else []) := by
        rw [List.take_add_one, hw1, List.filter_append]
        cases h : isKnown ims.length wd <;> simp [h]
      refine ⟨rfl, _, rfl, bw, rfl, ⟨_, .inl (.inl ebw6)⟩, fun D2 nD2 => ?_⟩
      refine lc_it (walk_tup (xs := wd.map V.int)) (fun m H7 => Same H6 H7 ∧ H7 D2 = some (.lst (((wd.take m).map fun l => decide ((if l < 0 then -l else l) ≤ (ims.length : Int))).map V.bl))) ⟨same_upd nD2, by rw [upd_same]; simp⟩ (fun m H7 _ h => .inl (.inl (h.1 _ _ ebw6))) (fun m x H7 H8 hm hP hY => ?_) fun H7 hP => ?_
      · obtain ⟨s7, eD2⟩ := hP
        obtain ⟨rfl, hx2⟩ := hY
        rw [List.length_map] at hm
        obtain rfl : x = .int wd[m] := by
          rw [List.getElem?_map, List.getElem?_eq_getElem hm] at hx2
          exact (Option.some.inj hx2).symm
        refine ⟨rfl, _, rfl, _, rfl, _, rfl, a2, xs2, rfl, .inr (.inl (.inl (s7 _ _ (s5 _ _ e2)))), _, _, rfl, rfl, ?_⟩
        refine ⟨_, eD2, ?_, same_put s7 nD2, ?_⟩
        · rw [List.length_map, List.length_map, List.length_take]
          have := hs2 wd hmem
          exact sz_small (by omega)
        · rw [upd_same, List.take_add_one, List.getElem?_eq_getElem hm, r2.1, List.map_append, List.map_append]
          rfl
      · obtain ⟨s7, eD2⟩ := hP
        have hl2 : wd.take (wd.map V.int).length = wd := List.take_of_length_le (by simp)
        rw [hl2] at eD2
        refine ⟨D2, _, rfl, .inl (.inl eD2), ?_⟩
        have e : ((wd.map fun l => decide ((if l < 0 then -l else l) ≤ (ims.length : Int))).all id) = isKnown ims.length wd := by
          unfold isKnown
          rw [List.all_map]; rfl
        rw [e]
        refine ⟨_, rfl, ?_⟩
        have eD7 := s7 _ _ eD
        refine ite2 (fun c1 => ?_) fun c1 => ?_
        · rw [if_pos c1] at tk
          refine ⟨_, rfl, zs, eD7, ?_, same_put (s5.trans s7) nD, _, upd_same, ?_⟩
          · rw [rz.1]
            have := List.length_filter_le (isKnown ims.length) (rels.take j)
            rw [List.length_take] at this
            exact sz_small (by omega)
          · rw [tk]
            exact (rz.imp fun x r h => up_word eD7 (h.same s7)).snoc (up_word eD7 ((hwd.same s5).same s7))
        · rw [if_neg c1, List.append_nil] at tk
          rw [tk]
          exact ⟨s5.trans s7, zs, eD7, rz.imp fun x r h => h.same s7⟩
    · obtain ⟨s5, zs, eD, rz⟩ := hP
      rw [rb.1, List.take_length] at rz
      have hlk := List.length_filter_le (isKnown ims.length) rels
      refine ⟨_, rfl, _, rfl, _, _, rels.filter (isKnown ims.length), ims, d, rfl, ⟨D, zs, rfl, eD, rz⟩, ⟨a2, xs2, rfl, s5 _ _ e2, r2.imp fun x r h => h.same s5⟩, hne, ok, hd, hl, by omega, known_letters hG, fun H9 s9 => ?_⟩
      exact q H9 (s5.trans s9)
end
end K60
namespace K60
/-! ### the search, in plain Lean -/
section
variable (rows : List (List Nat)) (ok : List (List Nat) → Bool)
def imgOf (ch : List Nat) : List (List Nat) := ch.map fun c => rows.getD c []
def Sub : Nat → List Nat → List (List (List Nat))
  | 0, p => if ok (imgOf rows p) then [imgOf rows p] else []
  | k + 1, p => if ok (imgOf rows p) then (List.range rows.length).flatMap fun r => Sub k (p ++ [r]) else []
def Tail (k : Nat) (p : List Nat) (i : Nat) : List (List (List Nat)) := ((List.range rows.length).drop i).flatMap fun r => Sub rows ok k (p ++ [r])
/-- what is still to come: the top index i, the indices beneath it, the nearest first -/
def Rem (cnt : Nat) : Nat → List Nat → List (List (List Nat))
  | i, [] => Tail rows ok (cnt - 1) [] i
  | i, j :: cs => Tail rows ok (cnt - 1 - (cs.length + 1)) (cs.reverse ++ [j]) i ++ Rem cnt (j + 1) cs
theorem tail_end (k : Nat) (p : List Nat) : Tail rows ok k p rows.length = [] := by
  unfold Tail
  rw [List.drop_eq_nil_of_le (by simp)]; rfl
theorem tail_step {k i : Nat} {p : List Nat} (h : i < rows.length) : Tail rows ok k p i = Sub rows ok k (p ++ [i]) ++ Tail rows ok k p (i + 1) := by
  unfold Tail
  have e : (List.range rows.length).drop i = i :: (List.range rows.length).drop (i + 1) := by
    rw [List.drop_eq_getElem_cons (by simpa using h)]
    simp
  rw [e, List.flatMap_cons]
/-- the prefix of a state -/
def pre (cs : List Nat) : List Nat := cs.reverse
theorem rem_eq (cnt i : Nat) (cs : List Nat) : Rem rows ok cnt i cs = Tail rows ok (cnt - 1 - cs.length) cs.reverse i ++ (match cs with | [] => [] | j :: t => Rem rows ok cnt (j + 1) t) := by
  cases cs with
  | nil => simp [Rem]
  | cons j t => simp [Rem]
theorem rem_end (cnt : Nat) (cs : List Nat) : Rem rows ok cnt rows.length cs = (match cs with | [] => [] | j :: t => Rem rows ok cnt (j + 1) t) := by
  rw [rem_eq, tail_end, List.nil_append]
theorem rem_bad {cnt i : Nat} {cs : List Nat} (h : i < rows.length) (hb : ok (imgOf rows (cs.reverse ++ [i])) = false) : Rem rows ok cnt i cs = Rem rows ok cnt (i + 1) cs := by
  rw [rem_eq, rem_eq rows ok cnt (i + 1), tail_step rows ok h]
  have e : Sub rows ok (cnt - 1 - cs.length) (cs.reverse ++ [i]) = [] := by
    cases cnt - 1 - cs.length <;> simp [Sub, hb]
  rw [e, List.nil_append]
theorem rem_down {cnt i : Nat} {cs : List Nat} (h : i < rows.length) (hg : ok (imgOf rows (cs.reverse ++ [i])) = true) (hc : cs.length + 1 < cnt) : Rem rows ok cnt i cs = Rem rows ok cnt 0 (i :: cs) := by
  rw [rem_eq, tail_step rows ok h]
  have e : cnt - 1 - cs.length = (cnt - 1 - (cs.length + 1)) + 1 := by omega
  have e2 : Sub rows ok (cnt - 1 - cs.length) (cs.reverse ++ [i]) = Tail rows ok (cnt - 1 - (cs.length + 1)) (cs.reverse ++ [i]) 0 := by
    rw [e]
    simp [Sub, hg, Tail]
  rw [e2, List.append_assoc, ← rem_eq rows ok cnt (i + 1)]
  rfl
theorem rem_out {cnt i : Nat} {cs : List Nat} (h : i < rows.length) (hg : ok (imgOf rows (cs.reverse ++ [i])) = true) (hc : cs.length + 1 = cnt) : Rem rows ok cnt i cs = imgOf rows (cs.reverse ++ [i]) :: Rem rows ok cnt (i + 1) cs := by
  rw [rem_eq, rem_eq rows ok cnt (i + 1), tail_step rows ok h]
  have e : cnt - 1 - cs.length = 0 := by omega
  rw [e]
  simp [Sub, hg]
/-! a measure -/
def wgt (L cnt d : Nat) : Nat := (L + 3) ^ (cnt - d)
/-- the indices beneath the top, the nearest first -/
def mu (L cnt : Nat) : List Nat → Nat
  | [] => 0
  | j :: cs => (L - 1 - j) * wgt L cnt cs.length + 1 + mu L cnt cs
def meas (L cnt i : Nat) (cs : List Nat) : Nat := (L - i) * wgt L cnt cs.length + 1 + mu L cnt cs
theorem wgt_pos (L cnt d : Nat) : 1 ≤ wgt L cnt d := Nat.one_le_pow _ _ (by omega)
theorem wgt_step {L cnt d : Nat} (h : d < cnt) : wgt L cnt d = (L + 3) * wgt L cnt (d + 1) := by
  unfold wgt
  have e : cnt - d = (cnt - (d + 1)) + 1 := by omega
  rw [e, Nat.pow_succ, Nat.mul_comm]
theorem meas_next {L cnt i : Nat} {cs : List Nat} (h : i < L) : meas L cnt (i + 1) cs < meas L cnt i cs := by
  unfold meas
  have e : L - i = (L - (i + 1)) + 1 := by omega
  rw [e, Nat.add_mul, Nat.one_mul]
  have := wgt_pos L cnt cs.length
  omega
theorem meas_pop {L cnt j : Nat} {cs : List Nat} (h : j < L) : meas L cnt (j + 1) cs < meas L cnt L (j :: cs) := by
  unfold meas
  rw [Nat.sub_self, Nat.zero_mul]
  show _ < 0 + 1 + ((L - 1 - j) * wgt L cnt cs.length + 1 + mu L cnt cs)
  have e : L - (j + 1) = L - 1 - j := by omega
  rw [e]
  omega
theorem meas_down {L cnt i : Nat} {cs : List Nat} (h : i < L) (hc : cs.length + 1 < cnt) : meas L cnt 0 (i :: cs) < meas L cnt i cs := by
  unfold meas
  show (L - 0) * wgt L cnt (cs.length + 1) + 1 + ((L - 1 - i) * wgt L cnt cs.length + 1 + mu L cnt cs) < _
  have e : L - i = (L - 1 - i) + 1 := by omega
  rw [e, Nat.add_mul, Nat.one_mul]
  have hw := wgt_step (L := L) (cnt := cnt) (d := cs.length) (by omega)
  have hp := wgt_pos L cnt (cs.length + 1)
  have h2 : (L + 3) * wgt L cnt (cs.length + 1) = L * wgt L cnt (cs.length + 1) + 3 * wgt L cnt (cs.length + 1) := Nat.add_mul ..
  rw [Nat.sub_zero]
  omega
end
end K60
namespace K60
open PySem PySem.Spec PyProof.Rows GenW L2 G6
section
variable {X : Cx}
def rGetL (K : PySem.W.Frag) : V → V → Hp → VK → Prop := fun o i H Q => ∃ p xs k v, o = .ref p ∧ i = .int k ∧ k < 0 ∧ SqL K H p xs ∧ atI xs k = some v ∧ Q v H
/-- xs[-1] as += reads it -/
theorem get_listN : PGet X (rGetL X.K) := by
  intro pins s σ H o i ov iv Q I ro ri h
  obtain ⟨p, xs, k, z, rfl, rfl, hk, hq, he, q⟩ := h
  cases ro
  obtain ⟨t, rfl⟩ := ri
  obtain ⟨its, r, pl, hz⟩ := I.list hq
  obtain ⟨j, h1, h2, h3, h4, h5⟩ := atI_get he
  obtain ⟨w, ew, rw'⟩ := r.get h2
  have hl := r.length
  have hn := line63
  have hj : (k + (its.toArray.size : Int)).toNat = j := by
    rw [seqIndex_neg (by omega) h4] at h1
    rw [List.size_toArray, ← hl]
    exact Option.some.inj h1
  exact wpAny_getItem_list_neg pl.isList (by omega) (by rw [List.size_toArray] <;> omega) (by omega) (by rw [hj]; simpa using ew) ⟨z, H, I, rw', q⟩
end
abbrev sAll : Stmt := topS 16
abbrev nAll : List Str := ["group", "degree", "rows", "chosen", "images", "choice"]
theorem scAll : GScope nAll ["group", "degree"] (defScope sAll) := ⟨rfl, rfl, rfl, by decide +kernel, rfl, by decide +kernel, by decide +kernel⟩
def tM1 : TE := tUn (rU fun i => .int (-i)) (tC (.int 1))
def tAugL (K : PySem.W.Frag) : TS := tAugS (tVar 3) tM1 (tC (.int 1)) (rGetL K) (ipI fun i j => i + j) rSetL
def tTru (K : PySem.W.Frag) (i : Nat) : TT := fun σ H Q => tVar i σ H fun x H' => ∃ k, TruV K x H' k ∧ Q k H'
def lenR (K : PySem.W.Frag) : List V → Hp → VK → Prop := fun xs H Q => ∃ p ys, xs = [.ref p] ∧ (SqL K H p ys ∨ SqT K H p ys) ∧ Q (.int ys.length) H
def tEnd (K : PySem.W.Frag) : TS := tIfS (tTest (tOp rEq (tOp (rIxL K) (tVar 3) tM1) (tCB (lenR K) (tCons (tVar 2) tNil)))) (tSeq (tDrop (tBM0 K "list" rPop (tVar 3))) (tSeq (tIfS (tTru K 3) (tAugL K) tNext) tCont)) tNext
def tImg (K : PySem.W.Frag) : TS := tAsg (L2.tThen (tLc (iList K (tVar 3)) (gName 5) tYes (tOp (rIxL K) (tVar 2) (tVar 5)) [5]) (kTup K)) (gName 4)
def tLess (K : PySem.W.Frag) : TT := tTest (tOp (rI0 fun i j => .bl (decide (i < j))) (tCB (lenR K) (tCons (tVar 3) tNil)) (tOp (rIxT K) (tVar 0) (tC (.int 0))))
def tApp (K : PySem.W.Frag) : TS := tDrop (tBM K "list" rAppend (tVar 3) (tCons (tC (.int 0)) tNil))
/-- what holds while it runs -/
structure GI (H00 : Hp) (rows : List (List Nat)) (rels : List (List Int)) (c : Int) (vg : V) (rb cb : Addr) (Hw H : Hp) : Prop where
  stay : Stay Hw H
  adv : Adv H00 Hw H
  r0 : H00 rb = none
  c0 : H00 cb = none
  ne : rb ≠ cb
  grp : GrpAt H vg c rels
  row : ∃ ys, H rb = some (.lst ys) ∧ AllR (RowAt H) ys rows
section
variable {H00 : Hp} {rows : List (List Nat)} {rels : List (List Int)} {c : Int} {vg : V} {rb cb : Addr} {Hw H H' : Hp}
theorem GI.same (g : GI H00 rows rels c vg rb cb Hw H) (s : Same H H') : GI H00 rows rels c vg rb cb Hw H' := by
  obtain ⟨ys, e, r⟩ := g.row
  refine ⟨fun b hb => ?_, fun b o h1 h2 => s b o (g.adv b o h1 h2), g.r0, g.c0, g.ne, g.grp.same s, ys, s _ _ e, r.imp fun x r h => h.same s⟩
  have := g.stay b hb
  cases q : H b with
  | none => exact absurd q this
  | some o => rw [s b o q]; exact fun z => by cases z
theorem GI.put (g : GI H00 rows rels c vg rb cb Hw H) {xs ys : List V} (e : H cb = some (.lst xs)) : GI H00 rows rels c vg rb cb Hw (upd H cb (.lst ys)) := by
  obtain ⟨zs, ez, r⟩ := g.row
  refine ⟨fun b hb => ?_, fun b o h1 h2 => ?_, g.r0, g.c0, g.ne, ?_, zs, ?_, r.imp fun x r h => up_row e h⟩
  · by_cases z : b = cb
    · subst z; rw [upd_same]; exact fun q => by cases q
    · rw [upd_ne z]; exact g.stay b hb
  · have z : b ≠ cb := fun z => by subst z; exact h1 g.c0
    rw [upd_ne z]; exact g.adv b o h1 h2
  · obtain ⟨a, b, rfl, ea, ⟨_, xs', eb', eb, rr⟩⟩ := g.grp
    cases eb'
    refine ⟨a, b, rfl, ?_, ⟨b, xs', rfl, ?_, rr.imp fun x r h => up_word e h⟩⟩
    · rw [upd_ne (ne_of ea e (by intro z; cases z))]; exact ea
    · rw [upd_ne (ne_of eb e (by intro z; cases z))]; exact eb
  · rw [upd_ne g.ne]; exact ez
theorem GI.wake (g : GI H00 rows rels c vg rb cb Hw H) {Hv : Hp} (w : Wake H00 H Hv) : GI H00 rows rels c vg rb cb Hv Hv := by
  obtain ⟨ys, e, r⟩ := g.row
  refine ⟨fun b h => h, fun b o _ h => h, g.r0, g.c0, g.ne, ?_, ys, w.1 _ _ g.r0 e, r.imp fun x r h => ?_⟩
  · obtain ⟨a, b, rfl, ea, ⟨_, xs', eb', eb, rr⟩⟩ := g.grp
    cases eb'
    refine ⟨a, b, rfl, w.2 _ _ ea, ⟨b, xs', rfl, w.2 _ _ eb, rr.imp fun x r h => ?_⟩⟩
    obtain ⟨q, rfl, eq⟩ := h
    exact ⟨q, rfl, w.2 _ _ eq⟩
  · obtain ⟨q, rfl, eq⟩ := h
    exact ⟨q, rfl, w.2 _ _ eq⟩
end
theorem arr_ok : ∀ d, d < 4 → ∀ r ∈ arrM d, r.length = d ∧ ∀ p ∈ r, p < d := by decide
theorem arr_len : ∀ d, d < 4 → (arrM d).length ≤ 6 := by decide
theorem img_ok {d : Nat} (hd : d < 4) {ch : List Nat} (h : ∀ j ∈ ch, j < (arrM d).length) : RowsOk d (imgOf (arrM d) ch) := fun r hr => by
  unfold imgOf at hr
  obtain ⟨j, hj, rfl⟩ := List.mem_map.mp hr
  have hl := h j hj
  rw [List.getD_eq_getElem?_getD, List.getElem?_eq_getElem hl]
  exact arr_ok d hd _ (List.getElem_mem hl)
theorem rowV_snoc (r : List Nat) (i : Nat) : rowV (r ++ [i]) = rowV r ++ [.int (i : Int)] := by simp [rowV]
/-- chosen[-1] += 1 -/
theorem aug_read {K : PySem.W.Frag} {D : Ends} {σ : L2.St} {H : Hp} {cb : Addr} {l : List Nat} {i : Nat} (h3 : σ[3]? = some (some (.ref cb))) (e : H cb = some (.lst (rowV (l ++ [i])))) (hq : D.nx σ (upd H cb (.lst (rowV (l ++ [i + 1]))))) : tAugL K D σ H := by
  have ea : atI (rowV (l ++ [i])) (-1) = some (.int (i : Int)) := by rw [rowV_snoc]; exact atI_last _ _
  refine ⟨_, h3, 1, rfl, cb, _, -1, _, rfl, rfl, by decide, .inl (.inl e), ea, _, _, rfl, rfl, cb, _, -1, l.length, rfl, rfl, e, ?_, ?_⟩
  · unfold ixN
    rw [if_neg (by decide), rowV_len, List.length_append, List.length_singleton, if_pos (by omega)]
    congr 1
    omega
  · have e2 : (rowV (l ++ [i])).set l.length (.int ((i : Int) + 1)) = rowV (l ++ [i + 1]) := by
      rw [rowV_snoc, rowV_snoc, List.set_append_right _ _ (by rw [rowV_len]; exact Nat.le_refl _), rowV_len, Nat.sub_self]
      simp
    rw [e2]
    exact hq
section
variable {P : Program} {w : World} {K : PySem.W.Frag} {mg : Str → Option Value} {base : Heap}
/-- all images of the group, by the search -/
def outs (d : Nat) (c : Int) (rels : List (List Int)) : List (List (List Nat)) := Rem (arrM d) (holdsM rels) c.toNat 0 []
def spAll (Cg Cb Ct : Addr) : SpG6 := fun vs H N It Qe E => ∃ v c rels deg, vs = [v, .int deg] ∧ GrpAt H v c rels ∧ Small rels ∧ (isGrp c rels = false → ∀ H', Same H H' → E (.ref Cg) none H') ∧
  (isGrp c rels = true → ¬ (1 ≤ deg ∧ deg ≤ 3) → ∀ H', Same H H' → E (.ref Cb) none H') ∧ (isGrp c rels = true → 1 ≤ deg → deg ≤ 3 → 6 < c → ∀ H', Same H H' → E (.ref Ct) none H') ∧
  (isGrp c rels = true → 1 ≤ deg → deg ≤ 3 → c ≤ 6 → N = (outs deg.toNat c rels).length ∧ (∀ m x H1 o, (outs deg.toNat c rels)[N - 1 - m]? = some o → m < N → TupOf RowAt H1 x o → It m x H1) ∧ ∀ H1, Qe H1)
theorem gfn_all {f fC fA fH Cg Cb Ct : Addr} {oc : Value} {od an : Option Addr} {kV doc pm cdv ct : Value} {osl : Array (Option Value)} {fdC fdA fdH : FuncData} {k : Nat}
    (lk : K.lookup f = some ⟨oc, od, .func (PySem.W.fnOf "all_images" "all_images" (defArgs sAll) (defBody sAll) (defScope sAll) .none kV doc pm an cdv ct), osl⟩) (hcd : PySem.W.codeIn K cdv "all_images" = true)
    (FC : Fun K "check_search" "check_search" sChS fC fdC) (bC : Binds K fdC ["group", "degree"] []) (gC : mg "check_search" = some (.ref fC)) (GC : FnOk P w K mg base (L2.CX P w) k fC fdC ["group", "degree"] (spChS Cg Cb Ct))
    (FA : Fun K "arrangements" "arrangements" sArr fA fdA) (bA : Binds K fdA ["degree"] []) (gA : mg "arrangements" = some (.ref fA)) (GA : FnOk P w K mg base CX0 k fA fdA ["degree"] spArr)
    (FH : Fun K "holds_so_far" "holds_so_far" sHol fH fdH) (bH : Binds K fdH ["group", "images"] []) (gH : mg "holds_so_far" = some (.ref fH)) (GH : FnOk P w K mg base CX0 k fH fdH ["group", "images"] spHol)
    (ml : mg "len" = none) (mt : mg "tuple" = none) :
    GFn6 P w K mg base (k + 1) f (PySem.W.fnOf "all_images" "all_images" (defArgs sAll) (defBody sAll) (defScope sAll) .none kV doc pm an cdv ct) ["group", "degree"] (spAll Cg Cb Ct) := by
  refine gfn6_of (N := nAll) lk hcd scAll (fun vs H n It Qe E h => ?_) fun C Hw sw vs H n It Qe E hP hw hK hmg hbase hN henv hok hr hsp hsame => ?_
  · obtain ⟨v, c, rels, deg, rfl, _⟩ := h
    rfl
  · obtain ⟨P0, w0, K0, mg0, base0, N0, A0, env0, outer0, n0, a0, g0, go0⟩ := C
    simp only at hP hw hK hmg hbase hN henv hr
    subst hP hw hK hmg hbase hN henv
    refine ⟨_, _, ps_expr (pe_callS GC hr (by rfl) gC FC.kp bC (fun σ => passAt (takes6 hok) σ) (pa_cons (pv 0) (pa_cons (pv 1) pa_nil))),
      gjs_cons (gj_ps fun Hw sw => ps_set (i := 2) scAll.nd rfl (.inr rfl) (pe_call GA hr (by rfl) gA FA.kp bA .nil pass0 (pa_cons (pv 1) pa_nil)))
      (gjs_cons (gj_ps fun Hw sw => ps_set (i := 3) scAll.nd rfl (.inl rfl) (pe_lst (pa_cons pe_int pa_nil)))
      (gjs_cons (gj_while (tc := tTru K0 3) (fun Hw sw => pt_truth (pv 3) (by intro _; rfl)) (gjs_cons (gj_ps (t := tEnd K0) fun Hw sw => ps_if (pt_cmpR op_eq (pe_ix ix_list (pv 3) (pe_un un_neg pe_int) (fun _ _ => rfl)) (pe_callB call_len_seq (by rfl) ml PySem.boot_len (pa_cons (pv 2) pa_nil)) (nomark _))
          (pss_cons (ps_expr (pe_bm0 PySem.F.plainAttrs_list PySem.F.slot_list_pop PySem.F.type_list_pop mt_pop (pv 3)))
            (pss_cons (ps_if (pt_truth (pv 3) (by intro _; rfl)) (pss_one (ps_augS (pv 3) (pe_un un_neg pe_int) get_listN pe_int ip_add set_list)) pss_nil)
            (pss_one ps_continue))) pss_nil)
        (gjs_cons (gj_ps (t := tImg K0) fun Hw sw => ps_set (i := 4) scAll.nd rfl (.inl rfl) (pe_tupleOf (by rfl) mt (pe_lc (own := [("choice", 5)]) (g := gName 5) (tt := tYes) (te := tOp (rIxL K0) (tVar 2) (tVar 5)) rfl scAll.nd (pi_list (pv 3)) (blkOk_by (N := nAll) (sc := defScope sAll) (by decide +kernel)) (fun _ _ _ _ _ => pg_name (i := 5) scAll.nd rfl (Or.inl rfl)) (fun _ _ _ _ _ => pts_nil) (fun _ _ _ _ _ => pe_ix ix_list (pv 2) (pv 5) (fun _ _ => rfl)))))
        (gjs_cons (gj_if (fun Hw sw => pt_not (pt_val (pe_call GH hr (by rfl) gH FH.kp bH .nil pass0 (pa_cons (pv 0) (pa_cons (pv 4) pa_nil)))))
            (gjs_pss (t := tAugL K0) fun Hw sw => pss_one (ps_augS (pv 3) (pe_un un_neg pe_int) get_listN pe_int ip_add set_list))
            (gjs_cons (gj_if (tc := tLess K0) (fun Hw sw => pt_cmpR op_lt (pe_callB call_len_seq (by rfl) ml PySem.boot_len (pa_cons (pv 3) pa_nil)) (pe_ix ix_tup (pv 0) pe_int (fun _ _ => rfl)) (nomark _))
                (gjs_pss (t := tApp K0) fun Hw sw => pss_one (ps_expr (pe_bm PySem.F.plainAttrs_list PySem.F.slot_list_append PySem.F.type_list_append mt_append (pv 3) (pa_cons pe_int pa_nil))))
                (gjs_cons (gj_yield hok (fun Hw sw => pv 4) rfl rfl) (gjs_pss (t := tAugL K0) fun Hw sw => pss_one (ps_augS (pv 3) (pe_un un_neg pe_int) get_listN pe_int ip_add set_list)))) gjs_nil)) gjs_nil))))
        gjs_nil)), ?_⟩
    obtain ⟨vg, c, rels, deg, rfl, hg0, hsm, q1, q2, q3, q4⟩ := hsp
    have hg := hg0.same hsame
    have hsame' : Same H Hw := hsame
    refine ⟨_, rfl, _, rfl, vg, c, rels, deg, rfl, hg, hsm, fun e H1 s => q1 e H1 (hsame'.trans s), fun e z H1 s => q2 e z H1 (hsame'.trans s), fun e z1 z2 z3 H1 s => q3 e z1 z2 z3 H1 (hsame'.trans s), fun hG h1 h3 h6 H1 s1 => ?_⟩
    obtain ⟨eN, hIt, hQe⟩ := q4 hG h1 h3 h6
    obtain ⟨d, rfl⟩ : ∃ d : Nat, deg = (d : Int) := ⟨deg.toNat, by omega⟩
    have hd : d < 4 := by omega
    have hdd : ((d : Nat) : Int).toNat = d := by omega
    rw [hdd] at eN hIt
    have hcnt : 1 ≤ c.toNat := by
      have h7 : 1 ≤ c := by
        unfold isGrp at hG
        rw [Bool.and_eq_true] at hG
        exact of_decide_eq_true hG.1
      omega
    have hc0 : ((c.toNat : Nat) : Int) = c := by
      have h7 : 1 ≤ c := by
        unfold isGrp at hG
        rw [Bool.and_eq_true] at hG
        exact of_decide_eq_true hG.1
      omega
    obtain ⟨L, hL⟩ : ∃ L, L = (arrM d).length := ⟨_, rfl⟩
    have hL6 : L ≤ 6 := by rw [hL]; exact arr_len d hd
    -- rows = arrangements(degree)
    refine ⟨_, rfl, d, rfl, hd, fun H2 rb ys s2 nrb erb ryb => ?_⟩
    -- chosen = [0]
    refine ⟨Nat.le_of_lt (sz_small (n := 1) (by decide)), fun cb ncb => ?_⟩
    have ncb : H2 cb = none := ncb
    have s12 : Same Hw H2 := s1.trans s2
    have r00 : Hw rb = none := s1.free nrb
    have nrc : rb ≠ cb := ne_of_none erb ncb
    have gi0 : GI Hw (arrM d) rels c vg rb cb Hw H2 := ⟨fun b hb => ?_, fun b o _ h => s12 b o h, r00, s12.free ncb, nrc, hg.same s12, ys, erb, ryb⟩
    · have gi1 := gi0.same (same_upd (o := .lst [.int 0]) ncb)
      -- the loop
      refine ⟨fun m n' Hv σ H3 => ∃ y4 y5, σ = [some vg, some (.int (d : Int)), some (.ref rb), some (.ref cb), y4, y5] ∧ GI Hw (arrM d) rels c vg rb cb Hv H3 ∧
        ((∃ i cs, H3 cb = some (.lst (rowV (cs.reverse ++ [i]))) ∧ i ≤ L ∧ (∀ j ∈ cs, j < L) ∧ cs.length + 1 ≤ c.toNat ∧ n' = (Rem (arrM d) (holdsM rels) c.toNat i cs).length ∧ n' ≤ n ∧ Rem (arrM d) (holdsM rels) c.toNat i cs = (outs d c rels).drop (n - n') ∧ m = meas L c.toNat i cs) ∨ (H3 cb = some (.lst []) ∧ n' = 0 ∧ m = 0)),
        ⟨_, none, none, rfl, gi1, .inl ⟨0, [], by rw [upd_same]; rfl, Nat.zero_le _, fun j hj => by simp at hj, by simpa using hcnt, eN, Nat.le_refl _, by rw [Nat.sub_self]; rfl, rfl⟩⟩, fun m n' Hv σ H3 hT => ?_⟩
      obtain ⟨y4, y5, rfl, g3, hc⟩ := hT
      rcases hc with ⟨i, cs, ecb, hi, hcs, hcl, en, hnn, hdr, hm⟩ | ⟨ecb, en, hm⟩
      · -- an index stands on top
        refine ⟨_, rfl, true, .inl ⟨_, .inl (.inl ecb), by simp [rowV]⟩, ?_⟩
        refine iteT ⟨fun n2 H2 σ2 H3 => ∃ m', m' < m ∧ ∃ y4 y5, σ2 = [some vg, some (.int (d : Int)), some (.ref rb), some (.ref cb), y4, y5] ∧ GI Hw (arrM d) rels c vg rb cb H2 H3 ∧
          ((∃ i cs, H3 cb = some (.lst (rowV (cs.reverse ++ [i]))) ∧ i ≤ L ∧ (∀ j ∈ cs, j < L) ∧ cs.length + 1 ≤ c.toNat ∧ n2 = (Rem (arrM d) (holdsM rels) c.toNat i cs).length ∧ n2 ≤ n ∧ Rem (arrM d) (holdsM rels) c.toNat i cs = (outs d c rels).drop (n - n2) ∧ m' = meas L c.toNat i cs) ∨ (H3 cb = some (.lst []) ∧ n2 = 0 ∧ m' = 0)), fun n2 H2 σ2 H3 h => h, ?_⟩
        obtain ⟨ys3, erb3, ryb3⟩ := g3.row
        have ea : atI (rowV (cs.reverse ++ [i])) (-1) = some (.int (i : Int)) := by rw [rowV_snoc]; exact atI_last _ _
        -- if chosen[-1] == len(rows)
        refine ⟨_, rfl, 1, rfl, cb, _, -1, _, rfl, rfl, .inl (.inl ecb), ea, _, rfl, rb, ys3, rfl, .inl (.inl (.inl erb3)), rfl, _, rfl, ite2 (fun c1 => ?_) fun c1 => ?_⟩
        · have eiL : i = L := by
            have h9 : V.int (i : Int) = V.int (ys3.length : Int) := of_decide_eq_true c1
            have h10 := V.int.inj h9
            rw [ryb3.1, ← hL] at h10
            omega
          have hrem := rem_end (arrM d) (holdsM rels) c.toNat cs
          rw [← hL, ← eiL] at hrem
          rw [hrem] at en hdr
          have e9 : (rowV (cs.reverse ++ [i])).dropLast = rowV cs.reverse := by rw [rowV_snoc, List.dropLast_concat]
          refine ⟨_, rfl, .inl ⟨rfl, _, .inl (.inl ecb)⟩, cb, _, .int (i : Int), rfl, rfl, ecb, ?_, ?_⟩
          · rw [rowV_snoc]; simp
          rw [e9]
          have g4 := g3.put (ys := rowV cs.reverse) ecb
          cases cs with
          | nil =>
            refine ⟨_, rfl, false, .inl ⟨[], .inl (.inl upd_same), rfl⟩, iteF ?_⟩
            refine ⟨0, ?_, y4, y5, rfl, g4, .inr ⟨upd_same, en, rfl⟩⟩
            rw [hm]
            unfold meas
            omega
          | cons j t =>
            have ej : (upd H3 cb (.lst (rowV (j :: t).reverse))) cb = some (.lst (rowV (t.reverse ++ [j]))) := by
              rw [upd_same, List.reverse_cons]
            refine ⟨_, rfl, true, .inl ⟨_, .inl (.inl ej), by simp [rowV]⟩, iteT ?_⟩
            refine aug_read rfl ej ?_
            have hj := hcs j List.mem_cons_self
            refine ⟨meas L c.toNat (j + 1) t, ?_, y4, y5, rfl, g4.put ej, .inl ⟨j + 1, t, upd_same, by omega, fun z hz => hcs z (List.mem_cons_of_mem _ hz), ?_, en, hnn, hdr, rfl⟩⟩
            · rw [hm, eiL]; exact meas_pop hj
            · rw [List.length_cons] at hcl; omega
        · have hiL : i < L := by
            have h9 : ¬ V.int (i : Int) = V.int (ys3.length : Int) := fun z => c1 (decide_eq_true z)
            rw [ryb3.1, ← hL] at h9
            have h10 : i ≠ L := fun z => h9 (by rw [z])
            omega
          have hch : ∀ j ∈ cs.reverse ++ [i], j < (arrM d).length := fun j hj => by
            rw [← hL]
            rcases List.mem_append.mp hj with z | z
            · exact hcs j (List.mem_reverse.mp z)
            · rw [List.mem_singleton.mp z]; exact hiL
          have hclen : (cs.reverse ++ [i]).length = cs.length + 1 := by simp
          -- images = tuple([..])
          refine ⟨_, rfl, cb, rfl, ⟨_, .inl (.inl ecb)⟩, fun D2 nD2 => ?_⟩
          refine lc_it (walk_list (xs := rowV (cs.reverse ++ [i]))) (fun j H5 => Same H3 H5 ∧ ∃ zs, H5 D2 = some (.lst zs) ∧ AllR (RowAt H5) zs ((imgOf (arrM d) (cs.reverse ++ [i])).take j)) ⟨same_upd nD2, [], upd_same, by simpa using AllR.nil⟩ (fun j H5 _ h => .inl (.inl (h.1 _ _ ecb))) (fun j x H5 H6 hj hP hY => ?_) fun H5 hP => ?_
          · obtain ⟨s5, zs, eD, rz⟩ := hP
            obtain ⟨rfl, hx⟩ := hY
            rw [rowV_len] at hj
            rw [rowV_get hj] at hx
            cases hx
            have hk := hch _ (List.getElem_mem hj)
            obtain ⟨xr, gx, hxr⟩ := ryb3.get hk
            refine ⟨rfl, _, rfl, _, rfl, rb, ys3, _, xr, rfl, rfl, .inl (.inl (s5 _ _ erb3)), atI_of rfl gx, zs, eD, ?_, same_put s5 nD2, _, upd_same, ?_⟩
            · rw [rz.1, List.length_take]
              exact sz_small (by omega)
            · have e8 : (imgOf (arrM d) (cs.reverse ++ [i]))[j]? = some (arrM d)[(cs.reverse ++ [i])[j]] := by
                unfold imgOf
                rw [List.getElem?_map, List.getElem?_eq_getElem hj]
                simp [List.getD_eq_getElem?_getD, List.getElem?_eq_getElem hk]
              rw [List.take_add_one, e8]
              exact (rz.imp fun x r h => up_row eD h).snoc (up_row eD (hxr.same s5))
          obtain ⟨s5, zs, eD, rz⟩ := hP
          have e7 : (imgOf (arrM d) (cs.reverse ++ [i])).take (rowV (cs.reverse ++ [i])).length = imgOf (arrM d) (cs.reverse ++ [i]) := List.take_of_length_le (by simp [imgOf, rowV])
          rw [e7] at rz
          refine .inl ⟨D2, zs, rfl, .inl (.inl eD), fun q nq => ?_⟩
          have s6 : Same H5 (upd H5 q (.tup zs)) := same_upd nq
          have s36 := s5.trans s6
          have g6 := g3.same s36
          have ecb6 := s36 _ _ ecb
          obtain ⟨ims, hims⟩ : ∃ ims, ims = imgOf (arrM d) (cs.reverse ++ [i]) := ⟨_, rfl⟩
          rw [← hims] at rz
          have tq : TupOf RowAt (upd H5 q (.tup zs)) (.ref q) ims := ⟨q, zs, rfl, upd_same, rz.imp fun x r h => h.same s6⟩
          have imne : ims ≠ [] := by rw [hims]; simp [imgOf]
          have imlen : ims.length = cs.length + 1 := by rw [hims]; simp [imgOf]
          have imok : RowsOk d ims := by rw [hims]; exact img_ok hd hch
          -- if not holds_so_far(group, images)
          refine ⟨_, rfl, _, rfl, vg, .ref q, c, rels, ims, d, rfl, g6.grp, hsm, hG, tq, imne, imok, by omega, by omega, fun H7 s7 => ?_⟩
          have g7 := g6.same s7
          have ecb7 := s7 _ _ ecb6
          refine ⟨_, rfl, ?_⟩
          have next : ∀ {n2 : Nat} {Hw2 H8 : Hp}, GI Hw (arrM d) rels c vg rb cb Hw2 H8 → H8 cb = some (.lst (rowV (cs.reverse ++ [i]))) → n2 = (Rem (arrM d) (holdsM rels) c.toNat (i + 1) cs).length → n2 ≤ n → Rem (arrM d) (holdsM rels) c.toNat (i + 1) cs = (outs d c rels).drop (n - n2) →
              tPl (tAugL K0) { nx := fun n2 H2 σ2 H3 => ∃ m', m' < m ∧ ∃ y4 y5, σ2 = [some vg, some (.int (d : Int)), some (.ref rb), some (.ref cb), y4, y5] ∧ GI Hw (arrM d) rels c vg rb cb H2 H3 ∧
                ((∃ i cs, H3 cb = some (.lst (rowV (cs.reverse ++ [i]))) ∧ i ≤ L ∧ (∀ j ∈ cs, j < L) ∧ cs.length + 1 ≤ c.toNat ∧ n2 = (Rem (arrM d) (holdsM rels) c.toNat i cs).length ∧ n2 ≤ n ∧ Rem (arrM d) (holdsM rels) c.toNat i cs = (outs d c rels).drop (n - n2) ∧ m' = meas L c.toNat i cs) ∨ (H3 cb = some (.lst []) ∧ n2 = 0 ∧ m' = 0)) } n2 Hw2
                [some vg, some (.int (d : Int)), some (.ref rb), some (.ref cb), some (.ref q), y5] H8 := fun g8 e8 k1 k2 k3 => by
            refine aug_read rfl e8 ?_
            exact ⟨meas L c.toNat (i + 1) cs, by rw [hm]; exact meas_next hiL, some (.ref q), y5, rfl, g8.put e8, .inl ⟨i + 1, cs, upd_same, by omega, hcs, hcl, k1, k2, k3, rfl⟩⟩
          cases hh : holdsM rels ims with
          | false =>
            rw [hims] at hh
            have hb := rem_bad (arrM d) (holdsM rels) (cnt := c.toNat) (cs := cs) (by rw [← hL]; exact hiL) hh
            rw [hb] at en hdr
            exact next g7 ecb7 en hnn hdr
          | true =>
            rw [hims] at hh
            obtain ⟨ag, bg, rfl, eag, tbg⟩ := g7.grp
            -- elif len(chosen) < group[0]
            refine ⟨_, rfl, cb, _, rfl, .inl (.inl (.inl ecb7)), _, rfl, ag, _, 0, .int c, rfl, rfl, .inl (.inl eag), atI_of (n := 0) rfl rfl, _, _, rfl, rfl, _, rfl, ?_⟩
            have el : ((rowV (cs.reverse ++ [i])).length : Int) = ((cs.length + 1 : Nat) : Int) := by rw [rowV_len, hclen]
            rw [el]
            refine ite2 (fun c2 => ?_) fun c2 => ?_
            · have c3 : cs.length + 1 < c.toNat := by
                have := of_decide_eq_true c2
                omega
              have hb := rem_down (arrM d) (holdsM rels) (cnt := c.toNat) (cs := cs) (by rw [← hL]; exact hiL) hh c3
              rw [hb] at en hdr
              refine ⟨_, rfl, .inl ⟨rfl, _, .inl (.inl ecb7)⟩, cb, _, _, rfl, rfl, ecb7, by rw [rowV_len, hclen]; exact sz_small (by omega), ?_⟩
              refine ⟨meas L c.toNat 0 (i :: cs), by rw [hm]; exact meas_down hiL c3, some (.ref q), y5, rfl, g7.put ecb7, .inl ⟨0, i :: cs, ?_, Nat.zero_le _, fun j hj => ?_, by rw [List.length_cons]; omega, en, hnn, hdr, rfl⟩⟩
              · rw [upd_same, List.reverse_cons, rowV_snoc (cs.reverse ++ [i])]; rfl
              · rcases List.mem_cons.mp hj with z | z
                · rw [z]; exact hiL
                · exact hcs j z
            · have c3 : cs.length + 1 = c.toNat := by
                have : ¬ ((cs.length + 1 : Nat) : Int) < c := fun z => c2 (decide_eq_true z)
                omega
              have hb := rem_out (arrM d) (holdsM rels) (cnt := c.toNat) (cs := cs) (by rw [← hL]; exact hiL) hh c3
              rw [← hims] at hb
              rw [hb] at en hdr
              rw [List.length_cons] at en
              refine ⟨(Rem (arrM d) (holdsM rels) c.toNat (i + 1) cs).length, en, _, rfl, g7.stay, g7.adv, ?_, fun Hv2 wk => ?_⟩
              · refine hIt _ _ _ ims ?_ (by omega) (tq.same (fun _ _ h => h.same s7) s7)
                have e5 : n - 1 - (Rem (arrM d) (holdsM rels) c.toNat (i + 1) cs).length = n - n' := by omega
                rw [e5]
                have e6 : ((outs d c rels).drop (n - n'))[0]? = some ims := by rw [← hdr]; rfl
                rw [List.getElem?_drop, Nat.add_zero] at e6
                exact e6
              · refine next (g7.wake wk) (wk.1 _ _ g7.c0 ecb7) rfl (by omega) ?_
                have e5 : n - (Rem (arrM d) (holdsM rels) c.toNat (i + 1) cs).length = (n - n') + 1 := by omega
                rw [e5, ← List.drop_drop, ← hdr]
                rfl
      · -- nothing is left
        refine ⟨_, rfl, false, .inl ⟨_, .inl (.inl ecb), rfl⟩, ?_⟩
        refine iteF ?_
        exact ⟨en, g3.stay, g3.adv, hQe _⟩
    · cases z : Hw b with
      | none => exact absurd z hb
      | some o => rw [s12 b o z]; exact fun q => by cases q
end
end K60
namespace K60
open PySem PySem.Spec PyProof.Rows GenW L2 G6
theorem pss_never {X : Cx} {st : List Stmt} : PSs X st tNever := ⟨fun _ _ _ _ _ _ h => h.elim⟩
abbrev sClo : Stmt := topS 19
theorem scClo : FnScope ["group", "degree", "rows", "images", "q"] ["group", "degree"] (defScope sClo) := ⟨rfl, rfl, rfl, by decide +kernel, rfl, by decide +kernel, by decide +kernel⟩
abbrev sNum : Stmt := topS 21
theorem scNum : FnScope ["_law_cell"] ["_law_cell"] (defScope sNum) := ⟨rfl, rfl, rfl, by decide +kernel, rfl, by decide +kernel, by decide +kernel⟩
abbrev sDrw : Stmt := topS 22
abbrev nDrw : List Str := ["_law_script", "_law_draws_here", "_law_cell", "_law_rest", "_law_k", "_law_once", "_law_twice"]
theorem scDrw : FnScope nDrw ["_law_script"] (defScope sDrw) := ⟨rfl, rfl, rfl, by decide +kernel, rfl, by decide +kernel, by decide +kernel⟩
abbrev sNxt : Stmt := topS 23
theorem scNxt : FnScope ["_law_draws_here"] ["_law_draws_here"] (defScope sNxt) := ⟨rfl, rfl, rfl, by decide +kernel, rfl, by decide +kernel, by decide +kernel⟩
section
variable {P : Program} {w : World} {K : PySem.W.Frag} {mg : Str → Option Value} {base : Heap}
/-- classes_of, where it refuses -/
def spClo (Cg Cb Ct : Addr) : Sp := fun vs H Q E => ∃ v c rels deg, vs = [v, .int deg] ∧ GrpAt H v c rels ∧ Small rels ∧ (isGrp c rels = false → ∀ H', Same H H' → E (.ref Cg) none H') ∧
  (isGrp c rels = true → ¬ (1 ≤ deg ∧ deg ≤ 3) → ∀ H', Same H H' → E (.ref Cb) none H') ∧ (isGrp c rels = true → 1 ≤ deg → deg ≤ 3 → 6 < c → ∀ H', Same H H' → E (.ref Ct) none H') ∧ (isGrp c rels = true → 1 ≤ deg → deg ≤ 3 → c ≤ 6 → False)
theorem ok_clo {f fC Cg Cb Ct : Addr} {fd fdC : FuncData} {k : Nat} (F : Fun K "classes_of" "classes_of" sClo f fd) (FC : Fun K "check_search" "check_search" sChS fC fdC) (bC : Binds K fdC ["group", "degree"] []) (gC : mg "check_search" = some (.ref fC)) (GC : FnOk P w K mg base (L2.CX P w) k fC fdC ["group", "degree"] (spChS Cg Cb Ct)) :
    FnOk P w K mg base (L2.CX P w) (k + 1) f fd ["group", "degree"] (spClo Cg Cb Ct) := by
  refine F.okX scClo (fun vs H Q E h => ?_) (fun cdv A outer s H vs Q E hr h => ?_)
  · obtain ⟨v, c, rels, deg, rfl, _⟩ := h
    rfl
  · obtain ⟨v, c, rels, deg, rfl, hg, hs, q1, q2, q3, q4⟩ := h
    refine ⟨_, pss_cons (ps_expr (pe_callS GC hr (by rfl) gC FC.kp bC (fun σ => passAt (takes_of rfl rfl rfl rfl) σ) (pa_cons (pv 0) (pa_cons (pv 1) pa_nil)))) pss_never, ?_⟩
    exact ⟨_, rfl, _, rfl, v, c, rels, deg, rfl, hg, hs, q1, q2, q3, fun e h1 h2 h3 => (q4 e h1 h2 h3).elim⟩
/-- _law_number: the number without its sign -/
def spNum : Sp := fun vs H Q _ => ∃ n : Int, vs = [.int n] ∧ ∀ m : Nat, Q (.int (m : Int)) H
theorem ok_num {f : Addr} {fd : FuncData} {k : Nat} (F : Fun K "_law_number" "_law_number" sNum f fd) : FnOk P w K mg base CX0 (k + 1) f fd ["_law_cell"] spNum := by
  refine F.ok scNum (fun vs H Q E h => ?_) (fun cdv A outer s H vs Q E hr h => ?_)
  · obtain ⟨n, rfl, _⟩ := h
    rfl
  · obtain ⟨n, rfl, q⟩ := h
    refine ⟨_, pss_cons (ps_if (pt_cmpR op_lt (pv 0) pe_int (nomark _)) (pss_one (ps_ret (pe_op op_sub pe_int (pv 0)))) pss_nil) (pss_one (ps_ret (pv 0))), ?_⟩
    refine ⟨_, rfl, _, _, rfl, rfl, _, rfl, ite2 (fun c => ?_) fun c => ?_⟩
    · have c1 : n < 0 := of_decide_eq_true c
      refine ⟨_, rfl, _, _, rfl, rfl, ?_⟩
      have e : (0 : Int) - n = ((0 - n).toNat : Int) := by omega
      show Q (.int (0 - n)) H
      rw [e]
      exact q _
    · have c1 : ¬ n < 0 := fun z => c (decide_eq_true z)
      refine ⟨_, rfl, ?_⟩
      have e : n = (n.toNat : Int) := by omega
      rw [e]
      exact q _
/-- a list of numbers that are not negative -/
def NatsAt (H : Hp) (a : Addr) (r : List Nat) : Prop := H a = some (.lst (rowV r))
def spNxt : Sp := fun vs H Q _ => ∃ a r, vs = [.ref a] ∧ H a = some (.lst (rowV r)) ∧ ∀ (n : Nat) r', Q (.int (n : Int)) (upd H a (.lst (rowV r')))
theorem upd_id {H : Hp} {a : Addr} {o : HO} (h : H a = some o) : upd H a o = H := by
  funext b
  by_cases e : b = a
  · subst e; rw [upd_same, h]
  · rw [upd_ne e]
theorem ok_nxt {f : Addr} {fd : FuncData} {k : Nat} (F : Fun K "_law_next" "_law_next" sNxt f fd) : FnOk P w K mg base CX0 (k + 1) f fd ["_law_draws_here"] spNxt := by
  refine F.ok scNxt (fun vs H Q E h => ?_) (fun cdv A outer s H vs Q E hr h => ?_)
  · obtain ⟨a, r, rfl, _⟩ := h
    rfl
  · obtain ⟨a, r, rfl, e, q⟩ := h
    refine ⟨_, pss_cons (ps_if (pt_truth (pv 0) (by intro _; rfl)) (pss_one (ps_ret (pe_bm0 PySem.F.plainAttrs_list PySem.F.slot_list_pop PySem.F.type_list_pop mt_pop (pv 0)))) pss_nil) (pss_one (ps_ret pe_int)), ?_⟩
    rcases List.eq_nil_or_concat r with hr0 | ⟨l, x, hr0⟩
    · subst hr0
      refine ⟨_, rfl, false, .inl ⟨_, .inl (.inl e), rfl⟩, iteF ?_⟩
      have h2 := q 0 []
      rw [upd_id e] at h2
      exact h2
    · subst hr0
      have e' : H a = some (.lst (rowV l ++ [.int (x : Int)])) := by
        rw [e, List.concat_eq_append, rowV_snoc]
      refine ⟨_, rfl, true, .inl ⟨_, .inl (.inl e'), by simp⟩, iteT ?_⟩
      refine ⟨_, rfl, .inl ⟨rfl, _, .inl (.inl e')⟩, a, _, .int (x : Int), rfl, rfl, e', by simp, ?_⟩
      rw [List.dropLast_concat]
      exact q x l
/-- all draws -/
def spDrw (K : PySem.W.Frag) : Sp := fun vs H Q _ => ∃ (a : Addr) (ns : List Int), vs = [.ref a] ∧ SqL K H a (ns.map V.int) ∧ ns.length ≤ 63 ∧ ∀ H' p r, Same H H' → H p = none → H' p = some (.lst (rowV r)) → Q (.ref p) H'
theorem ok_drw {f fN : Addr} {fd fdN : FuncData} {k : Nat} (F : Fun K "_law_draws" "_law_draws" sDrw f fd) (FN : Fun K "_law_number" "_law_number" sNum fN fdN) (bN : Binds K fdN ["_law_cell"] []) (gN : mg "_law_number" = some (.ref fN)) (GN : FnOk P w K mg base CX0 k fN fdN ["_law_cell"] spNum) (mr : mg "range" = none) (mi : mg "int" = none) :
    FnOk P w K mg base CX0 (k + 1) f fd ["_law_script"] (spDrw K) := by
  refine F.ok scDrw (fun vs H Q E h => ?_) (fun cdv A outer s H vs Q E hr h => ?_)
  · obtain ⟨a, ns, rfl, _⟩ := h
    rfl
  · obtain ⟨a, ns, rfl, hS, hl, q⟩ := h
    refine ⟨_, pss_cons (ps_set (i := 1) scDrw.nd rfl (.inl rfl) (pe_lst pa_nil))
      (pss_cons (ps_for PassesOwn.never rfl (pi_list (pv 0)) (pg_name (i := 2) scDrw.nd rfl (.inl rfl))
        (pss_cons (ps_set (i := 3) scDrw.nd rfl (.inl rfl) (pe_call GN hr (by rfl) gN FN.kp bN .nil pass0 (pa_cons (pv 2) pa_nil)))
        (pss_one (ps_if (pt_cmpR op_ge (pv 3) pe_int (nomark _))
          (pss_one (ps_for PassesOwn.never rfl (pi_range1 (by rfl) mr (pa_cons pe_int pa_nil)) (pg_name (i := 4) scDrw.nd rfl (.inl rfl))
            (pss_cons (ps_if (pt_cmpR op_eq (pv 3) pe_int (nomark _)) (pss_one ps_break) pss_nil)
            (pss_cons (ps_expr (pe_bm PySem.F.plainAttrs_list PySem.F.slot_list_append PySem.F.type_list_append mt_append (pv 1) (pa_cons (pe_op op_mod (pe_callTy call_int1 (by rfl) mi (by decide +kernel) (pa_cons (pv 3) pa_nil)) pe_int) pa_nil)))
            (pss_one (ps_set (i := 3) scDrw.nd rfl (.inl rfl) (pe_op op_fdiv (pv 3) pe_int)))))))
          (pss_cons (ps_set (i := 5) scDrw.nd rfl (.inl rfl) (pe_op op_mod (pe_callTy call_int1 (by rfl) mi (by decide +kernel) (pa_cons (pe_op op_add (pe_op op_mul (pv 3) pe_int) pe_int) pa_nil)) pe_int))
          (pss_cons (ps_set (i := 6) scDrw.nd rfl (.inl rfl) (pe_op op_mod (pe_callTy call_int1 (by rfl) mi (by decide +kernel) (pa_cons (pe_op op_add (pe_op op_mul (pv 5) pe_int) (pv 3)) pa_nil)) pe_int))
          (pss_one (ps_expr (pe_bm PySem.F.plainAttrs_list PySem.F.slot_list_extend PySem.F.type_list_extend mt_extend (pv 1) (pa_cons (pe_lst (pa_cons (pe_op op_mod (pe_callTy call_int1 (by rfl) mi (by decide +kernel) (pa_cons (pv 3) pa_nil)) pe_int) (pa_cons (pe_op op_mod (pe_callTy call_int1 (by rfl) mi (by decide +kernel) (pa_cons (pv 5) pa_nil)) pe_int) (pa_cons (pe_op op_mod (pe_callTy call_int1 (by rfl) mi (by decide +kernel) (pa_cons (pv 6) pa_nil)) pe_int) pa_nil)))) pa_nil))))))))))
      (pss_one (ps_ret (pv 1)))), ?_⟩
    refine ⟨Nat.zero_le _, fun p np => ?_⟩
    have s0 : Same H (upd H p (.lst [])) := same_upd np
    refine ⟨_, rfl, a, rfl, ⟨_, s0.seq hS⟩, for_it (walk_list (xs := ns.map V.int)) (fun i σ H3 => ∃ y2 y3 y4 y5 y6 r, σ = [some (.ref a), some (.ref p), y2, y3, y4, y5, y6] ∧ Same H H3 ∧ H3 p = some (.lst (rowV r)) ∧ r.length ≤ 60 * i)
      ⟨none, none, none, none, none, [], rfl, s0, upd_same, by simp⟩ (fun i σ H3 _ h => ?_) (fun i x σ H3 H4 hi hP hY => ?_) fun σ H3 hP => ?_⟩
    · obtain ⟨_, _, _, _, _, _, _, s3, _⟩ := h
      exact s3.seq hS
    · obtain ⟨y2, y3, y4, y5, y6, r, rfl, s3, ep, hrl⟩ := hP
      obtain ⟨rfl, hx⟩ := hY
      rw [List.length_map] at hi
      obtain rfl : x = .int ns[i] := by
        rw [List.getElem?_map, List.getElem?_eq_getElem hi] at hx
        exact (Option.some.inj hx).symm
      refine ⟨_, rfl, ns[i], rfl, fun m => ?_⟩
      refine ⟨_, rfl, _, _, rfl, rfl, _, rfl, ite2 (fun c => ?_) fun c => ?_⟩
      · -- a great number
        refine ⟨60, rfl, by decide, by decide, for_it walk_range (fun j σ H5 => ∃ y4 r m, σ = [some (.ref a), some (.ref p), some (.int ns[i]), some (.int ((m : Nat) : Int)), y4, y5, y6] ∧ Same H H5 ∧ H5 p = some (.lst (rowV r)) ∧ r.length ≤ 60 * i + j)
          ⟨y4, r, m, rfl, s3, ep, by omega⟩ (fun _ _ _ _ _ => trivial) (fun j x σ H5 H6 hj hP hY => ?_) fun σ H5 hP => ?_⟩
        · obtain ⟨y4, r, m, rfl, s5, ep5, hr5⟩ := hP
          obtain ⟨rfl, hx⟩ := hY
          have hj6 : j < 60 := hj
          refine ⟨_, rfl, rfl, _, rfl, ite2 (fun c => ?_) fun c => ?_⟩
          · exact ⟨_, _, _, _, _, r, rfl, s5, ep5, by omega⟩
          · refine ⟨_, rfl, .inl ⟨rfl, _, .inl (.inl ep5)⟩, _, rfl, .inl ⟨_, rfl, ?_⟩⟩
            refine ⟨_, _, rfl, rfl, (by decide : (0 : Int) < 1000), p, _, _, rfl, rfl, ep5, by rw [rowV_len]; exact sz_small (by omega), ?_⟩
            refine ⟨_, rfl, _, _, rfl, rfl, ⟨by decide, by decide⟩, ?_⟩
            refine ⟨some x, r ++ [m % 1000], m / 1000, ?_, same_put s5 np, ?_, by simp; omega⟩
            · have e : ((m : Nat) : Int) / 1000 = ((m / 1000 : Nat) : Int) := by omega
              show _ = [some (.ref a), some (.ref p), some (.int ns[i]), some (.int ((m / 1000 : Nat) : Int)), some x, y5, y6]
              rw [← e]; rfl
            · rw [upd_same, rowV_snoc]
              have e : ((m % 1000 : Nat) : Int) = (m : Int) % 1000 := by omega
              rw [e]
        · obtain ⟨y4, r, m, rfl, s5, ep5, hr5⟩ := hP
          have h60 : ((60 : Int)).toNat = 60 := rfl
          exact ⟨_, _, _, _, _, r, rfl, s5, ep5, by rw [h60] at hr5; omega⟩
      · -- a small one
        have c1 : (m : Int) < 1000000000000000000 := by
          have : ¬ (1000000000000000000 : Int) ≤ (m : Int) := fun z => c (decide_eq_true z)
          omega
        have nat : ∀ z k : Int, k ≠ 0 → ∃ o : Nat, z % k = (o : Int) := fun z k hk => ⟨(z % k).toNat, (Int.toNat_of_nonneg (Int.emod_nonneg _ hk)).symm⟩
        obtain ⟨o1, h1⟩ := nat ((m : Int) * 48271 + 11) 2147483647 (by decide)
        obtain ⟨o2, h2⟩ := nat ((o1 : Int) * 69621 + (m : Int)) 2147483629 (by decide)
        refine ⟨_, rfl, _, _, rfl, rfl, .inl ⟨by omega, by omega⟩, _, _, rfl, rfl, .inl ⟨_, rfl, _, _, rfl, rfl, (by decide : (0 : Int) < 2147483647), ?_⟩⟩
        dsimp only
        rw [h1]
        refine ⟨_, rfl, _, _, rfl, rfl, .inr ⟨by decide, by decide⟩, _, rfl, _, _, rfl, rfl, .inl ⟨_, rfl, _, _, rfl, rfl, (by decide : (0 : Int) < 2147483629), ?_⟩⟩
        dsimp only
        rw [h2]
        obtain ⟨z1, e1⟩ := nat (m : Int) 1000 (by decide)
        obtain ⟨z2, e2⟩ := nat (o1 : Int) 1000 (by decide)
        obtain ⟨z3, e3⟩ := nat (o2 : Int) 1000 (by decide)
        refine ⟨_, rfl, .inl ⟨rfl, _, .inl (.inl ep)⟩, _, rfl, .inl ⟨_, rfl, _, _, rfl, rfl, (by decide : (0 : Int) < 1000), _, rfl, .inl ⟨_, rfl, _, _, rfl, rfl, (by decide : (0 : Int) < 1000), _, rfl, .inl ⟨_, rfl, _, _, rfl, rfl, (by decide : (0 : Int) < 1000), ?_⟩⟩⟩⟩
        dsimp only
        rw [e1, e2, e3]
        refine ⟨Nat.le_of_lt (sz_small (n := 3) (by decide)), fun t nt => ?_⟩
        have st := same_upd (o := .lst [.int (z1 : Int), .int (z2 : Int), .int (z3 : Int)]) nt
        refine ⟨p, t, rowV r, [.int (z1 : Int), .int (z2 : Int), .int (z3 : Int)], rfl, rfl, st _ _ ep, upd_same, ?_, ?_⟩
        · rw [rowV_len]
          exact Nat.le_of_lt (sz_small (by simp; omega))
        · refine ⟨_, _, _, _, _, r ++ [z1, z2, z3], rfl, same_put (s3.trans st) np, ?_, by simp; omega⟩
          rw [upd_same]
          simp [rowV]
    · obtain ⟨_, _, _, _, _, r, rfl, s3, ep, _⟩ := hP
      exact ⟨_, rfl, q _ _ r s3 np ep⟩
end
end K60
namespace K60
open PySem PySem.Spec PyProof.Rows GenW L2 G6
/-- a row whose object has no dict -/
def RowZ (H : Hp) (v : V) (r : List Nat) : Prop := ∃ (a : Addr) (o : Obj), v = .ref a ∧ H a = some (.frz o (.tup (rowV r))) ∧ o.dict = none
theorem RowZ.same {H H' : Hp} {v : V} {r : List Nat} (h : RowZ H v r) (s : Same H H') : RowZ H' v r := let ⟨a, o, e, q, d⟩ := h; ⟨a, o, e, s _ _ q, d⟩
theorem up_rowZ {H : Hp} {D : Addr} {xs ys : List V} {x : V} {r : List Nat} (e : H D = some (.lst xs)) (h : RowZ H x r) : RowZ (upd H D (.lst ys)) x r := by
  obtain ⟨b, o, rfl, eb, hd⟩ := h
  refine ⟨b, o, rfl, ?_, hd⟩
  rw [upd_ne (ne_of eb e (by intro z; cases z))]
  exact eb
theorem dp_rowZ {K : PySem.W.Frag} {H : Hp} {v : V} {r : List Nat} (h : RowZ H v r) : Dp K H v (rowD r) := by
  obtain ⟨a, o, rfl, e, _⟩ := h
  exact .tup (.inl (.inr ⟨o, e⟩)) (dp_ints r)
theorem idxOf_min (a : Nat) : ∀ (r : List Nat) (m : Nat), m < r.idxOf a → r[m]? ≠ some a
  | [], m, h => by simp at h
  | x :: r, m, h => by
    rw [List.idxOf_cons] at h
    cases hx : x == a with
    | true => rw [hx] at h; exact absurd h (Nat.not_lt_zero _)
    | false =>
      rw [hx] at h
      cases m with
      | zero =>
        intro z
        have : x = a := Option.some.inj z
        rw [this] at hx
        simp at hx
      | succ m =>
        rw [List.getElem?_cons_succ]
        refine idxOf_min a r m ?_
        have h2 : m + 1 < r.idxOf a + 1 := h
        omega
def lawStep (ims : List (List Nat)) (pts : List Nat) (l : Int) : List Nat := if 0 < l then pts.map fun p => (ims.getD (l - 1).toNat []).getD p 0 else pts.map fun p => (ims.getD (-l - 1).toNat []).idxOf p
def lawAct (ims : List (List Nat)) (w : List Int) : List Nat := w.foldl (lawStep ims) (List.range (ims.headD []).length)
/-- rows in which each point stands -/
def PermOk (d : Nat) (rs : List (List Nat)) : Prop := RowsOk d rs ∧ ∀ r ∈ rs, ∀ p, p < d → p ∈ r
abbrev sAct : Stmt := topS 24
abbrev nAct : List Str := ["_law_images", "_law_word", "_law_points", "_law_letter", "_law_point"]
theorem scAct : FnScope nAct ["_law_images", "_law_word"] (defScope sAct) := ⟨rfl, rfl, rfl, by decide +kernel, rfl, by decide +kernel, by decide +kernel⟩
section
variable {P : Program} {w : World} {K : PySem.W.Frag} {mg : Str → Option Value} {base : Heap}
def spAct : Sp := fun vs H Q _ => ∃ v1 v2 ims wd d, vs = [v1, v2] ∧ TupOf RowZ H v1 ims ∧ WordAt H v2 wd ∧ ims ≠ [] ∧ PermOk d ims ∧ Letters ims.length wd ∧ d ≤ 1000 ∧ ∀ H' v', Same H H' → RowAt H' v' (lawAct ims wd) → Q v' H'
theorem ok_act {f : Addr} {fd : FuncData} {k : Nat} (F : Fun K "_law_act" "_law_act" sAct f fd) (ml : mg "len" = none) (mr : mg "range" = none) (mi : mg "list" = none) (mt : mg "tuple" = none) : FnOk P w K mg base CX0 (k + 1) f fd ["_law_images", "_law_word"] spAct := by
  refine F.ok scAct (fun vs H Q E h => ?_) (fun cdv A outer s H vs Q E hr h => ?_)
  · obtain ⟨v1, v2, ims, wd, d, rfl, _⟩ := h
    rfl
  · obtain ⟨v1, v2, ims, wd, d, rfl, ⟨a1, xs1, rfl, e1, r1⟩, ⟨a2, rfl, e2⟩, hne, ⟨ok1, okp⟩, hL, hd, q⟩ := h
    refine ⟨_, pss_cons (ps_set (i := 2) scAct.nd rfl (.inl rfl) (pe_listRg rfl (by rfl) mi (prg_1 (by rfl) mr (pe_callB call_len_seq (by rfl) ml PySem.boot_len (pa_cons (pe_ix ix_tup (pv 0) pe_int (fun _ _ => rfl)) pa_nil)))))
      (pss_cons (ps_for PassesOwn.never rfl (pi_tup (pv 1)) (pg_name (i := 3) scAct.nd rfl (.inr rfl))
        (pss_one (ps_if (pt_cmpR op_gt (pv 3) pe_int (nomark _))
          (pss_one (ps_setLc (i := 2) (own := [("_law_point", 4)]) (g := gName 4) (tt := tYes) (te := tOp (rIxT K) (tOp (rIxT K) (tVar 0) (tOp (rI0 fun i j => .int (i - j)) (tVar 3) (tC (.int 1)))) (tVar 4)) rfl scAct.nd rfl rfl (sw_true rfl rfl rfl (by decide +kernel)) (pi_list (pv 2)) (blkOk_by (N := nAct) (sc := defScope sAct) (by decide +kernel))
            (fun _ _ _ _ _ => pg_name (i := 4) scAct.nd rfl (Or.inl rfl)) (fun _ _ _ _ _ => pts_nil) (fun _ _ _ _ _ => pe_ix ix_tup (pe_ix ix_tup (pv 0) (pe_op op_sub (pv 3) pe_int) (fun _ _ => rfl)) (pv 4) (fun _ _ => rfl))))
          (pss_one (ps_setLc (i := 2) (own := [("_law_point", 4)]) (g := gName 4) (tt := tYes) (te := tTix (tOp (rIxT K) (tVar 0) (tOp (rI0 fun i j => .int (i - j)) (tOp (rI0 fun i j => .int (i - j)) (tC (.int 0)) (tVar 3)) (tC (.int 1)))) (tCons (tVar 4) tNil)) rfl scAct.nd rfl rfl (sw_true rfl rfl rfl (by decide +kernel)) (pi_list (pv 2)) (blkOk_by (N := nAct) (sc := defScope sAct) (by decide +kernel))
            (fun _ _ _ _ _ => pg_name (i := 4) scAct.nd rfl (Or.inl rfl)) (fun _ _ _ _ _ => pts_nil) (fun _ _ _ _ _ => pe_tix (pe_ix ix_tup (pv 0) (pe_op op_sub (pe_op op_sub pe_int (pv 3)) pe_int) (fun _ _ => rfl)) (pa_cons (pv 4) pa_nil)))))))
      (pss_one (ps_ret (pe_tupleOf (by rfl) mt (pv 2))))), ?_⟩
    have hd0 : (ims.headD []).length = d := by
      cases ims with
      | nil => exact absurd rfl hne
      | cons r t => exact (ok1 r List.mem_cons_self).1
    have h0 : 0 < ims.length := List.length_pos_iff.mpr hne
    obtain ⟨x0, g0, b0, o0, rfl, eb0, hb0⟩ := r1.get h0
    have l0 : ims[0].length = d := (ok1 _ (List.getElem_mem h0)).1
    refine ⟨.ref a1, rfl, a1, xs1, 0, .ref b0, rfl, rfl, .inl (.inl e1), atI_of rfl g0, b0, rowV ims[0], rfl, .inr (.inl (.inr ⟨_, eb0⟩)), _, rfl, ?_, fun p np => ?_⟩
    · rw [rowV_len, l0]
      exact .of_le (by omega) (by omega) (by omega) (by omega)
    rw [rowV_len, l0, rgV_row]
    have s0 : Same H (upd H p (.lst (rowV (List.range d)))) := same_upd np
    refine ⟨.ref a2, rfl, a2, rfl, ⟨_, .inl (.inl (s0 _ _ e2))⟩, for_it (walk_tup (xs := wd.map V.int)) (fun i σ H3 => ∃ y3 y4 b, σ = [some (.ref a1), some (.ref a2), some (.ref b), y3, y4] ∧ Same H H3 ∧ H3 b = some (.lst (rowV ((wd.take i).foldl (lawStep ims) (List.range d)))) ∧ PtsOk d ((wd.take i).foldl (lawStep ims) (List.range d)))
      ⟨none, none, p, rfl, s0, upd_same, by simp, fun q hq => List.mem_range.mp hq⟩ (fun i σ H3 _ h => ?_) (fun i x σ H3 H4 hi hP hY => ?_) (fun σ H3 hP => ?_)⟩
    · obtain ⟨_, _, _, _, s3, _⟩ := h
      exact .inl (.inl (s3 _ _ e2))
    · obtain ⟨y3, y4, b, rfl, s3, eb, pk⟩ := hP
      obtain ⟨rfl, hx⟩ := hY
      rw [List.length_map] at hi
      obtain rfl : x = .int wd[i] := by
        rw [List.getElem?_map, List.getElem?_eq_getElem hi] at hx
        exact (Option.some.inj hx).symm
      have hl := hL wd[i] (List.getElem_mem hi)
      have step : (wd.take (i + 1)).foldl (lawStep ims) (List.range d) = lawStep ims ((wd.take i).foldl (lawStep ims) (List.range d)) wd[i] := by
        rw [List.take_add_one, List.getElem?_eq_getElem hi, List.foldl_append]
        rfl
      rw [step]
      generalize (wd.take i).foldl (lawStep ims) (List.range d) = pts at eb pk
      -- the comprehension, whatever its item is
      have lcb : ∀ (te : TE) (new : List Nat), new.length = pts.length → PtsOk d new → (∀ (j : Nat) (hj : j < pts.length) (hj2 : j < new.length) (H6 : Hp) (Q : VK), Same H4 H6 → (∀ H7, Same H6 H7 → Q (.int ((new[j] : Nat) : Int)) H7) → te [some (.ref a1), some (.ref a2), some (.ref b), some (.int wd[i]), some (.int ((pts[j] : Nat) : Int))] H6 Q) →
          tAsg (tLc (iList K (tVar 2)) (gName 4) tYes te [4]) (gName 2) { nx := fun σ H3 => ∃ y3 y4 b, σ = [some (.ref a1), some (.ref a2), some (.ref b), y3, y4] ∧ Same H H3 ∧ H3 b = some (.lst (rowV new)) ∧ PtsOk d new, ct := fun σ H3 => ∃ y3 y4 b, σ = [some (.ref a1), some (.ref a2), some (.ref b), y3, y4] ∧ Same H H3 ∧ H3 b = some (.lst (rowV new)) ∧ PtsOk d new, rt := Q, bk := fun _ _ => True } [some (.ref a1), some (.ref a2), some (.ref b), some (.int wd[i]), y4] H4 := by
        intro te new hn hnok hte
        refine ⟨.ref b, rfl, b, rfl, ⟨_, .inl (.inl eb)⟩, fun D nD => ?_⟩
        refine lc_it (walk_list (xs := rowV pts)) (fun j H5 => Same H4 H5 ∧ H5 D = some (.lst (rowV (new.take j)))) ⟨same_upd nD, by rw [upd_same]; simp [rowV]⟩ (fun j H5 _ h => .inl (.inl (h.1 _ _ eb))) (fun j x H5 H6 hj hP hY => ?_) fun H5 hP => ?_
        · obtain ⟨s5, eD⟩ := hP
          obtain ⟨rfl, hx⟩ := hY
          rw [rowV_len] at hj
          rw [rowV_get hj] at hx
          cases hx
          refine ⟨rfl, hte j hj (by omega) _ _ s5 fun H7 s7 => ⟨_, s7 _ _ eD, ?_, same_put (s5.trans s7) nD, ?_⟩⟩
          · rw [rowV_len, List.length_take]
            have h1 : pts.length = d := pk.1
            exact sz_small (by omega)
          · have hj2 : j < new.length := by omega
            rw [upd_same, List.take_add_one, List.getElem?_eq_getElem hj2, Option.toList_some, rowV_snoc]
        · obtain ⟨s5, eD⟩ := hP
          rw [rowV_len, ← hn, List.take_length] at eD
          exact ⟨_, _, D, rfl, s3.trans s5, eD, hnok⟩
      refine ⟨_, rfl, _, _, rfl, rfl, _, rfl, ite2 (fun c => ?_) fun c => ?_⟩
      · have c' : 0 < wd[i] := of_decide_eq_true c
        have hlt : (wd[i] - 1).toNat < ims.length := by omega
        obtain ⟨x, gx, ax, ox, rfl, ebx, _⟩ := r1.get hlt
        have eg : ims.getD (wd[i] - 1).toNat [] = ims[(wd[i] - 1).toNat] := by rw [List.getD_eq_getElem?_getD, List.getElem?_eq_getElem hlt]; rfl
        have rk := ok1 _ (List.getElem_mem hlt)
        have eL : lawStep ims pts wd[i] = pts.map fun p => (ims[(wd[i] - 1).toNat]).getD p 0 := by unfold lawStep; rw [if_pos c', eg]
        rw [eL]
        have gd : ∀ p ∈ pts, ∃ h : p < (ims[(wd[i] - 1).toNat]).length, (ims[(wd[i] - 1).toNat]).getD p 0 = (ims[(wd[i] - 1).toNat])[p] := fun p hp => by
          have h : p < (ims[(wd[i] - 1).toNat]).length := by rw [rk.1]; exact pk.2 p hp
          exact ⟨h, by rw [List.getD_eq_getElem?_getD, List.getElem?_eq_getElem h]; rfl⟩
        refine lcb _ _ (by simp) ⟨by rw [List.length_map]; exact pk.1, fun p hp => ?_⟩ fun j hj hj2 H6 Q2 s6 hq => ?_
        · obtain ⟨z, hz, rfl⟩ := List.mem_map.mp hp
          obtain ⟨h, e⟩ := gd z hz
          rw [e]
          exact rk.2 _ (List.getElem_mem h)
        · obtain ⟨h, e⟩ := gd pts[j] (List.getElem_mem hj)
          refine ⟨_, rfl, _, rfl, _, _, rfl, rfl, a1, xs1, wd[i] - 1, .ref ax, rfl, rfl, .inl (.inl (s6 _ _ (s3 _ _ e1))), atI_of (by omega) gx, _, rfl, ax, _, _, _, rfl, rfl, .inl (.inr ⟨_, s6 _ _ (s3 _ _ ebx)⟩), atI_of rfl (rowV_get h), ?_⟩
          have h2 := hq H6 (Same.refl _)
          rw [List.getElem_map, e] at h2
          exact h2
      · have c' : ¬ 0 < wd[i] := fun z => c (decide_eq_true z)
        have hlt : (-wd[i] - 1).toNat < ims.length := by omega
        obtain ⟨x, gx, ax, ox, rfl, ebx, hox⟩ := r1.get hlt
        have eg : ims.getD (-wd[i] - 1).toNat [] = ims[(-wd[i] - 1).toNat] := by rw [List.getD_eq_getElem?_getD, List.getElem?_eq_getElem hlt]; rfl
        have rk := ok1 _ (List.getElem_mem hlt)
        have rp := okp _ (List.getElem_mem hlt)
        have eL : lawStep ims pts wd[i] = pts.map fun p => (ims[(-wd[i] - 1).toNat]).idxOf p := by unfold lawStep; rw [if_neg c', eg]
        rw [eL]
        have gd : ∀ p ∈ pts, (ims[(-wd[i] - 1).toNat]).idxOf p < (ims[(-wd[i] - 1).toNat]).length := fun p hp => List.idxOf_lt_length_iff.mpr (rp p (pk.2 p hp))
        refine lcb _ _ (by simp) ⟨by rw [List.length_map]; exact pk.1, fun p hp => ?_⟩ fun j hj hj2 H6 Q2 s6 hq => ?_
        · obtain ⟨z, hz, rfl⟩ := List.mem_map.mp hp
          have := gd z hz
          rw [rk.1] at this
          exact this
        · have h := gd pts[j] (List.getElem_mem hj)
          refine ⟨_, rfl, _, rfl, _, _, rfl, rfl, _, _, rfl, rfl, a1, xs1, 0 - wd[i] - 1, .ref ax, rfl, rfl, .inl (.inl (s6 _ _ (s3 _ _ e1))), atI_of (by omega) gx, ?_⟩
          obtain ⟨r, er⟩ : ∃ r, r = ims[(-wd[i] - 1).toNat] := ⟨_, rfl⟩
          rw [← er] at ebx h
          have hq2 := hq H6 (Same.refl _)
          rw [List.getElem_map] at hq2
          have hq3 : Q2 (.int ((r.idxOf pts[j] : Nat) : Int)) H6 := by rw [er]; exact hq2
          have ev : rowV r = (r.map fun (n : Nat) => (n : Int)).map V.int := by simp [rowV]
          have eH : H6 ax = some (.frz ox (.tup ((r.map fun (n : Nat) => (n : Int)).map V.int))) := by rw [← ev]; exact s6 _ _ (s3 _ _ ebx)
          refine ⟨ax, ox, _, rfl, eH, hox, _, rfl, _, r.idxOf pts[j], rfl, eH, ?_, fun m hm z => ?_, hq3⟩
          · rw [List.getElem?_map, List.getElem?_eq_getElem h, List.getElem_idxOf]
            rfl
          · rw [List.getElem?_map] at z
            have hmr : m < r.length := by omega
            rw [List.getElem?_eq_getElem hmr] at z
            have z2 : ((r[m] : Nat) : Int) = ((pts[j] : Nat) : Int) := Option.some.inj z
            have z3 : r[m] = pts[j] := by omega
            exact idxOf_min _ r m hm (by rw [List.getElem?_eq_getElem hmr, z3])
    · obtain ⟨y3, y4, b, rfl, s3, eb, pk⟩ := hP
      rw [List.length_map, List.take_length] at eb
      refine ⟨_, rfl, .inl ⟨b, _, rfl, .inl (.inl eb), fun t nt => ?_⟩⟩
      refine q _ _ (same_put s3 (s3.free nt)) ⟨t, rfl, ?_⟩
      rw [upd_same]
      unfold lawAct
      rw [hd0]
end
end K60
namespace K60
open PySem PySem.Spec PyProof.Rows GenW L2 G6
abbrev sLFu : Stmt := topS 26
abbrev nLFu : List Str := ["_law_group_here", "_law_images", "_law_still", "_law_relator"]
theorem scLFu : FnScope nLFu ["_law_group_here", "_law_images"] (defScope sLFu) := ⟨rfl, rfl, rfl, by decide +kernel, rfl, by decide +kernel, by decide +kernel⟩
abbrev sLRo : Stmt := topS 27
abbrev nLRo : List Str := ["_law_degree", "_law_rows_here", "_law_k", "_law_longer", "_law_row", "_law_point"]
theorem scLRo : FnScope nLRo ["_law_degree"] (defScope sLRo) := ⟨rfl, rfl, rfl, by decide +kernel, rfl, by decide +kernel, by decide +kernel⟩
def lawOk (ims : List (List Nat)) (wd : List Int) : Bool := decide (lawAct ims wd = List.range (ims.headD []).length)
def lawFul (rels : List (List Int)) (ims : List (List Nat)) : Bool := rels.all (lawOk ims)
section
variable {P : Program} {w : World} {K : PySem.W.Frag} {mg : Str → Option Value} {base : Heap}
def spLFu : Sp := fun vs H Q _ => ∃ v1 v2 c rels ims d, vs = [v1, v2] ∧ GrpAt H v1 c rels ∧ Small rels ∧ TupOf RowZ H v2 ims ∧ ims ≠ [] ∧ PermOk d ims ∧ d ≤ 1000 ∧ (∀ wd ∈ rels, Letters ims.length wd) ∧ ∀ H', Same H H' → Q (.bl (lawFul rels ims)) H'
theorem ok_lfu {f fA : Addr} {fd fdA : FuncData} {k : Nat} (F : Fun K "_law_fulfils" "_law_fulfils" sLFu f fd) (FA : Fun K "_law_act" "_law_act" sAct fA fdA) (bA : Binds K fdA ["_law_images", "_law_word"] []) (gA : mg "_law_act" = some (.ref fA)) (GA : FnOk P w K mg base CX0 k fA fdA ["_law_images", "_law_word"] spAct)
    (ml : mg "len" = none) (mr : mg "range" = none) (mt : mg "tuple" = none) (ma : mg "all" = none) :
    FnOk P w K mg base CX0 (k + 1) f fd ["_law_group_here", "_law_images"] spLFu := by
  refine F.ok scLFu (fun vs H Q E h => ?_) (fun cdv A outer s H vs Q E hr h => ?_)
  · obtain ⟨v1, v2, c, rels, ims, d, rfl, _⟩ := h
    rfl
  · obtain ⟨v1, v2, c, rels, ims, d, rfl, ⟨a, b, rfl, ea, ⟨_, xs, eb', eb, rb⟩⟩, ⟨hs1, hs2⟩, t2, hne, ok, hd, hL, q⟩ := h
    cases eb'
    obtain ⟨a2, xs2, rfl, e2, r2⟩ := id t2
    refine ⟨_, pss_cons (ps_set (i := 2) scLFu.nd rfl (.inr rfl) (pe_tupRg rfl (by rfl) mt (prg_1 (by rfl) mr (pe_callB call_len_seq (by rfl) ml PySem.boot_len (pa_cons (pe_ix ix_tup (pv 1) pe_int (fun _ _ => rfl)) pa_nil)))))
      (pss_one (ps_ret (pe_callB (cr_all rfl) (by rfl) ma (by decide +kernel) (pa_cons (pe_lc (own := [("_law_relator", 3)]) (g := gName 3) (tt := tYes) rfl scLFu.nd (pi_tup (pe_ix ix_tup (pv 0) pe_int (fun _ _ => rfl))) (blkOk_by (N := nLFu) (sc := defScope sLFu) (by decide +kernel))
        (fun _ _ _ _ _ => pg_name (i := 3) scLFu.nd rfl (Or.inl rfl)) (fun _ _ _ _ _ => pts_nil)
        (fun _ _ _ _ _ => pe_cmpR (r := rEqD K) (op_eqD hr.units) (pe_call GA hr (by rfl) gA FA.kp bA .nil pass0 (pa_cons (pv 1) (pa_cons (pv 3) pa_nil))) (pv 2) (nomark _))) pa_nil)))), ?_⟩
    have h0 : 0 < ims.length := List.length_pos_iff.mpr hne
    obtain ⟨x0, g0, b0, o0, rfl, eb0, _⟩ := r2.get h0
    have l0 : ims[0].length = d := (ok.1 _ (List.getElem_mem h0)).1
    have hd0 : (ims.headD []).length = d := by
      cases ims with
      | nil => exact absurd rfl hne
      | cons r t => exact (ok.1 r List.mem_cons_self).1
    refine ⟨.ref a2, rfl, a2, xs2, 0, .ref b0, rfl, rfl, .inl (.inl e2), atI_of rfl g0, b0, rowV ims[0], rfl, .inr (.inl (.inr ⟨_, eb0⟩)), _, rfl, ?_, fun p np => ?_⟩
    · rw [rowV_len, l0]
      exact .of_le (by omega) (by omega) (by omega) (by omega)
    rw [rowV_len, l0, rgV_row]
    have s0 : Same H (upd H p (.tup (rowV (List.range d)))) := same_upd np
    have st0 : RowAt (upd H p (.tup (rowV (List.range d)))) (.ref p) (List.range d) := ⟨p, rfl, upd_same⟩
    refine ⟨_, rfl, a, _, 1, .ref b, rfl, rfl, .inl (.inl (s0 _ _ ea)), atI_of (n := 1) rfl rfl, b, rfl, ⟨_, .inl (.inl (s0 _ _ eb))⟩, fun D nD => ?_⟩
    refine lc_it (walk_tup (xs := xs)) (fun j H5 => Same (upd H p (.tup (rowV (List.range d)))) H5 ∧ H5 D = some (.lst (((rels.map (lawOk ims)).take j).map V.bl))) ⟨same_upd nD, by rw [upd_same]; simp⟩ (fun j H5 _ h => .inl (.inl (h.1 _ _ (s0 _ _ eb)))) (fun j x H5 H6 hj hP hY => ?_) fun H5 hP => ?_
    · obtain ⟨s5, eD⟩ := hP
      obtain ⟨rfl, hx⟩ := hY
      obtain ⟨wd, hw1, hw⟩ := rb.item hx
      have hmem : wd ∈ rels := List.mem_of_getElem? hw1
      have sH : Same H H6 := s0.trans s5
      refine ⟨rfl, _, rfl, _, rfl, _, _, ims, wd, d, rfl, t2.same (fun _ _ h => h.same sH) sH, hw.same sH, hne, ok, hL wd hmem, hd, fun H7 v7 s7 hv => ?_⟩
      refine ⟨_, rfl, rowD (lawAct ims wd), rowD (List.range d), dp_row hv, dp_row (st0.same (s5.trans s7)), rowD_shaped _, rowD_shaped _, ?_⟩
      have hj2 : ((rels.map (lawOk ims)).take j).length = j := by
        rw [List.length_take, List.length_map, ← rb.1]; omega
      refine ⟨_, s7 _ _ eD, ?_, same_put (s5.trans s7) nD, ?_⟩
      · rw [List.length_map, hj2]
        exact small1000 (by have := rb.1; omega)
      · rw [upd_same, List.take_add_one, List.getElem?_map, hw1, rowD_eqv, ← hd0, List.map_append]
        rfl
    · obtain ⟨s5, eD⟩ := hP
      have hl2 : (rels.map (lawOk ims)).length = xs.length := by rw [List.length_map, rb.1]
      rw [← hl2, List.take_length] at eD
      refine ⟨D, _, rfl, .inl (.inl eD), ?_⟩
      have e : (rels.map (lawOk ims)).all id = lawFul rels ims := by unfold lawFul; rw [List.all_map]; rfl
      rw [e]
      exact q _ (s0.trans s5)
/-- the law's rows -/
def spLRo : Sp := fun vs H Q _ => ∃ d : Nat, vs = [.int (d : Int)] ∧ d < 4 ∧ ∀ H' b ys, Same H H' → H' b = some (.lst ys) → AllR (RowZ H') ys (arrM d) → Q (.ref b) H'
theorem ok_lro {f : Addr} {fd : FuncData} {k : Nat} (F : Fun K "_law_rows" "_law_rows" sLRo f fd) (mr : mg "range" = none) (mi : mg "list" = none) : FnOk P w K mg base CX0 (k + 1) f fd ["_law_degree"] spLRo := by
  refine F.ok scLRo (fun vs H Q E h => ?_) (fun cdv A outer s H vs Q E hr h => ?_)
  · obtain ⟨d, rfl, _⟩ := h
    rfl
  · obtain ⟨d, rfl, hd, q⟩ := h
    refine ⟨_, pss_cons (ps_set (i := 1) scLRo.nd rfl (.inl rfl) (pe_lst (pa_cons (pe_tupZ pa_nil) pa_nil)))
      (pss_cons (ps_for PassesOwn.never rfl (pi_range1 (by rfl) mr (pa_cons (pv 0) pa_nil)) (pg_name (i := 2) scLRo.nd rfl (.inl rfl))
        (pss_cons (ps_set (i := 3) scLRo.nd rfl (.inl rfl) (pe_lst pa_nil))
        (pss_cons (ps_for PassesOwn.never rfl (pi_list (pv 1)) (pg_name (i := 4) scLRo.nd rfl (.inr rfl))
          (pss_one (ps_set (i := 3) scLRo.nd rfl (.inl rfl) (pe_op op_cat (pv 3) (pe_lc (own := [("_law_point", 5)]) (g := gName 5) (tt := tTest (tOp (rIn K true) (tVar 5) (tVar 4))) (te := tOp (rCatZ K) (tVar 4) (tTupZ (tCons (tVar 5) tNil))) rfl scLRo.nd (pi_range1 (by rfl) mr (pa_cons (pv 0) pa_nil)) (blkOk_by (N := nLRo) (sc := defScope sLRo) (by decide +kernel))
            (fun _ _ _ _ _ => pg_name (i := 5) scLRo.nd rfl (Or.inl rfl)) (fun _ _ _ _ _ => pts_one (pt_cmpR op_notIn_seq (pv 5) (pv 4) (by rfl))) (fun _ _ _ _ _ => pe_op op_catZ (pv 4) (pe_tupZ (pa_cons (pv 5) pa_nil))))))))
        (pss_one (ps_set (i := 1) scLRo.nd rfl (.inl rfl) (pe_callTy call_list_of (by rfl) mi (by decide +kernel) (pa_cons (pv 3) pa_nil)))))))
      (pss_one (ps_ret (pv 1)))), ?_⟩
    refine ⟨Nat.zero_le _, fun t ot nt hot => ⟨Nat.le_of_lt (sz_small (n := 1) (by decide)), fun l nl => ?_⟩⟩
    have s1 : Same H (upd H t (.frz ot (.tup []))) := same_upd nt
    have s2 : Same (upd H t (.frz ot (.tup []))) (upd (upd H t (.frz ot (.tup []))) l (.lst [.ref t])) := same_upd nl
    have rt : RowZ (upd (upd H t (.frz ot (.tup []))) l (.lst [.ref t])) (.ref t) [] := ⟨t, ot, rfl, s2 _ _ upd_same, hot⟩
    have hdn : ((d : Nat) : Int).toNat = d := by omega
    refine ⟨_, rfl, (d : Int), rfl, by omega, by omega, for_it walk_range (fun i σ H3 => ∃ y2 y3 y4 y5 b ys, σ = [some (.int (d : Int)), some (.ref b), y2, y3, y4, y5] ∧ Same H H3 ∧ H3 b = some (.lst ys) ∧ AllR (RowZ H3) ys (arrP d i))
      ⟨none, none, none, none, l, [.ref t], rfl, s1.trans s2, upd_same, AllR.nil.snoc rt⟩ (fun _ _ _ _ _ => trivial) (fun i x σ H3 H4 hi hP hY => ?_) fun σ H3 hP => ?_⟩
    · obtain ⟨y2, y3, y4, y5, b, ys, rfl, s3, eb, rb⟩ := hP
      obtain ⟨rfl, hxi⟩ := hY
      rw [hdn] at hi
      obtain ⟨sm1, sm2⟩ := arr_small d hd i (by omega)
      -- longer = []
      refine ⟨Nat.zero_le _, fun g0 ng0 => ?_⟩
      have sg := same_upd (o := .lst []) ng0
      refine ⟨_, rfl, b, rfl, ⟨_, .inl (.inl (sg _ _ eb))⟩, for_it (walk_list (xs := ys)) (fun j σ H5 => ∃ y4 g zs, σ = [some (.int (d : Int)), some (.ref b), some x, some (.ref g), y4, y5] ∧ Same H4 H5 ∧ H5 g = some (.lst zs) ∧ AllR (RowZ H5) zs (((arrP d i).take j).flatMap (arrRow d)))
        ⟨y4, g0, [], rfl, sg, upd_same, by simpa using AllR.nil⟩ (fun j σ H5 _ h => ?_) (fun j x2 σ H5 H6 hj hP hY => ?_) fun σ H5 hP => ?_⟩
      · obtain ⟨_, _, _, _, s5, _⟩ := h
        exact .inl (.inl (s5 _ _ eb))
      · obtain ⟨y4, g, zs, rfl, s5, eg, rz⟩ := hP
        obtain ⟨rfl, hx⟩ := hY
        obtain ⟨r, hr1, hrow⟩ := rb.item hx
        have hmem : r ∈ arrP d i := List.mem_of_getElem? hr1
        have hrow6 := hrow.same s5
        obtain ⟨br, obr, rfl, ebr, hbr⟩ := id hrow6
        refine ⟨_, rfl, _, rfl, (d : Int), rfl, by omega, by omega, fun D nD => ?_⟩
        refine lc_it walk_range (fun m H7 => Same H6 H7 ∧ ∃ ns, H7 D = some (.lst ns) ∧ AllR (RowZ H7) ns (((List.range m).filter fun p => !r.contains p).map fun p => r ++ [p])) ⟨same_upd nD, [], upd_same, by simpa using AllR.nil⟩ (fun _ _ _ _ => trivial) (fun m x3 H7 H8 hm hP hY => ?_) fun H7 hP => ?_
        · obtain ⟨s7, ns, eD, rn⟩ := hP
          obtain ⟨rfl, hxm⟩ := hY
          obtain rfl : x3 = .int (m : Int) := by
            rw [hxm]
            show V.int (0 + (m : Int)) = _
            rw [Int.zero_add]
          have ebr8 := s7 _ _ ebr
          refine ⟨rfl, _, rfl, _, rfl, br, rowV r, rfl, .inr (.inl (.inr ⟨_, ebr8⟩)), rfl, flat_row r, _, rfl, ?_⟩
          rw [inV_row]
          have stepE := arrRow_take r m
          refine ite2 (fun c1 => ?_) fun c1 => ?_
          · have c2 : (!r.contains m) = true := c1
            rw [if_pos c2] at stepE
            have szz : ns.length < sizeLine := by
              have t2 := List.length_filter_le (fun p => !r.contains p) (List.range m)
              rw [List.length_range] at t2
              rw [rn.1, List.length_map]
              exact sz_small (by omega)
            refine ⟨_, rfl, _, rfl, Nat.le_of_lt (sz_small (n := 1) (by decide)), fun p op np hop => ?_⟩
            have sp : Same H8 (upd H8 p (.frz op (.tup [.int (m : Int)]))) := same_upd np
            refine ⟨br, p, rowV r, [.int (m : Int)], rfl, rfl, .inl (.inr ⟨_, sp _ _ ebr8⟩), .inl (.inr ⟨_, upd_same⟩), ?_, List.cons_ne_nil _ _, fun hr0 => ?_, fun hr0 p2 op2 np2 hop2 => ?_⟩
            · rw [rowV_len]
              have := sm2 r hmem
              exact Nat.le_of_lt (sz_small (by simp; omega))
            · have er : r = [] := by
                cases r with
                | nil => rfl
                | cons a t => cases hr0
              refine ⟨ns, sp _ _ eD, szz, same_put (s7.trans sp) nD, _, upd_same, ?_⟩
              rw [stepE]
              refine (rn.imp fun x r h => up_rowZ (sp _ _ eD) (h.same sp)).snoc (up_rowZ (sp _ _ eD) ⟨p, op, rfl, ?_, hop⟩)
              rw [upd_same, er]; rfl
            · have sp2 : Same (upd H8 p (.frz op (.tup [.int (m : Int)]))) (upd (upd H8 p (.frz op (.tup [.int (m : Int)]))) p2 (.frz op2 (.tup (rowV r ++ [.int (m : Int)])))) := same_upd np2
              have eDD := sp2 _ _ (sp _ _ eD)
              refine ⟨ns, eDD, szz, same_put ((s7.trans sp).trans sp2) nD, _, upd_same, ?_⟩
              rw [stepE]
              refine (rn.imp fun x r h => up_rowZ eDD ((h.same sp).same sp2)).snoc (up_rowZ eDD ⟨p2, op2, rfl, ?_, hop2⟩)
              rw [upd_same]
              simp [rowV]
          · have c2 : ¬ (!r.contains m) = true := c1
            rw [if_neg c2, List.append_nil] at stepE
            refine ⟨s7, ns, eD, ?_⟩
            rw [stepE]
            exact rn
        · obtain ⟨s7, ns, eD, rn⟩ := hP
          rw [hdn] at rn
          have eg7 := s7 _ _ eg
          have t1 := flat_le (arrRow_len d) ((arrP d i).take j)
          have t3 : d * ((arrP d i).take j).length ≤ 3 * 30 := Nat.mul_le_mul (by omega) (by rw [List.length_take]; omega)
          have t4 := arrRow_len d r
          refine ⟨g, D, zs, ns, rfl, rfl, eg7, eD, ?_, fun p np => ?_⟩
          · rw [rz.1, rn.1]
            have t5 : ((((List.range d).filter fun p => !r.contains p).map fun p => r ++ [p])).length ≤ d := t4
            exact Nat.le_of_lt (sz_small (by omega))
          · have sp := same_upd (o := .lst (zs ++ ns)) np
            refine ⟨_, p, _, rfl, (s5.trans s7).trans sp, upd_same, ?_⟩
            rw [List.take_add_one, hr1, List.flatMap_append]
            have e1 : ([r] : List (List Nat)).flatMap (arrRow d) = ((List.range d).filter fun p => !r.contains p).map fun p => r ++ [p] := by simp [arrRow]
            rw [Option.toList_some, e1]
            exact (rz.imp fun x r h => (h.same s7).same sp).append (rn.imp fun x r h => h.same sp)
      · obtain ⟨y4, g, zs, rfl, s5, eg, rz⟩ := hP
        rw [rb.1, List.take_length] at rz
        -- rows = list(longer)
        refine ⟨_, rfl, g, zs, rfl, .inl (.inl (.inl eg)), fun l2 nl2 => ?_⟩
        have sl := same_upd (o := .lst zs) nl2
        exact ⟨_, _, _, _, l2, zs, rfl, (s3.trans s5).trans sl, upd_same, rz.imp fun x r h => h.same sl⟩
    · obtain ⟨y2, y3, y4, y5, b, ys, rfl, s3, eb, rb⟩ := hP
      rw [hdn] at rb
      exact ⟨_, rfl, q _ _ _ s3 eb rb⟩
end
end K60
namespace K60
open PySem PySem.Spec PyProof.Rows GenW L2 G6
def prodM (rows : List (List Nat)) : Nat → List (List (List Nat))
  | 0 => [[]]
  | k + 1 => (prodM rows k).flatMap fun im => rows.map fun r => im ++ [r]
theorem prod_len (rows : List (List Nat)) : ∀ k, (prodM rows k).length = rows.length ^ k
  | 0 => rfl
  | k + 1 => by
    have key : ∀ l : List (List (List Nat)), (l.flatMap fun im => rows.map fun r => im ++ [r]).length = l.length * rows.length := by
      intro l
      induction l with
      | nil => simp
      | cons a l ih => rw [List.flatMap_cons, List.length_append, ih, List.length_map, List.length_cons, Nat.add_mul, Nat.one_mul]; omega
    show ((prodM rows k).flatMap _).length = _
    rw [key, prod_len rows k, Nat.pow_succ]
theorem prod_mem (rows : List (List Nat)) : ∀ k im, im ∈ prodM rows k → im.length = k ∧ ∀ r ∈ im, r ∈ rows
  | 0, im, h => by
    rw [List.mem_singleton.mp h]
    exact ⟨rfl, fun r hr => by simp at hr⟩
  | k + 1, im, h => by
    obtain ⟨z, hz, hm⟩ := List.mem_flatMap.mp h
    obtain ⟨r, hr, rfl⟩ := List.mem_map.mp hm
    obtain ⟨h1, h2⟩ := prod_mem rows k z hz
    refine ⟨by rw [List.length_append, h1]; rfl, fun x hx => ?_⟩
    rcases List.mem_append.mp hx with q | q
    · exact h2 x q
    · rw [List.mem_singleton.mp q]; exact hr
def lawAllM (d cnt : Nat) (rels : List (List Int)) : List (List (List Nat)) := (prodM (arrM d) cnt).filter (lawFul rels)
theorem arr_perm : ∀ d, d < 4 → ∀ r ∈ arrM d, (r.length = d ∧ ∀ p ∈ r, p < d) ∧ ∀ p, p < d → p ∈ r := by decide
theorem up_tup {H : Hp} {D : Addr} {xs ys : List V} {x : V} {r : List (List Nat)} (e : H D = some (.lst xs)) (h : TupOf RowZ H x r) : TupOf RowZ (upd H D (.lst ys)) x r := by
  obtain ⟨a, zs, rfl, ea, rr⟩ := h
  refine ⟨a, zs, rfl, ?_, rr.imp fun x r h => up_rowZ e h⟩
  rw [upd_ne (ne_of ea e (by intro z; cases z))]
  exact ea
theorem tup_same {H H' : Hp} {v : V} {r : List (List Nat)} (h : TupOf RowZ H v r) (s : Same H H') : TupOf RowZ H' v r := h.same (fun _ _ q => q.same s) s
theorem pow_small {L k : Nat} (h1 : L ≤ 6) (h2 : k ≤ 3) : L ^ k ≤ 216 := Nat.le_trans (Nat.pow_le_pow_left h1 k) (by
  rcases k with _ | _ | _ | _ | k <;> first | decide | omega)
abbrev sLAl : Stmt := topS 28
abbrev nLAl : List Str := ["_law_group_here", "_law_degree", "_law_rows_here", "_law_found", "_law_k", "_law_longer", "_law_images", "_law_row"]
theorem scLAl : FnScope nLAl ["_law_group_here", "_law_degree"] (defScope sLAl) := ⟨rfl, rfl, rfl, by decide +kernel, rfl, by decide +kernel, by decide +kernel⟩
section
variable {P : Program} {w : World} {K : PySem.W.Frag} {mg : Str → Option Value} {base : Heap}
def spLAl : Sp := fun vs H Q _ => ∃ v rels, ∃ c d : Nat, vs = [v, .int (d : Int)] ∧ GrpAt H v (c : Int) rels ∧ Small rels ∧ isGrp (c : Int) rels = true ∧ c ≤ 3 ∧ d < 4 ∧ ∀ H' b ys, Same H H' → H' b = some (.lst ys) → AllR (TupOf RowZ H') ys (lawAllM d c rels) → Q (.ref b) H'
theorem ok_lal {f fR fF : Addr} {fd fdR fdF : FuncData} {k : Nat} (F : Fun K "_law_all" "_law_all" sLAl f fd) (FR : Fun K "_law_rows" "_law_rows" sLRo fR fdR) (bR : Binds K fdR ["_law_degree"] []) (gR : mg "_law_rows" = some (.ref fR)) (GR : FnOk P w K mg base CX0 k fR fdR ["_law_degree"] spLRo)
    (FF : Fun K "_law_fulfils" "_law_fulfils" sLFu fF fdF) (bF : Binds K fdF ["_law_group_here", "_law_images"] []) (gF : mg "_law_fulfils" = some (.ref fF)) (GF : FnOk P w K mg base CX0 k fF fdF ["_law_group_here", "_law_images"] spLFu)
    (mr : mg "range" = none) (mi : mg "list" = none) : FnOk P w K mg base CX0 (k + 1) f fd ["_law_group_here", "_law_degree"] spLAl := by
  refine F.ok scLAl (fun vs H Q E h => ?_) (fun cdv A outer s H vs Q E hr h => ?_)
  · obtain ⟨v, rels, c, d, rfl, _⟩ := h
    rfl
  · obtain ⟨v, rels, c, d, rfl, hg, hsm, hG, hc3, hd, q⟩ := h
    have hc1 : 1 ≤ c := by
      unfold isGrp at hG
      rw [Bool.and_eq_true] at hG
      have := of_decide_eq_true hG.1
      omega
    refine ⟨_, pss_cons (ps_set (i := 2) scLAl.nd rfl (.inl rfl) (pe_call GR hr (by rfl) gR FR.kp bR .nil pass0 (pa_cons (pv 1) pa_nil)))
      (pss_cons (ps_set (i := 3) scLAl.nd rfl (.inl rfl) (pe_lst (pa_cons (pe_tup pa_nil) pa_nil)))
      (pss_cons (ps_for PassesOwn.never rfl (pi_range1 (by rfl) mr (pa_cons (pe_ix ix_tup (pv 0) pe_int (fun _ _ => rfl)) pa_nil)) (pg_name (i := 4) scLAl.nd rfl (.inl rfl))
        (pss_cons (ps_set (i := 5) scLAl.nd rfl (.inl rfl) (pe_lst pa_nil))
        (pss_cons (ps_for PassesOwn.never rfl (pi_list (pv 3)) (pg_name (i := 6) scLAl.nd rfl (.inr rfl))
          (pss_one (ps_set (i := 5) scLAl.nd rfl (.inl rfl) (pe_op op_cat (pv 5) (pe_lc (own := [("_law_row", 7)]) (g := gName 7) (tt := tYes) (te := tOp (rCat0 K) (tVar 6) (tTup (tCons (tVar 7) tNil))) rfl scLAl.nd (pi_list (pv 2)) (blkOk_by (N := nLAl) (sc := defScope sLAl) (by decide +kernel))
            (fun _ _ _ _ _ => pg_name (i := 7) scLAl.nd rfl (Or.inl rfl)) (fun _ _ _ _ _ => pts_nil) (fun _ _ _ _ _ => pe_op op_cat0 (pv 6) (pe_tup (pa_cons (pv 7) pa_nil))))))))
        (pss_one (ps_set (i := 3) scLAl.nd rfl (.inl rfl) (pe_callTy call_list_of (by rfl) mi (by decide +kernel) (pa_cons (pv 5) pa_nil)))))))
      (pss_one (ps_ret (pe_lc (own := [("_law_images", 6)]) (g := gName 6) (te := tVar 6) (tt := tB (tCall spLFu [] E0 (tCons (tVar 0) (tCons (tVar 6) tNil)))) rfl scLAl.nd (pi_list (pv 3)) (blkOk_by (N := nLAl) (sc := defScope sLAl) (by decide +kernel))
        (fun _ _ _ _ _ => pg_name (i := 6) scLAl.nd rfl (Or.inl rfl)) (fun _ _ _ _ _ => pts_one (pt_val (pe_call GF hr (by rfl) gF FF.kp bF .nil pass0 (pa_cons (pv 0) (pa_cons (pv 6) pa_nil))))) (fun _ _ _ _ _ => pv 6)))))), ?_⟩
    -- rows
    refine ⟨_, rfl, d, rfl, hd, fun H1 rb ys s1 erb ryb => ?_⟩
    have hL6 := arr_len d hd
    -- found = [()]
    refine ⟨Nat.zero_le _, fun t nt => ⟨Nat.le_of_lt (sz_small (n := 1) (by decide)), fun l nl => ?_⟩⟩
    have st := same_upd (o := .tup []) nt
    have sl : Same (upd H1 t (.tup [])) (upd (upd H1 t (.tup [])) l (.lst [.ref t])) := same_upd nl
    have rt : TupOf RowZ (upd (upd H1 t (.tup [])) l (.lst [.ref t])) (.ref t) [] := ⟨t, [], rfl, sl _ _ upd_same, AllR.nil⟩
    obtain ⟨ag, bg, rfl, eag, tbg⟩ := id hg
    have s0l : Same H (upd (upd H1 t (.tup [])) l (.lst [.ref t])) := (s1.trans st).trans sl
    have hcn : ((c : Nat) : Int).toNat = c := by omega
    refine ⟨_, rfl, ag, _, 0, .int (c : Int), rfl, rfl, .inl (.inl (s0l _ _ eag)), atI_of (n := 0) rfl rfl, (c : Int), rfl, by omega, by omega, for_it walk_range (fun i σ H3 => ∃ y4 y5 y6 y7 b zs, σ = [some (.ref ag), some (.int (d : Int)), some (.ref rb), some (.ref b), y4, y5, y6, y7] ∧ Same H H3 ∧ H3 rb = some (.lst ys) ∧ AllR (RowZ H3) ys (arrM d) ∧ H3 b = some (.lst zs) ∧ AllR (TupOf RowZ H3) zs (prodM (arrM d) i))
      ⟨none, none, none, none, l, [.ref t], rfl, s0l, sl _ _ (st _ _ erb), ryb.imp fun x r h => (h.same st).same sl, upd_same, AllR.nil.snoc rt⟩ (fun _ _ _ _ _ => trivial) (fun i x σ H3 H4 hi hP hY => ?_) fun σ H3 hP => ?_⟩
    · obtain ⟨y4, y5, y6, y7, b, zs, rfl, s3, erb3, ryb3, eb, rz⟩ := hP
      obtain ⟨rfl, hxi⟩ := hY
      rw [hcn] at hi
      have hlen : (prodM (arrM d) i).length ≤ 216 := by rw [prod_len]; exact pow_small hL6 (by omega)
      refine ⟨Nat.zero_le _, fun g0 ng0 => ?_⟩
      have sg := same_upd (o := .lst []) ng0
      refine ⟨_, rfl, b, rfl, ⟨_, .inl (.inl (sg _ _ eb))⟩, for_it (walk_list (xs := zs)) (fun j σ H5 => ∃ y6 y7 g ns, σ = [some (.ref ag), some (.int (d : Int)), some (.ref rb), some (.ref b), some x, some (.ref g), y6, y7] ∧ Same H4 H5 ∧ H5 g = some (.lst ns) ∧ AllR (TupOf RowZ H5) ns (((prodM (arrM d) i).take j).flatMap fun im => (arrM d).map fun r => im ++ [r]))
        ⟨y6, y7, g0, [], rfl, sg, upd_same, by simpa using AllR.nil⟩ (fun j σ H5 _ h => ?_) (fun j x2 σ H5 H6 hj hP hY => ?_) fun σ H5 hP => ?_⟩
      · obtain ⟨_, _, _, _, _, s5, _⟩ := h
        exact .inl (.inl (s5 _ _ eb))
      · obtain ⟨y6, y7, g, ns, rfl, s5, eg, rn⟩ := hP
        obtain ⟨rfl, hx⟩ := hY
        obtain ⟨im, hi1, him⟩ := rz.item hx
        have hmem : im ∈ prodM (arrM d) i := List.mem_of_getElem? hi1
        have him6 := tup_same him s5
        obtain ⟨ai, xi, rfl, eai, rai⟩ := id him6
        have imlen := (prod_mem _ _ _ hmem).1
        refine ⟨_, rfl, _, rfl, rb, rfl, ⟨_, .inl (.inl (s5 _ _ erb3))⟩, fun D nD => ?_⟩
        refine lc_it (walk_list (xs := ys)) (fun m H7 => Same H6 H7 ∧ ∃ ms, H7 D = some (.lst ms) ∧ AllR (TupOf RowZ H7) ms (((arrM d).take m).map fun r => im ++ [r])) ⟨same_upd nD, [], upd_same, by simpa using AllR.nil⟩ (fun m H7 _ h => .inl (.inl (h.1 _ _ (s5 _ _ erb3)))) (fun m x3 H7 H8 hm hP hY => ?_) fun H7 hP => ?_
        · obtain ⟨s7, ms, eD, rm⟩ := hP
          obtain ⟨rfl, hx3⟩ := hY
          obtain ⟨r, hr1, hrow⟩ := ryb3.item hx3
          have hrow8 := (hrow.same s5).same s7
          have eai8 := s7 _ _ eai
          have rai8 := rai.imp fun x r h => h.same s7
          have tk : ((arrM d).take (m + 1)).map (fun r => im ++ [r]) = ((arrM d).take m).map (fun r => im ++ [r]) ++ [im ++ [r]] := by
            rw [List.take_add_one, hr1, List.map_append]; rfl
          have szm : ms.length < sizeLine := by
            rw [rm.1, List.length_map, List.length_take]
            exact sz_small (by omega)
          refine ⟨rfl, _, rfl, _, rfl, Nat.le_of_lt (sz_small (n := 1) (by decide)), fun p np => ?_⟩
          have sp : Same H8 (upd H8 p (.tup [x3])) := same_upd np
          refine ⟨ai, p, xi, [x3], rfl, rfl, .inl (.inl (sp _ _ eai8)), .inl (.inl upd_same), ?_, fun hr0 => ?_, fun _ z => List.cons_ne_nil _ _ z, fun hr0 p2 np2 => ?_⟩
          · rw [rai.1, imlen]
            exact Nat.le_of_lt (sz_small (by simp; omega))
          · have er : im = [] := List.length_eq_zero_iff.mp (by rw [← rai.1, hr0]; rfl)
            refine ⟨ms, sp _ _ eD, szm, same_put (s7.trans sp) nD, _, upd_same, ?_⟩
            rw [tk]
            refine (rm.imp fun x r h => up_tup (sp _ _ eD) (tup_same h sp)).snoc (up_tup (sp _ _ eD) ⟨p, [x3], rfl, upd_same, ?_⟩)
            rw [er]
            exact AllR.nil.snoc (hrow8.same sp)
          · have sp2 : Same (upd H8 p (.tup [x3])) (upd (upd H8 p (.tup [x3])) p2 (.tup (xi ++ [x3]))) := same_upd np2
            have eDD := sp2 _ _ (sp _ _ eD)
            refine ⟨ms, eDD, szm, same_put ((s7.trans sp).trans sp2) nD, _, upd_same, ?_⟩
            rw [tk]
            refine (rm.imp fun x r h => up_tup eDD (tup_same (tup_same h sp) sp2)).snoc (up_tup eDD ⟨p2, _, rfl, upd_same, ?_⟩)
            exact (rai8.imp fun x r h => (h.same sp).same sp2).snoc ((hrow8.same sp).same sp2)
        · obtain ⟨s7, ms, eD, rm⟩ := hP
          rw [ryb3.1, List.take_length] at rm
          have eg7 := s7 _ _ eg
          refine ⟨g, D, ns, ms, rfl, rfl, eg7, eD, ?_, fun p np => ?_⟩
          · have t1 := flat_le (f := fun im : List (List Nat) => (arrM d).map fun r => im ++ [r]) (c := 6) (fun im => by rw [List.length_map]; exact hL6) ((prodM (arrM d) i).take j)
            rw [List.length_take] at t1
            rw [rn.1, rm.1, List.length_map]
            exact Nat.le_of_lt (sz_small (by omega))
          · have sp := same_upd (o := .lst (ns ++ ms)) np
            refine ⟨_, _, p, _, rfl, (s5.trans s7).trans sp, upd_same, ?_⟩
            rw [List.take_add_one, hi1, List.flatMap_append, Option.toList_some]
            have e1 : ([im] : List (List (List Nat))).flatMap (fun im => (arrM d).map fun r => im ++ [r]) = (arrM d).map fun r => im ++ [r] := by simp
            rw [e1]
            exact (rn.imp fun x r h => tup_same (tup_same h s7) sp).append (rm.imp fun x r h => tup_same h sp)
      · obtain ⟨y6, y7, g, ns, rfl, s5, eg, rn⟩ := hP
        rw [rz.1, List.take_length] at rn
        refine ⟨_, rfl, g, ns, rfl, .inl (.inl (.inl eg)), fun l2 nl2 => ?_⟩
        have sl2 := same_upd (o := .lst ns) nl2
        exact ⟨_, _, _, _, l2, ns, rfl, (s3.trans s5).trans sl2, sl2 _ _ (s5 _ _ erb3), ryb3.imp fun x r h => (h.same s5).same sl2, upd_same, rn.imp fun x r h => tup_same h sl2⟩
    · obtain ⟨y4, y5, y6, y7, b, zs, rfl, s3, erb3, ryb3, eb, rz⟩ := hP
      rw [hcn] at rz
      have hlen : (prodM (arrM d) c).length ≤ 216 := by rw [prod_len]; exact pow_small hL6 hc3
      refine ⟨_, rfl, b, rfl, ⟨_, .inl (.inl eb)⟩, fun D nD => ?_⟩
      refine lc_it (walk_list (xs := zs)) (fun j H5 => Same H3 H5 ∧ ∃ ms, H5 D = some (.lst ms) ∧ AllR (TupOf RowZ H5) ms (((prodM (arrM d) c).take j).filter (lawFul rels))) ⟨same_upd nD, [], upd_same, by simpa using AllR.nil⟩ (fun j H5 _ h => .inl (.inl (h.1 _ _ eb))) (fun j x2 H5 H6 hj hP hY => ?_) fun H5 hP => ?_
      · obtain ⟨s5, ms, eD, rm⟩ := hP
        obtain ⟨rfl, hx⟩ := hY
        obtain ⟨im, hi1, him⟩ := rz.item hx
        have hmem : im ∈ prodM (arrM d) c := List.mem_of_getElem? hi1
        obtain ⟨m1, m2⟩ := prod_mem _ _ _ hmem
        have tk : ((prodM (arrM d) c).take (j + 1)).filter (lawFul rels) = ((prodM (arrM d) c).take j).filter (lawFul rels) ++ (if lawFul rels im = true then [im] else []) := by
          rw [List.take_add_one, hi1, List.filter_append]
          cases h : lawFul rels im <;> simp [h]
        refine ⟨rfl, _, rfl, _, rfl, _, _, (c : Int), rels, im, d, rfl, hg.same (s3.trans s5), hsm, tup_same him s5, fun z => by rw [z] at m1; simp at m1; omega, ⟨fun r hr => (arr_perm d hd r (m2 r hr)).1, fun r hr => (arr_perm d hd r (m2 r hr)).2⟩, by omega, fun wd hw l hl => ?_, fun H7 s7 => ?_⟩
        · rw [m1]
          exact grp_letters hG wd hw l hl
        · refine ⟨_, rfl, ?_⟩
          have eD7 := s7 _ _ eD
          refine ite2 (fun c1 => ?_) fun c1 => ?_
          · rw [if_pos c1] at tk
            refine ⟨_, rfl, ms, eD7, ?_, same_put (s5.trans s7) nD, _, upd_same, ?_⟩
            · have := List.length_filter_le (lawFul rels) ((prodM (arrM d) c).take j)
              rw [List.length_take] at this
              rw [rm.1]
              exact sz_small (by omega)
            · rw [tk]
              exact (rm.imp fun x r h => up_tup eD7 (tup_same h s7)).snoc (up_tup eD7 (tup_same him (s5.trans s7)))
          · rw [if_neg c1, List.append_nil] at tk
            rw [tk]
            exact ⟨s5.trans s7, ms, eD7, rm.imp fun x r h => tup_same h s7⟩
      · obtain ⟨s5, ms, eD, rm⟩ := hP
        rw [rz.1, List.take_length] at rm
        exact q _ D ms (s3.trans s5) eD rm
end
end K60
namespace K60
open PySem PySem.Spec PyProof.Rows GenW L2 G6
abbrev sGrp : Stmt := topS 25
abbrev nGrp : List Str := ["_law_draws_here", "_law_count", "_law_relators", "_law_k", "_law_word", "_law_at", "_law_draw"]
theorem scGrp : FnScope nGrp ["_law_draws_here"] (defScope sGrp) := ⟨rfl, rfl, rfl, by decide +kernel, rfl, by decide +kernel, by decide +kernel⟩
section
variable {P : Program} {w : World} {K : PySem.W.Frag} {mg : Str → Option Value} {base : Heap}
/-- what stands but for the draws -/
def SameB (a : Addr) (H H' : Hp) : Prop := ∀ b o, b ≠ a → H b = some o → H' b = some o
theorem SameB.trans {a : Addr} {H H1 H2 : Hp} (s : SameB a H H1) (t : SameB a H1 H2) : SameB a H H2 := fun b o n h => t b o n (s b o n h)
theorem SameB.of {a : Addr} {H H' : Hp} (s : Same H H') : SameB a H H' := fun b o _ h => s b o h
theorem SameB.upd {a : Addr} {H : Hp} {o : HO} : SameB a H (upd H a o) := fun b x n h => by rw [upd_ne n]; exact h
theorem SameB.put {a b : Addr} {H H' : Hp} {o : HO} (s : SameB a H H') (h : H b = none) : SameB a H (L2.upd H' b o) := fun x z n e => by
  rw [upd_ne (ne_of_none e h)]
  exact s x z n e
theorem word_sb {a : Addr} {H H' : Hp} {v : V} {wd : List Int} {xs : List V} (h : WordAt H v wd) (e : H a = some (.lst xs)) (s : SameB a H H') : WordAt H' v wd := by
  obtain ⟨b, rfl, eb⟩ := h
  exact ⟨b, rfl, s _ _ (ne_of eb e (by intro z; cases z)) eb⟩
theorem letter_ok (c : Nat) (n : Nat) (hc : 1 ≤ c) : okLetter (c : Int) ((1 + (n : Int) / 2 % (c : Int)) * (1 - 2 * ((n : Int) % 2))) = true := by
  have h1 : 0 ≤ (n : Int) / 2 % (c : Int) := Int.emod_nonneg _ (by omega)
  have h2 : (n : Int) / 2 % (c : Int) < c := Int.emod_lt_of_pos _ (by omega)
  generalize (n : Int) / 2 % (c : Int) = t at h1 h2
  have h3 : (n : Int) % 2 = 0 ∨ (n : Int) % 2 = 1 := by omega
  unfold okLetter
  rcases h3 with h3 | h3
  · rw [h3]
    have e : (1 + t) * (1 - 2 * 0) = 1 + t := by omega
    rw [e, decide_eq_true (by omega), Bool.true_and]
    refine decide_eq_true ?_
    rw [if_neg (by omega)]
    omega
  · rw [h3]
    have e : (1 + t) * (1 - 2 * 1) = -(1 + t) := by omega
    rw [e, decide_eq_true (by omega), Bool.true_and]
    refine decide_eq_true ?_
    rw [if_pos (by omega)]
    omega
def Good (c : Int) (rels : List (List Int)) : Prop := rels.length ≤ 3 ∧ ∀ wd ∈ rels, wd.length ≤ 5 ∧ ∀ l ∈ wd, okLetter c l = true
def spGrp : Sp := fun vs H Q _ => ∃ a r, vs = [.ref a] ∧ H a = some (.lst (rowV r)) ∧ ∀ H' v (c : Nat) rels r', SameB a H H' → H' a = some (.lst (rowV r')) → GrpAt H' v (c : Int) rels → 1 ≤ c → c ≤ 3 → Good (c : Int) rels → Q v H'
theorem ok_grp {f fN : Addr} {fd fdN : FuncData} {k : Nat} (F : Fun K "_law_group" "_law_group" sGrp f fd) (FN : Fun K "_law_next" "_law_next" sNxt fN fdN) (bN : Binds K fdN ["_law_draws_here"] []) (gN : mg "_law_next" = some (.ref fN)) (GN : FnOk P w K mg base CX0 k fN fdN ["_law_draws_here"] spNxt) (mr : mg "range" = none) (mi : mg "int" = none) (mt : mg "tuple" = none) :
    FnOk P w K mg base CX0 (k + 1) f fd ["_law_draws_here"] spGrp := by
  refine F.ok scGrp (fun vs H Q E h => ?_) (fun cdv A outer s H vs Q E hr h => ?_)
  · obtain ⟨a, r, rfl, _⟩ := h
    rfl
  · obtain ⟨a, r, rfl, ea, q⟩ := h
    refine ⟨_, pss_cons (ps_set (i := 1) scGrp.nd rfl (.inl rfl) (pe_op op_add pe_int (pe_op op_mod (pe_callTy call_int1 (by rfl) mi (by decide +kernel) (pa_cons (pe_call GN hr (by rfl) gN FN.kp bN .nil pass0 (pa_cons (pv 0) pa_nil)) pa_nil)) pe_int)))
      (pss_cons (ps_set (i := 2) scGrp.nd rfl (.inl rfl) (pe_lst pa_nil))
      (pss_cons (ps_for PassesOwn.never rfl (pi_range1 (by rfl) mr (pa_cons (pe_op op_mod (pe_callTy call_int1 (by rfl) mi (by decide +kernel) (pa_cons (pe_call GN hr (by rfl) gN FN.kp bN .nil pass0 (pa_cons (pv 0) pa_nil)) pa_nil)) pe_int) pa_nil)) (pg_name (i := 3) scGrp.nd rfl (.inl rfl))
        (pss_cons (ps_set (i := 4) scGrp.nd rfl (.inl rfl) (pe_lst pa_nil))
        (pss_cons (ps_for PassesOwn.never rfl (pi_range1 (by rfl) mr (pa_cons (pe_op op_mod (pe_callTy call_int1 (by rfl) mi (by decide +kernel) (pa_cons (pe_call GN hr (by rfl) gN FN.kp bN .nil pass0 (pa_cons (pv 0) pa_nil)) pa_nil)) pe_int) pa_nil)) (pg_name (i := 5) scGrp.nd rfl (.inl rfl))
          (pss_cons (ps_set (i := 6) scGrp.nd rfl (.inl rfl) (pe_callTy call_int1 (by rfl) mi (by decide +kernel) (pa_cons (pe_call GN hr (by rfl) gN FN.kp bN .nil pass0 (pa_cons (pv 0) pa_nil)) pa_nil)))
          (pss_one (ps_expr (pe_bm PySem.F.plainAttrs_list PySem.F.slot_list_append PySem.F.type_list_append mt_append (pv 4) (pa_cons (pe_op op_mul (pe_op op_add pe_int (pe_op op_mod (pe_op op_fdiv (pv 6) pe_int) (pv 1))) (pe_op op_sub pe_int (pe_op op_mul pe_int (pe_op op_mod (pv 6) pe_int)))) pa_nil))))))
        (pss_one (ps_expr (pe_bm PySem.F.plainAttrs_list PySem.F.slot_list_append PySem.F.type_list_append mt_append (pv 2) (pa_cons (pe_tupleOf (by rfl) mt (pv 4)) pa_nil)))))))
      (pss_one (ps_ret (pe_tup (pa_cons (pv 1) (pa_cons (pe_tupleOf (by rfl) mt (pv 2)) pa_nil))))))), ?_⟩
    -- the count
    refine ⟨_, rfl, a, r, rfl, ea, fun n1 r1 => ?_⟩
    refine .inl ⟨_, rfl, _, _, rfl, rfl, (by decide : (0 : Int) < 3), _, _, rfl, rfl, ?_⟩
    obtain ⟨c, hc⟩ : ∃ c : Nat, c = 1 + n1 % 3 := ⟨_, rfl⟩
    have ec : (1 : Int) + (n1 : Int) % 3 = (c : Int) := by omega
    have hc1 : 1 ≤ c := by omega
    have hc3 : c ≤ 3 := by omega
    dsimp only
    rw [ec]
    have s1 : SameB a H (upd H a (.lst (rowV r1))) := SameB.upd
    -- relators = []
    refine ⟨Nat.zero_le _, fun b nb => ?_⟩
    have hba : b ≠ a := fun z => by rw [z, upd_same] at nb; cases nb
    have nbH : H b = none := by rw [upd_ne hba] at nb; exact nb
    have s2 : SameB a H (upd (upd H a (.lst (rowV r1))) b (.lst [])) := s1.put nbH
    have ea2 : (upd (upd H a (.lst (rowV r1))) b (.lst [])) a = some (.lst (rowV r1)) := by rw [upd_ne (Ne.symm hba), upd_same]
    -- how many
    refine ⟨_, rfl, a, r1, rfl, ea2, fun n2 r2 => ?_⟩
    refine .inl ⟨_, rfl, _, _, rfl, rfl, (by decide : (0 : Int) < 4), (n2 : Int) % 4, rfl, by omega, by omega, ?_⟩
    have hn2 : ((n2 : Int) % 4).toNat ≤ 3 := by omega
    refine for_it walk_range (fun i σ H3 => ∃ y3 y4 y5 y6 zs rels r, σ = [some (.ref a), some (.int (c : Int)), some (.ref b), y3, y4, y5, y6] ∧ SameB a H H3 ∧ H3 a = some (.lst (rowV r)) ∧ H3 b = some (.lst zs) ∧ AllR (WordAt H3) zs rels ∧ rels.length = i ∧ ∀ wd ∈ rels, wd.length ≤ 5 ∧ ∀ l ∈ wd, okLetter (c : Int) l = true)
      ⟨none, none, none, none, [], [], r2, rfl, s2.trans SameB.upd, upd_same, by rw [upd_ne hba, upd_same], AllR.nil, rfl, fun wd hw => by simp at hw⟩ (fun _ _ _ _ _ => trivial) (fun i x σ H3 H4 hi hP hY => ?_) fun σ H3 hP => ?_
    · obtain ⟨y3, y4, y5, y6, zs, rels, r3, rfl, s3, ea3, eb3, rz, hl, hg⟩ := hP
      obtain ⟨rfl, hxi⟩ := hY
      -- word = []
      refine ⟨Nat.zero_le _, fun g ng => ?_⟩
      have hga : g ≠ a := fun z => by rw [z, ea3] at ng; cases ng
      have hgb : g ≠ b := fun z => by rw [z, eb3] at ng; cases ng
      have ngH : H g = none := by
        cases z : H g with
        | none => rfl
        | some o => rw [s3 g o hga z] at ng; cases ng
      have sg : Same H4 (upd H4 g (.lst [])) := same_upd ng
      refine ⟨_, rfl, a, r3, rfl, sg _ _ ea3, fun n4 r4 => ?_⟩
      refine .inl ⟨_, rfl, _, _, rfl, rfl, (by decide : (0 : Int) < 6), (n4 : Int) % 6, rfl, by omega, by omega, ?_⟩
      have hn4 : ((n4 : Int) % 6).toNat ≤ 5 := by omega
      have sga : SameB a (upd H4 g (.lst [])) (upd (upd H4 g (.lst [])) a (.lst (rowV r4))) := SameB.upd
      refine for_it walk_range (fun j σ H5 => ∃ y5 y6 wd r, σ = [some (.ref a), some (.int (c : Int)), some (.ref b), some x, some (.ref g), y5, y6] ∧ SameB a H H5 ∧ H5 a = some (.lst (rowV r)) ∧ H5 b = some (.lst zs) ∧ H5 g = some (.lst (wd.map V.int)) ∧ AllR (WordAt H5) zs rels ∧ wd.length = j ∧ ∀ l ∈ wd, okLetter (c : Int) l = true)
        ⟨y5, y6, [], r4, rfl, (s3.put ngH).trans SameB.upd, upd_same, by rw [upd_ne hba, upd_ne (Ne.symm hgb)]; exact eb3, by rw [upd_ne hga, upd_same]; rfl, rz.imp fun x r h => word_sb (h.same sg) (sg _ _ ea3) sga, rfl, fun l hl => by simp at hl⟩ (fun _ _ _ _ _ => trivial) (fun j x4 σ H5 H6 hj hP hY => ?_) fun σ H5 hP => ?_
      · obtain ⟨y5, y6, wd, r5, rfl, s5, ea5, eb5, eg5, rz5, hwl, hwo⟩ := hP
        obtain ⟨rfl, hxj⟩ := hY
        -- a draw
        refine ⟨_, rfl, a, r5, rfl, ea5, fun n6 r6 => ?_⟩
        refine .inl ⟨_, rfl, ?_⟩
        have sb : SameB a H6 (upd H6 a (.lst (rowV r6))) := SameB.upd
        have eg6 := sb _ _ hga eg5
        have eb6 := sb _ _ hba eb5
        have ht1 : 0 ≤ (n6 : Int) / 2 % (c : Int) := Int.emod_nonneg _ (by omega)
        have ht2 : (n6 : Int) / 2 % (c : Int) < c := Int.emod_lt_of_pos _ (by omega)
        have hlo := letter_ok c n6 hc1
        refine ⟨_, rfl, .inl ⟨rfl, _, .inl (.inl eg6)⟩, _, rfl, _, _, rfl, rfl, ⟨by decide, by decide⟩, _, rfl, _, _, rfl, rfl, (show (0 : Int) < (c : Int) by omega), _, _, rfl, rfl, ?_⟩
        refine ⟨_, rfl, _, _, rfl, rfl, (by decide : (0 : Int) < 2), _, _, rfl, rfl, .inl ⟨by decide, by decide⟩, _, _, rfl, rfl, _, _, rfl, rfl, .inl ⟨?_, ?_⟩, ?_⟩
        · omega
        · omega
        refine ⟨g, _, _, rfl, rfl, eg6, ?_, ?_⟩
        · rw [List.length_map, hwl]
          have : j < ((n4 : Int) % 6).toNat := hj
          exact sz_small (by omega)
        · refine ⟨_, _, wd ++ [(1 + (n6 : Int) / 2 % (c : Int)) * (1 - 2 * ((n6 : Int) % 2))], r6, rfl, (s5.trans sb).put ngH, ?_, ?_, ?_, ?_, by simp [hwl], fun l hl => ?_⟩
          · rw [upd_ne (Ne.symm hga), upd_same]
          · rw [upd_ne (Ne.symm hgb)]; exact eb6
          · rw [upd_same, List.map_append]; rfl
          · exact rz5.imp fun x r h => up_word eg6 (word_sb h ea5 sb)
          · rcases List.mem_append.mp hl with z | z
            · exact hwo l z
            · rw [List.mem_singleton.mp z]; exact hlo
      · obtain ⟨y5, y6, wd, r5, rfl, s5, ea5, eb5, eg5, rz5, hwl, hwo⟩ := hP
        -- relators.append(tuple(word))
        refine ⟨_, rfl, .inl ⟨rfl, _, .inl (.inl eb5)⟩, _, rfl, .inl ⟨g, _, rfl, .inl (.inl eg5), fun t nt => ?_⟩⟩
        have st : Same H5 (upd H5 t (.tup (wd.map V.int))) := same_upd nt
        have eb7 := st _ _ eb5
        refine ⟨b, zs, .ref t, rfl, rfl, eb7, ?_, ?_⟩
        · rw [rz5.1, hl]
          have : i < ((n2 : Int) % 4).toNat := hi
          exact sz_small (by omega)
        · refine ⟨_, _, _, _, zs ++ [.ref t], rels ++ [wd], r5, rfl, (s5.trans (SameB.of st)).put nbH, ?_, upd_same, ?_, by simp [hl], fun w hw => ?_⟩
          · rw [upd_ne (Ne.symm hba)]; exact st _ _ ea5
          · exact (rz5.imp fun x r h => up_word eb7 (h.same st)).snoc (up_word eb7 ⟨t, rfl, upd_same⟩)
          · rcases List.mem_append.mp hw with z | z
            · exact hg w z
            · rw [List.mem_singleton.mp z]
              exact ⟨by omega, hwo⟩
    · obtain ⟨y3, y4, y5, y6, zs, rels, r3, rfl, s3, ea3, eb3, rz, hl, hg⟩ := hP
      -- return (count, tuple(relators))
      refine ⟨_, rfl, _, rfl, .inl ⟨b, zs, rfl, .inl (.inl eb3), fun t nt => ⟨Nat.le_of_lt (sz_small (n := 2) (by decide)), fun u nu => ?_⟩⟩⟩
      have st : Same H3 (upd H3 t (.tup zs)) := same_upd nt
      have su := same_upd (o := .tup [.int (c : Int), .ref t]) nu
      refine q _ _ c rels r3 (s3.trans (SameB.of (st.trans su))) (su _ _ (st _ _ ea3)) ⟨u, t, rfl, upd_same, ⟨t, zs, rfl, su _ _ upd_same, rz.imp fun x r h => (h.same st).same su⟩⟩ hc1 hc3 ⟨by omega, hg⟩
end
end K60
namespace K60
/-! ### the search finds what trying all finds -/
def ext (rows : List (List Nat)) : Nat → List (List Nat) → List (List (List Nat))
  | 0, im => [im]
  | k + 1, im => rows.flatMap fun r => ext rows k (im ++ [r])
theorem prod_ext (rows : List (List Nat)) : ∀ k j, (prodM rows k).flatMap (ext rows j) = ext rows (k + j) []
  | 0, j => by simp [prodM]
  | k + 1, j => by
    have h : (prodM rows (k + 1)).flatMap (ext rows j) = (prodM rows k).flatMap (ext rows (j + 1)) := by
      show ((prodM rows k).flatMap fun im => rows.map fun r => im ++ [r]).flatMap (ext rows j) = _
      rw [List.flatMap_assoc]
      congr 1
      funext im
      rw [List.flatMap_map]
      rfl
    rw [h, prod_ext rows k (j + 1)]
    congr 1
    omega
theorem prod_is (rows : List (List Nat)) (k : Nat) : prodM rows k = ext rows k [] := by
  have h := prod_ext rows k 0
  rw [Nat.add_zero] at h
  rw [← h]
  have e : ext rows 0 = fun im => [im] := by funext im; rfl
  rw [e]
  simp
theorem ext_pre (rows : List (List Nat)) : ∀ k im x, x ∈ ext rows k im → ∃ z, x = im ++ z
  | 0, im, x, h => ⟨[], by rw [List.mem_singleton.mp h]; simp⟩
  | k + 1, im, x, h => by
    obtain ⟨r, _, hx⟩ := List.mem_flatMap.mp h
    obtain ⟨z, rfl⟩ := ext_pre rows k _ x hx
    exact ⟨[r] ++ z, by simp⟩
theorem img_snoc (rows : List (List Nat)) (p : List Nat) (r : Nat) : imgOf rows (p ++ [r]) = imgOf rows p ++ [rows.getD r []] := by simp [imgOf]
theorem range_rows {α : Type} (rows : List (List Nat)) (f : List Nat → List α) : ((List.range rows.length).flatMap fun r => f (rows.getD r [])) = rows.flatMap f := by
  have e : (List.range rows.length).map (fun r => rows.getD r []) = rows := by
    apply List.ext_getElem
    · simp
    · intro i h1 h2
      simp [List.getD_eq_getElem?_getD, h2]
  have h : ((List.range rows.length).map fun r => rows.getD r []).flatMap f = rows.flatMap f := by rw [e]
  rw [List.flatMap_map] at h
  exact h
/-- a search that prunes loses nothing -/
theorem sub_is (rows : List (List Nat)) (ok F : List (List Nat) → Bool) (cnt : Nat) (h1 : ∀ im, im.length = cnt → ok im = F im) (h2 : ∀ im z, im ≠ [] → (im ++ z).length = cnt → F (im ++ z) = true → ok im = true) (hlen : ∀ k im x, x ∈ ext rows k im → x.length = im.length + k) :
    ∀ k p, p ≠ [] → p.length + k = cnt → Sub rows ok k p = (ext rows k (imgOf rows p)).filter F
  | 0, p, hp, hl => by
    have e := h1 (imgOf rows p) (by simp [imgOf]; omega)
    simp only [Sub, ext]
    rw [e]
    cases hF : F (imgOf rows p) <;> simp [hF]
  | k + 1, p, hp, hl => by
    have hne : imgOf rows p ≠ [] := by simp [imgOf, hp]
    simp only [Sub]
    cases ho : ok (imgOf rows p) with
    | true =>
      rw [if_pos rfl]
      have e : ∀ r, Sub rows ok k (p ++ [r]) = (ext rows k (imgOf rows p ++ [rows.getD r []])).filter F := fun r => by
        rw [sub_is rows ok F cnt h1 h2 hlen k (p ++ [r]) (by simp) (by simp; omega), img_snoc]
      simp only [e]
      rw [range_rows rows fun row => (ext rows k (imgOf rows p ++ [row])).filter F]
      show _ = (rows.flatMap fun r => ext rows k (imgOf rows p ++ [r])).filter F
      rw [List.filter_flatMap]
    | false =>
      rw [if_neg Bool.false_ne_true]
      symm
      rw [List.filter_eq_nil_iff]
      intro x hx hF
      obtain ⟨z, rfl⟩ := ext_pre rows (k + 1) _ x hx
      have hl2 := hlen (k + 1) _ _ hx
      have hl3 : (imgOf rows p).length = p.length := by simp [imgOf]
      rw [h2 _ z hne (by omega) hF] at ho
      cases ho
theorem ext_len (rows : List (List Nat)) : ∀ k im x, x ∈ ext rows k im → x.length = im.length + k
  | 0, im, x, h => by rw [List.mem_singleton.mp h]; rfl
  | k + 1, im, x, h => by
    obtain ⟨r, _, hx⟩ := List.mem_flatMap.mp h
    have := ext_len rows k _ x hx
    rw [this]; simp; omega
theorem turn_ix : ∀ d, d < 4 → ∀ r ∈ arrM d, ∀ p, p < d → (turnM r).getD p 0 = r.idxOf p := by decide
/-- both ways to move points are one -/
theorem act_same {d : Nat} (hd : d < 4) {im : List (List Nat)} (hr : ∀ r ∈ im, r ∈ arrM d) (hne : im ≠ []) : ∀ wd, Letters im.length wd → actM im (im.map turnM) wd = lawAct im wd := by
  have h0 : (im.headD []).length = d := by
    cases im with
    | nil => exact absurd rfl hne
    | cons r t => exact (arr_ok d hd r (hr r List.mem_cons_self)).1
  have rok : RowsOk d im := fun r h => arr_ok d hd r (hr r h)
  have key : ∀ (wd : List Int) (pts : List Nat), Letters im.length wd → PtsOk d pts → wd.foldl (actStep im (im.map turnM)) pts = wd.foldl (lawStep im) pts := by
    intro wd
    induction wd with
    | nil => intro pts _ _; rfl
    | cons l wd ih =>
      intro pts hL hp
      have hl := hL l List.mem_cons_self
      have e : actStep im (im.map turnM) pts l = lawStep im pts l := by
        unfold actStep lawStep pick
        by_cases c : 0 < l
        · rw [if_pos c, if_pos c]
        · rw [if_neg c, if_neg c]
          refine List.map_congr_left fun p hpm => ?_
          have hlt : (-l - 1).toNat < im.length := by omega
          have e1 : (im.map turnM).getD (-l - 1).toNat [] = turnM im[(-l - 1).toNat] := by
            rw [List.getD_eq_getElem?_getD, List.getElem?_map, List.getElem?_eq_getElem hlt]; rfl
          have e2 : im.getD (-l - 1).toNat [] = im[(-l - 1).toNat] := by
            rw [List.getD_eq_getElem?_getD, List.getElem?_eq_getElem hlt]; rfl
          rw [e1, e2]
          exact turn_ix d hd _ (hr _ (List.getElem_mem hlt)) p (hp.2 p hpm)
      rw [List.foldl_cons, List.foldl_cons, e]
      refine ih _ (fun x hx => hL x (List.mem_cons_of_mem _ hx)) ?_
      rw [← e]
      exact actStep_ok (pick_ok rok (turns_ok rok) (by simp) hl) hp
  intro wd hL
  unfold actM lawAct
  rw [h0]
  exact key wd _ hL ⟨by simp, fun p hp => List.mem_range.mp hp⟩
/-- what a prefix knows does not change behind it -/
theorem act_pre {im z : List (List Nat)} (hne : im ≠ []) : ∀ wd, Letters im.length wd → actM (im ++ z) ((im ++ z).map turnM) wd = actM im (im.map turnM) wd := by
  have e0 : ((im ++ z).headD []).length = (im.headD []).length := by
    cases im with
    | nil => exact absurd rfl hne
    | cons r t => rfl
  have key : ∀ (wd : List Int) (pts : List Nat), Letters im.length wd → wd.foldl (actStep (im ++ z) ((im ++ z).map turnM)) pts = wd.foldl (actStep im (im.map turnM)) pts := by
    intro wd
    induction wd with
    | nil => intro pts _; rfl
    | cons l wd ih =>
      intro pts hL
      have hl := hL l List.mem_cons_self
      have e : actStep (im ++ z) ((im ++ z).map turnM) pts l = actStep im (im.map turnM) pts l := by
        unfold actStep pick
        by_cases c : 0 < l
        · rw [if_pos c, if_pos c]
          have hlt : (l - 1).toNat < im.length := by omega
          have e1 : (im ++ z).getD (l - 1).toNat [] = im.getD (l - 1).toNat [] := by
            rw [List.getD_eq_getElem?_getD, List.getD_eq_getElem?_getD, List.getElem?_append_left hlt]
          rw [e1]
        · rw [if_neg c, if_neg c]
          have hlt : (-l - 1).toNat < (im.map turnM).length := by rw [List.length_map]; omega
          have e1 : ((im ++ z).map turnM).getD (-l - 1).toNat [] = (im.map turnM).getD (-l - 1).toNat [] := by
            rw [List.map_append, List.getD_eq_getElem?_getD, List.getD_eq_getElem?_getD, List.getElem?_append_left hlt]
          rw [e1]
      rw [List.foldl_cons, List.foldl_cons, e]
      exact ih _ fun x hx => hL x (List.mem_cons_of_mem _ hx)
  intro wd hL
  unfold actM
  rw [e0]
  exact key wd _ hL
theorem outs_law {d c : Nat} {rels : List (List Int)} (hd : d < 4) (hc : 1 ≤ c) (hG : isGrp (c : Int) rels = true) : outs d (c : Int) rels = lawAllM d c rels := by
  have hcn : ((c : Nat) : Int).toNat = c := by omega
  have hall : ∀ wd ∈ rels, Letters c wd := fun wd hw l hl => grp_letters hG wd hw l hl
  have h1 : ∀ im : List (List Nat), im.length = c → holdsM rels im = fulM rels im := fun im hl => by
    unfold holdsM
    have e : rels.filter (isKnown im.length) = rels := by
      refine List.filter_eq_self.mpr fun wd hw => ?_
      unfold isKnown
      refine List.all_eq_true.mpr fun l hm => ?_
      have := hall wd hw l hm
      refine decide_eq_true ?_
      rw [hl]
      split <;> omega
    rw [e]
  have h2 : ∀ (im z : List (List Nat)), im ≠ [] → (im ++ z).length = c → fulM rels (im ++ z) = true → holdsM rels im = true := fun im z hne hl hF => by
    unfold holdsM fulM
    refine List.all_eq_true.mpr fun wd hw => ?_
    obtain ⟨hw1, hw2⟩ := List.mem_filter.mp hw
    have hk : Letters im.length wd := known_letters hG wd hw
    have h3 := List.all_eq_true.mp hF wd hw1
    unfold okWord at h3 ⊢
    rw [act_pre hne wd hk] at h3
    have e0 : ((im ++ z).headD []).length = (im.headD []).length := by
      cases im with
      | nil => exact absurd rfl hne
      | cons r t => rfl
    rw [e0] at h3
    exact h3
  unfold outs lawAllM
  rw [hcn]
  show Tail (arrM d) (holdsM rels) (c - 1) [] 0 = _
  unfold Tail
  rw [List.drop_zero]
  have e : ∀ r, Sub (arrM d) (holdsM rels) (c - 1) ([] ++ [r]) = (ext (arrM d) (c - 1) ([] ++ [(arrM d).getD r []])).filter (fulM rels) := fun r => by
    rw [sub_is (arrM d) (holdsM rels) (fulM rels) c h1 h2 (ext_len (arrM d)) (c - 1) ([] ++ [r]) (by simp) (by simp; omega), img_snoc]
    rfl
  simp only [e]
  rw [range_rows (arrM d) fun row => (ext (arrM d) (c - 1) ([] ++ [row])).filter (fulM rels), ← List.filter_flatMap]
  have e3 : (arrM d).flatMap (fun row => ext (arrM d) (c - 1) ([] ++ [row])) = ext (arrM d) c [] := by
    obtain ⟨k, rfl⟩ : ∃ k, c = k + 1 := ⟨c - 1, by omega⟩
    rfl
  rw [e3, ← prod_is]
  refine List.filter_congr fun im him => ?_
  obtain ⟨m1, m2⟩ := prod_mem _ _ _ him
  have hne : im ≠ [] := fun z => by rw [z] at m1; simp at m1; omega
  unfold fulM lawFul
  have e4 : ∀ wd ∈ rels, okWord im wd = lawOk im wd := fun wd hw => by
    unfold okWord lawOk
    rw [act_same hd m2 hne wd (by rw [m1]; exact hall wd hw)]
  rw [Bool.eq_iff_iff, List.all_eq_true, List.all_eq_true]
  exact ⟨fun h wd hw => by rw [← e4 wd hw]; exact h wd hw, fun h wd hw => by rw [e4 wd hw]; exact h wd hw⟩
end K60
namespace K60
open PySem PySem.Spec PyProof.Rows GenW L2 G6
abbrev sTold : Stmt := topS 29
abbrev nTold : List Str := ["_law_which", "_law_group_here", "_law_degree", "_law_images"]
theorem scTold : FnScope nTold ["_law_which", "_law_group_here", "_law_degree"] (defScope sTold) := ⟨rfl, rfl, rfl, by decide +kernel, rfl, by decide +kernel, by decide +kernel⟩
structure ExcM (K : PySem.W.Frag) (Cg Cb Ct : Addr) : Prop where
  sg : PySem.W.subIn K (.ref Cg) (.type "StopIteration") = some false
  sb : PySem.W.subIn K (.ref Cb) (.type "StopIteration") = some false
  st : PySem.W.subIn K (.ref Ct) (.type "StopIteration") = some false
  gg : PySem.W.exmOne K (.ref Cg) (.ref Cg) = some true
  bg : PySem.W.exmOne K (.ref Cb) (.ref Cg) = some false
  bb : PySem.W.exmOne K (.ref Cb) (.ref Cb) = some true
  tg : PySem.W.exmOne K (.ref Ct) (.ref Cg) = some false
  tb : PySem.W.exmOne K (.ref Ct) (.ref Cb) = some false
  tt : PySem.W.exmOne K (.ref Ct) (.ref Ct) = some true
def eNo (K : PySem.W.Frag) (W : WX) : L2.St → XK := fun σ cls d H => W cls d σ H ∧ PySem.W.subIn K cls (.type "StopIteration") = some false
theorem pass_no {X : Cx} {W : WX} (tk : Takes X W) (σ : L2.St) : PassesAt (L2.CX X.prog X.w) X σ (eNo X.K W σ) := fun pins H s e s' I c => by
  obtain ⟨a, B, H', cls, d, z1, fl, z2, ub, z3, z4, z5, z6⟩ := c
  exact passAt tk σ pins H s e s' I ⟨a, B, H', cls, d, z1, fl, z2, ub, z3, z4, z5, z6.1⟩
section
variable {P : Program} {w : World} {K : PySem.W.Frag} {mg : Str → Option Value} {base : Heap}
def Told (c deg : Int) (rels : List (List Int)) (y : Str) : Prop := (isGrp c rels = false ∧ y = "group") ∨ (isGrp c rels = true ∧ ¬ (1 ≤ deg ∧ deg ≤ 3) ∧ y = "number") ∨ (isGrp c rels = true ∧ 1 ≤ deg ∧ deg ≤ 3 ∧ 6 < c ∧ y = "large")
def spTold : Sp := fun vs H Q _ => ∃ wh v c rels deg y, vs = [.int wh, v, .int deg] ∧ GrpAt H v c rels ∧ Small rels ∧ Told c deg rels y ∧ ∀ H', Same H H' → Q (.str y) H'
theorem ok_told {f fA fC Cg Cb Ct : Addr} {fd fdA fdC : FuncData} {k : Nat} (F : Fun K "_law_told" "_law_told" sTold f fd) (kpA : PySem.W.keepIn K (.ref fA) = true) (bA : Binds K fdA ["group", "degree"] []) (gA : mg "all_images" = some (.ref fA)) (GA : GFn6 P w K mg base k fA fdA ["group", "degree"] (spAll Cg Cb Ct))
    (FC : Fun K "classes_of" "classes_of" sClo fC fdC) (bC : Binds K fdC ["group", "degree"] []) (gC : mg "classes_of" = some (.ref fC)) (GC : FnOk P w K mg base (L2.CX P w) k fC fdC ["group", "degree"] (spClo Cg Cb Ct))
    (Tg : ExcF K mg "NotGroup" Cg) (Tb : ExcF K mg "BadNumber" Cb) (Tt : ExcF K mg "TooLarge" Ct) (M : ExcM K Cg Cb Ct) : FnOk P w K mg base CX0 (k + 2) f fd ["_law_which", "_law_group_here", "_law_degree"] spTold := by
  refine F.ok scTold (fun vs H Q E h => ?_) (fun cdv A outer s H vs Q E hr h => ?_)
  · obtain ⟨wh, v, c, rels, deg, y, rfl, _⟩ := h
    rfl
  · obtain ⟨wh, v, c, rels, deg, y, rfl, hg, hs, hT, q⟩ := h
    refine ⟨_, pss_cons (ps_try_many rfl rfl takes0 (fun W pn xe tk hpo => pss_one (ps_if (pt_cmpR op_eq (pv 0) pe_int (nomark _))
        (pss_one (ps_forG (E := eNo K W) GA hr (by rfl) gA kpA bA (pa_cons (pv 1) (pa_cons (pv 2) pa_nil)) rfl hpo (fun σ => pass_no tk σ) (fun σ cls d H h => h.2) (pg_name (i := 3) scTold.nd rfl (.inl rfl)) (pss_one (ps_ret (pv 3)))))
        (pss_one (ps_expr (pe_callS GC (hr.mono (by omega)) (by rfl) gC FC.kp bC (fun σ => passAt tk σ) (pa_cons (pv 1) (pa_cons (pv 2) pa_nil)))))))
      (.cons ⟨by rfl, by decide, .inl Tg.g⟩ (fun a oe cls d pn _ _ => pss_one (ps_ret pe_str)) (.cons ⟨by rfl, by decide, .inl Tb.g⟩ (fun a oe cls d pn _ _ => pss_one (ps_ret pe_str)) (.cons ⟨by rfl, by decide, .inl Tt.g⟩ (fun a oe cls d pn _ _ => pss_one (ps_ret pe_str)) .nil))))
      (pss_one (ps_ret pe_non)), ?_⟩
    -- what a clause makes of an exception
    have w1 : isGrp c rels = false → ∀ σ H', Same H H' → wMany K (fun _ _ _ _ => False) { nx := fun σ' H' => tRet (tC .non) { nx := fun _ H' => Q .non H', rt := Q } σ' H', rt := Q } [(Value.ref Cg, fun _ _ _ => tRet (tC (.str "group"))), (Value.ref Cb, fun _ _ _ => tRet (tC (.str "number"))), (Value.ref Ct, fun _ _ _ => tRet (tC (.str "large")))] (.ref Cg) none σ H' := fun e σ H' s' => by
      refine ⟨true, M.gg, fun _ _ _ => ?_, (fun z => Bool.noConfusion z)⟩
      have ey : y = "group" := by
        rcases hT with z | z | z
        · exact z.2
        · rw [z.1] at e; cases e
        · rw [z.1] at e; cases e
      have h2 := q H' s'
      rw [ey] at h2
      exact h2
    have w2 : isGrp c rels = true → ¬ (1 ≤ deg ∧ deg ≤ 3) → ∀ σ H', Same H H' → wMany K (fun _ _ _ _ => False) { nx := fun σ' H' => tRet (tC .non) { nx := fun _ H' => Q .non H', rt := Q } σ' H', rt := Q } [(Value.ref Cg, fun _ _ _ => tRet (tC (.str "group"))), (Value.ref Cb, fun _ _ _ => tRet (tC (.str "number"))), (Value.ref Ct, fun _ _ _ => tRet (tC (.str "large")))] (.ref Cb) none σ H' := fun e e2 σ H' s' => by
      refine ⟨false, M.bg, (fun z => Bool.noConfusion z), fun _ => ⟨true, M.bb, fun _ _ _ => ?_, (fun z => Bool.noConfusion z)⟩⟩
      have ey : y = "number" := by
        rcases hT with z | z | z
        · rw [z.1] at e; cases e
        · exact z.2.2
        · exact absurd ⟨z.2.1, z.2.2.1⟩ e2
      have h2 := q H' s'
      rw [ey] at h2
      exact h2
    have w3 : isGrp c rels = true → 1 ≤ deg → deg ≤ 3 → 6 < c → ∀ σ H', Same H H' → wMany K (fun _ _ _ _ => False) { nx := fun σ' H' => tRet (tC .non) { nx := fun _ H' => Q .non H', rt := Q } σ' H', rt := Q } [(Value.ref Cg, fun _ _ _ => tRet (tC (.str "group"))), (Value.ref Cb, fun _ _ _ => tRet (tC (.str "number"))), (Value.ref Ct, fun _ _ _ => tRet (tC (.str "large")))] (.ref Ct) none σ H' := fun e e2 e3 e4 σ H' s' => by
      refine ⟨false, M.tg, (fun z => Bool.noConfusion z), fun _ => ⟨false, M.tb, (fun z => Bool.noConfusion z), fun _ => ⟨true, M.tt, fun _ _ _ => ?_, (fun z => Bool.noConfusion z)⟩⟩⟩
      have ey : y = "large" := by
        rcases hT with z | z | z
        · rw [z.1] at e; cases e
        · exact absurd ⟨e2, e3⟩ z.2.1
        · exact z.2.2.2.2
      have h2 := q H' s'
      rw [ey] at h2
      exact h2
    have no : isGrp c rels = true → 1 ≤ deg → deg ≤ 3 → c ≤ 6 → False := fun e e2 e3 e4 => by
      rcases hT with z | z | z
      · rw [z.1] at e; cases e
      · exact z.2.1 ⟨e2, e3⟩
      · omega
    refine ⟨_, rfl, rfl, _, rfl, ite2 (fun _ => ?_) fun _ => ?_⟩
    · refine ⟨_, rfl, _, rfl, 0, (fun _ _ _ => False), (fun _ => False), ⟨v, c, rels, deg, rfl, hg, hs, fun e H' s' => ⟨w1 e _ H' s', M.sg⟩, fun e e2 H' s' => ⟨w2 e e2 _ H' s', M.sb⟩, fun e e2 e3 e4 H' s' => ⟨w3 e e2 e3 e4 _ H' s', M.st⟩, fun e e2 e3 e4 => (no e e2 e3 e4).elim⟩, fun _ _ _ _ _ h => h, fun _ _ _ h => h, fun H00 _ => ⟨fun _ _ _ => True, trivial, fun n σ H1 H2 _ _ _ => ⟨fun _ h => h.elim, fun _ _ _ h => h.elim⟩⟩⟩
    · exact ⟨_, rfl, _, rfl, v, c, rels, deg, rfl, hg, hs, fun e H' s' => w1 e _ H' s', fun e e2 H' s' => w2 e e2 _ H' s', fun e e2 e3 e4 H' s' => w3 e e2 e3 e4 _ H' s', no⟩
end
end K60
namespace K60
open PySem PySem.Spec PyProof.Rows GenW L2 G6
/-! ### the images as data -/
structure Fine (p w : Nat) (d : PyData) : Prop where
  lay : PyData.canLay0 d = true
  sh : PyData.showable d = true
  deep : PyData.depth d ≤ p
  wt : PyData.weight d ≤ w
  short : PyData.intsShort 13 d = true
structure FineA (p w : Nat) (ds : List PyData) : Prop where
  lay : PyData.canLayAll0 ds = true
  sh : PyData.showableAll ds = true
  deep : PyData.depthAll ds ≤ p
  wt : PyData.weightAll ds ≤ ds.length * (w + 1)
  short : PyData.intsShortAll 13 ds = true
theorem fineA {p w : Nat} : ∀ {ds : List PyData}, (∀ d ∈ ds, Fine p w d) → FineA p w ds
  | [], _ => ⟨by rw [PyData.canLayAll0], by rw [PyData.showableAll], by rw [PyData.depthAll]; omega, by rw [PyData.weightAll]; omega, by rw [PyData.intsShortAll]⟩
  | d :: ds, h => by
    have h1 := h d List.mem_cons_self
    have h2 := fineA fun x hx => h x (List.mem_cons_of_mem _ hx)
    refine ⟨by rw [PyData.canLayAll0, h1.lay, h2.lay]; rfl, by rw [PyData.showableAll, h1.sh, h2.sh]; rfl, ?_, ?_, by rw [PyData.intsShortAll, h1.short, h2.short]; rfl⟩
    · rw [PyData.depthAll]
      exact Nat.max_le.mpr ⟨h1.deep, h2.deep⟩
    · rw [PyData.weightAll, List.length_cons, Nat.add_mul]
      have := h1.wt
      have := h2.wt
      omega
theorem FineA.tup {p w n : Nat} {ds : List PyData} (h : FineA p w ds) (hl : ds.length ≤ n) : Fine (p + 1) (n * (w + 1)) (.tuple ds) := by
  refine ⟨by rw [PyData.canLay0, h.lay], by rw [PyData.showable, h.sh], ?_, ?_, by rw [PyData.intsShort, h.short]⟩
  · rw [PyData.depth]
    have := h.deep
    omega
  · rw [PyData.weight]
    exact Nat.le_trans h.wt (Nat.mul_le_mul_right _ hl)
theorem FineA.lst {p w n : Nat} {ds : List PyData} (h : FineA p w ds) (hl : ds.length ≤ n) : Fine (p + 1) (n * (w + 1)) (.list ds) := by
  refine ⟨by rw [PyData.canLay0, h.lay], by rw [PyData.showable, h.sh], ?_, ?_, by rw [PyData.intsShort, h.short]⟩
  · rw [PyData.depth]
    have := h.deep
    omega
  · rw [PyData.weight]
    exact Nat.le_trans h.wt (Nat.mul_le_mul_right _ hl)
theorem fine_int : ∀ n, n < 4 → Fine 0 3 (.int ((n : Nat) : Int)) := by
  intro n hn
  refine ⟨by rw [PyData.canLay0], ?_, by rw [PyData.depth]; omega, ?_, ?_⟩
  · rw [PyData.showable]
    have : n = 0 ∨ n = 1 ∨ n = 2 ∨ n = 3 := by omega
    rcases this with rfl | rfl | rfl | rfl <;> decide +kernel
  · rw [PyData.weight]
    have : n = 0 ∨ n = 1 ∨ n = 2 ∨ n = 3 := by omega
    rcases this with rfl | rfl | rfl | rfl <;> decide +kernel
  · have : n = 0 ∨ n = 1 ∨ n = 2 ∨ n = 3 := by omega
    rcases this with rfl | rfl | rfl | rfl <;> (rw [PyData.intsShort]; decide +kernel)
def imD (im : List (List Nat)) : PyData := .tuple (im.map rowD)
def osD (os : List (List (List Nat))) : PyData := .list (os.map imD)
theorem fine_row {r : List Nat} (hl : r.length ≤ 3) (h : ∀ n ∈ r, n < 4) : Fine 1 12 (rowD r) := by
  have h1 : FineA 0 3 (r.map fun (n : Nat) => PyData.int (n : Int)) := fineA fun d hd => by
    obtain ⟨n, hn, rfl⟩ := List.mem_map.mp hd
    exact fine_int n (h n hn)
  exact h1.tup (n := 3) (by rw [List.length_map]; exact hl)
theorem fine_im {im : List (List Nat)} (hl : im.length ≤ 3) (h : ∀ r ∈ im, r.length ≤ 3 ∧ ∀ n ∈ r, n < 4) : Fine 2 39 (imD im) := by
  have h1 : FineA 1 12 (im.map rowD) := fineA fun d hd => by
    obtain ⟨r, hr, rfl⟩ := List.mem_map.mp hd
    exact fine_row (h r hr).1 (h r hr).2
  exact h1.tup (n := 3) (by rw [List.length_map]; exact hl)
theorem fine_os {os : List (List (List Nat))} (hl : os.length ≤ 216) (h : ∀ im ∈ os, im.length ≤ 3 ∧ ∀ r ∈ im, r.length ≤ 3 ∧ ∀ n ∈ r, n < 4) : Fine 3 8640 (osD os) := by
  have h1 : FineA 2 39 (os.map imD) := fineA fun d hd => by
    obtain ⟨im, hm, rfl⟩ := List.mem_map.mp hd
    exact fine_im (h im hm).1 (h im hm).2
  exact h1.lst (n := 216) (by rw [List.length_map]; exact hl)
/-- what the law's own search finds is small -/
theorem lawAll_fine {d c : Nat} {rels : List (List Int)} (hd : d < 4) (hc : c ≤ 3) : (lawAllM d c rels).length ≤ 216 ∧ ∀ im ∈ lawAllM d c rels, im.length ≤ 3 ∧ ∀ r ∈ im, r.length ≤ 3 ∧ ∀ n ∈ r, n < 4 := by
  have hL : (arrM d).length ≤ 6 := by
    have : d = 0 ∨ d = 1 ∨ d = 2 ∨ d = 3 := by omega
    rcases this with rfl | rfl | rfl | rfl <;> decide +kernel
  refine ⟨Nat.le_trans (List.length_filter_le _ _) ?_, fun im him => ?_⟩
  · rw [prod_len]
    exact pow_small hL hc
  · obtain ⟨h1, h2⟩ := prod_mem _ _ _ (List.mem_filter.mp him).1
    refine ⟨by omega, fun r hr => ?_⟩
    obtain ⟨h3, h4⟩ := (arr_perm d hd r (h2 r hr)).1
    exact ⟨by omega, fun n hn => by have := h4 n hn; omega⟩
theorem dpall {α : Type} {K : PySem.W.Frag} {H : Hp} {P : V → α → Prop} {f : α → PyData} (hf : ∀ v r, P v r → Dp K H v (f r)) : ∀ {xs : List V} {rs : List α}, AllR P xs rs → DpAll K H xs (rs.map f)
  | [], [], _ => .nil
  | [], r :: rs, h => by have := h.1; simp at this
  | x :: xs, [], h => by have := h.1; simp at this
  | x :: xs, r :: rs, h => .cons (hf _ _ (h.2 0 x r rfl rfl)) (dpall hf ⟨by have := h.1; simpa using this, fun i y s h1 h2 => h.2 (i + 1) y s h1 h2⟩)
theorem dp_im {K : PySem.W.Frag} {H : Hp} {v : V} {im : List (List Nat)} {P : Hp → V → List Nat → Prop} (hf : ∀ v r, P H v r → Dp K H v (rowD r)) (h : TupOf P H v im) : Dp K H v (imD im) := by
  obtain ⟨a, xs, rfl, e, r⟩ := h
  exact .tup (.inl (.inl e)) (dpall hf r)
theorem dp_os {K : PySem.W.Frag} {H : Hp} {a : Addr} {xs : List V} {os : List (List (List Nat))} {P : Hp → V → List Nat → Prop} (hf : ∀ v r, P H v r → Dp K H v (rowD r)) (e : H a = some (.lst xs)) (h : AllR (TupOf P H) xs os) : Dp K H (.ref a) (osD os) :=
  .lst (.inl (.inl e)) (dpall (fun v im q => dp_im hf q) h)
theorem Fine.out {d : PyData} {w : Nat} (h : Fine 3 w d) (hw : w ≤ 10000) : d.showable = true ∧ d.hasDict = false ∧ d.depth ≤ 50 ∧ d.shown.length ≤ sizeLine := by
  refine ⟨h.sh, PyData.hasDict_of_canLay d h.lay, Nat.le_trans h.deep (by omega), ?_⟩
  have h1 : PyData.layable0 d = true := by
    unfold PyData.layable0
    have e : (2 : Nat) ^ 20 = 1048576 := by decide
    rw [h.lay, decide_eq_true (Nat.le_trans h.deep (by omega)), decide_eq_true (Nat.le_trans h.wt (by omega))]
    rfl
  exact Nat.le_trans (shown_le13 h1 h.short) (by rw [sizeLine_eq]; omega)
end K60
namespace K60
open PySem PySem.Spec PyProof.Rows GenW L2 G6
abbrev sLaw : Stmt := topS 30
abbrev nLaw : List Str := ["_law_script", "_law_draws_here", "_law_group_here", "_law_choice", "_law_degree", "_law_found", "_law_images", "_law_wrong", "_law_which"]
theorem scLaw : FnScope nLaw ["_law_script"] (defScope sLaw) := ⟨rfl, rfl, rfl, by decide +kernel, rfl, by decide +kernel, by decide +kernel⟩
/-! ### what stands as long as the tuples do -/
abbrev Tups (H H' : Hp) : Prop := ∀ b xs, H b = some (.tup xs) → H' b = some (.tup xs)
theorem tups_same {H H' : Hp} (s : Same H H') : Tups H H' := fun b xs h => s b _ h
theorem tups_b {a : Addr} {xs : List V} {H H' : Hp} (e : H a = some (.lst xs)) (s : SameB a H H') : Tups H H' := fun b ys h => s b _ (ne_of h e (by intro z; cases z)) h
theorem grp_kept {H H' : Hp} {v : V} {c : Int} {rels : List (List Int)} (h : GrpAt H v c rels) (s : Tups H H') : GrpAt H' v c rels := by
  obtain ⟨a, b, rfl, ea, b2, xs, eb, e2, r⟩ := h
  exact ⟨a, b, rfl, s _ _ ea, b2, xs, eb, s _ _ e2, r.imp fun x wd ⟨z, h1, h2⟩ => ⟨z, h1, s _ _ h2⟩⟩
theorem im_kept {H H' : Hp} {v : V} {im : List (List Nat)} (h : TupOf RowAt H v im) (s : Tups H H') : TupOf RowAt H' v im := by
  obtain ⟨a, xs, rfl, ea, r⟩ := h
  exact ⟨a, xs, rfl, s _ _ ea, r.imp fun x wd ⟨z, h1, h2⟩ => ⟨z, h1, s _ _ h2⟩⟩
theorem good_small {c : Nat} {rels : List (List Int)} (hc : 1 ≤ c) (h : Good (c : Int) rels) : Small rels ∧ isGrp (c : Int) rels = true := by
  refine ⟨⟨by have := h.1; omega, fun wd hw => by have := (h.2 wd hw).1; omega⟩, ?_⟩
  unfold isGrp
  rw [decide_eq_true (show (1 : Int) ≤ (c : Int) by omega), Bool.true_and]
  exact List.all_eq_true.mpr fun wd hw => List.all_eq_true.mpr fun l hl => (h.2 wd hw).2 l hl
/-- the degree, one way or the other -/
theorem if_deg {K : PySem.W.Frag} {D : Ends} {rest : TS} {H : Hp} {s0 s1 s5 s6 s7 s8 : Option V} {v : V} {c n : Nat} {d0 : Int} {rels : List (List Int)} (hg : GrpAt H v (c : Int) rels) (hd1 : 1 ≤ d0) (hd2 : d0 ≤ 3)
    (h : ∀ d' : Nat, 1 ≤ d' → d' ≤ 3 → rest D [s0, s1, some v, some (.int (n : Int)), some (.int (d' : Int)), s5, s6, s7, s8] H) :
    tSeq (tIfS (tAnd (tTest (tOp rEq (tOp (rI (fun _ j => 0 < j) fun i j => V.int (i % j)) (tOp (rI CDiv fun i j => V.int (i / j)) (tVar 3) (tC (V.int 2))) (tC (V.int 4))) (tC (V.int 1))))
        (tOr (tTest (tOp (rI0 fun i j => V.bl (decide (i < j))) (tOp (rIxT K) (tVar 2) (tC (V.int 0))) (tC (V.int 3))))
          (tTest (tOp (rI0 fun i j => V.bl (decide (j < i))) (tCB (fun xs H_1 Q => ∃ p ys, xs = [V.ref p] ∧ (SqL K H_1 p ys ∨ SqT K H_1 p ys) ∧ Q (V.int (ys.length : Int)) H_1) (tCons (tOp (rIxT K) (tVar 2) (tC (V.int 1))) tNil)) (tC (V.int 1))))))
      (tAsg (tC (V.int 3)) (gName 4)) tNext) rest D [s0, s1, some v, some (.int (n : Int)), some (.int d0), s5, s6, s7, s8] H := by
  obtain ⟨d, rfl⟩ := Int.eq_ofNat_of_zero_le (show 0 ≤ d0 by omega)
  obtain ⟨a, b, rfl, ea, _, xs, eb', eb, rb⟩ := id hg
  cases eb'
  have no := h d (by omega) (by omega)
  have yes := h 3 (by omega) (by omega)
  refine ⟨_, rfl, _, _, rfl, rfl, ⟨by decide, by decide⟩, _, _, rfl, rfl, (show (0 : Int) < 4 by decide), rfl, _, rfl, ite2 (fun _ => ?_) fun _ => ite2 (fun z => absurd z Bool.false_ne_true) fun _ => no⟩
  refine ⟨_, rfl, a, _, 0, _, rfl, rfl, .inl (.inl ea), atI_of (n := 0) rfl rfl, _, _, rfl, rfl, _, rfl, ite2 (fun _ => ite2 (fun _ => yes) fun z => absurd rfl z) fun _ => ?_⟩
  refine ⟨_, rfl, a, _, 1, _, rfl, rfl, .inl (.inl ea), atI_of (n := 1) rfl rfl, b, xs, rfl, .inr (.inl (.inl eb)), _, _, rfl, rfl, _, rfl, ite2 (fun _ => yes) fun _ => no⟩
theorem wrong_is (n : Nat) : ∃ w, atI [V.int 0, .int 4, .int (-1), .int 90] ((n : Int) / 8 % 4) = some (.int w) ∧ ¬ (1 ≤ w ∧ w ≤ 3) := by
  have h : (n : Int) / 8 % 4 = 0 ∨ (n : Int) / 8 % 4 = 1 ∨ (n : Int) / 8 % 4 = 2 ∨ (n : Int) / 8 % 4 = 3 := by omega
  rcases h with h | h | h | h <;> rw [h]
  · exact ⟨0, rfl, by omega⟩
  · exact ⟨4, rfl, by omega⟩
  · exact ⟨-1, rfl, by omega⟩
  · exact ⟨90, rfl, by omega⟩
theorem told_group (c : Nat) (w : Int) : Told (c : Int) w [[0]] "group" := .inl ⟨by unfold isGrp okLetter; simp, rfl⟩
theorem told_number {w : Int} (h : ¬ (1 ≤ w ∧ w ≤ 3)) : Told 7 w [] "number" := .inr (.inl ⟨by decide, h, rfl⟩)
theorem told_large {w : Int} (h1 : 1 ≤ w) (h2 : w ≤ 3) : Told 7 w [] "large" := .inr (.inr ⟨by decide, h1, h2, by omega, rfl⟩)
theorem ne_same (x : Str) : (!decide (V.str x = V.str x)) = false := by rw [decide_eq_true rfl]; rfl
section
variable {P : Program} {w : World} {K : PySem.W.Frag} {mg : Str → Option Value} {base : Heap}
def spLaw (K : PySem.W.Frag) : Sp := fun vs H Q _ => ∃ (a : Addr) (ns : List Int), vs = [.ref a] ∧ SqL K H a (ns.map V.int) ∧ ns.length ≤ 63 ∧ ∀ H', Q (.bl true) H'
theorem ok_law {f fD fG fN fA fL fT Cg Cb Ct : Addr} {fd fdD fdG fdN fdA fdL fdT : FuncData} (F : Fun K "law" "law" sLaw f fd)
    (FD : Fun K "_law_draws" "_law_draws" sDrw fD fdD) (bD : Binds K fdD ["_law_script"] []) (gD : mg "_law_draws" = some (.ref fD)) (GD : FnOk P w K mg base CX0 20 fD fdD ["_law_script"] (spDrw K))
    (FG : Fun K "_law_group" "_law_group" sGrp fG fdG) (bG : Binds K fdG ["_law_draws_here"] []) (gG : mg "_law_group" = some (.ref fG)) (GG : FnOk P w K mg base CX0 20 fG fdG ["_law_draws_here"] spGrp)
    (FN : Fun K "_law_next" "_law_next" sNxt fN fdN) (bN : Binds K fdN ["_law_draws_here"] []) (gN : mg "_law_next" = some (.ref fN)) (GN : FnOk P w K mg base CX0 20 fN fdN ["_law_draws_here"] spNxt)
    (kpA : PySem.W.keepIn K (.ref fA) = true) (bA : Binds K fdA ["group", "degree"] []) (gA : mg "all_images" = some (.ref fA)) (GA : GFn6 P w K mg base 19 fA fdA ["group", "degree"] (spAll Cg Cb Ct))
    (FL : Fun K "_law_all" "_law_all" sLAl fL fdL) (bL : Binds K fdL ["_law_group_here", "_law_degree"] []) (gL : mg "_law_all" = some (.ref fL)) (GL : FnOk P w K mg base CX0 20 fL fdL ["_law_group_here", "_law_degree"] spLAl)
    (FT : Fun K "_law_told" "_law_told" sTold fT fdT) (bT : Binds K fdT ["_law_which", "_law_group_here", "_law_degree"] []) (gT : mg "_law_told" = some (.ref fT)) (GT : FnOk P w K mg base CX0 20 fT fdT ["_law_which", "_law_group_here", "_law_degree"] spTold)
    (mi : mg "int" = none) (ml : mg "len" = none) (mr : mg "range" = none) (mp : mg "repr" = none) (hroom : Room 21 callerA) : FnAt P w K mg base f fd ["_law_script"] (spLaw K) := by
  refine fnAt_of (k := 20) F scLaw hroom (fun vs H Q E h => ?_) (fun cdv s H vs Q E hr h => ?_)
  · obtain ⟨a, ns, rfl, _⟩ := h
    rfl
  · obtain ⟨a, ns, rfl, hS, hl, q⟩ := h
    have hgd : (callerA.deeper (envOfC "law" (defScope sLaw) s.heap.objs.size f cdv)).guards = some [] := by rfl
    have hun : (callerA.deeper (envOfC "law" (defScope sLaw) s.heap.objs.size f cdv)).units + 60 < cLine := by have := hr.un; omega
    refine ⟨_, pss_cons (ps_set (i := 1) scLaw.nd rfl (.inl rfl) (pe_call GD hr (by rfl) gD FD.kp bD .nil pass0 (pa_cons (pv 0) pa_nil)))
      (pss_cons (ps_expr (pe_bm0 PySem.F.plainAttrs_list PySem.F.slot_list_reverse PySem.F.type_list_reverse mt_reverse (pv 1)))
      (pss_cons (ps_set (i := 2) scLaw.nd rfl (.inl rfl) (pe_call GG hr (by rfl) gG FG.kp bG .nil pass0 (pa_cons (pv 1) pa_nil)))
      (pss_cons (ps_set (i := 3) scLaw.nd rfl (.inl rfl) (pe_callTy call_int1 (by rfl) mi (by decide +kernel) (pa_cons (pe_call GN hr (by rfl) gN FN.kp bN .nil pass0 (pa_cons (pv 1) pa_nil)) pa_nil)))
      (pss_cons (ps_set (i := 4) scLaw.nd rfl (.inl rfl) (pe_op op_add pe_int (pe_op op_mod (pe_callTy call_int1 (by rfl) mi (by decide +kernel) (pa_cons (pv 3) pa_nil)) pe_int)))
      (pss_cons (ps_if (PW.pt (pw_and (pt_cmpR op_eq (pe_op op_mod (pe_op op_fdiv (pv 3) pe_int) pe_int) pe_int (nomark _)) (pw_and1 (PW.pt (pw_or (pt_cmpR op_lt (pe_ix ix_tup (pv 2) pe_int (fun _ _ => rfl)) pe_int (nomark _)) (pw_or1 (pt_cmpR op_gt (pe_callB call_len_seq (by rfl) ml PySem.boot_len (pa_cons (pe_ix ix_tup (pv 2) pe_int (fun _ _ => rfl)) pa_nil)) pe_int (nomark _)))))))) (pss_one (ps_set (i := 4) scLaw.nd rfl (.inl rfl) pe_int)) pss_nil)
      (pss_cons (ps_set (i := 5) scLaw.nd rfl (.inl rfl) (pe_lst pa_nil))
      (pss_cons (ps_forG (E := fun _ _ _ _ => False) GA hr (by rfl) gA kpA bA (pa_cons (pv 2) (pa_cons (pv 4) pa_nil)) rfl PassesOwn.never (fun σ pins H s e s' I c => by obtain ⟨_, _, _, _, _, _, _, _, _, _, _, _, z⟩ := c; exact z.elim) (fun σ cls d H h => h.elim) (pg_name (i := 6) scLaw.nd rfl (.inl rfl))
        (pss_one (ps_expr (pe_bm PySem.F.plainAttrs_list PySem.F.slot_list_append PySem.F.type_list_append mt_append (pv 5) (pa_cons (pv 6) pa_nil)))))
      (pss_cons (ps_if (pt_cmpR op_ne (pe_callB (cr_reprD hgd hun) (by rfl) mp (by decide +kernel) (pa_cons (pv 5) pa_nil)) (pe_callB (cr_reprD hgd hun) (by rfl) mp (by decide +kernel) (pa_cons (pe_call GL hr (by rfl) gL FL.kp bL .nil pass0 (pa_cons (pv 2) (pa_cons (pv 4) pa_nil))) pa_nil)) (nomark _)) (pss_one (ps_ret pe_bl)) pss_nil)
      (pss_cons (ps_set (i := 7) scLaw.nd rfl (.inl rfl) (pe_ix ix_list (pe_lst (pa_cons pe_int (pa_cons pe_int (pa_cons (pe_un un_neg pe_int) (pa_cons pe_int pa_nil))))) (pe_op op_mod (pe_op op_fdiv (pv 3) pe_int) pe_int) (fun _ _ => rfl)))
      (pss_cons (ps_for PassesOwn.never rfl (pi_range1 (by rfl) mr (pa_cons pe_int pa_nil)) (pg_name (i := 8) scLaw.nd rfl (.inl rfl))
        (pss_cons (ps_if (PW.pt (pw_or (pt_cmpR op_ne (pe_call GT hr (by rfl) gT FT.kp bT .nil pass0 (pa_cons (pv 8) (pa_cons (pe_tup (pa_cons (pe_ix ix_tup (pv 2) pe_int (fun _ _ => rfl)) (pa_cons (pe_tup (pa_cons (pe_tup (pa_cons pe_int pa_nil)) pa_nil)) pa_nil))) (pa_cons (pv 7) pa_nil)))) pe_str (nomark _))
            (pw_or1 (pt_cmpR op_ne (pe_call GT hr (by rfl) gT FT.kp bT .nil pass0 (pa_cons (pv 8) (pa_cons (pe_tup (pa_cons pe_int (pa_cons (pe_tup pa_nil) pa_nil))) (pa_cons (pv 7) pa_nil)))) pe_str (nomark _))))) (pss_one (ps_ret pe_bl)) pss_nil)
        (pss_one (ps_if (pt_cmpR op_ne (pe_call GT hr (by rfl) gT FT.kp bT .nil pass0 (pa_cons (pv 8) (pa_cons (pe_tup (pa_cons pe_int (pa_cons (pe_tup pa_nil) pa_nil))) (pa_cons (pv 4) pa_nil)))) pe_str (nomark _)) (pss_one (ps_ret pe_bl)) pss_nil))))
      (pss_one (ps_ret pe_bl)))))))))))), ?_⟩
    -- the draws, last one first
    refine ⟨_, rfl, a, ns, rfl, hS, hl, fun H1 p r s1 np ep => ?_⟩
    refine ⟨_, rfl, .inl ⟨rfl, _, .inl (.inl ep)⟩, p, _, rfl, rfl, ep, ?_⟩
    have er : (rowV r).reverse = rowV r.reverse := by unfold rowV; rw [List.map_reverse]
    rw [er]
    -- the group, the choice
    refine ⟨_, rfl, p, r.reverse, rfl, upd_same, fun H2 v c rels r2 s2 ep2 hg2 hc1 hc3 good => ?_⟩
    obtain ⟨hsm, hG⟩ := good_small hc1 good
    refine ⟨_, rfl, p, r2, rfl, ep2, fun n3 r3 => ?_⟩
    refine .inl ⟨_, rfl, ?_⟩
    have hg3 : GrpAt (upd H2 p (.lst (rowV r3))) v (c : Int) rels := grp_kept hg2 (tups_b ep2 SameB.upd)
    generalize upd H2 p (.lst (rowV r3)) = H3 at hg3 ⊢
    -- the degree
    refine ⟨_, rfl, .inl ⟨_, rfl, _, _, rfl, rfl, (show (0 : Int) < 2 by decide), _, _, rfl, rfl, ?_⟩⟩
    refine if_deg hg3 (by omega) (by omega) fun d hd1 hd2 => ?_
    have houts : outs d (c : Int) rels = lawAllM d c rels := outs_law (by omega) hc1 hG
    obtain ⟨hn, him⟩ := lawAll_fine (rels := rels) (show d < 4 by omega) hc3
    have hfine := (fine_os hn him).out (by omega)
    have hdn : ((d : Nat) : Int).toNat = d := by omega
    -- found = []
    refine ⟨Nat.zero_le _, fun g ng => ?_⟩
    have sg : Same H3 (upd H3 g (.lst [])) := same_upd ng
    -- all_images
    refine ⟨_, rfl, _, rfl, (lawAllM d c rels).length, (fun m x H' => ∃ o, (lawAllM d c rels)[(lawAllM d c rels).length - 1 - m]? = some o ∧ TupOf RowAt H' x o), (fun _ => True), ⟨v, (c : Int), rels, (d : Int), rfl, hg3.same sg, hsm, (fun e => by rw [hG] at e; cases e), (fun _ e => absurd ⟨by omega, by omega⟩ e), (fun _ _ _ e => by omega), fun _ _ _ _ => ?_⟩, ?_, fun _ _ _ _ => trivial, fun H00 h00 => ?_⟩
    · rw [hdn, houts]
      exact ⟨rfl, fun m x H' o h1 _ h2 => ⟨o, h1, h2⟩, fun _ => trivial⟩
    · exact fun m x H' H'' s' ⟨o, h1, h2⟩ => ⟨o, h1, im_kept h2 fun b xs h => s' b _ h⟩
    refine ⟨fun n σ H4 => ∃ zs y6, σ = [some (.ref a), some (.ref p), some v, some (.int (n3 : Int)), some (.int (d : Int)), some (.ref g), y6, none, none] ∧ GrpAt H4 v (c : Int) rels ∧ H4 g = some (.lst zs) ∧ n ≤ (lawAllM d c rels).length ∧ AllR (TupOf RowAt H4) zs ((lawAllM d c rels).take ((lawAllM d c rels).length - n)),
      ⟨[], none, rfl, hg3.same sg, upd_same, Nat.le_refl _, by rw [Nat.sub_self, List.take_zero]; exact AllR.nil⟩, fun n σ H4 H5 hW hk ht => ?_⟩
    obtain ⟨zs, y6, rfl, hg4, eg4, hnle, rz⟩ := hW
    have g00 : H00 g ≠ none := by rw [h00 _ _ upd_same]; exact fun z => by cases z
    have eg5 := hk _ _ g00 eg4
    have hg5 := grp_kept hg4 ht
    have rz5 := rz.imp fun x o h => im_kept h ht
    refine ⟨fun hn0 _ => ?_, fun m x hnm hI => ?_⟩
    · subst hn0
      rw [Nat.sub_zero, List.take_length] at rz5
      -- the two texts
      refine ⟨_, rfl, g, _, rfl, dp_os (fun v r h => dp_row h) eg5 rz5, hfine.1, hfine.2.1, hfine.2.2.1, hfine.2.2.2, ?_⟩
      refine ⟨_, rfl, _, rfl, v, rels, c, d, rfl, hg5, hsm, hG, hc3, by omega, fun H6 b ys s6 eb6 rb6 => ?_⟩
      refine ⟨b, _, rfl, dp_os (fun v r h => dp_rowZ h) eb6 rb6, hfine.1, hfine.2.1, hfine.2.2.1, hfine.2.2.2, ?_⟩
      refine ⟨rfl, _, rfl, ite2 (fun z => ?_) fun _ => ?_⟩
      · rw [decide_eq_true rfl] at z
        cases z
      have hg6 := hg5.same s6
      obtain ⟨wr, hwr, hwb⟩ := wrong_is n3
      refine ⟨_, rfl, Nat.le_of_lt (sz_small (n := 4) (by decide)), fun l nl => ?_⟩
      have sl := same_upd (o := .lst [V.int 0, .int 4, .int (-1), .int 90]) nl
      refine ⟨_, rfl, _, _, rfl, rfl, ⟨by decide, by decide⟩, _, _, rfl, rfl, (show (0 : Int) < 4 by decide), l, _, _, _, rfl, rfl, .inl (.inl upd_same), hwr, ?_⟩
      refine ⟨2, rfl, by decide, by decide, for_it walk_range (fun i σ H7 => ∃ y8, σ = [some (.ref a), some (.ref p), some v, some (.int (n3 : Int)), some (.int (d : Int)), some (.ref g), y6, some (.int wr), y8] ∧ GrpAt H7 v (c : Int) rels) ⟨none, rfl, hg6.same sl⟩ (fun _ _ _ _ _ => trivial) (fun i x σ H7 H8 hi hP hY => ?_) fun σ H7 hP => ?_⟩
      · obtain ⟨y8, rfl, hg7⟩ := hP
        obtain ⟨rfl, hxi⟩ := hY
        subst hxi
        obtain ⟨ag, bg, rfl, eag, tbg⟩ := id hg7
        -- with no letter
        refine ⟨_, rfl, _, rfl, ag, _, 0, _, rfl, rfl, .inl (.inl eag), atI_of (n := 0) rfl rfl, Nat.le_of_lt (sz_small (n := 1) (by decide)), fun t1 n1 => ⟨Nat.le_of_lt (sz_small (n := 1) (by decide)), fun t2 n2 => ⟨Nat.le_of_lt (sz_small (n := 2) (by decide)), fun t3 n3 => ?_⟩⟩⟩
        have q1 := same_upd (o := .tup [V.int 0]) n1
        have q2 := same_upd (o := .tup [V.ref t1]) n2
        have q3 := same_upd (o := .tup [V.int (c : Int), .ref t2]) n3
        have g1 : GrpAt _ (.ref t3) (c : Int) [[0]] := ⟨t3, t2, rfl, upd_same, t2, [.ref t1], rfl, q3 _ _ upd_same, AllR.nil.snoc (x := V.ref t1) (r := [0]) ⟨t1, rfl, q3 _ _ (q2 _ _ upd_same)⟩⟩
        have k1 := ((q1.trans q2).trans q3)
        refine ⟨_, rfl, _, .ref t3, (c : Int), [[0]], wr, "group", rfl, g1, ⟨by decide, fun wd hw => by rw [List.mem_singleton.mp hw]; decide⟩, told_group c wr, fun H9 s9 => ?_⟩
        refine ⟨rfl, _, rfl, ?_⟩
        rw [ne_same]
        refine ite2 (fun z => absurd z Bool.false_ne_true) fun _ => ?_
        -- with seven generators
        have k7 := hg7.same (k1.trans s9)
        refine ⟨_, rfl, Nat.zero_le _, fun t4 n4 => ⟨Nat.le_of_lt (sz_small (n := 2) (by decide)), fun t5 n5 => ?_⟩⟩
        have q4 := same_upd (o := .tup []) n4
        have q5 := same_upd (o := .tup [V.int 7, .ref t4]) n5
        have g2 : GrpAt _ (.ref t5) 7 [] := ⟨t5, t4, rfl, upd_same, t4, [], rfl, q5 _ _ upd_same, AllR.nil⟩
        refine ⟨_, rfl, _, .ref t5, 7, [], wr, "number", rfl, g2, ⟨by decide, fun wd hw => by simp at hw⟩, told_number hwb, fun H10 s10 => ?_⟩
        refine ⟨rfl, _, rfl, ?_⟩
        rw [ne_same]
        refine ite2 (fun z => absurd z Bool.false_ne_true) fun _ => ?_
        refine ⟨_, rfl, Nat.zero_le _, fun t6 n6 => ⟨Nat.le_of_lt (sz_small (n := 2) (by decide)), fun t7 n7 => ?_⟩⟩
        have q6 := same_upd (o := .tup []) n6
        have q7 := same_upd (o := .tup [V.int 7, .ref t6]) n7
        have g3 : GrpAt _ (.ref t7) 7 [] := ⟨t7, t6, rfl, upd_same, t6, [], rfl, q7 _ _ upd_same, AllR.nil⟩
        refine ⟨_, rfl, _, .ref t7, 7, [], (d : Int), "large", rfl, g3, ⟨by decide, fun wd hw => by simp at hw⟩, told_large (by omega) (by omega), fun H11 s11 => ?_⟩
        refine ⟨rfl, _, rfl, ?_⟩
        rw [ne_same]
        exact ite2 (fun z => absurd z Bool.false_ne_true) fun _ => ⟨_, rfl, k7.same ((q4.trans q5).trans (s10.trans ((q6.trans q7).trans s11)))⟩
      · exact q _
    · obtain ⟨o, ho, hx⟩ := hI
      have hneg : ∀ b ys, H5 b = some (.tup ys) → b ≠ g := fun b ys h => ne_of h eg5 (by intro z; cases z)
      have hup : Tups H5 (upd H5 g (.lst (zs ++ [x]))) := fun b ys h => by rw [upd_ne (hneg b ys h)]; exact h
      have hzl : zs.length < sizeLine := by
        rw [rz5.1, List.length_take]
        exact Nat.lt_of_le_of_lt (Nat.min_le_right _ _) (sz_small (Nat.le_trans hn (by decide)))
      refine ⟨_, rfl, .inl ⟨rfl, _, .inl (.inl eg5)⟩, _, rfl, g, zs, x, rfl, rfl, eg5, hzl, ⟨fun b o' h0 h => ?_, hup⟩, zs ++ [x], some x, rfl, grp_kept hg5 hup, upd_same, by omega, ?_⟩
      · rw [upd_ne (fun z => g00 (by rw [← z]; exact h0))]
        exact h
      · have e1 : (lawAllM d c rels).length - m = ((lawAllM d c rels).length - n) + 1 := by omega
        have e2 : (lawAllM d c rels).length - 1 - m = (lawAllM d c rels).length - n := by omega
        rw [e2] at ho
        rw [e1, List.take_add_one, ho]
        exact (rz5.imp fun x o h => im_kept h hup).snoc (im_kept hx hup)
end
end K60
namespace K60
open PySem PySem.Spec PyProof.Rows GenW L2 G6
/-! ### what the top has written; the law's own head -/
theorem exm_at {K : PySem.W.Frag} {C S : Addr} {r : Option Bool} (h1 : PySem.W.subIn K (.ref S) (.type "BaseException") = some true) (h2 : PySem.W.isClsIn K S = true) (h3 : PySem.W.typeIn K (.ref S) = some (.type "type"))
    (h4 : PySem.W.subIn K (.ref C) (.ref S) = r) : PySem.W.exmOne K (.ref C) (.ref S) = r := by
  have c1 : (PySem.W.subIn K (.ref S) (.type "BaseException") == some true) = true := by rw [h1]; rfl
  have c2 : ((PySem.W.clsIn K S).isSome && PySem.W.typeIn K (.ref S) == some (.type "type")) = true := by
    rw [show (PySem.W.clsIn K S).isSome = true from h2, h3]; rfl
  show (if (PySem.W.subIn K (.ref S) (.type "BaseException") == some true) = true then (if ((PySem.W.clsIn K S).isSome && PySem.W.typeIn K (.ref S) == some (.type "type")) = true then PySem.W.subIn K (.ref C) (.ref S) else none) else none) = r
  rw [if_pos c1, if_pos c2, h4]
theorem all_mk {P : Program} {w : World} {K : PySem.W.Frag} {h : Heap} {mg : Str → Option Value} {fa Cg Cb Ct f1 f2 f3 f4 f5 f6 f7 f8 f9 f10 f11 f12 f13 f14 f15 f16 f17 f18 f19 f20 f21 : Addr} {t1 t2 : Tok} (X : K.In h) (G : h.Ns mainGlobals mg) (hfa : mg "law" = some (.ref fa))
    {od1 an1 od2 an2 od3 an3 od4 an4 od5 an5 od6 an6 od7 an7 od8 an8 od9 an9 od10 an10 od11 an11 od12 an12 od13 an13 od14 an14 od15 an15 od16 an16 od17 an17 od18 an18 od19 an19 od20 an20 od21 an21 : Option Addr} {sl1 sl2 sl3 sl4 sl5 sl6 sl7 sl8 sl9 sl10 sl11 sl12 sl13 sl14 sl15 sl16 sl17 sl18 sl19 sl20 sl21 : Array (Option Value)} {oc1 kV1 dc1 pm1 cd1 ct1 oc2 kV2 dc2 pm2 cd2 ct2 oc3 kV3 dc3 pm3 cd3 ct3 oc4 kV4 dc4 pm4 cd4 ct4 oc5 kV5 dc5 pm5 cd5 ct5 oc6 kV6 dc6 pm6 cd6 ct6 oc7 kV7 dc7 pm7 cd7 ct7 oc8 kV8 dc8 pm8 cd8 ct8 oc9 kV9 dc9 pm9 cd9 ct9 oc10 kV10 dc10 pm10 cd10 ct10 oc11 kV11 dc11 pm11 cd11 ct11 oc12 kV12 dc12 pm12 cd12 ct12 oc13 kV13 dc13 pm13 cd13 ct13 oc14 kV14 dc14 pm14 cd14 ct14 oc15 kV15 dc15 pm15 cd15 ct15 oc16 kV16 dc16 pm16 cd16 ct16 oc17 kV17 dc17 pm17 cd17 ct17 oc18 kV18 dc18 pm18 cd18 ct18 oc19 kV19 dc19 pm19 cd19 ct19 oc20 kV20 dc20 pm20 cd20 ct20 oc21 kV21 dc21 pm21 cd21 ct21 : Value}
    (a1 : PySem.W.nsIn K mainGlobals "turned" = some (some (.ref f1))) (l1 : K.lookup f1 = some ⟨oc1, od1, .func (PySem.W.fnOf "turned" "turned" (defArgs sTurned) (defBody sTurned) (defScope sTurned) .none kV1 dc1 pm1 an1 cd1 ct1), sl1⟩) (c1 : PySem.W.codeIn K cd1 "turned" = true) (k1 : PySem.W.keepIn K (.ref f1) = true)
    (a2 : PySem.W.nsIn K mainGlobals "acted" = some (some (.ref f2))) (l2 : K.lookup f2 = some ⟨oc2, od2, .func (PySem.W.fnOf "acted" "acted" (defArgs sActed) (defBody sActed) (defScope sActed) .none kV2 dc2 pm2 an2 cd2 ct2), sl2⟩) (c2 : PySem.W.codeIn K cd2 "acted" = true) (k2 : PySem.W.keepIn K (.ref f2) = true)
    (a3 : PySem.W.nsIn K mainGlobals "inverses_of" = some (some (.ref f3))) (l3 : K.lookup f3 = some ⟨oc3, od3, .func (PySem.W.fnOf "inverses_of" "inverses_of" (defArgs sInv) (defBody sInv) (defScope sInv) .none kV3 dc3 pm3 an3 cd3 ct3), sl3⟩) (c3 : PySem.W.codeIn K cd3 "inverses_of" = true) (k3 : PySem.W.keepIn K (.ref f3) = true)
    (a4 : PySem.W.nsIn K mainGlobals "fulfils" = some (some (.ref f4))) (l4 : K.lookup f4 = some ⟨oc4, od4, .func (PySem.W.fnOf "fulfils" "fulfils" (defArgs sFul) (defBody sFul) (defScope sFul) .none kV4 dc4 pm4 an4 cd4 ct4), sl4⟩) (c4 : PySem.W.codeIn K cd4 "fulfils" = true) (k4 : PySem.W.keepIn K (.ref f4) = true)
    (a5 : PySem.W.nsIn K mainGlobals "is_group" = some (some (.ref f5))) (l5 : K.lookup f5 = some ⟨oc5, od5, .func (PySem.W.fnOf "is_group" "is_group" (defArgs sIsG) (defBody sIsG) (defScope sIsG) .none kV5 dc5 pm5 an5 cd5 ct5), sl5⟩) (c5 : PySem.W.codeIn K cd5 "is_group" = true) (k5 : PySem.W.keepIn K (.ref f5) = true)
    (a6 : PySem.W.nsIn K mainGlobals "check_group" = some (some (.ref f6))) (l6 : K.lookup f6 = some ⟨oc6, od6, .func (PySem.W.fnOf "check_group" "check_group" (defArgs sChG) (defBody sChG) (defScope sChG) .none kV6 dc6 pm6 an6 cd6 ct6), sl6⟩) (c6 : PySem.W.codeIn K cd6 "check_group" = true) (k6 : PySem.W.keepIn K (.ref f6) = true)
    (a7 : PySem.W.nsIn K mainGlobals "check_search" = some (some (.ref f7))) (l7 : K.lookup f7 = some ⟨oc7, od7, .func (PySem.W.fnOf "check_search" "check_search" (defArgs sChS) (defBody sChS) (defScope sChS) .none kV7 dc7 pm7 an7 cd7 ct7), sl7⟩) (c7 : PySem.W.codeIn K cd7 "check_search" = true) (k7 : PySem.W.keepIn K (.ref f7) = true)
    (a8 : PySem.W.nsIn K mainGlobals "arrangements" = some (some (.ref f8))) (l8 : K.lookup f8 = some ⟨oc8, od8, .func (PySem.W.fnOf "arrangements" "arrangements" (defArgs sArr) (defBody sArr) (defScope sArr) .none kV8 dc8 pm8 an8 cd8 ct8), sl8⟩) (c8 : PySem.W.codeIn K cd8 "arrangements" = true) (k8 : PySem.W.keepIn K (.ref f8) = true)
    (a9 : PySem.W.nsIn K mainGlobals "holds_so_far" = some (some (.ref f9))) (l9 : K.lookup f9 = some ⟨oc9, od9, .func (PySem.W.fnOf "holds_so_far" "holds_so_far" (defArgs sHol) (defBody sHol) (defScope sHol) .none kV9 dc9 pm9 an9 cd9 ct9), sl9⟩) (c9 : PySem.W.codeIn K cd9 "holds_so_far" = true) (k9 : PySem.W.keepIn K (.ref f9) = true)
    (a10 : PySem.W.nsIn K mainGlobals "all_images" = some (some (.ref f10))) (l10 : K.lookup f10 = some ⟨oc10, od10, .func (PySem.W.fnOf "all_images" "all_images" (defArgs sAll) (defBody sAll) (defScope sAll) .none kV10 dc10 pm10 an10 cd10 ct10), sl10⟩) (c10 : PySem.W.codeIn K cd10 "all_images" = true) (k10 : PySem.W.keepIn K (.ref f10) = true)
    (a11 : PySem.W.nsIn K mainGlobals "classes_of" = some (some (.ref f11))) (l11 : K.lookup f11 = some ⟨oc11, od11, .func (PySem.W.fnOf "classes_of" "classes_of" (defArgs sClo) (defBody sClo) (defScope sClo) .none kV11 dc11 pm11 an11 cd11 ct11), sl11⟩) (c11 : PySem.W.codeIn K cd11 "classes_of" = true) (k11 : PySem.W.keepIn K (.ref f11) = true)
    (a12 : PySem.W.nsIn K mainGlobals "_law_number" = some (some (.ref f12))) (l12 : K.lookup f12 = some ⟨oc12, od12, .func (PySem.W.fnOf "_law_number" "_law_number" (defArgs sNum) (defBody sNum) (defScope sNum) .none kV12 dc12 pm12 an12 cd12 ct12), sl12⟩) (c12 : PySem.W.codeIn K cd12 "_law_number" = true) (k12 : PySem.W.keepIn K (.ref f12) = true)
    (a13 : PySem.W.nsIn K mainGlobals "_law_draws" = some (some (.ref f13))) (l13 : K.lookup f13 = some ⟨oc13, od13, .func (PySem.W.fnOf "_law_draws" "_law_draws" (defArgs sDrw) (defBody sDrw) (defScope sDrw) .none kV13 dc13 pm13 an13 cd13 ct13), sl13⟩) (c13 : PySem.W.codeIn K cd13 "_law_draws" = true) (k13 : PySem.W.keepIn K (.ref f13) = true)
    (a14 : PySem.W.nsIn K mainGlobals "_law_next" = some (some (.ref f14))) (l14 : K.lookup f14 = some ⟨oc14, od14, .func (PySem.W.fnOf "_law_next" "_law_next" (defArgs sNxt) (defBody sNxt) (defScope sNxt) .none kV14 dc14 pm14 an14 cd14 ct14), sl14⟩) (c14 : PySem.W.codeIn K cd14 "_law_next" = true) (k14 : PySem.W.keepIn K (.ref f14) = true)
    (a15 : PySem.W.nsIn K mainGlobals "_law_act" = some (some (.ref f15))) (l15 : K.lookup f15 = some ⟨oc15, od15, .func (PySem.W.fnOf "_law_act" "_law_act" (defArgs sAct) (defBody sAct) (defScope sAct) .none kV15 dc15 pm15 an15 cd15 ct15), sl15⟩) (c15 : PySem.W.codeIn K cd15 "_law_act" = true) (k15 : PySem.W.keepIn K (.ref f15) = true)
    (a16 : PySem.W.nsIn K mainGlobals "_law_fulfils" = some (some (.ref f16))) (l16 : K.lookup f16 = some ⟨oc16, od16, .func (PySem.W.fnOf "_law_fulfils" "_law_fulfils" (defArgs sLFu) (defBody sLFu) (defScope sLFu) .none kV16 dc16 pm16 an16 cd16 ct16), sl16⟩) (c16 : PySem.W.codeIn K cd16 "_law_fulfils" = true) (k16 : PySem.W.keepIn K (.ref f16) = true)
    (a17 : PySem.W.nsIn K mainGlobals "_law_rows" = some (some (.ref f17))) (l17 : K.lookup f17 = some ⟨oc17, od17, .func (PySem.W.fnOf "_law_rows" "_law_rows" (defArgs sLRo) (defBody sLRo) (defScope sLRo) .none kV17 dc17 pm17 an17 cd17 ct17), sl17⟩) (c17 : PySem.W.codeIn K cd17 "_law_rows" = true) (k17 : PySem.W.keepIn K (.ref f17) = true)
    (a18 : PySem.W.nsIn K mainGlobals "_law_all" = some (some (.ref f18))) (l18 : K.lookup f18 = some ⟨oc18, od18, .func (PySem.W.fnOf "_law_all" "_law_all" (defArgs sLAl) (defBody sLAl) (defScope sLAl) .none kV18 dc18 pm18 an18 cd18 ct18), sl18⟩) (c18 : PySem.W.codeIn K cd18 "_law_all" = true) (k18 : PySem.W.keepIn K (.ref f18) = true)
    (a19 : PySem.W.nsIn K mainGlobals "_law_group" = some (some (.ref f19))) (l19 : K.lookup f19 = some ⟨oc19, od19, .func (PySem.W.fnOf "_law_group" "_law_group" (defArgs sGrp) (defBody sGrp) (defScope sGrp) .none kV19 dc19 pm19 an19 cd19 ct19), sl19⟩) (c19 : PySem.W.codeIn K cd19 "_law_group" = true) (k19 : PySem.W.keepIn K (.ref f19) = true)
    (a20 : PySem.W.nsIn K mainGlobals "_law_told" = some (some (.ref f20))) (l20 : K.lookup f20 = some ⟨oc20, od20, .func (PySem.W.fnOf "_law_told" "_law_told" (defArgs sTold) (defBody sTold) (defScope sTold) .none kV20 dc20 pm20 an20 cd20 ct20), sl20⟩) (c20 : PySem.W.codeIn K cd20 "_law_told" = true) (k20 : PySem.W.keepIn K (.ref f20) = true)
    (a21 : PySem.W.nsIn K mainGlobals "law" = some (some (.ref f21))) (l21 : K.lookup f21 = some ⟨oc21, od21, .func (PySem.W.fnOf "law" "law" (defArgs sLaw) (defBody sLaw) (defScope sLaw) .none kV21 dc21 pm21 an21 cd21 ct21), sl21⟩) (c21 : PySem.W.codeIn K cd21 "law" = true) (k21 : PySem.W.keepIn K (.ref f21) = true)
    (xgA : PySem.W.nsIn K mainGlobals "NotGroup" = some (some (.ref Cg))) (xgX : PySem.W.excIn K Cg [.type "ValueError", .type "Exception", .type "BaseException", .type "object"] "ValueError.__new__" = true) (xgK : PySem.W.keepIn K (.ref Cg) = true) (xgB : PySem.W.subIn K (.ref Cg) (.type "BaseException") = some true) (xgT : PySem.W.typeIn K (.ref Cg) = some (.type "type")) (xgI : PySem.W.isClsIn K Cg = true) (xgS : PySem.W.subIn K (.ref Cg) (.type "StopIteration") = some false) (xgE : PySem.W.subIn K (.ref Cg) (.ref Cg) = some true)
    (xbA : PySem.W.nsIn K mainGlobals "BadNumber" = some (some (.ref Cb))) (xbX : PySem.W.excIn K Cb [.type "ValueError", .type "Exception", .type "BaseException", .type "object"] "ValueError.__new__" = true) (xbK : PySem.W.keepIn K (.ref Cb) = true) (xbB : PySem.W.subIn K (.ref Cb) (.type "BaseException") = some true) (xbT : PySem.W.typeIn K (.ref Cb) = some (.type "type")) (xbI : PySem.W.isClsIn K Cb = true) (xbS : PySem.W.subIn K (.ref Cb) (.type "StopIteration") = some false) (xbE : PySem.W.subIn K (.ref Cb) (.ref Cb) = some true)
    (xtA : PySem.W.nsIn K mainGlobals "TooLarge" = some (some (.ref Ct))) (xtX : PySem.W.excIn K Ct [.type "ValueError", .type "Exception", .type "BaseException", .type "object"] "ValueError.__new__" = true) (xtK : PySem.W.keepIn K (.ref Ct) = true) (xtB : PySem.W.subIn K (.ref Ct) (.type "BaseException") = some true) (xtT : PySem.W.typeIn K (.ref Ct) = some (.type "type")) (xtI : PySem.W.isClsIn K Ct = true) (xtS : PySem.W.subIn K (.ref Ct) (.type "StopIteration") = some false) (xtE : PySem.W.subIn K (.ref Ct) (.ref Ct) = some true)
    (ybg : PySem.W.subIn K (.ref Cb) (.ref Cg) = some false) (ytg : PySem.W.subIn K (.ref Ct) (.ref Cg) = some false) (ytb : PySem.W.subIn K (.ref Ct) (.ref Cb) = some false) (m1 : PySem.W.nsIn K mainGlobals "MOST_SEARCHED" = some (some (.int 3 t1))) (m2 : PySem.W.nsIn K mainGlobals "MOST_GENERATORS" = some (some (.int 6 t2)))
    (zlen : PySem.W.nsIn K mainGlobals "len" = some none) (zrange : PySem.W.nsIn K mainGlobals "range" = some none) (zint : PySem.W.nsIn K mainGlobals "int" = some none) (zlist : PySem.W.nsIn K mainGlobals "list" = some none) (ztuple : PySem.W.nsIn K mainGlobals "tuple" = some none) (zall : PySem.W.nsIn K mainGlobals "all" = some none) (zabs : PySem.W.nsIn K mainGlobals "abs" = some none) (zenumerate : PySem.W.nsIn K mainGlobals "enumerate" = some none) (zrepr : PySem.W.nsIn K mainGlobals "repr" = some none) :
    ∃ fd : FuncData, (∀ (s : Shared) (v : Value), BindsTo s fd ⟨[v], []⟩ [("_law_script", v)]) ∧ ∀ base : Heap, K.In base → base.Ns mainGlobals mg → FnAt P w K mg base fa fd ["_law_script"] (spLaw K) := by
  have e := hfa.symm.trans (PySem.W.mg_of X G a21)
  cases e
  have F1 := fun_mk (st := sTurned) l1 c1 k1
  have b1 := F1.binds (ps := ["image"]) fun _ _ _ _ _ _ us hl => match us, hl with | [_], _ => rfl
  have g1 := PySem.W.mg_of X G a1
  have F2 := fun_mk (st := sActed) l2 c2 k2
  have b2 := F2.binds (ps := ["images", "inverses", "word"]) fun _ _ _ _ _ _ us hl => match us, hl with | [_, _, _], _ => rfl
  have g2 := PySem.W.mg_of X G a2
  have F3 := fun_mk (st := sInv) l3 c3 k3
  have b3 := F3.binds (ps := ["images"]) fun _ _ _ _ _ _ us hl => match us, hl with | [_], _ => rfl
  have g3 := PySem.W.mg_of X G a3
  have F4 := fun_mk (st := sFul) l4 c4 k4
  have b4 := F4.binds (ps := ["relators", "images"]) fun _ _ _ _ _ _ us hl => match us, hl with | [_, _], _ => rfl
  have g4 := PySem.W.mg_of X G a4
  have F5 := fun_mk (st := sIsG) l5 c5 k5
  have b5 := F5.binds (ps := ["group"]) fun _ _ _ _ _ _ us hl => match us, hl with | [_], _ => rfl
  have g5 := PySem.W.mg_of X G a5
  have F6 := fun_mk (st := sChG) l6 c6 k6
  have b6 := F6.binds (ps := ["group"]) fun _ _ _ _ _ _ us hl => match us, hl with | [_], _ => rfl
  have g6 := PySem.W.mg_of X G a6
  have F7 := fun_mk (st := sChS) l7 c7 k7
  have b7 := F7.binds (ps := ["group", "degree"]) fun _ _ _ _ _ _ us hl => match us, hl with | [_, _], _ => rfl
  have g7 := PySem.W.mg_of X G a7
  have F8 := fun_mk (st := sArr) l8 c8 k8
  have b8 := F8.binds (ps := ["degree"]) fun _ _ _ _ _ _ us hl => match us, hl with | [_], _ => rfl
  have g8 := PySem.W.mg_of X G a8
  have F9 := fun_mk (st := sHol) l9 c9 k9
  have b9 := F9.binds (ps := ["group", "images"]) fun _ _ _ _ _ _ us hl => match us, hl with | [_, _], _ => rfl
  have g9 := PySem.W.mg_of X G a9
  have F10 := fun_mk (st := sAll) l10 c10 k10
  have b10 := F10.binds (ps := ["group", "degree"]) fun _ _ _ _ _ _ us hl => match us, hl with | [_, _], _ => rfl
  have g10 := PySem.W.mg_of X G a10
  have F11 := fun_mk (st := sClo) l11 c11 k11
  have b11 := F11.binds (ps := ["group", "degree"]) fun _ _ _ _ _ _ us hl => match us, hl with | [_, _], _ => rfl
  have g11 := PySem.W.mg_of X G a11
  have F12 := fun_mk (st := sNum) l12 c12 k12
  have b12 := F12.binds (ps := ["_law_cell"]) fun _ _ _ _ _ _ us hl => match us, hl with | [_], _ => rfl
  have g12 := PySem.W.mg_of X G a12
  have F13 := fun_mk (st := sDrw) l13 c13 k13
  have b13 := F13.binds (ps := ["_law_script"]) fun _ _ _ _ _ _ us hl => match us, hl with | [_], _ => rfl
  have g13 := PySem.W.mg_of X G a13
  have F14 := fun_mk (st := sNxt) l14 c14 k14
  have b14 := F14.binds (ps := ["_law_draws_here"]) fun _ _ _ _ _ _ us hl => match us, hl with | [_], _ => rfl
  have g14 := PySem.W.mg_of X G a14
  have F15 := fun_mk (st := sAct) l15 c15 k15
  have b15 := F15.binds (ps := ["_law_images", "_law_word"]) fun _ _ _ _ _ _ us hl => match us, hl with | [_, _], _ => rfl
  have g15 := PySem.W.mg_of X G a15
  have F16 := fun_mk (st := sLFu) l16 c16 k16
  have b16 := F16.binds (ps := ["_law_group_here", "_law_images"]) fun _ _ _ _ _ _ us hl => match us, hl with | [_, _], _ => rfl
  have g16 := PySem.W.mg_of X G a16
  have F17 := fun_mk (st := sLRo) l17 c17 k17
  have b17 := F17.binds (ps := ["_law_degree"]) fun _ _ _ _ _ _ us hl => match us, hl with | [_], _ => rfl
  have g17 := PySem.W.mg_of X G a17
  have F18 := fun_mk (st := sLAl) l18 c18 k18
  have b18 := F18.binds (ps := ["_law_group_here", "_law_degree"]) fun _ _ _ _ _ _ us hl => match us, hl with | [_, _], _ => rfl
  have g18 := PySem.W.mg_of X G a18
  have F19 := fun_mk (st := sGrp) l19 c19 k19
  have b19 := F19.binds (ps := ["_law_draws_here"]) fun _ _ _ _ _ _ us hl => match us, hl with | [_], _ => rfl
  have g19 := PySem.W.mg_of X G a19
  have F20 := fun_mk (st := sTold) l20 c20 k20
  have b20 := F20.binds (ps := ["_law_which", "_law_group_here", "_law_degree"]) fun _ _ _ _ _ _ us hl => match us, hl with | [_, _, _], _ => rfl
  have g20 := PySem.W.mg_of X G a20
  have F21 := fun_mk (st := sLaw) l21 c21 k21
  have g21 := PySem.W.mg_of X G a21
  have nlen := PySem.W.mg_none_of X G zlen
  have nrange := PySem.W.mg_none_of X G zrange
  have nint := PySem.W.mg_none_of X G zint
  have nlist := PySem.W.mg_none_of X G zlist
  have ntuple := PySem.W.mg_none_of X G ztuple
  have nall := PySem.W.mg_none_of X G zall
  have nabs := PySem.W.mg_none_of X G zabs
  have nenumerate := PySem.W.mg_none_of X G zenumerate
  have nrepr := PySem.W.mg_none_of X G zrepr
  have Eg : ExcF K mg "NotGroup" Cg := ⟨PySem.W.mg_of X G xgA, xgX, xgK, xgB, xgT⟩
  have Eb : ExcF K mg "BadNumber" Cb := ⟨PySem.W.mg_of X G xbA, xbX, xbK, xbB, xbT⟩
  have Et : ExcF K mg "TooLarge" Ct := ⟨PySem.W.mg_of X G xtA, xtX, xtK, xtB, xtT⟩
  have M : ExcM K Cg Cb Ct := ⟨xgS, xbS, xtS, exm_at xgB xgI xgT xgE, exm_at xgB xgI xgT ybg, exm_at xbB xbI xbT xbE, exm_at xgB xgI xgT ytg, exm_at xbB xbI xbT ytb, exm_at xtB xtI xtT xtE⟩
  refine ⟨PySem.W.fnOf "law" "law" (defArgs sLaw) (defBody sLaw) (defScope sLaw) .none kV21 dc21 pm21 an21 cd21 ct21, fun s v => .of_eq rfl, fun base _ _ => ?_⟩
  have G1 := ok_turned (P := P) (w := w) (mg := mg) (base := base) (k := 0) F1 nlen nenumerate ntuple
  have G2 := ok_acted (P := P) (w := w) (mg := mg) (base := base) (k := 1) F2 nlen nrange nlist ntuple
  have G3 := ok_inv (P := P) (w := w) (mg := mg) (base := base) (k := 1) F3 F1 b1 g1 G1
  have G4 := ok_ful (P := P) (w := w) (mg := mg) (base := base) (k := 2) F4 F3 b3 g3 G3 F2 b2 g2 G2 nlen nrange ntuple nall
  have G5 := ok_isg (P := P) (w := w) (mg := mg) (base := base) (k := 1) F5 nall nabs
  have G6 := ok_chg (P := P) (w := w) (mg := mg) (base := base) (k := 2) F6 F5 b5 g5 G5 Eg
  have G7 := ok_chs (P := P) (w := w) (mg := mg) (base := base) (k := 3) F7 F6 b6 g6 G6 Eb Et (PySem.W.mg_of X G m1) (PySem.W.mg_of X G m2)
  have G8 := ok_arr (P := P) (w := w) (mg := mg) (base := base) (k := 3) F8 nrange
  have G9 := ok_hol (P := P) (w := w) (mg := mg) (base := base) (k := 3) F9 F4 b4 g4 G4 nall nabs nlen
  have G10 := gfn_all (P := P) (w := w) (mg := mg) (base := base) (k := 18) l10 c10 F7 b7 g7 (G7.mono (by decide)) F8 b8 g8 (G8.mono (by decide)) F9 b9 g9 (G9.mono (by decide)) nlen ntuple
  have G10b := gfn_all (P := P) (w := w) (mg := mg) (base := base) (k := 17) l10 c10 F7 b7 g7 (G7.mono (by decide)) F8 b8 g8 (G8.mono (by decide)) F9 b9 g9 (G9.mono (by decide)) nlen ntuple
  have G11 := ok_clo (P := P) (w := w) (mg := mg) (base := base) (k := 17) F11 F7 b7 g7 (G7.mono (by decide))
  have G12 := ok_num (P := P) (w := w) (mg := mg) (base := base) (k := 18) F12 
  have G13 := ok_drw (P := P) (w := w) (mg := mg) (base := base) (k := 19) F13 F12 b12 g12 G12 nrange nint
  have G14 := ok_nxt (P := P) (w := w) (mg := mg) (base := base) (k := 18) F14 
  have G15 := ok_act (P := P) (w := w) (mg := mg) (base := base) (k := 17) F15 nlen nrange nlist ntuple
  have G16 := ok_lfu (P := P) (w := w) (mg := mg) (base := base) (k := 18) F16 F15 b15 g15 G15 nlen nrange ntuple nall
  have G17 := ok_lro (P := P) (w := w) (mg := mg) (base := base) (k := 18) F17 nrange nlist
  have G18 := ok_lal (P := P) (w := w) (mg := mg) (base := base) (k := 19) F18 F17 b17 g17 G17 F16 b16 g16 G16 nrange nlist
  have G19 := ok_grp (P := P) (w := w) (mg := mg) (base := base) (k := 19) F19 F14 b14 g14 G14 nrange nint ntuple
  have G20 := ok_told (P := P) (w := w) (mg := mg) (base := base) (k := 18) F20 k10 b10 g10 G10b F11 b11 g11 G11 Eg Eb Et M
  exact ok_law F21 F13 b13 g13 G13 F19 b19 g19 G19 F14 b14 g14 (G14.mono (by decide)) k10 b10 g10 G10 F18 b18 g18 G18 F20 b20 g20 G20 nint nlen nrange nrepr ⟨rfl, by decide, by decide⟩
end K60
open PySem PySem.W PyProof.Rows
set_option maxHeartbeats 0 in
theorem PySem.Challenge.cw_wedgespace_k60_all_images_holds : PySem.Challenge.rw_wedgespace_k60_all_images.Holds := by
  w_on; o_law; k_head; (case hw => w_witness2)
  k_fill
  refine G6.walk_ofA (l := PySem.Challenge.rw_wedgespace_k60_all_images) (n := 63) (x := "_law_script") (sp := fun w => K60.spLaw _) rfl (by decide) rfl (fun w h Y => PySem.W.kIn_of Y) ?F (fun _ _ a ns hl _ hS => ⟨a, ns, rfl, hS, hl, fun _ => rfl⟩)
  case F =>
    intro w mg fa h KX G hmg
    refine' K60.all_mk KX G hmg ?a1 ?l1 ?c1 ?k1 ?a2 ?l2 ?c2 ?k2 ?a3 ?l3 ?c3 ?k3 ?a4 ?l4 ?c4 ?k4 ?a5 ?l5 ?c5 ?k5 ?a6 ?l6 ?c6 ?k6 ?a7 ?l7 ?c7 ?k7 ?a8 ?l8 ?c8 ?k8 ?a9 ?l9 ?c9 ?k9 ?a10 ?l10 ?c10 ?k10 ?a11 ?l11 ?c11 ?k11 ?a12 ?l12 ?c12 ?k12 ?a13 ?l13 ?c13 ?k13 ?a14 ?l14 ?c14 ?k14 ?a15 ?l15 ?c15 ?k15 ?a16 ?l16 ?c16 ?k16 ?a17 ?l17 ?c17 ?k17 ?a18 ?l18 ?c18 ?k18 ?a19 ?l19 ?c19 ?k19 ?a20 ?l20 ?c20 ?k20 ?a21 ?l21 ?c21 ?k21 ?xgA ?xgX ?xgK ?xgB ?xgT ?xgI ?xgS ?xgE ?xbA ?xbX ?xbK ?xbB ?xbT ?xbI ?xbS ?xbE ?xtA ?xtX ?xtK ?xtB ?xtT ?xtI ?xtS ?xtE ?ybg ?ytg ?ytb ?m1 ?m2 ?zlen ?zrange ?zint ?zlist ?ztuple ?zall ?zabs ?zenumerate ?zrepr
    (case a1 => k_is); (case l1 => k_is); (case c1 => k_is); (case k1 => k_is)
    (case a2 => k_is); (case l2 => k_is); (case c2 => k_is); (case k2 => k_is)
    (case a3 => k_is); (case l3 => k_is); (case c3 => k_is); (case k3 => k_is)
    (case a4 => k_is); (case l4 => k_is); (case c4 => k_is); (case k4 => k_is)
    (case a5 => k_is); (case l5 => k_is); (case c5 => k_is); (case k5 => k_is)
    (case a6 => k_is); (case l6 => k_is); (case c6 => k_is); (case k6 => k_is)
    (case a7 => k_is); (case l7 => k_is); (case c7 => k_is); (case k7 => k_is)
    (case a8 => k_is); (case l8 => k_is); (case c8 => k_is); (case k8 => k_is)
    (case a9 => k_is); (case l9 => k_is); (case c9 => k_is); (case k9 => k_is)
    (case a10 => k_is); (case l10 => k_is); (case c10 => k_is); (case k10 => k_is)
    (case a11 => k_is); (case l11 => k_is); (case c11 => k_is); (case k11 => k_is)
    (case a12 => k_is); (case l12 => k_is); (case c12 => k_is); (case k12 => k_is)
    (case a13 => k_is); (case l13 => k_is); (case c13 => k_is); (case k13 => k_is)
    (case a14 => k_is); (case l14 => k_is); (case c14 => k_is); (case k14 => k_is)
    (case a15 => k_is); (case l15 => k_is); (case c15 => k_is); (case k15 => k_is)
    (case a16 => k_is); (case l16 => k_is); (case c16 => k_is); (case k16 => k_is)
    (case a17 => k_is); (case l17 => k_is); (case c17 => k_is); (case k17 => k_is)
    (case a18 => k_is); (case l18 => k_is); (case c18 => k_is); (case k18 => k_is)
    (case a19 => k_is); (case l19 => k_is); (case c19 => k_is); (case k19 => k_is)
    (case a20 => k_is); (case l20 => k_is); (case c20 => k_is); (case k20 => k_is)
    (case a21 => k_is); (case l21 => k_is); (case c21 => k_is); (case k21 => k_is)
    (case xgA => k_is); (case xgX => k_exc); (case xgK => k_is); (case xgB => k_is); (case xgT => k_is); (case xgI => k_is); (case xgS => first | rfl | k_is); (case xgE => first | rfl | k_is)
    (case xbA => k_is); (case xbX => k_exc); (case xbK => k_is); (case xbB => k_is); (case xbT => k_is); (case xbI => k_is); (case xbS => first | rfl | k_is); (case xbE => first | rfl | k_is)
    (case xtA => k_is); (case xtX => k_exc); (case xtK => k_is); (case xtB => k_is); (case xtT => k_is); (case xtI => k_is); (case xtS => first | rfl | k_is); (case xtE => first | rfl | k_is)
    (case ybg => first | rfl | k_is); (case ytg => first | rfl | k_is); (case ytb => first | rfl | k_is); (case m1 => k_is); (case m2 => k_is)
    (case zlen => k_is); (case zrange => k_is); (case zint => k_is); (case zlist => k_is); (case ztuple => k_is); (case zall => k_is); (case zabs => k_is); (case zenumerate => k_is); (case zrepr => k_is)
