import PyProof.Rows.All
import Wide.All
import OpenK.AllK
import Wide.FinOn
import HandS.GenList
import HandS.ForMost
import HandS.TupAny
import HandS.TupMul
import HandS.IsInst
import HandS.Conv
import HandS.Star
import HandS.Zip
import HandS.ForExc
import HandS.Spec
import KE.GoesEnum
import PyProof.CollectIter
import HandS.Style
import KE.KRevSl
import HandS.GenYield
import HandS.GenCall
import HandS.DictComp
import HandS.SortInts
import HandS.SetTxt0
import HandS.SetFor
import HandS.ExcInit
import HandS.ClsMeth
import HandS.ExcField
import HandS.ExcOwn
import HandS.Head2
import HandS.HeadEnd
import HandS.HeadHook2
import HandS.Ends
import PySem.Challenge.RW_firstfault_k49_whole_lists_by_hand
set_option Elab.async false
set_option linter.all false
set_option maxRecDepth 100000
set_option maxHeartbeats 0
/-! ## FZ -/
namespace FF
open PySem PySem.Spec PyProof.Rows L2

/-! ### generators that sleep through a run: it would be the same run, had they nothing to go on with -/
def Deaf (fs : List Frame) : Prop := splitAtGen fs = none
theorem deaf_ret {k : Result → Sem PySem.Fin} {h g l c p kp} {fs : List Frame} (h' : Deaf (.ret k h g l c p kp :: fs)) : Deaf fs := by
  unfold Deaf at *
  cases e : splitAtGen fs with
  | none => rfl
  | some x =>
    have : splitAtGen (.ret k h g l c p kp :: fs) = (splitAtGen fs).map fun y => (.ret k h g l c p kp :: y.1, y.2) := rfl
    rw [this, e] at h'
    cases h'
theorem deaf_cons {k : Result → Sem PySem.Fin} {h g l c p kp} {fs : List Frame} (h' : Deaf fs) : Deaf (.ret k h g l c p kp :: fs) := by
  unfold Deaf at *
  have : splitAtGen (.ret k h g l c p kp :: fs) = (splitAtGen fs).map fun y => (.ret k h g l c p kp :: y.1, y.2) := rfl
  rw [this, h']
  rfl
theorem deaf_gen {g : Nat} {k : GenResult → Sem PySem.Fin} {l c p} {fs : List Frame} (h' : Deaf (.gen g k l c p :: fs)) : False := by
  unfold Deaf at h'
  cases h'
theorem deaf_app : ∀ {fs gs : List Frame}, Deaf fs → Deaf gs → Deaf (fs ++ gs)
  | [], _, _, h => h
  | .ret k h g l c p kp :: fs, gs, h1, h2 => deaf_cons (deaf_app (deaf_ret h1) h2)
  | .gen .. :: fs, gs, h1, _ => (deaf_gen h1).elim
def DeafE : End → Prop
  | .ret _ => True
  | .susp _ _ _ _ _ _ fs => Deaf fs
def DeafG : GenState → Prop
  | .suspended _ _ _ _ fs _ => Deaf fs
  | _ => True
theorem DeafE.gen {e : End} (h : DeafE e) : DeafG e.genState := by
  cases e with
  | ret _ => trivial
  | susp => exact h
/-- nothing to go on with -/
def dumb : GenState → GenState
  | .suspended _ l c p fs cl => .suspended (fun _ => .unsupported "asleep") l c p fs cl
  | x => x
theorem dumb_seen (x : GenState) : (dumb x).seen = x.seen := by cases x <;> rfl
def sleeps : GenState → Bool
  | .suspended .. => true
  | _ => false
/-- G: as G0 (where the sleepers Y are dumb), but that the sleepers are themselves -/
structure Zg (Y : Nat → Option GenState) (G0 G : Array GenState) : Prop where
  size : G.size = G0.size
  slp : ∀ i y, Y i = some y → sleeps y = true ∧ G[i]? = some y ∧ G0[i]? = some (dumb y)
  awk : ∀ i, Y i = none → G[i]? = G0[i]? ∧ ∀ x, G0[i]? = some x → DeafG x
theorem no_uns {M : Model} {Γ : PySem.Ctx} {p : Pos} {w : String} {F : List Frame} {s s' : Shared} {e : End} (h : Runs M Γ p (.unsupported w) F s e s') : False := by
  generalize ht : (Sem.unsupported w : Sem PySem.Fin) = t at h
  induction h <;> first | (cases ht; done) | (rename_i ih _; exact ih ht) | (rename_i ih; exact ih ht)
section
variable {Y : Nat → Option GenState} {G0 G : Array GenState}
theorem Zg.seen (z : Zg Y G0 G) {g : Nat} {st : GenState} (h : G0[g]? = some st) : ∃ st', G[g]? = some st' ∧ st'.seen = st.seen := by
  cases e : Y g with
  | none => exact ⟨st, by rw [(z.awk g e).1]; exact h, rfl⟩
  | some y =>
    obtain ⟨_, h1, h2⟩ := z.slp g y e
    rw [h] at h2
    cases h2
    exact ⟨y, h1, (dumb_seen y).symm⟩
theorem Zg.awake (z : Zg Y G0 G) {g : Nat} {st : GenState} (h : G0[g]? = some st) (hs : sleeps st = false) : Y g = none ∧ G[g]? = some st := by
  cases e : Y g with
  | none => exact ⟨rfl, by rw [(z.awk g e).1]; exact h⟩
  | some y =>
    obtain ⟨h0, h1, h2⟩ := z.slp g y e
    rw [h] at h2
    cases h2
    exfalso
    cases y <;> first | (cases h0; done) | (revert hs; simp [dumb, sleeps])
theorem Zg.set (z : Zg Y G0 G) {g : Nat} {x : GenState} (hg : Y g = none) (hx : DeafG x) : Zg Y (G0.setIfInBounds g x) (G.setIfInBounds g x) where
  size := by simp [z.size]
  slp := fun i y e => by
    have ne : g ≠ i := fun q => by rw [q] at hg; rw [hg] at e; cases e
    obtain ⟨h0, h1, h2⟩ := z.slp i y e
    exact ⟨h0, by rw [Array.getElem?_setIfInBounds_ne ne]; exact h1, by rw [Array.getElem?_setIfInBounds_ne ne]; exact h2⟩
  awk := fun i e => by
    obtain ⟨h1, h2⟩ := z.awk i e
    by_cases q : g = i
    · subst q
      refine ⟨?_, fun y hy => ?_⟩
      · rw [Array.getElem?_setIfInBounds_self, Array.getElem?_setIfInBounds_self, z.size]
      · rw [Array.getElem?_setIfInBounds_self] at hy
        split at hy
        · cases hy; exact hx
        · cases hy
    · rw [Array.getElem?_setIfInBounds_ne q, Array.getElem?_setIfInBounds_ne q]
      exact ⟨h1, h2⟩
theorem Zg.push (z : Zg Y G0 G) {x : GenState} (hx : DeafG x) : Zg Y (G0.push x) (G.push x) where
  size := by simp [z.size]
  slp := fun i y e => by
    obtain ⟨h0, h1, h2⟩ := z.slp i y e
    have l1 := (Array.getElem?_eq_some_iff.mp h1).1
    have l2 := (Array.getElem?_eq_some_iff.mp h2).1
    exact ⟨h0, by rw [Array.getElem?_push, if_neg (by omega)]; exact h1, by rw [Array.getElem?_push, if_neg (by omega)]; exact h2⟩
  awk := fun i e => by
    obtain ⟨h1, h2⟩ := z.awk i e
    rw [Array.getElem?_push, Array.getElem?_push, z.size]
    by_cases q : i = G0.size
    · rw [if_pos q, if_pos q]
      exact ⟨rfl, fun y hy => by cases hy; exact hx⟩
    · rw [if_neg q, if_neg q]
      exact ⟨h1, h2⟩
end
theorem runs_z {M : Model} {Y : Nat → Option GenState} {Γ : PySem.Ctx} {p : Pos} {t : Sem PySem.Fin} {F : List Frame} {s s' : Shared} {e : End} (h : Runs M Γ p t F s e s') : Deaf F → ∀ G, Zg Y s.gens G → DeafE e ∧ ∃ G', Runs M Γ p t F { s with gens := G } e { s' with gens := G' } ∧ Zg Y s'.gens G' := by
  induction h with
  | done => exact fun _ G z => ⟨trivial, G, .done, z⟩
  | raise => exact fun _ G z => ⟨trivial, G, .raise, z⟩
  | again hq _ ih => exact fun hF G z => let ⟨a, G', r, z'⟩ := ih hF G z; ⟨a, G', .again hq r, z'⟩
  | rule _ ih => exact fun hF G z => let ⟨a, G', r, z'⟩ := ih hF G z; ⟨a, G', .rule r, z'⟩
  | «at» _ ih => exact fun hF G z => let ⟨a, G', r, z'⟩ := ih hF G z; ⟨a, G', .at r, z'⟩
  | load ho _ ih => exact fun hF G z => let ⟨a, G', r, z'⟩ := ih hF G z; ⟨a, G', .load ho r, z'⟩
  | update ho _ ih => exact fun hF G z => let ⟨a, G', r, z'⟩ := ih hF G z; ⟨a, G', .update ho r, z'⟩
  | loadIfAlive _ ih => exact fun hF G z => let ⟨a, G', r, z'⟩ := ih hF G z; ⟨a, G', .loadIfAlive r, z'⟩
  | point _ ih => exact fun hF G z => let ⟨a, G', r, z'⟩ := ih hF G z; ⟨a, G', .point r, z'⟩
  | alloc _ ih => exact fun hF G z => let ⟨a, G', r, z'⟩ := ih hF G z; ⟨a, G', .alloc r, z'⟩
  | fresh _ ih => exact fun hF G z => let ⟨a, G', r, z'⟩ := ih hF G z; ⟨a, G', .fresh r, z'⟩
  | ask _ ih => exact fun hF G z => let ⟨a, G', r, z'⟩ := ih hF G z; ⟨a, G', .ask r, z'⟩
  | choose hn _ ih => exact fun hF G z => let ⟨a, G', r, z'⟩ := ih hF G z; ⟨a, G', .choose hn r, z'⟩
  | os _ ih => exact fun hF G z => let ⟨a, G', r, z'⟩ := ih hF G z; ⟨a, G', .os r, z'⟩
  | handled _ ih => exact fun hF G z => let ⟨a, G', r, z'⟩ := ih hF G z; ⟨a, G', .handled r, z'⟩
  | genState hg _ ih =>
    intro hF G z
    obtain ⟨st', h1, h2⟩ := z.seen hg
    obtain ⟨a, G', r, z'⟩ := ih hF G z
    exact ⟨a, G', .genState h1 (by rw [h2]; exact r), z'⟩
  | stack _ ih => exact fun hF G z => let ⟨a, G', r, z'⟩ := ih hF G z; ⟨a, G', .stack r, z'⟩
  | thread _ ih => exact fun hF G z => let ⟨a, G', r, z'⟩ := ih hF G z; ⟨a, G', .thread r, z'⟩
  | @newGen Γ p k s e s' c hr ih =>
    intro hF G z
    obtain ⟨a, G', r, z'⟩ := ih hF (G.push (.fresh c)) (z.push (x := .fresh c) trivial)
    refine ⟨a, G', .newGen ?_, z'⟩
    show Runs _ _ _ (k G.size) _ _ _ _
    rw [z.size]
    exact r
  | call _ _ ih1 ih2 =>
    intro hF G z
    obtain ⟨a, G', r, z'⟩ := ih1 rfl G z
    obtain ⟨a2, G2, r2, z2⟩ := ih2 hF G' z'
    exact ⟨a2, G2, .call r r2, z2⟩
  | callSusp _ ih =>
    intro hF G z
    obtain ⟨a, G', r, z'⟩ := ih rfl G z
    exact ⟨deaf_app a (deaf_cons rfl), G', .callSusp r, z'⟩
  | yield => exact fun _ G z => ⟨rfl, G, .yield, z⟩
  | resumeFresh hg _ hq _ ih1 ih2 =>
    intro hF G z
    obtain ⟨y0, hg'⟩ := z.awake hg rfl
    obtain ⟨a, G', r, z'⟩ := ih1 rfl _ (z.set (x := .running) y0 trivial)
    obtain ⟨a2, G2, r2, z2⟩ := ih2 hF _ (z'.set y0 a.gen)
    exact ⟨a2, G2, .resumeFresh hg' r hq r2, z2⟩
  | @resumeSuspended Γ p g r l k s k₀ l₀ c₀ p₀ fs cl e₁ s₁ e s' hg hr hq _ ih1 ih2 =>
    intro hF G z
    cases y0 : Y g with
    | some y =>
      obtain ⟨h0, h1, h2⟩ := z.slp g y y0
      rw [hg] at h2
      cases y <;> first | cases h0 | skip
      cases h2
      exact (no_uns hr).elim
    | none =>
      obtain ⟨h1, h2⟩ := z.awk g y0
      have df : Deaf fs := h2 _ hg
      obtain ⟨a, G', r', z'⟩ := ih1 df _ (z.set (x := .running) y0 trivial)
      obtain ⟨a2, G2, r2, z2⟩ := ih2 hF _ (z'.set y0 a.gen)
      exact ⟨a2, G2, .resumeSuspended (by rw [← hg]; exact h1) r' hq r2, z2⟩
  | resumeJustStarted hg hv _ ih =>
    intro hF G z
    obtain ⟨a, G', r, z'⟩ := ih hF G z
    exact ⟨a, G', .resumeJustStarted (z.awake hg rfl).2 hv r, z'⟩
  | resumeThrowFresh hg _ ih =>
    intro hF G z
    obtain ⟨y0, hg'⟩ := z.awake hg rfl
    obtain ⟨a, G', r, z'⟩ := ih hF _ (z.set (x := .finished) y0 trivial)
    exact ⟨a, G', .resumeThrowFresh hg' r, z'⟩
  | resumeRunning hg _ ih =>
    intro hF G z
    obtain ⟨a, G', r, z'⟩ := ih hF G z
    exact ⟨a, G', .resumeRunning (z.awake hg rfl).2 r, z'⟩
  | resumeFinished hg _ ih =>
    intro hF G z
    obtain ⟨a, G', r, z'⟩ := ih hF G z
    exact ⟨a, G', .resumeFinished (z.awake hg rfl).2 r, z'⟩
  | segRet _ _ ih1 ih2 =>
    intro hF G z
    obtain ⟨a, G', r, z'⟩ := ih1 rfl G z
    obtain ⟨a2, G2, r2, z2⟩ := ih2 (deaf_ret hF) G' z'
    exact ⟨a2, G2, .segRet r r2, z2⟩
  | segGen _ _ _ _ => exact fun hF _ _ => (deaf_gen hF).elim
  | segSuspOut hs _ ih =>
    intro hF G z
    obtain ⟨a, G', r, z'⟩ := ih rfl G z
    exact ⟨deaf_app a hF, G', .segSuspOut hs r, z'⟩
  | segSuspGen hs _ _ _ _ _ =>
    intro hF
    unfold Deaf at hF
    rw [hs] at hF
    cases hF
theorem wakes_z {M : Model} {Y : Nat → Option GenState} {Γ : PySem.Ctx} {p : Pos} {g : Nat} {r : Resume} {s s' : Shared} {res : GenResult} (h : Wakes M Γ p g r s res s') (G : Array GenState) (z : Zg Y s.gens G) : ∃ G', Wakes M Γ p g r { s with gens := G } res { s' with gens := G' } ∧ Zg Y s'.gens G' := by
  unfold Wakes at h
  split at h
  · exact h.elim
  · rename_i c hg
    obtain ⟨y0, hg'⟩ := z.awake hg rfl
    split at h
    · obtain ⟨e₁, s₁, hr, hq, rfl, rfl⟩ := h
      obtain ⟨a, G', r', z'⟩ := runs_z hr (show Deaf [] from rfl) (G.setIfInBounds g .running) (z.set (x := .running) y0 trivial)
      refine ⟨_, ?_, z'.set y0 a.gen⟩
      unfold Wakes
      rw [show ({ s with gens := G } : Shared).gens[g]? = _ from hg']
      exact ⟨e₁, _, r', hq, rfl, rfl⟩
    · obtain ⟨rfl, rfl⟩ := h
      rename_i v hv
      refine ⟨G, ?_, z⟩
      unfold Wakes
      rw [show ({ s' with gens := G } : Shared).gens[g]? = _ from hg']
      cases v <;> first | exact ⟨rfl, rfl⟩ | exact absurd rfl hv
    · obtain ⟨rfl, rfl⟩ := h
      refine ⟨_, ?_, z.set (x := .finished) y0 trivial⟩
      unfold Wakes
      rw [show ({ s with gens := G } : Shared).gens[g]? = _ from hg']
      exact ⟨rfl, rfl⟩
  · rename_i k₀ l₀ c₀ p₀ fs cl hg
    obtain ⟨e₁, s₁, hr, hq, rfl, rfl⟩ := h
    cases y0 : Y g with
    | some y =>
      obtain ⟨h0, h1, h2⟩ := z.slp g y y0
      rw [hg] at h2
      cases y <;> first | cases h0 | skip
      cases h2
      exact (no_uns hr).elim
    | none =>
      obtain ⟨h1, h2⟩ := z.awk g y0
      have df : Deaf fs := h2 _ hg
      obtain ⟨a, G', r', z'⟩ := runs_z hr df (G.setIfInBounds g .running) (z.set (x := .running) y0 trivial)
      refine ⟨_, ?_, z'.set y0 a.gen⟩
      unfold Wakes
      rw [show ({ s with gens := G } : Shared).gens[g]? = _ from h1.trans hg]
      exact ⟨e₁, _, r', hq, rfl, rfl⟩
  · rename_i hg
    obtain ⟨rfl, rfl⟩ := h
    refine ⟨G, ?_, z⟩
    unfold Wakes
    rw [show ({ s' with gens := G } : Shared).gens[g]? = _ from (z.awake hg rfl).2]
    exact ⟨rfl, rfl⟩
  · rename_i hg
    obtain ⟨rfl, rfl⟩ := h
    refine ⟨G, ?_, z⟩
    unfold Wakes
    rw [show ({ s' with gens := G } : Shared).gens[g]? = _ from (z.awake hg rfl).2]
    exact ⟨rfl, rfl⟩
/-- where a run from the dumbed state ends, with the sleepers as they were -/
def Slp (Y : Nat → Option GenState) (Q : Shared → Prop) (s : Shared) : Prop := ∃ s0 G, Q s0 ∧ s = { s0 with gens := G } ∧ Zg Y s0.gens G
theorem wp_z {α : Type} {M : Model} {Γ : PySem.Ctx} {Y : Nat → Option GenState} (t : Sem α) : ∀ (Q : α → Pos → Shared → Prop) (E : Value → Pos → Shared → Prop) (p : Pos) (s : Shared) (G : Array GenState), Zg Y s.gens G → Sem.wp M Γ t Q E p s →
    Sem.wp M Γ t (fun a p' => Slp Y (Q a p')) (fun e p' => Slp Y (E e p')) p { s with gens := G } := by
  induction t with
  | pure a => intro Q E p s G z h; exact ⟨s, G, h, rfl, z⟩
  | raise e => intro Q E p s G z h; exact ⟨s, G, h, rfl, z⟩
  | unsupported _ => intro Q E p s G z h; exact h
  | finish _ => intro Q E p s G z h; exact h
  | rule _ k ih => intro Q E p s G z h; exact ih () Q E p s G z h
  | «at» p' k ih => intro Q E p s G z h; exact ih () Q E p' s G z h
  | load a _ k ih => intro Q E p s G z h; obtain ⟨o, ho, h⟩ := h; exact ⟨o, ho, ih o Q E p s G z h⟩
  | update a _ f k ih => intro Q E p s G z h; exact ⟨h.1, ih () Q E p { s with heap := s.heap.update a f } G z h.2⟩
  | loadIfAlive a k ih => intro Q E p s G z h; exact ih _ Q E p s G z h
  | point _ k ih => intro Q E p s G z h; exact ih () Q E p s G z h
  | register _ _ => intro Q E p s G z h; exact h
  | alloc o k ih => intro Q E p s G z h; exact ih _ Q E p { s with heap := s.heap.push o } G z h
  | fresh k ih => intro Q E p s G z h; exact ih _ Q E p { s with toks := s.toks + 1 } G z h
  | ask k ih => intro Q E p s G z h; exact ih _ Q E p s G z h
  | choose src m k ih => intro Q E p s G z h; exact ⟨h.1, ih _ Q E p { s with drawn := s.drawn.bump src } G z h.2⟩
  | os q _ k ih => intro Q E p s G z h; exact ih _ Q E p { s with os := (Os.step s.os q).1 } G z h
  | call c hd _ _ k ih =>
    intro Q E p s G z h
    obtain ⟨r, s', hr, h⟩ := h
    obtain ⟨_, G', r', z'⟩ := runs_z hr (show Deaf [] from rfl) G z
    exact ⟨r, _, r', ih r Q E p s' G' z' h⟩
  | handled own k ih => intro Q E p s G z h; exact ih _ Q E p s G z h
  | genState g k ih =>
    intro Q E p s G z h
    obtain ⟨st, hs, h⟩ := h
    obtain ⟨st', h1, h2⟩ := z.seen hs
    exact ⟨st', h1, by rw [h2]; exact ih _ Q E p s G z h⟩
  | newGen c k ih =>
    intro Q E p s G z h
    have z' := z.push (x := .fresh c) trivial
    show Sem.wp M Γ (k G.size) _ _ p { s with gens := G.push (.fresh c) }
    rw [z.size]
    exact ih _ Q E p { s with gens := s.gens.push (.fresh c) } _ z' h
  | resume g r _ k ih =>
    intro Q E p s G z h
    obtain ⟨res, s', hw, h⟩ := h
    obtain ⟨G', w', z'⟩ := wakes_z hw G z
    exact ⟨res, _, w', ih res Q E p s' G' z' h⟩
  | yield _ _ _ _ => intro Q E p s G z h; exact h
  | stack k ih => intro Q E p s G z h; exact ih _ Q E p s G z h
  | fork _ _ => intro Q E p s G z h; exact h
  | thread k ih => intro Q E p s G z h; exact ih _ Q E p s G z h
  | await _ _ _ _ _ => intro Q E p s G z h; exact h
theorem wpAny_z {α : Type} {M : Model} {A : Around} {Y : Nat → Option GenState} {t : Sem α} {Q : α → Shared → Prop} {E : Value → Shared → Prop} {s : Shared} {G : Array GenState} (z : Zg Y s.gens G) (h : wpAny M A t Q E s) :
    wpAny M A t (fun a => Slp Y (Q a)) (fun e => Slp Y (E e)) { s with gens := G } := fun Γ p hΓ => wp_z t _ _ p s G z (h Γ p hΓ)
end FF
/-! ## FA -/
namespace FF
open PySem PySem.Spec PyProof.Rows L2

/-! ### data: what the program's values are -/
abbrev PD := PyData
/-- a value of the program: plain data, or a look (its words, its states, where its checks fail) -/
inductive D where
  | p (d : PD)
  | look (ws ss : List PD) (fs : List (List Int × PD))
  | sts (l : List (List Int))

abbrev Ev := List (Option D)
def lk : Ev → Nat → Option D
  | [], _ => none
  | x :: _, 0 => x
  | _ :: r, i + 1 => lk r i
def put : Ev → Nat → D → Ev
  | [], _, _ => []
  | _ :: r, 0, d => some d :: r
  | x :: r, i + 1, d => x :: put r i d
def forget : Ev → Nat → Ev
  | [], _ => []
  | _ :: r, 0 => none :: r
  | x :: r, i + 1 => x :: forget r i
def wipeD (ρ : Ev) : List Nat → Ev
  | [] => ρ
  | i :: is => forget (wipeD ρ is) i
theorem put_len : ∀ (ρ : Ev) (i : Nat) (d : D), (put ρ i d).length = ρ.length
  | [], _, _ => rfl
  | _ :: _, 0, _ => rfl
  | _ :: r, i + 1, d => congrArg Nat.succ (put_len r i d)
theorem forget_len : ∀ (ρ : Ev) (i : Nat), (forget ρ i).length = ρ.length
  | [], _ => rfl
  | _ :: _, 0 => rfl
  | _ :: r, i + 1 => congrArg Nat.succ (forget_len r i)
theorem wipeD_len (ρ : Ev) : ∀ is : List Nat, (wipeD ρ is).length = ρ.length
  | [] => rfl
  | i :: is => (forget_len _ i).trans (wipeD_len ρ is)
theorem lk_put : ∀ (ρ : Ev) (i j : Nat) (d e : D), lk (put ρ i d) j = some e → (j = i ∧ e = d) ∨ (j ≠ i ∧ lk ρ j = some e)
  | [], _, _, _, _, h => by simp [put, lk] at h
  | x :: r, 0, 0, d, e, h => .inl ⟨rfl, (Option.some.inj h).symm⟩
  | x :: r, 0, j + 1, d, e, h => .inr ⟨by omega, h⟩
  | x :: r, i + 1, 0, d, e, h => .inr ⟨by omega, h⟩
  | x :: r, i + 1, j + 1, d, e, h => by
    rcases lk_put r i j d e h with ⟨h1, h2⟩ | ⟨h1, h2⟩
    · exact .inl ⟨by omega, h2⟩
    · exact .inr ⟨by omega, h2⟩
theorem lk_forget : ∀ (ρ : Ev) (i j : Nat) (e : D), lk (forget ρ i) j = some e → j ≠ i ∧ lk ρ j = some e
  | [], _, _, _, h => by simp [forget, lk] at h
  | x :: r, 0, 0, e, h => by simp [forget, lk] at h
  | x :: r, 0, j + 1, e, h => ⟨by omega, h⟩
  | x :: r, i + 1, 0, e, h => ⟨by omega, h⟩
  | x :: r, i + 1, j + 1, e, h => by
    obtain ⟨h1, h2⟩ := lk_forget r i j e h
    exact ⟨by omega, h2⟩
theorem lk_wipe (ρ : Ev) : ∀ (is : List Nat) (j : Nat) (e : D), lk (wipeD ρ is) j = some e → j ∉ is ∧ lk ρ j = some e
  | [], j, e, h => ⟨by simp, h⟩
  | i :: is, j, e, h => by
    obtain ⟨h1, h2⟩ := lk_forget _ i j e h
    obtain ⟨h3, h4⟩ := lk_wipe ρ is j e h2
    exact ⟨by simp only [List.mem_cons, not_or]; exact ⟨h1, h3⟩, h4⟩

/-! ### heaps seen through a mask -/
abbrev Msk := Addr → Bool
def hide (M : Msk) (H : Hp) : Hp := fun a => if M a = true then none else H a
theorem hide_of {M : Msk} {H : Hp} {a : Addr} {o : HO} (h : H a = some o) (m : M a = false) : hide M H a = some o := by
  unfold hide
  rw [m]
  exact h
theorem of_hide {M : Msk} {H : Hp} {a : Addr} {o : HO} (h : hide M H a = some o) : M a = false ∧ H a = some o := by
  unfold hide at h
  cases e : M a with
  | true => rw [e] at h; cases h
  | false => rw [e] at h; exact ⟨rfl, h⟩
theorem same_hide {M : Msk} {H H' : Hp} (s : Same H H') : Same (hide M H) (hide M H') := fun b o h => by
  obtain ⟨m, e⟩ := of_hide h
  exact hide_of (s b o e) m
theorem hide_le {M : Msk} {H : Hp} : Same (hide M H) H := fun _ _ h => (of_hide h).2
/-- what is hidden is tracked, and no tuple -/
def noTup : HO → Bool
  | .tup _ => false
  | _ => true
def Hid (M : Msk) (H : Hp) : Prop := ∀ a, M a = true → ∃ o, H a = some o ∧ noTup o = true
theorem Hid.tup {M : Msk} {H : Hp} {a : Addr} {xs : List V} (h : Hid M H) (e : H a = some (.tup xs)) : hide M H a = some (.tup xs) := by
  refine hide_of e ?_
  cases q : M a with
  | false => rfl
  | true =>
    obtain ⟨o, e2, n⟩ := h a q
    rw [e] at e2
    cases e2
    cases n
theorem Hid.mono {M : Msk} {H H' : Hp} (h : Hid M H) (s : Same H H') : Hid M H' := fun a m => let ⟨o, e, n⟩ := h a m; ⟨o, s a o e, n⟩
theorem Hid.new {M : Msk} {H : Hp} {a : Addr} (h : Hid M H) (n : H a = none) : M a = false := by
  cases e : M a with
  | false => rfl
  | true =>
    obtain ⟨o, q, _⟩ := h a e
    rw [n] at q; cases q
theorem same_new {H : Hp} {p : Addr} {o : HO} (h : H p = none) : Same H (upd H p o) := fun b x e => by
  rw [upd_ne (ne_of_none e h)]
  exact e
theorem hide_new {M : Msk} {H : Hp} {a : Addr} {o : HO} (h : Hid M H) (n : H a = none) : hide M (upd H a o) a = some o := hide_of upd_same (h.new n)
/-- one more is hidden -/
def more (M : Msk) (a : Addr) : Msk := fun b => M b || b == a
theorem more_self (M : Msk) (a : Addr) : more M a a = true := by simp [more]
theorem more_upd {M : Msk} {H : Hp} {a : Addr} {o : HO} : hide (more M a) (upd H a o) = hide (more M a) H := by
  funext b
  unfold hide
  by_cases e : b = a
  · subst e
    rw [if_pos (more_self M b), if_pos (more_self M b)]
  · rw [upd_ne e]
theorem more_le {M : Msk} {H : Hp} {a : Addr} : Same (hide (more M a) H) (hide M H) := fun b o h => by
  obtain ⟨m, e⟩ := of_hide h
  refine hide_of e ?_
  unfold more at m
  cases q : M b with
  | false => rfl
  | true => rw [q] at m; simp at m
theorem more_new {M : Msk} {H : Hp} {a : Addr} (n : H a = none) : hide (more M a) H = hide M H := by
  funext b
  unfold hide
  by_cases e : b = a
  · subst e
    rw [if_pos (more_self M b), n]
    simp
  · have q : more M a b = M b := by simp [more, e]
    rw [q]
theorem Hid.more {M : Msk} {H : Hp} {a : Addr} {o : HO} (h : Hid M H) (e : H a = some o) (nt : noTup o = true := by rfl) : Hid (more M a) H := fun b m => by
  unfold FF.more at m
  cases q : M b with
  | true => exact h b q
  | false =>
    rw [q] at m
    have e' : b = a := by simpa using m
    subst e'
    exact ⟨o, e, nt⟩

/-! ### data at a value -/
theorem seqT {K : PySem.W.Frag} {H H' : Hp} {a : Addr} {xs : List V} (e : Same H H') (h : SqT K H a xs) : SqT K H' a xs := by
  rcases h with (h | ⟨o, h⟩) | h
  · exact .inl (.inl (e _ _ h))
  · exact .inl (.inr ⟨o, e _ _ h⟩)
  · exact .inr h
mutual
theorem Dp_mono {K : PySem.W.Frag} {H H' : Hp} (e : Same H H') : ∀ (d : PD) (v : V), Dp K H v d → Dp K H' v d
  | .none, _, h => by cases h; exact .non
  | .bool b, _, h => by cases h; exact .bl b
  | .int i, _, h => by cases h; exact .int i
  | .str x, _, h => by cases h; exact .str x
  | .list ds, _, h => by
    cases h with
    | lst hs ha => exact .lst (e.seq hs) (DpAll_mono e ds _ ha)
  | .tuple ds, _, h => by
    cases h with
    | tup hs ha => exact .tup (seqT e hs) (DpAll_mono e ds _ ha)
  | .dict _, _, h => by cases h
theorem DpAll_mono {K : PySem.W.Frag} {H H' : Hp} (e : Same H H') : ∀ (ds : List PD) (vs : List V), DpAll K H vs ds → DpAll K H' vs ds
  | [], _, h => by cases h; exact .nil
  | d :: ds, _, h => by
    cases h with
    | cons h1 h2 => exact .cons (Dp_mono e d _ h1) (DpAll_mono e ds _ h2)
end
theorem DpAll_len {K : PySem.W.Frag} {H : Hp} : ∀ {ds : List PD} {vs : List V}, DpAll K H vs ds → vs.length = ds.length
  | [], _, h => by cases h; rfl
  | d :: ds, _, h => by
    cases h with
    | cons h1 h2 => exact congrArg Nat.succ (DpAll_len h2)
theorem DpAll_get {K : PySem.W.Frag} {H : Hp} : ∀ {ds : List PD} {vs : List V} {i : Nat} {d : PD}, DpAll K H vs ds → ds[i]? = some d → ∃ v, vs[i]? = some v ∧ Dp K H v d
  | [], _, _, _, _, e => by simp at e
  | d :: ds, _, 0, d', h, e => by
    cases h with
    | cons h1 h2 =>
      have : d = d' := by simpa using e
      subst this
      exact ⟨_, rfl, h1⟩
  | d :: ds, _, i + 1, d', h, e => by
    cases h with
    | cons h1 h2 =>
      obtain ⟨v, q1, q2⟩ := DpAll_get (i := i) h2 (by simpa using e)
      exact ⟨v, by simpa using q1, q2⟩
theorem DpAll_get' {K : PySem.W.Frag} {H : Hp} : ∀ {ds : List PD} {vs : List V} {i : Nat} {v : V}, DpAll K H vs ds → vs[i]? = some v → ∃ d, ds[i]? = some d ∧ Dp K H v d
  | [], _, _, _, h, e => by cases h; simp at e
  | d :: ds, _, 0, d', h, e => by
    cases h with
    | cons h1 h2 => 
      simp only [List.getElem?_cons_zero, Option.some.injEq] at e
      subst e
      exact ⟨_, rfl, h1⟩
  | d :: ds, _, i + 1, d', h, e => by
    cases h with
    | cons h1 h2 =>
      obtain ⟨v, q1, q2⟩ := DpAll_get' (i := i) h2 (by simpa using e)
      exact ⟨v, by simpa using q1, q2⟩
theorem DpAll_app {K : PySem.W.Frag} {H : Hp} : ∀ {ds es : List PD} {vs ws : List V}, DpAll K H vs ds → DpAll K H ws es → DpAll K H (vs ++ ws) (ds ++ es)
  | [], _, _, _, h, h' => by cases h; exact h'
  | d :: ds, _, _, _, h, h' => by
    cases h with
    | cons h1 h2 => exact .cons h1 (DpAll_app h2 h')
theorem DpAll_take {K : PySem.W.Frag} {H : Hp} : ∀ (n : Nat) {ds : List PD} {vs : List V}, DpAll K H vs ds → DpAll K H (vs.take n) (ds.take n)
  | 0, _, _, _ => by simpa using DpAll.nil
  | n + 1, [], _, h => by cases h; exact .nil
  | n + 1, d :: ds, _, h => by
    cases h with
    | cons h1 h2 => exact .cons h1 (DpAll_take n h2)
theorem DpAll_drop {K : PySem.W.Frag} {H : Hp} : ∀ (n : Nat) {ds : List PD} {vs : List V}, DpAll K H vs ds → DpAll K H (vs.drop n) (ds.drop n)
  | 0, _, _, h => h
  | n + 1, [], _, h => by cases h; exact .nil
  | n + 1, d :: ds, _, h => by
    cases h with
    | cons h1 h2 => exact DpAll_drop n h2

/-- the failing checks by state -/
inductive FsOk (K : PySem.W.Frag) (H : Hp) : List (List L2.Key × V) → List (List Int × PD) → Prop
  | nil : FsOk K H [] []
  | cons {k : List Int} {v : V} {d : PD} {kvs : List (List L2.Key × V)} {fs : List (List Int × PD)} : Dp K H v d → FsOk K H kvs fs → FsOk K H ((k.map Sum.inl, v) :: kvs) ((k, d) :: fs)
theorem FsOk.mono {K : PySem.W.Frag} {H H' : Hp} (e : Same H H') {kvs : List (List L2.Key × V)} {fs : List (List Int × PD)} (h : FsOk K H kvs fs) : FsOk K H' kvs fs := by
  induction h with
  | nil => exact .nil
  | cons h1 _ ih => exact .cons (Dp_mono e _ _ h1) ih
structure LookAt (K : PySem.W.Frag) (C : Addr) (H : Hp) (a : Addr) (ws ss : List PD) (fs : List (List Int × PD)) : Prop where
  ex : ∃ (dx aw as af : Addr) (xw xs : List V) (kvs : List (List L2.Key × V)),
    H a = some (.ins C dx [(("list_words" : Str), .ref aw), (("every_state" : Str), .ref as), (("failed" : Str), .ref af)]) ∧
    H aw = some (.lst xw) ∧ DpAll K H xw ws ∧ H as = some (.lst xs) ∧ DpAll K H xs ss ∧ H af = some (.dT kvs) ∧ FsOk K H kvs fs
theorem LookAt.mono {K : PySem.W.Frag} {C : Addr} {H H' : Hp} (e : Same H H') {a : Addr} {ws ss : List PD} {fs : List (List Int × PD)} (h : LookAt K C H a ws ss fs) : LookAt K C H' a ws ss fs := by
  obtain ⟨dx, aw, as, af, xw, xs, kvs, h1, h2, h3, h4, h5, h6, h7⟩ := h.ex
  exact ⟨dx, aw, as, af, xw, xs, kvs, e _ _ h1, e _ _ h2, DpAll_mono e _ _ h3, e _ _ h4, DpAll_mono e _ _ h5, e _ _ h6, h7.mono e⟩
/-- tracked tuples of ints -/
def kI (k : List Int) : List V := (k.map Sum.inl).map kV
def stP (k : List Int) : PD := .tuple (k.map .int)
inductive TrAll (H : Hp) : List V → List (List Int) → Prop
  | nil : TrAll H [] []
  | cons {b : Addr} {k : List Int} {xs : List V} {l : List (List Int)} : H b = some (.tup (kI k)) → TrAll H xs l → TrAll H (.ref b :: xs) (k :: l)
theorem TrAll.mono {H H' : Hp} (e : Same H H') {xs : List V} {l : List (List Int)} (h : TrAll H xs l) : TrAll H' xs l := by
  induction h with
  | nil => exact .nil
  | cons h1 _ ih => exact .cons (e _ _ h1) ih
theorem TrAll.app {H : Hp} {xs ys : List V} {l m : List (List Int)} (h : TrAll H xs l) (h' : TrAll H ys m) : TrAll H (xs ++ ys) (l ++ m) := by
  induction h with
  | nil => exact h'
  | cons h1 _ ih => exact .cons h1 ih
theorem TrAll.len {H : Hp} {xs : List V} {l : List (List Int)} (h : TrAll H xs l) : xs.length = l.length := by
  induction h with
  | nil => rfl
  | cons _ _ ih => exact congrArg Nat.succ ih
theorem kI_all {K : PySem.W.Frag} {H : Hp} : ∀ k : List Int, DpAll K H (kI k) (k.map .int)
  | [] => .nil
  | i :: r => .cons (.int i) (kI_all r)
theorem stP_dp {K : PySem.W.Frag} {H : Hp} {b : Addr} {k : List Int} (h : H b = some (.tup (kI k))) : Dp K H (.ref b) (stP k) := .tup (.inl (.inl h)) (kI_all k)
theorem TrAll.dp {K : PySem.W.Frag} {H : Hp} {xs : List V} {l : List (List Int)} (h : TrAll H xs l) : DpAll K H xs (l.map stP) := by
  induction h with
  | nil => exact .nil
  | cons h1 _ ih => exact .cons (stP_dp h1) ih
theorem TrAll.get {H : Hp} {xs : List V} {l : List (List Int)} (h : TrAll H xs l) : ∀ {i : Nat} {k : List Int}, l[i]? = some k → ∃ b, xs[i]? = some (.ref b) ∧ H b = some (.tup (kI k)) := by
  induction h with
  | nil => intro i k e; simp at e
  | cons h1 _ ih =>
    intro i k e
    cases i with
    | zero =>
      simp only [List.getElem?_cons_zero, Option.some.injEq] at e
      subst e
      exact ⟨_, rfl, h1⟩
    | succ i =>
      obtain ⟨b, q1, q2⟩ := ih (i := i) (by simpa using e)
      exact ⟨b, by simpa using q1, q2⟩
/-- v is the datum d -/
def Rp (K : PySem.W.Frag) (C : Addr) (H : Hp) (v : V) : D → Prop
  | .p d => Dp K H v d
  | .look ws ss fs => ∃ a, v = .ref a ∧ LookAt K C H a ws ss fs
  | .sts l => ∃ a xs, v = .ref a ∧ H a = some (.lst xs) ∧ TrAll H xs l
theorem Rp.mono {K : PySem.W.Frag} {C : Addr} {H H' : Hp} (e : Same H H') {v : V} : ∀ {d : D}, Rp K C H v d → Rp K C H' v d
  | .p d, h => Dp_mono e d v h
  | .look _ _ _, ⟨a, h1, h2⟩ => ⟨a, h1, h2.mono e⟩
  | .sts _, ⟨a, xs, h1, h2, h3⟩ => ⟨a, xs, h1, e _ _ h2, h3.mono e⟩
inductive RpAll (K : PySem.W.Frag) (C : Addr) (H : Hp) : List V → List D → Prop
  | nil : RpAll K C H [] []
  | cons {v : V} {d : D} {vs : List V} {ds : List D} : Rp K C H v d → RpAll K C H vs ds → RpAll K C H (v :: vs) (d :: ds)
theorem RpAll.mono {K : PySem.W.Frag} {C : Addr} {H H' : Hp} (e : Same H H') {vs : List V} {ds : List D} (h : RpAll K C H vs ds) : RpAll K C H' vs ds := by
  induction h with
  | nil => exact .nil
  | cons h1 _ ih => exact .cons (h1.mono e) ih
theorem RpAll.len {K : PySem.W.Frag} {C : Addr} {H : Hp} {vs : List V} {ds : List D} (h : RpAll K C H vs ds) : vs.length = ds.length := by
  induction h with
  | nil => rfl
  | cons _ _ ih => exact congrArg Nat.succ ih

/-- the slots hold what the environment says -/
structure EnvR (K : PySem.W.Frag) (C : Addr) (H : Hp) (σ : L2.St) (ρ : Ev) : Prop where
  len : σ.length = ρ.length
  get : ∀ i d, lk ρ i = some d → ∃ v, σ[i]? = some (some v) ∧ Rp K C H v d
section
variable {K : PySem.W.Frag} {C : Addr} {H H' : Hp} {σ : L2.St} {ρ : Ev}
theorem EnvR.mono (e : Same H H') (h : EnvR K C H σ ρ) : EnvR K C H' σ ρ := ⟨h.len, fun i d q => let ⟨v, a, b⟩ := h.get i d q; ⟨v, a, b.mono e⟩⟩
theorem lk_lt : ∀ {ρ : Ev} {i : Nat} {d : D}, lk ρ i = some d → i < ρ.length
  | [], _, _, h => by simp [lk] at h
  | _ :: _, 0, _, _ => by simp
  | _ :: r, i + 1, d, h => by have := lk_lt (ρ := r) (i := i) h; simp; omega
theorem EnvR.put {i : Nat} {v : V} {d : D} (h : EnvR K C H σ ρ) (r : Rp K C H v d) : EnvR K C H (σ.set i (some v)) (put ρ i d) := by
  refine ⟨by rw [List.length_set, put_len]; exact h.len, fun j e q => ?_⟩
  have hj := lk_lt q
  rw [put_len, ← h.len] at hj
  rcases lk_put ρ i j d e q with ⟨rfl, rfl⟩ | ⟨ne, q⟩
  · exact ⟨v, by rw [List.getElem?_set_self hj], r⟩
  · obtain ⟨u, a, b⟩ := h.get j e q
    exact ⟨u, by rw [List.getElem?_set_ne (Ne.symm ne)]; exact a, b⟩
theorem EnvR.forget {i : Nat} (h : EnvR K C H σ ρ) : EnvR K C H (σ.set i none) (forget ρ i) := by
  refine ⟨by rw [List.length_set, forget_len]; exact h.len, fun j e q => ?_⟩
  obtain ⟨ne, q⟩ := lk_forget ρ i j e q
  obtain ⟨u, a, b⟩ := h.get j e q
  exact ⟨u, by rw [List.getElem?_set_ne (Ne.symm ne)]; exact a, b⟩
theorem EnvR.wipe (h : EnvR K C H σ ρ) : ∀ is : List Nat, EnvR K C H (wipe σ is) (wipeD ρ is)
  | [] => h
  | i :: is => (EnvR.wipe h is).forget
theorem EnvR.start {N : List Str} {vs : List V} {ds : List D} (h : RpAll K C H vs ds) (hl : ds.length ≤ N.length) : EnvR K C H (start N vs) (ds.map some ++ List.replicate (N.length - ds.length) none) := by
  have hlen := h.len
  refine ⟨by unfold L2.start; simp [hlen], ?_⟩
  have key : ∀ {vs : List V} {ds : List D} (r : RpAll K C H vs ds) (n : Nat) (i : Nat) (d : D), lk (ds.map some ++ List.replicate n none) i = some d → ∃ v, (vs.map some ++ List.replicate n (none : Option V))[i]? = some (some v) ∧ Rp K C H v d := by
    intro vs ds r n
    induction r with
    | nil =>
      intro i d q
      exfalso
      simp only [List.map_nil, List.nil_append] at q
      clear hl hlen h
      revert i
      induction n with
      | zero => intro i q; simp [lk] at q
      | succ n ih =>
        intro i q
        rw [List.replicate_succ] at q
        cases i with
        | zero => simp [lk] at q
        | succ i => exact ih i q
    | cons h1 _ ih =>
      intro i d q
      cases i with
      | zero =>
        have e := Option.some.inj (show some _ = some d from q)
        subst e
        exact ⟨_, rfl, h1⟩
      | succ i =>
        obtain ⟨v, a, b⟩ := ih i d q
        exact ⟨v, by simpa using a, b⟩
  intro i d q
  have := key h (N.length - ds.length) i d q
  unfold L2.start
  rw [hlen]
  exact this
end

/-! ### readings that are functions -/
/-- what follows when the datum has come -/
abbrev Then (K : PySem.W.Frag) (C : Addr) (M : Msk) (H : Hp) (d : D) (Q : VK) : Prop := ∀ v H', Same H H' → Rp K C (hide M H') v d → Q v H'
def dE (K : PySem.W.Frag) (C : Addr) (f : Ev → Option D) : TE := fun σ H Q => ∃ (M : Msk) (ρ : Ev) (d : D), Hid M H ∧ EnvR K C (hide M H) σ ρ ∧ f ρ = some d ∧ Then K C M H d Q
def dT (K : PySem.W.Frag) (C : Addr) (f : Ev → Option Bool) : TT := fun σ H Q => ∃ (M : Msk) (ρ : Ev) (b : Bool), Hid M H ∧ EnvR K C (hide M H) σ ρ ∧ f ρ = some b ∧ ∀ H', Same H H' → Q b H'
def dA (K : PySem.W.Frag) (C : Addr) (f : Ev → Option (List D)) : TA := fun σ H Q => ∃ (M : Msk) (ρ : Ev) (ds : List D), Hid M H ∧ EnvR K C (hide M H) σ ρ ∧ f ρ = some ds ∧ ∀ vs H', Same H H' → RpAll K C (hide M H') vs ds → Q vs H'
structure DE (C : Addr) (X : Cx) (e : Expr) (f : Ev → Option D) : Prop where
  pe : PE X e (dE X.K C f)
structure DT (C : Addr) (X : Cx) (e : Expr) (f : Ev → Option Bool) : Prop where
  pt : PT X e (dT X.K C f)
structure DA (C : Addr) (X : Cx) (es : List Expr) (f : Ev → Option (List D)) : Prop where
  pa : PA X es (dA X.K C f)
theorem PE.imp {X : Cx} {e : Expr} {t t' : TE} (h : PE X e t) (w : ∀ σ H Q, t' σ H Q → t σ H Q) : PE X e t' := ⟨fun pins s σ H Q I q => h.run pins s σ H Q I (w σ H Q q)⟩
theorem PT.imp {X : Cx} {e : Expr} {t t' : TT} (h : PT X e t) (w : ∀ σ H Q, t' σ H Q → t σ H Q) : PT X e t' := ⟨fun pins s σ H Q I q => h.run pins s σ H Q I (w σ H Q q)⟩
theorem PA.imp {X : Cx} {e : List Expr} {t t' : TA} (h : PA X e t) (w : ∀ σ H Q, t' σ H Q → t σ H Q) : PA X e t' := ⟨fun pos pins s σ H Q I q => h.run pos pins s σ H Q I (w σ H Q q)⟩
theorem PS.imp {X : Cx} {e : Stmt} {t t' : TS} (h : PS X e t) (w : ∀ D σ H, t' D σ H → t D σ H) : PS X e t' := ⟨fun pins s σ H D I q => h.run pins s σ H D I (w D σ H q)⟩
theorem PSs.imp {X : Cx} {e : List Stmt} {t t' : TS} (h : PSs X e t) (w : ∀ D σ H, t' D σ H → t D σ H) : PSs X e t' := ⟨fun pins s σ H D I q => h.run pins s σ H D I (w D σ H q)⟩
theorem PG.imp {X : Cx} {e : Expr} {t t' : TG} (h : PG X e t) (w : ∀ v σ H Q, t' v σ H Q → t v σ H Q) : PG X e t' := ⟨fun pins s σ H v u Q I r q => h.run pins s σ H v u Q I r (w v σ H Q q)⟩
theorem PGs.imp {X : Cx} {e : List Expr} {t t' : TGs} (h : PGs X e t) (w : ∀ v σ H Q, t' v σ H Q → t v σ H Q) : PGs X e t' := ⟨fun pins s σ H v u Q I r q => h.run pins s σ H v u Q I r (w v σ H Q q)⟩
theorem PI.imp {X : Cx} {tg e : Expr} {t t' : TI} (h : PI X tg e t) (w : ∀ σ H Q, t' σ H Q → t σ H Q) : PI X tg e t' := ⟨fun pins s σ H Q I q => h.run pins s σ H Q I (w σ H Q q)⟩
end FF
/-! ## FB -/
namespace FF
open PySem PySem.Spec PyProof.Rows L2
/-! ### the kernel's own questions, kept small -/
def ieq : Int → Int → Bool
  | .ofNat a, .ofNat b => Nat.beq a b
  | .negSucc a, .negSucc b => Nat.beq a b
  | _, _ => false
theorem ieq_eq (a b : Int) : ieq a b = decide (a = b) := by
  cases a with
  | ofNat a =>
    cases b with
    | ofNat b =>
      show Nat.beq a b = decide (Int.ofNat a = Int.ofNat b)
      rw [Bool.eq_iff_iff]
      simp only [Nat.beq_eq, decide_eq_true_eq]
      exact ⟨fun h => congrArg _ h, fun h => Int.ofNat.inj h⟩
    | negSucc b => simp [ieq]
  | negSucc a =>
    cases b with
    | ofNat b => simp [ieq]
    | negSucc b =>
      show Nat.beq a b = decide (Int.negSucc a = Int.negSucc b)
      rw [Bool.eq_iff_iff]
      simp
def ilt : Int → Int → Bool
  | .ofNat a, .ofNat b => Nat.blt a b
  | .negSucc a, .negSucc b => Nat.blt b a
  | .negSucc _, .ofNat _ => true
  | .ofNat _, .negSucc _ => false
theorem ilt_eq (a b : Int) : ilt a b = decide (a < b) := by
  cases a with
  | ofNat a =>
    cases b with
    | ofNat b =>
      show Nat.blt a b = decide (Int.ofNat a < Int.ofNat b)
      rw [Bool.eq_iff_iff]
      simp [Nat.blt]
      omega
    | negSucc b =>
      show false = _
      symm
      apply decide_eq_false
      simp only [Int.ofNat_eq_natCast]
      omega
  | negSucc a =>
    cases b with
    | ofNat b =>
      show true = _
      symm
      apply decide_eq_true
      simp only [Int.ofNat_eq_natCast]
      omega
    | negSucc b =>
      show Nat.blt b a = decide (Int.negSucc a < Int.negSucc b)
      rw [Bool.eq_iff_iff]
      simp [Nat.blt]
      omega
def ile (a b : Int) : Bool := !ilt b a
theorem ile_eq (a b : Int) : ile a b = decide (a ≤ b) := by
  unfold ile
  rw [ilt_eq]
  by_cases h : b < a
  · rw [decide_eq_true h, decide_eq_false (by omega)]; rfl
  · rw [decide_eq_false h, decide_eq_true (by omega)]; rfl
def neqs : List Nat → List Nat → Bool
  | [], [] => true
  | a :: as, b :: bs => if Nat.beq a b = true then neqs as bs else false
  | _, _ => false
theorem neqs_eq : ∀ a b : List Nat, neqs a b = decide (a = b)
  | [], [] => by simp [neqs]
  | [], _ :: _ => by simp [neqs]
  | _ :: _, [] => by simp [neqs]
  | a :: as, b :: bs => by
    show (if Nat.beq a b = true then neqs as bs else false) = _
    rw [neqs_eq as bs]
    by_cases h : a = b
    · subst h; simp
    · have : ¬ Nat.beq a b = true := by simpa using h
      rw [if_neg this]
      symm
      apply decide_eq_false
      intro e
      exact h (List.cons.inj e).1
def seqs (x y : Str) : Bool := neqs x.cps.toList y.cps.toList
theorem seqs_eq (x y : Str) : seqs x y = decide (x = y) := by
  unfold seqs
  rw [neqs_eq, Bool.eq_iff_iff]
  obtain ⟨a⟩ := x
  obtain ⟨b⟩ := y
  simp
/-- few enough -/
def few {α : Type} (l : List α) : Bool := Nat.ble l.length 100000
theorem few_le {α : Type} {l : List α} (h : few l = true) : l.length ≤ 100000 := by simpa [few] using h
theorem line_big : 200000 < sizeLine := by rw [sizeLine_eq]; decide
theorem few_line {α : Type} {l : List α} (h : few l = true) : l.length < sizeLine := Nat.lt_of_le_of_lt (few_le h) (Nat.lt_trans (by decide) line_big)

mutual
/-- plain data, nested at most n deep -/
def okD : Nat → PD → Bool
  | _, .none => true
  | _, .bool _ => true
  | _, .int _ => true
  | _, .str x => PyData.strOk x
  | 0, .list _ => false
  | 0, .tuple _ => false
  | n + 1, .list xs => okDs n xs
  | n + 1, .tuple xs => okDs n xs
  | _, .dict _ => false
def okDs : Nat → List PD → Bool
  | _, [] => true
  | n, x :: xs => if okD n x = true then okDs n xs else false
end
mutual
theorem okD_shape : ∀ (d : PD) (n : Nat), okD n d = true → d.canLay0 = true ∧ d.depth ≤ n
  | .none, n, _ => ⟨by simp [PyData.canLay0], by simp [PyData.depth]⟩
  | .bool _, n, _ => ⟨by simp [PyData.canLay0], by simp [PyData.depth]⟩
  | .int _, n, _ => ⟨by simp [PyData.canLay0], by simp [PyData.depth]⟩
  | .str x, n, h => ⟨by cases n <;> simpa [PyData.canLay0, okD] using h, by simp [PyData.depth]⟩
  | .list xs, 0, h => by simp [okD] at h
  | .list xs, n + 1, h => by
    obtain ⟨a, b⟩ := okDs_shape xs n (by simpa [okD] using h)
    exact ⟨by simpa [PyData.canLay0] using a, by simp only [PyData.depth]; omega⟩
  | .tuple xs, 0, h => by simp [okD] at h
  | .tuple xs, n + 1, h => by
    obtain ⟨a, b⟩ := okDs_shape xs n (by simpa [okD] using h)
    exact ⟨by simpa [PyData.canLay0] using a, by simp only [PyData.depth]; omega⟩
  | .dict _, n, h => by cases n <;> simp [okD] at h
theorem okDs_shape : ∀ (ds : List PD) (n : Nat), okDs n ds = true → PyData.canLayAll0 ds = true ∧ PyData.depthAll ds ≤ n
  | [], n, _ => ⟨by simp [PyData.canLayAll0], by simp [PyData.depthAll]⟩
  | d :: ds, n, h => by
    have h' : okD n d = true ∧ okDs n ds = true := by
      unfold okDs at h
      by_cases q : okD n d = true
      · rw [if_pos q] at h; exact ⟨q, h⟩
      · rw [if_neg q] at h; cases h
    obtain ⟨a, b⟩ := okD_shape d n h'.1
    obtain ⟨a2, b2⟩ := okDs_shape ds n h'.2
    exact ⟨by simp [PyData.canLayAll0, a, a2], by simp only [PyData.depthAll]; omega⟩
end
theorem okD_shaped {d : PD} (h : okD 8 d = true) : SeqAt.shaped d = true := by
  obtain ⟨a, b⟩ := okD_shape d 8 h
  unfold SeqAt.shaped
  rw [a, Bool.true_and]
  exact decide_eq_true (by omega)

/-! ### what is known of a datum's value -/
section
variable {K : PySem.W.Frag} {C : Addr} {H : Hp}
theorem rp_int {v : V} {i : Int} (h : Rp K C H v (.p (.int i))) : v = .int i := by cases (show Dp K H v (.int i) from h); rfl
theorem rp_bool {v : V} {b : Bool} (h : Rp K C H v (.p (.bool b))) : v = .bl b := by cases (show Dp K H v (.bool b) from h); rfl
theorem rp_str {v : V} {x : Str} (h : Rp K C H v (.p (.str x))) : v = .str x := by cases (show Dp K H v (.str x) from h); rfl
theorem rp_none {v : V} (h : Rp K C H v (.p .none)) : v = .non := by cases (show Dp K H v .none from h); rfl
theorem rp_tup {v : V} {ds : List PD} (h : Rp K C H v (.p (.tuple ds))) : ∃ a xs, v = .ref a ∧ SqT K H a xs ∧ DpAll K H xs ds := by
  cases (show Dp K H v (.tuple ds) from h) with
  | tup hs ha => exact ⟨_, _, rfl, hs, ha⟩
theorem rp_lst {v : V} {ds : List PD} (h : Rp K C H v (.p (.list ds))) : ∃ a xs, v = .ref a ∧ SqL K H a xs ∧ DpAll K H xs ds := by
  cases (show Dp K H v (.list ds) from h) with
  | lst hs ha => exact ⟨_, _, rfl, hs, ha⟩
theorem seqL_hide {M : Msk} {a : Addr} {xs : List V} (h : SqL K (hide M H) a xs) : SqL K H a xs := hide_le.seq h
theorem seqT_hide {M : Msk} {a : Addr} {xs : List V} (h : SqT K (hide M H) a xs) : SqT K H a xs := seqT hide_le h
theorem all_hide {M : Msk} {xs : List V} {ds : List PD} (h : DpAll K (hide M H) xs ds) : DpAll K H xs ds := DpAll_mono hide_le _ _ h
theorem rp_hide {M : Msk} {v : V} {d : D} (h : Rp K C (hide M H) v d) : Rp K C H v d := h.mono hide_le
/-- a new tuple, a new list -/
theorem new_tup {M : Msk} {p : Addr} {xs : List V} {ds : List PD} (hm : Hid M H) (n : H p = none) (h : DpAll K (hide M H) xs ds) : Rp K C (hide M (upd H p (.tup xs))) (.ref p) (.p (.tuple ds)) :=
  Dp.tup (SqT.of (hide_new hm n)) (DpAll_mono (same_hide (same_new n)) _ _ h)
theorem new_lst {M : Msk} {p : Addr} {xs : List V} {ds : List PD} (hm : Hid M H) (n : H p = none) (h : DpAll K (hide M H) xs ds) : Rp K C (hide M (upd H p (.lst xs))) (.ref p) (.p (.list ds)) :=
  Dp.lst (SqL.of (hide_new hm n)) (DpAll_mono (same_hide (same_new n)) _ _ h)
end

/-! ### names, constants, displays -/
section
variable {C : Addr} {X : Cx} {e a b c : Expr} {es : List Expr} {pos : Pos} {f fa fb fc : Ev → Option D} {t u : Ev → Option Bool} {fs : Ev → Option (List D)}
def eVar (i : Nat) : Ev → Option D := fun ρ => lk ρ i
def eC (d : D) : Ev → Option D := fun _ => some d
theorem de_v {i : Nat} (h : PE X e (tVar i)) : DE C X e (eVar i) := ⟨PE.imp h fun σ H Q q => by
  obtain ⟨M, ρ, d, hm, he, hf, k⟩ := q
  obtain ⟨v, h1, h2⟩ := he.get i d hf
  exact ⟨v, h1, k v H (Same.refl H) h2⟩⟩
theorem de_k {v : V} {d : D} (h : PE X e (tC v)) (r : ∀ H, Rp X.K C H v d) : DE C X e (eC d) := ⟨PE.imp h fun σ H Q q => by
  obtain ⟨M, ρ, d', hm, he, hf, k⟩ := q
  cases hf
  exact k v H (Same.refl H) (r _)⟩
theorem de_int {i : Int} {j : Nat} : DE C X (.Constant (.int i) j pos) (eC (.p (.int i))) := de_k pe_int fun _ => .int i
theorem de_str {x y : Str} {j : Nat} (h : x = y) : DE C X (.Constant (.str x) j pos) (eC (.p (.str y))) := by
  subst h
  exact de_k pe_str fun _ => .str x
theorem de_none {j : Nat} : DE C X (.Constant .none j pos) (eC (.p .none)) := de_k pe_non fun _ => .non
theorem de_bool {x : Bool} {j : Nat} : DE C X (.Constant (.bool x) j pos) (eC (.p (.bool x))) := de_k pe_bl fun _ => .bl x

def aNil : Ev → Option (List D) := fun _ => some []
def aCons (f : Ev → Option D) (g : Ev → Option (List D)) : Ev → Option (List D) := fun ρ => match f ρ with
  | none => none
  | some d => match g ρ with
    | none => none
    | some ds => some (d :: ds)
theorem da_nil : DA C X [] aNil := ⟨PA.imp pa_nil fun σ H Q q => by
  obtain ⟨M, ρ, d, hm, he, hf, k⟩ := q
  cases hf
  exact k [] H (Same.refl H) .nil⟩
theorem acons_some {ρ : Ev} {ds : List D} (h : aCons f fs ρ = some ds) : ∃ d r, f ρ = some d ∧ fs ρ = some r ∧ ds = d :: r := by
  unfold aCons at h
  cases e1 : f ρ with
  | none => rw [e1] at h; cases h
  | some d =>
    rw [e1] at h
    cases e2 : fs ρ with
    | none => simp only [e2] at h; cases h
    | some r =>
      simp only [e2] at h
      cases h
      exact ⟨d, r, rfl, rfl, rfl⟩
theorem da_cons (h : DE C X e f) (r : DA C X es fs) (hs : starEach (e :: es) X.env = (false, eval e X.env) :: starEach es X.env := by rfl) : DA C X (e :: es) (aCons f fs) := ⟨PA.imp (pa_cons h.pe r.pa hs) fun σ H Q q => by
  obtain ⟨M, ρ, ds, hm, he, hf, k⟩ := q
  obtain ⟨d, r, h1, h2, rfl⟩ := acons_some hf
  refine ⟨M, ρ, d, hm, he, h1, fun v H1 s1 r1 => ⟨M, ρ, r, hm.mono s1, he.mono (same_hide s1), h2, fun vs H2 s2 r2 => ?_⟩⟩
  exact k (v :: vs) H2 (s1.trans s2) (.cons (r1.mono (same_hide s2)) r2)⟩
/-- plain data only -/
def plain : List D → Option (List PD)
  | [] => some []
  | .p d :: r => match plain r with
    | none => none
    | some ds => some (d :: ds)
  | .look _ _ _ :: _ => none
  | .sts _ :: _ => none
theorem plain_all {K : PySem.W.Frag} {H : Hp} : ∀ {ds : List D} {vs : List V} {ps : List PD}, RpAll K C H vs ds → plain ds = some ps → DpAll K H vs ps
  | [], _, _, h, e => by cases h; cases e; exact .nil
  | .look _ _ _ :: _, _, _, _, e => by cases e
  | .sts _ :: _, _, _, _, e => by cases e
  | .p d :: r, _, _, h, e => by
    cases h with
    | cons h1 h2 =>
      unfold plain at e
      cases q : plain r with
      | none => rw [q] at e; cases e
      | some ds =>
        rw [q] at e
        cases e
        exact .cons h1 (plain_all h2 q)
def eTup (fs : Ev → Option (List D)) : Ev → Option D := fun ρ => match fs ρ with
  | none => none
  | some ds => match plain ds with
    | none => none
    | some ps => if few ps = true then some (.p (.tuple ps)) else none
def eLst (fs : Ev → Option (List D)) : Ev → Option D := fun ρ => match fs ρ with
  | none => none
  | some ds => match plain ds with
    | none => none
    | some ps => if few ps = true then some (.p (.list ps)) else none
theorem etup_some {ρ : Ev} {d : D} (h : eTup fs ρ = some d) : ∃ ds ps, fs ρ = some ds ∧ plain ds = some ps ∧ few ps = true ∧ d = .p (.tuple ps) := by
  unfold eTup at h
  cases e1 : fs ρ with
  | none => rw [e1] at h; cases h
  | some ds =>
    rw [e1] at h
    cases e2 : plain ds with
    | none => simp only [e2] at h; cases h
    | some ps =>
      simp only [e2] at h
      by_cases q : few ps = true
      · rw [if_pos q] at h; cases h; exact ⟨ds, ps, rfl, e2, q, rfl⟩
      · rw [if_neg q] at h; cases h
theorem elst_some {ρ : Ev} {d : D} (h : eLst fs ρ = some d) : ∃ ds ps, fs ρ = some ds ∧ plain ds = some ps ∧ few ps = true ∧ d = .p (.list ps) := by
  unfold eLst at h
  cases e1 : fs ρ with
  | none => rw [e1] at h; cases h
  | some ds =>
    rw [e1] at h
    cases e2 : plain ds with
    | none => simp only [e2] at h; cases h
    | some ps =>
      simp only [e2] at h
      by_cases q : few ps = true
      · rw [if_pos q] at h; cases h; exact ⟨ds, ps, rfl, e2, q, rfl⟩
      · rw [if_neg q] at h; cases h
theorem de_tup {k : Nat} (h : DA C X es fs) : DE C X (.Tuple es k pos) (eTup fs) := ⟨PE.imp (pe_tup h.pa) fun σ H Q q => by
  obtain ⟨M, ρ, d, hm, he, hf, k⟩ := q
  obtain ⟨ds, ps, h1, h2, h3, rfl⟩ := etup_some hf
  refine ⟨M, ρ, ds, hm, he, h1, fun vs H1 s1 r1 => ?_⟩
  have r2 := plain_all r1 h2
  exact ⟨by rw [DpAll_len r2]; exact Nat.le_of_lt (few_line h3), fun p n => k _ _ (s1.trans (same_new n)) (new_tup (hm.mono s1) n r2)⟩⟩
theorem de_lst (h : DA C X es fs) : DE C X (.List es pos) (eLst fs) := ⟨PE.imp (pe_lst h.pa) fun σ H Q q => by
  obtain ⟨M, ρ, d, hm, he, hf, k⟩ := q
  obtain ⟨ds, ps, h1, h2, h3, rfl⟩ := elst_some hf
  refine ⟨M, ρ, ds, hm, he, h1, fun vs H1 s1 r1 => ?_⟩
  have r2 := plain_all r1 h2
  exact ⟨by rw [DpAll_len r2]; exact Nat.le_of_lt (few_line h3), fun p n => k _ _ (s1.trans (same_new n)) (new_lst (hm.mono s1) n r2)⟩⟩

/-! ### operations on two data -/
def Opd (K : PySem.W.Frag) (C : Addr) (r : R2) (g : D → D → Option D) : Prop := ∀ (M : Msk) (H : Hp) (x y : V) (a b d : D) (Q : VK), Hid M H → Rp K C (hide M H) x a → Rp K C (hide M H) y b → g a b = some d → Then K C M H d Q → r x y H Q
def op2 (g : D → D → Option D) (f1 f2 : Ev → Option D) : Ev → Option D := fun ρ => match f1 ρ with
  | none => none
  | some a => match f2 ρ with
    | none => none
    | some b => g a b
theorem op2_some {g : D → D → Option D} {ρ : Ev} {d : D} (h : op2 g fa fb ρ = some d) : ∃ x y, fa ρ = some x ∧ fb ρ = some y ∧ g x y = some d := by
  unfold op2 at h
  cases e1 : fa ρ with
  | none => rw [e1] at h; cases h
  | some x =>
    rw [e1] at h
    cases e2 : fb ρ with
    | none => simp only [e2] at h; cases h
    | some y =>
      simp only [e2] at h
      exact ⟨x, y, rfl, rfl, h⟩
theorem d_op {r : R2} {g : D → D → Option D} (hg : Opd X.K C r g) (σ : L2.St) (H : Hp) (Q : VK) (q : dE X.K C (op2 g fa fb) σ H Q) : tOp r (dE X.K C fa) (dE X.K C fb) σ H Q := by
  obtain ⟨M, ρ, d, hm, he, hf, k⟩ := q
  obtain ⟨x, y, h1, h2, h3⟩ := op2_some hf
  refine ⟨M, ρ, x, hm, he, h1, fun v H1 s1 r1 => ⟨M, ρ, y, hm.mono s1, he.mono (same_hide s1), h2, fun u H2 s2 r2 => ?_⟩⟩
  exact hg M H2 v u x y d Q ((hm.mono s1).mono s2) (r1.mono (same_hide s2)) r2 h3 fun w H3 s3 r3 => k w H3 ((s1.trans s2).trans s3) r3
theorem de_bin {op : Operator} {r : R2} {g : D → D → Option D} (ho : OpR X (binaryOp op) r) (hg : Opd X.K C r g) (ha : DE C X a fa) (hb : DE C X b fb) : DE C X (.BinOp a op b pos) (op2 g fa fb) := ⟨PE.imp (pe_op ho ha.pe hb.pe) (d_op hg)⟩
theorem de_cmp {op : CmpOp} {r : R2} {g : D → D → Option D} (ho : OpR X (compareOp op) r) (hg : Opd X.K C r g) (ha : DE C X a fa) (hb : DE C X b fb) (hm : behindInMarks op b = false) : DE C X (.Compare a [op] [b] pos) (op2 g fa fb) := ⟨PE.imp (pe_cmpR ho ha.pe hb.pe hm) (d_op hg)⟩
theorem de_ix {r : R2} {g : D → D → Option D} (hr : IxR X r) (hg : Opd X.K C r g) (ha : DE C X a fa) (hb : DE C X b fb) (hs : PlainIx b) : DE C X (.Subscript a b pos) (op2 g fa fb) := ⟨PE.imp (pe_ix hr ha.pe hb.pe hs) (d_op hg)⟩
/-- a datum that is a truth value -/
def asB : Option D → Option Bool
  | some (.p (.bool b)) => some b
  | _ => none
theorem asB_some {o : Option D} {b : Bool} (h : asB o = some b) : o = some (.p (.bool b)) := by
  unfold asB at h
  split at h
  · cases h; rfl
  · cases h
def tB (f : Ev → Option D) : Ev → Option Bool := fun ρ => asB (f ρ)
theorem dt_val (h : DE C X e f) (he : ∀ whole, isTrue e X.env whole = (do let v ← whole; standAt e.pos; holding [v] (truthy v)) := by intro _; rfl) : DT C X e (tB f) := ⟨PT.imp (pt_val h.pe he) fun σ H Q q => by
  obtain ⟨M, ρ, b, hm, he, hf, k⟩ := q
  exact ⟨M, ρ, _, hm, he, asB_some hf, fun v H1 s1 r1 => ⟨b, rp_bool r1, k H1 s1⟩⟩⟩
theorem dt_cmp {op : CmpOp} {r : R2} {g : D → D → Option D} (ho : OpR X (compareOp op) r) (hg : Opd X.K C r g) (ha : DE C X a fa) (hb : DE C X b fb) (hm : behindInMarks op b = false) : DT C X (.Compare a [op] [b] pos) (tB (op2 g fa fb)) := ⟨PT.imp (pt_cmpR ho ha.pe hb.pe hm) fun σ H Q q => by
  obtain ⟨M, ρ, k, hm, he, hf, q⟩ := q
  exact d_op hg σ H _ ⟨M, ρ, _, hm, he, asB_some hf, fun v H1 s1 r1 => ⟨k, rp_bool r1, q H1 s1⟩⟩⟩

/-! ### and, or, not, if -/
structure DW (C : Addr) (X : Cx) (e : Expr) (f : Ev → Option Bool) : Prop where
  pw : PW X e (dT X.K C f)
theorem PW.imp {t t' : TT} (h : PW X e t) (w : ∀ σ H Q, t' σ H Q → t σ H Q) : PW X e t' := ⟨fun wh pins s σ H Q I q => h.run wh pins s σ H Q I (w σ H Q q)⟩
def bAnd (t u : Ev → Option Bool) : Ev → Option Bool := fun ρ => match t ρ with
  | none => none
  | some false => some false
  | some true => u ρ
def bOr (t u : Ev → Option Bool) : Ev → Option Bool := fun ρ => match t ρ with
  | none => none
  | some true => some true
  | some false => u ρ
def bNot (t : Ev → Option Bool) : Ev → Option Bool := fun ρ => match t ρ with
  | none => none
  | some x => some (!x)
theorem dw_and1 (h : DT C X a t) : DW C X (.BoolOp .And [a] pos) t := ⟨pw_and1 h.pt⟩
theorem dw_or1 (h : DT C X a t) : DW C X (.BoolOp .Or [a] pos) t := ⟨pw_or1 h.pt⟩
theorem dw_and (h : DT C X a t) (r : DW C X (.BoolOp .And (b :: es) pos) u) : DW C X (.BoolOp .And (a :: b :: es) pos) (bAnd t u) := ⟨PW.imp (pw_and h.pt r.pw) fun σ H Q q => by
  obtain ⟨M, ρ, k, hm, he, hf, q⟩ := q
  unfold bAnd at hf
  cases e1 : t ρ with
  | none => rw [e1] at hf; cases hf
  | some x =>
    rw [e1] at hf
    refine ⟨M, ρ, x, hm, he, e1, fun H1 s1 => ?_⟩
    cases x with
    | false => cases hf; rw [if_neg Bool.false_ne_true]; exact q H1 s1
    | true =>
      rw [if_pos rfl]
      exact ⟨M, ρ, k, hm.mono s1, he.mono (same_hide s1), hf, fun H2 s2 => q H2 (s1.trans s2)⟩⟩
theorem dw_or (h : DT C X a t) (r : DW C X (.BoolOp .Or (b :: es) pos) u) : DW C X (.BoolOp .Or (a :: b :: es) pos) (bOr t u) := ⟨PW.imp (pw_or h.pt r.pw) fun σ H Q q => by
  obtain ⟨M, ρ, k, hm, he, hf, q⟩ := q
  unfold bOr at hf
  cases e1 : t ρ with
  | none => rw [e1] at hf; cases hf
  | some x =>
    rw [e1] at hf
    refine ⟨M, ρ, x, hm, he, e1, fun H1 s1 => ?_⟩
    cases x with
    | true => cases hf; rw [if_pos rfl]; exact q H1 s1
    | false =>
      rw [if_neg Bool.false_ne_true]
      exact ⟨M, ρ, k, hm.mono s1, he.mono (same_hide s1), hf, fun H2 s2 => q H2 (s1.trans s2)⟩⟩
theorem dt_w (h : DW C X e t) : DT C X e t := ⟨h.pw.pt⟩
theorem dt_not (h : DT C X a t) : DT C X (.UnaryOp .Not a pos) (bNot t) := ⟨PT.imp (pt_not h.pt) fun σ H Q q => by
  obtain ⟨M, ρ, k, hm, he, hf, q⟩ := q
  unfold bNot at hf
  cases e1 : t ρ with
  | none => rw [e1] at hf; cases hf
  | some x =>
    rw [e1] at hf
    cases hf
    exact ⟨M, ρ, x, hm, he, e1, fun H1 s1 => q H1 s1⟩⟩
def eAnd (f g : Ev → Option D) : Ev → Option D := fun ρ => match asB (f ρ) with
  | none => none
  | some false => some (.p (.bool false))
  | some true => g ρ
def eOr (f g : Ev → Option D) : Ev → Option D := fun ρ => match asB (f ρ) with
  | none => none
  | some true => some (.p (.bool true))
  | some false => g ρ
def eNot (f : Ev → Option D) : Ev → Option D := fun ρ => match asB (f ρ) with
  | none => none
  | some x => some (.p (.bool (!x)))
theorem de_one {op : BoolOp} (h : DE C X a f) : DE C X (.BoolOp op [a] pos) f := ⟨pe_one h.pe⟩
theorem de_and (h : DE C X a fa) (r : DE C X (.BoolOp .And (b :: es) pos) fb) : DE C X (.BoolOp .And (a :: b :: es) pos) (eAnd fa fb) := ⟨PE.imp (pe_and h.pe r.pe) fun σ H Q q => by
  obtain ⟨M, ρ, d, hm, he, hf, q⟩ := q
  unfold eAnd at hf
  cases e1 : asB (fa ρ) with
  | none => rw [e1] at hf; cases hf
  | some x =>
    rw [e1] at hf
    refine ⟨M, ρ, _, hm, he, asB_some e1, fun v H1 s1 r1 => ⟨x, rp_bool r1, ?_⟩⟩
    cases x with
    | false => cases hf; rw [if_neg Bool.false_ne_true]; exact q _ H1 s1 (.bl false)
    | true =>
      rw [if_pos rfl]
      exact ⟨M, ρ, d, hm.mono s1, he.mono (same_hide s1), hf, fun w H2 s2 r2 => q w H2 (s1.trans s2) r2⟩⟩
theorem de_or (h : DE C X a fa) (r : DE C X (.BoolOp .Or (b :: es) pos) fb) : DE C X (.BoolOp .Or (a :: b :: es) pos) (eOr fa fb) := ⟨PE.imp (pe_or h.pe r.pe) fun σ H Q q => by
  obtain ⟨M, ρ, d, hm, he, hf, q⟩ := q
  unfold eOr at hf
  cases e1 : asB (fa ρ) with
  | none => rw [e1] at hf; cases hf
  | some x =>
    rw [e1] at hf
    refine ⟨M, ρ, _, hm, he, asB_some e1, fun v H1 s1 r1 => ⟨x, rp_bool r1, ?_⟩⟩
    cases x with
    | true => cases hf; rw [if_pos rfl]; exact q _ H1 s1 (.bl true)
    | false =>
      rw [if_neg Bool.false_ne_true]
      exact ⟨M, ρ, d, hm.mono s1, he.mono (same_hide s1), hf, fun w H2 s2 r2 => q w H2 (s1.trans s2) r2⟩⟩
theorem de_not (h : DE C X a fa) : DE C X (.UnaryOp .Not a pos) (eNot fa) := ⟨PE.imp (pe_not h.pe) fun σ H Q q => by
  obtain ⟨M, ρ, d, hm, he, hf, q⟩ := q
  unfold eNot at hf
  cases e1 : asB (fa ρ) with
  | none => rw [e1] at hf; cases hf
  | some x =>
    rw [e1] at hf
    cases hf
    exact ⟨M, ρ, _, hm, he, asB_some e1, fun v H1 s1 r1 => ⟨x, rp_bool r1, q _ H1 s1 (.bl (!x))⟩⟩⟩
def eIf (t : Ev → Option Bool) (f g : Ev → Option D) : Ev → Option D := fun ρ => match t ρ with
  | none => none
  | some true => f ρ
  | some false => g ρ
theorem de_if (h : DT C X c t) (ha : DE C X a fa) (hb : DE C X b fb) : DE C X (.IfExp c a b pos) (eIf t fa fb) := ⟨PE.imp (pe_ifExp h.pt ha.pe hb.pe) fun σ H Q q => by
  obtain ⟨M, ρ, d, hm, he, hf, q⟩ := q
  unfold eIf at hf
  cases e1 : t ρ with
  | none => rw [e1] at hf; cases hf
  | some x =>
    rw [e1] at hf
    refine ⟨M, ρ, x, hm, he, e1, fun H1 s1 => ?_⟩
    cases x with
    | true =>
      rw [if_pos rfl]
      exact ⟨M, ρ, d, hm.mono s1, he.mono (same_hide s1), hf, fun w H2 s2 r2 => q w H2 (s1.trans s2) r2⟩
    | false =>
      rw [if_neg Bool.false_ne_true]
      exact ⟨M, ρ, d, hm.mono s1, he.mono (same_hide s1), hf, fun w H2 s2 r2 => q w H2 (s1.trans s2) r2⟩⟩
end
end FF
/-! ## FC -/
namespace FF
open PySem PySem.Spec PyProof.Rows L2

/-! ### what the operations do -/
def gI (f : Int → Int → PD) : D → D → Option D
  | .p (.int i), .p (.int j) => some (.p (f i j))
  | _, _ => none
theorem gI_some {f : Int → Int → PD} {a b d : D} (h : gI f a b = some d) : ∃ i j, a = .p (.int i) ∧ b = .p (.int j) ∧ d = .p (f i j) := by
  unfold gI at h
  split at h
  · cases h; exact ⟨_, _, rfl, rfl, rfl⟩
  · cases h
section
variable {K : PySem.W.Frag} {C : Addr}
theorem opd_I0 {gv : Int → Int → V} {f : Int → Int → PD} (r : ∀ H i j, Dp K H (gv i j) (f i j)) : Opd K C (rI0 gv) (gI f) := by
  intro M H x y a b d Q hm rx ry h k
  obtain ⟨i, j, rfl, rfl, rfl⟩ := gI_some h
  exact ⟨i, j, rp_int rx, rp_int ry, k _ H (Same.refl H) (r _ i j)⟩
end
def gCat : D → D → Option D
  | .p (.int i), .p (.int j) => some (.p (.int (i + j)))
  | .p (.tuple a), .p (.tuple b) => if few a = true then (if few b = true then some (.p (.tuple (a ++ b))) else none) else none
  | _, _ => none
def gSub : D → D → Option D := gI fun i j => .int (i - j)
/-- i within some bound -/
def near (i : Int) : Bool := Nat.ble i.natAbs 1000000000
theorem near_lt {i : Int} (h : near i = true) : -(2 ^ 62) ≤ i ∧ i < 2 ^ 62 ∧ -(2 ^ 64) < i ∧ i < 2 ^ 64 ∧ i ≤ 1000000000 ∧ -1000000000 ≤ i := by
  have : i.natAbs ≤ 1000000000 := by simpa [near] using h
  omega
def reps (l : List PD) : Nat → List PD
  | 0 => []
  | n + 1 => l ++ reps l n
def gMul : D → D → Option D
  | .p (.int i), .p (.int j) => if near i = true then some (.p (.int (i * j))) else none
  | .p (.tuple a), .p (.int (.ofNat k)) => if Nat.ble 2 k = true then (if Nat.ble k 1000 = true then (if Nat.ble a.length 1000 = true then (if a.isEmpty = true then none else some (.p (.tuple (reps a k)))) else none) else none) else none
  | _, _ => none
def gFdiv : D → D → Option D
  | .p (.int i), .p (.int (.ofNat (k + 1))) => if Nat.blt (k + 1) 1073741824 = true then some (.p (.int (i / (.ofNat (k + 1))))) else none
  | _, _ => none
def gLt : D → D → Option D := gI fun i j => .bool (ilt i j)
def gLe : D → D → Option D := gI fun i j => .bool (ile i j)
def gGe : D → D → Option D := gI fun i j => .bool (ile j i)
def qEq : PD → PD → Option Bool
  | .int i, .int j => some (ieq i j)
  | .str x, .str y => some (seqs x y)
  | .none, .none => some true
  | .none, .str _ => some false
  | .str _, .none => some false
  | .none, .int _ => some false
  | .int _, .none => some false
  | a, b => if okD 8 a = true then (if okD 8 b = true then some (PyData.eqv a b) else none) else none
def gEq : D → D → Option D
  | .p a, .p b => match qEq a b with
    | none => none
    | some r => some (.p (.bool r))
  | _, _ => none
def gNe : D → D → Option D
  | .p a, .p b => match qEq a b with
    | none => none
    | some r => some (.p (.bool (!r)))
  | _, _ => none
def isNone : D → Bool
  | .p .none => true
  | _ => false
def gIs : D → D → Option D
  | .p a, .p .none => some (.p (.bool (isNone (.p a))))
  | _, _ => none
def gIsNot : D → D → Option D
  | .p a, .p .none => some (.p (.bool (!isNone (.p a))))
  | _, _ => none
/-- x among flat data -/
def memI (i : Int) : List PD → Option Bool
  | [] => some false
  | .int j :: r => if ieq j i = true then (if allI r = true then some true else none) else memI i r
  | _ => none
where allI : List PD → Bool
  | [] => true
  | .int _ :: r => allI r
  | _ => false
def memS (x : Str) : List PD → Option Bool
  | [] => some false
  | .str y :: r => if seqs y x = true then (if allS r = true then some true else none) else memS x r
  | _ => none
where allS : List PD → Bool
  | [] => true
  | .str _ :: r => allS r
  | _ => false
def qIn : D → D → Option Bool
  | .p (.int i), .p (.tuple l) => memI i l
  | .p (.str x), .p (.list l) => memS x l
  | _, _ => none
def gIn (a b : D) : Option D := match qIn a b with
  | none => none
  | some r => some (.p (.bool r))
def gNotIn (a b : D) : Option D := match qIn a b with
  | none => none
  | some r => some (.p (.bool (!r)))
def nthD : List PD → Nat → Option PD
  | [], _ => none
  | x :: _, 0 => some x
  | _ :: r, n + 1 => nthD r n
def atD (l : List PD) : Int → Option PD
  | .ofNat n => nthD l n
  | .negSucc n => if Nat.blt n l.length = true then nthD l (l.length - (n + 1)) else none
def gIx : D → D → Option D
  | .p (.tuple l), .p (.int i) => match atD l i with
    | none => none
    | some d => some (.p d)
  | .p (.list l), .p (.int i) => match atD l i with
    | none => none
    | some d => some (.p d)
  | _, _ => none

theorem nthD_eq : ∀ (l : List PD) (n : Nat), nthD l n = l[n]?
  | [], n => by simp [nthD]
  | x :: r, 0 => rfl
  | x :: r, n + 1 => by
    show nthD r n = _
    rw [nthD_eq r n]
    simp
theorem atD_eq (l : List PD) (i : Int) : atD l i = atI l i := by
  unfold atI ixN
  cases i with
  | ofNat n =>
    have h0 : (0 : Int) ≤ Int.ofNat n := by simp
    rw [if_pos h0]
    show nthD l n = _
    rw [nthD_eq]
    by_cases h : n < l.length
    · have : (Int.ofNat n) < (l.length : Int) := by simp only [Int.ofNat_eq_natCast]; omega
      rw [if_pos this]
      rfl
    · have : ¬ (Int.ofNat n) < (l.length : Int) := by simp only [Int.ofNat_eq_natCast]; omega
      rw [if_neg this, List.getElem?_eq_none (by omega)]
      rfl
  | negSucc n =>
    have h0 : ¬ (0 : Int) ≤ Int.negSucc n := by omega
    rw [if_neg h0]
    show (if Nat.blt n l.length = true then nthD l (l.length - (n + 1)) else none) = _
    by_cases h : n < l.length
    · have q : Nat.blt n l.length = true := by simp [Nat.blt]; omega
      have q2 : -(l.length : Int) ≤ Int.negSucc n := by omega
      rw [if_pos q, if_pos q2, nthD_eq]
      have q3 : (Int.negSucc n + (l.length : Int)).toNat = l.length - (n + 1) := by omega
      show _ = l[(Int.negSucc n + (l.length : Int)).toNat]?
      rw [q3]
    · have q : ¬ Nat.blt n l.length = true := by simp [Nat.blt]; omega
      have q2 : ¬ -(l.length : Int) ≤ Int.negSucc n := by omega
      rw [if_neg q, if_neg q2]
      rfl
section
variable {K : PySem.W.Frag} {C : Addr} {H : Hp}
theorem at_all {ds : List PD} {vs : List V} {i : Int} {d : PD} (h : DpAll K H vs ds) (e : atD ds i = some d) : ∃ v, atI vs i = some v ∧ Dp K H v d := by
  rw [atD_eq] at e
  unfold atI at e ⊢
  rw [DpAll_len h]
  cases q : ixN ds.length i with
  | none => rw [q] at e; cases e
  | some j =>
    rw [q] at e
    exact DpAll_get h e

theorem allI_flat : ∀ {l : List PD} {xs : List V}, memI.allI l = true → DpAll K H xs l → xs.all flatV = true
  | [], _, _, h => by cases h; rfl
  | .int j :: r, _, e, h => by
    cases h with
    | cons h1 h2 =>
      cases h1
      have := allI_flat (l := r) e h2
      simp only [List.all_cons, this, Bool.and_true]
      rfl
  | .none :: r, _, e, h => by cases e
  | .bool _ :: r, _, e, h => by cases e
  | .str _ :: r, _, e, h => by cases e
  | .list _ :: r, _, e, h => by cases e
  | .tuple _ :: r, _, e, h => by cases e
  | .dict _ :: r, _, e, h => by cases e
theorem memI_in {i : Int} : ∀ {l : List PD} {xs : List V} {r : Bool}, memI i l = some r → DpAll K H xs l → xs.all flatV = true ∧ inV (.int i) xs = r
  | [], _, _, e, h => by cases h; cases e; exact ⟨rfl, rfl⟩
  | .int j :: l, _, r, e, h => by
    cases h with
    | @cons v vs _ _ h1 h2 =>
      cases h1
      unfold memI at e
      by_cases q : ieq j i = true
      · rw [if_pos q] at e
        by_cases q2 : memI.allI l = true
        · rw [if_pos q2] at e
          cases e
          have hf := allI_flat q2 h2
          refine ⟨by simp only [List.all_cons, hf, Bool.and_true]; rfl, ?_⟩
          have ej : j = i := by rw [ieq_eq] at q; exact of_decide_eq_true q
          subst ej
          unfold inV
          rw [List.any_cons]
          show (j == j || _) = true
          simp
        · rw [if_neg q2] at e; cases e
      · rw [if_neg q] at e
        obtain ⟨a, b⟩ := memI_in (l := l) e h2
        refine ⟨by simp only [List.all_cons, a, Bool.and_true]; rfl, ?_⟩
        have ej : ¬ j = i := fun z => q (by rw [ieq_eq]; exact decide_eq_true z)
        unfold inV at b ⊢
        rw [List.any_cons]
        show (j == i || _) = r
        rw [beq_eq_false_iff_ne.mpr ej, Bool.false_or]
        exact b
  | .none :: r, _, _, e, h => by cases e
  | .bool _ :: r, _, _, e, h => by cases e
  | .str _ :: r, _, _, e, h => by cases e
  | .list _ :: r, _, _, e, h => by cases e
  | .tuple _ :: r, _, _, e, h => by cases e
  | .dict _ :: r, _, _, e, h => by cases e
theorem allS_flat : ∀ {l : List PD} {xs : List V}, memS.allS l = true → DpAll K H xs l → xs.all flatV = true
  | [], _, _, h => by cases h; rfl
  | .str j :: r, _, e, h => by
    cases h with
    | cons h1 h2 =>
      cases h1
      have := allS_flat (l := r) e h2
      simp only [List.all_cons, this, Bool.and_true]
      rfl
  | .none :: r, _, e, h => by cases e
  | .bool _ :: r, _, e, h => by cases e
  | .int _ :: r, _, e, h => by cases e
  | .list _ :: r, _, e, h => by cases e
  | .tuple _ :: r, _, e, h => by cases e
  | .dict _ :: r, _, e, h => by cases e
theorem memS_in {i : Str} : ∀ {l : List PD} {xs : List V} {r : Bool}, memS i l = some r → DpAll K H xs l → xs.all flatV = true ∧ inV (.str i) xs = r
  | [], _, _, e, h => by cases h; cases e; exact ⟨rfl, rfl⟩
  | .str j :: l, _, r, e, h => by
    cases h with
    | @cons v vs _ _ h1 h2 =>
      cases h1
      unfold memS at e
      by_cases q : seqs j i = true
      · rw [if_pos q] at e
        by_cases q2 : memS.allS l = true
        · rw [if_pos q2] at e
          cases e
          have hf := allS_flat q2 h2
          refine ⟨by simp only [List.all_cons, hf, Bool.and_true]; rfl, ?_⟩
          have ej : j = i := by rw [seqs_eq] at q; exact of_decide_eq_true q
          subst ej
          unfold inV
          rw [List.any_cons]
          show (j == j || _) = true
          simp
        · rw [if_neg q2] at e; cases e
      · rw [if_neg q] at e
        obtain ⟨a, b⟩ := memS_in (l := l) e h2
        refine ⟨by simp only [List.all_cons, a, Bool.and_true]; rfl, ?_⟩
        have ej : ¬ j = i := fun z => q (by rw [seqs_eq]; exact decide_eq_true z)
        unfold inV at b ⊢
        rw [List.any_cons]
        show (j == i || _) = r
        rw [beq_eq_false_iff_ne.mpr ej, Bool.false_or]
        exact b
  | .none :: r, _, _, e, h => by cases e
  | .bool _ :: r, _, _, e, h => by cases e
  | .int _ :: r, _, _, e, h => by cases e
  | .list _ :: r, _, _, e, h => by cases e
  | .tuple _ :: r, _, _, e, h => by cases e
  | .dict _ :: r, _, _, e, h => by cases e
theorem qIn_some {M : Msk} {a b : D} {r : Bool} {x y : V} (h : qIn a b = some r) (rx : Rp K C (hide M H) x a) (ry : Rp K C (hide M H) y b) :
    ∃ p xs, y = .ref p ∧ (SqL K H p xs ∨ SqT K H p xs) ∧ flatV x = true ∧ xs.all flatV = true ∧ inV x xs = r := by
  unfold qIn at h
  split at h
  · obtain ⟨p, xs, rfl, h1, h2⟩ := rp_tup ry
    rw [rp_int rx]
    obtain ⟨q1, q2⟩ := memI_in h h2
    exact ⟨p, xs, rfl, .inr (seqT_hide h1), rfl, q1, q2⟩
  · obtain ⟨p, xs, rfl, h1, h2⟩ := rp_lst ry
    rw [rp_str rx]
    obtain ⟨q1, q2⟩ := memS_in h h2
    exact ⟨p, xs, rfl, .inl (seqL_hide h1), rfl, q1, q2⟩
  · cases h
theorem gIn_some {a b d : D} (h : gIn a b = some d) : ∃ r, qIn a b = some r ∧ d = .p (.bool r) := by
  unfold gIn at h
  cases e : qIn a b with
  | none => rw [e] at h; cases h
  | some r => rw [e] at h; cases h; exact ⟨r, rfl, rfl⟩
theorem gNotIn_some {a b d : D} (h : gNotIn a b = some d) : ∃ r, qIn a b = some r ∧ d = .p (.bool (!r)) := by
  unfold gNotIn at h
  cases e : qIn a b with
  | none => rw [e] at h; cases h
  | some r => rw [e] at h; cases h; exact ⟨r, rfl, rfl⟩
end

section
variable {K : PySem.W.Frag} {C : Addr}
theorem opd_in : Opd K C (rIn K false) gIn := by
  intro M H x y a b d Q hm rx ry h k
  obtain ⟨r, q, rfl⟩ := gIn_some h
  obtain ⟨p, xs, h1, h2, h3, h4, h5⟩ := qIn_some q rx ry
  exact ⟨p, xs, h1, h2, h3, h4, by rw [if_neg Bool.false_ne_true, h5]; exact k _ H (Same.refl H) (.bl r)⟩
theorem opd_notIn : Opd K C (rIn K true) gNotIn := by
  intro M H x y a b d Q hm rx ry h k
  obtain ⟨r, q, rfl⟩ := gNotIn_some h
  obtain ⟨p, xs, h1, h2, h3, h4, h5⟩ := qIn_some q rx ry
  exact ⟨p, xs, h1, h2, h3, h4, by rw [if_pos rfl, h5]; exact k _ H (Same.refl H) (.bl (!r))⟩
theorem opd_or1 {r r' : R2} {g : D → D → Option D} (h : Opd K C r g) : Opd K C (fun x y H Q => r x y H Q ∨ r' x y H Q) g := fun M H x y a b d Q hm rx ry e k => .inl (h M H x y a b d Q hm rx ry e k)
theorem opd_or2 {r r' : R2} {g : D → D → Option D} (h : Opd K C r' g) : Opd K C (fun x y H Q => r x y H Q ∨ r' x y H Q) g := fun M H x y a b d Q hm rx ry e k => .inr (h M H x y a b d Q hm rx ry e k)
theorem opd_cat : Opd K C (fun x y H Q => rI0 (fun i j => V.int (i + j)) x y H Q ∨ rCatA K x y H Q) gCat := by
  intro M H x y a b d Q hm rx ry h k
  unfold gCat at h
  split at h
  · cases h
    exact .inl ⟨_, _, rp_int rx, rp_int ry, k _ H (Same.refl H) (.int _)⟩
  · rename_i as bs
    by_cases q1 : few as = true
    · rw [if_pos q1] at h
      by_cases q2 : few bs = true
      · rw [if_pos q2] at h
        cases h
        obtain ⟨p, xs, rfl, h1, h2⟩ := rp_tup rx
        obtain ⟨q, ys, rfl, h3, h4⟩ := rp_tup ry
        have l1 := DpAll_len h2
        have l2 := DpAll_len h4
        have hz : xs.length + ys.length ≤ sizeLine := by
          have := few_le q1
          have := few_le q2
          have := line_big
          omega
        refine .inr ⟨p, q, xs, ys, rfl, rfl, seqT_hide h1, seqT_hide h3, hz, fun z => ?_, fun _ z => ?_, fun _ _ o no => ?_⟩
        · subst z
          have : as = [] := List.eq_nil_of_length_eq_zero l1.symm
          subst this
          exact k _ H (Same.refl H) (Dp.tup h3 h4)
        · subst z
          have : bs = [] := List.eq_nil_of_length_eq_zero l2.symm
          subst this
          rw [List.append_nil] at k
          exact k _ H (Same.refl H) (Dp.tup h1 h2)
        · exact k _ _ (same_new no) (new_tup hm no (DpAll_app h2 h4))
      · rw [if_neg q2] at h; cases h
    · rw [if_neg q1] at h; cases h
  · cases h
theorem opd_sub : Opd K C (rI0 fun i j => V.int (i - j)) gSub := opd_I0 fun _ _ _ => .int _
theorem dec_lt {H : Hp} (i j : Int) : Dp K H (.bl (decide (i < j))) (.bool (ilt i j)) := by
  rw [ilt_eq]
  exact .bl _
theorem dec_le {H : Hp} (i j : Int) : Dp K H (.bl (decide (i ≤ j))) (.bool (ile i j)) := by
  rw [ile_eq]
  exact .bl _
theorem opd_lt : Opd K C (rI0 fun i j => V.bl (decide (i < j))) gLt := opd_I0 fun _ i j => dec_lt i j
theorem opd_le : Opd K C (rI0 fun i j => V.bl (decide (i ≤ j))) gLe := opd_I0 fun _ i j => dec_le i j
theorem opd_ge : Opd K C (rI0 fun i j => V.bl (decide (j ≤ i))) gGe := opd_I0 fun _ i j => dec_le j i
theorem reps_flat {H : Hp} {vs : List V} {ds : List PD} (h : DpAll K H vs ds) : ∀ n : Nat, DpAll K H (List.replicate n vs).flatten (reps ds n)
  | 0 => .nil
  | n + 1 => by
    rw [List.replicate_succ, List.flatten_cons]
    exact DpAll_app h (reps_flat h n)
end
end FF
/-! ## FD -/
namespace FF
open PySem PySem.Spec PyProof.Rows L2
section
variable {K : PySem.W.Frag} {C : Addr}
theorem opd_mul : Opd K C (fun x y H Q => rI CMul (fun i j => V.int (i * j)) x y H Q ∨ rRepT K x y H Q) gMul := by
  intro M H x y a b d Q hm rx ry h k
  unfold gMul at h
  split at h
  · rename_i i j
    by_cases q : near i = true
    · rw [if_pos q] at h
      cases h
      have := near_lt q
      exact .inl ⟨i, j, rp_int rx, rp_int ry, .inl ⟨this.2.2.1, this.2.2.2.1⟩, k _ H (Same.refl H) (.int _)⟩
    · rw [if_neg q] at h; cases h
  · rename_i as n
    by_cases q1 : Nat.ble 2 n = true
    · rw [if_pos q1] at h
      by_cases q2 : Nat.ble n 1000 = true
      · rw [if_pos q2] at h
        by_cases q3 : Nat.ble as.length 1000 = true
        · rw [if_pos q3] at h
          by_cases q4 : as.isEmpty = true
          · rw [if_pos q4] at h; cases h
          · rw [if_neg q4] at h
            cases h
            obtain ⟨p, xs, rfl, h1, h2⟩ := rp_tup rx
            have l1 := DpAll_len h2
            have n1 : 2 ≤ n := by simpa using q1
            have n2 : n ≤ 1000 := by simpa using q2
            have n3 : as.length ≤ 1000 := by simpa using q3
            refine .inr ⟨p, Int.ofNat n, xs, rfl, rp_int ry, seqT_hide h1, fun z => ?_, by simp only [Int.ofNat_eq_natCast]; omega, by simp only [Int.ofNat_eq_natCast]; omega, by omega, fun o no => ?_⟩
            · subst z
              have : as = [] := List.eq_nil_of_length_eq_zero l1.symm
              subst this
              exact q4 rfl
            · exact k _ _ (same_new no) (new_tup hm no (reps_flat h2 n))
        · rw [if_neg q3] at h; cases h
      · rw [if_neg q2] at h; cases h
    · rw [if_neg q1] at h; cases h
  · cases h
theorem opd_fdiv : Opd K C (rI CDiv fun i j => V.int (i / j)) gFdiv := by
  intro M H x y a b d Q hm rx ry h k
  unfold gFdiv at h
  split at h
  · rename_i i n
    by_cases q : Nat.blt (n + 1) 1073741824 = true
    · rw [if_pos q] at h
      cases h
      have : n + 1 < 1073741824 := by simp [Nat.blt] at q; omega
      exact ⟨i, Int.ofNat (n + 1), rp_int rx, rp_int ry, ⟨by simp only [Int.ofNat_eq_natCast]; omega, by simp only [Int.ofNat_eq_natCast]; omega⟩, k _ H (Same.refl H) (.int _)⟩
    · rw [if_neg q] at h; cases h
  · cases h
theorem qEq_some {M : Msk} {H : Hp} {a b : PD} {r : Bool} {x y : V} (h : qEq a b = some r) (rx : Dp K (hide M H) x a) (ry : Dp K (hide M H) y b) :
    (scal x y = true ∧ decide (x = y) = r) ∨ (SeqAt.shaped a = true ∧ SeqAt.shaped b = true ∧ PyData.eqv a b = r) := by
  have rest : (if okD 8 a = true then (if okD 8 b = true then some (PyData.eqv a b) else none) else none) = some r → (SeqAt.shaped a = true ∧ SeqAt.shaped b = true ∧ PyData.eqv a b = r) := by
    intro h
    by_cases q1 : okD 8 a = true
    · rw [if_pos q1] at h
      by_cases q2 : okD 8 b = true
      · rw [if_pos q2] at h
        cases h
        exact ⟨okD_shaped q1, okD_shaped q2, rfl⟩
      · rw [if_neg q2] at h; cases h
    · rw [if_neg q1] at h; cases h
  unfold qEq at h
  split at h
  · cases h; cases rx; cases ry
    exact .inl ⟨rfl, by rw [ieq_eq, dec_int, Bool.beq_eq_decide_eq]⟩
  · cases h; cases rx; cases ry
    exact .inl ⟨rfl, by rw [seqs_eq, dec_str, Bool.beq_eq_decide_eq]⟩
  · cases h; cases rx; cases ry
    exact .inl ⟨rfl, by simp⟩
  · cases h; cases rx; cases ry
    exact .inl ⟨rfl, by simp⟩
  · cases h; cases rx; cases ry
    exact .inl ⟨rfl, by simp⟩
  · cases h; cases rx; cases ry
    exact .inl ⟨rfl, by simp⟩
  · cases h; cases rx; cases ry
    exact .inl ⟨rfl, by simp⟩
  · exact .inr (rest h)
theorem opd_eq : Opd K C (fun x y H Q => rEq x y H Q ∨ rEqD K x y H Q) gEq := by
  intro M H x y a b d Q hm rx ry h k
  unfold gEq at h
  split at h
  · rename_i a b
    cases e : qEq a b with
    | none => rw [e] at h; cases h
    | some r =>
      rw [e] at h
      cases h
      rcases qEq_some e rx ry with ⟨h1, h2⟩ | ⟨h1, h2, h3⟩
      · exact .inl ⟨h1, by rw [h2]; exact k _ H (Same.refl H) (.bl r)⟩
      · exact .inr ⟨a, b, Dp_mono hide_le _ _ rx, Dp_mono hide_le _ _ ry, h1, h2, by rw [h3]; exact k _ H (Same.refl H) (.bl r)⟩
  · cases h
theorem opd_ne : Opd K C (fun x y H Q => rNe x y H Q ∨ rNeD K x y H Q) gNe := by
  intro M H x y a b d Q hm rx ry h k
  unfold gNe at h
  split at h
  · rename_i a b
    cases e : qEq a b with
    | none => rw [e] at h; cases h
    | some r =>
      rw [e] at h
      cases h
      rcases qEq_some e rx ry with ⟨h1, h2⟩ | ⟨h1, h2, h3⟩
      · exact .inl ⟨h1, by rw [h2]; exact k _ H (Same.refl H) (.bl (!r))⟩
      · exact .inr ⟨a, b, Dp_mono hide_le _ _ rx, Dp_mono hide_le _ _ ry, h1, h2, by rw [h3]; exact k _ H (Same.refl H) (.bl (!r))⟩
  · cases h
theorem isNone_dec {H : Hp} {x : V} {a : PD} (h : Dp K H x a) : decide (x = .non) = isNone (.p a) := by
  cases h <;> simp [isNone]
theorem opd_is : Opd K C (fun x y H Q => y = .non ∧ Q (.bl (decide (x = .non))) H) gIs := by
  intro M H x y a b d Q hm rx ry h k
  unfold gIs at h
  split at h
  · rename_i a
    cases h
    exact ⟨rp_none ry, by rw [isNone_dec rx]; exact k _ H (Same.refl H) (.bl _)⟩
  · cases h
theorem opd_isnot : Opd K C (fun x y H Q => y = .non ∧ Q (.bl (!decide (x = .non))) H) gIsNot := by
  intro M H x y a b d Q hm rx ry h k
  unfold gIsNot at h
  split at h
  · rename_i a
    cases h
    exact ⟨rp_none ry, by rw [isNone_dec rx]; exact k _ H (Same.refl H) (.bl _)⟩
  · cases h
theorem opd_ix : Opd K C (rIx K) gIx := by
  intro M H x y a b d Q hm rx ry h k
  unfold gIx at h
  split at h
  · rename_i l i
    cases e : atD l i with
    | none => rw [e] at h; cases h
    | some d =>
      rw [e] at h
      cases h
      obtain ⟨p, xs, rfl, h1, h2⟩ := rp_tup rx
      obtain ⟨v, q1, q2⟩ := at_all h2 e
      exact .inr (.inl ⟨p, xs, i, v, rfl, rp_int ry, seqT_hide h1, q1, k v H (Same.refl H) q2⟩)
  · rename_i l i
    cases e : atD l i with
    | none => rw [e] at h; cases h
    | some d =>
      rw [e] at h
      cases h
      obtain ⟨p, xs, rfl, h1, h2⟩ := rp_lst rx
      obtain ⟨v, q1, q2⟩ := at_all h2 e
      exact .inl ⟨p, xs, i, v, rfl, rp_int ry, seqL_hide h1, q1, k v H (Same.refl H) q2⟩
  · cases h
end

/-! ### slices of tuples, chains -/
def cutD (l : List PD) (lo hi : Option Int) : List PD := (l.drop (HT.sIx l.length 0 lo)).take (HT.sIx l.length l.length hi - HT.sIx l.length 0 lo)
def gCut (lo hi : Option Int) : D → Option D
  | .p (.tuple l) => some (.p (.tuple (cutD l lo hi)))
  | _ => none
section
variable {C : Addr} {X : Cx} {e a b c : Expr} {pos p2 : Pos} {f fa fb fc : Ev → Option D}
theorem cut_whole {l : List PD} {lo hi : Option Int} (h : HT.sIx l.length 0 lo = 0 ∧ HT.sIx l.length l.length hi = l.length) : cutD l lo hi = l := by
  unfold cutD
  rw [h.1, h.2, List.drop_zero, Nat.sub_zero, List.take_length]
def e1 (g : D → Option D) (f : Ev → Option D) : Ev → Option D := fun ρ => match f ρ with
  | none => none
  | some a => g a
theorem e1_some {g : D → Option D} {ρ : Ev} {d : D} (h : e1 g f ρ = some d) : ∃ a, f ρ = some a ∧ g a = some d := by
  unfold e1 at h
  cases q : f ρ with
  | none => rw [q] at h; cases h
  | some a => rw [q] at h; exact ⟨a, rfl, h⟩
/-- t[lo:hi] with written ends -/
structure DO (X : Cx) (e : Option Expr) (i : Option Int) : Prop where
  po : PO X e (fun σ H Q => Q i H)
theorem do_none : DO X none none := ⟨po_none⟩
theorem do_int {i : Int} {j : Nat} : DO X (some (.Constant (.int i) j pos)) (some i) := ⟨⟨fun pins s σ H Q I h => (po_some pe_int).run pins s σ H Q I ⟨i, rfl, h⟩⟩⟩
theorem de_cut {lo hi : Option Expr} {l u : Option Int} (he : DE C X e f) (hl : DO X lo l) (hu : DO X hi u) : DE C X (.Subscript e (.Slice lo hi none p2) pos) (e1 (gCut l u) f) := ⟨PE.imp (pe_slice sl_tupA he.pe hl.po hu.po) fun σ H Q q => by
  obtain ⟨M, ρ, d, hm, he, hf, k⟩ := q
  obtain ⟨a, h1, h2⟩ := e1_some hf
  refine ⟨M, ρ, a, hm, he, h1, fun v H1 s1 r1 => ?_⟩
  unfold gCut at h2
  split at h2
  · rename_i ls
    cases h2
    obtain ⟨p, xs, rfl, t1, t2⟩ := rp_tup r1
    have hl := DpAll_len t2
    refine ⟨p, xs, rfl, seqT_hide t1, fun w => ?_, fun w o no => ?_⟩
    · rw [hl] at w
      rw [cut_whole w] at k
      exact k _ H1 s1 (Dp.tup t1 t2)
    · refine k _ _ (s1.trans (same_new no)) (new_tup (hm.mono s1) no ?_)
      unfold cutV cutD
      rw [hl]
      exact DpAll_take _ (DpAll_drop _ t2)
  · cases h2⟩
/-- a op1 b op2 c -/
def eChain (g g' : D → D → Option D) (fa fb fc : Ev → Option D) : Ev → Option D := fun ρ => match fa ρ with
  | none => none
  | some x => match fb ρ with
    | none => none
    | some y => match asB (g x y) with
      | none => none
      | some false => some (.p (.bool false))
      | some true => match fc ρ with
        | none => none
        | some z => g' y z
theorem de_chain {op op' : CmpOp} {r r' : R2} {g g' : D → D → Option D} (ho : OpR X (compareOp op) r) (ho' : OpR X (compareOp op') r') (hg : Opd X.K C r g) (hg' : Opd X.K C r' g') (ha : DE C X a fa) (hb : DE C X b fb) (hc : DE C X c fc)
    (hm : lastMarks [op, op'] [b, c] = false := by with_unfolding_all rfl) : DE C X (.Compare a [op, op'] [b, c] pos) (eChain g g' fa fb fc) := ⟨PE.imp (pe_chain ho ho' ha.pe hb.pe hc.pe hm) fun σ H Q q => by
  obtain ⟨M, ρ, d, hm, he, hf, k⟩ := q
  unfold eChain at hf
  cases q1 : fa ρ with
  | none => rw [q1] at hf; cases hf
  | some x =>
    rw [q1] at hf
    cases q2 : fb ρ with
    | none => simp only [q2] at hf; cases hf
    | some y =>
      simp only [q2] at hf
      cases q3 : asB (g x y) with
      | none => simp only [q3] at hf; cases hf
      | some b =>
        simp only [q3] at hf
        refine ⟨M, ρ, x, hm, he, q1, fun v H1 s1 r1 => ⟨M, ρ, y, hm.mono s1, he.mono (same_hide s1), q2, fun u H2 s2 r2 => ?_⟩⟩
        refine hg M H2 v u x y _ _ ((hm.mono s1).mono s2) (r1.mono (same_hide s2)) r2 (asB_some q3) fun w H3 s3 r3 => ⟨b, rp_bool r3, ?_⟩
        have s123 := (s1.trans s2).trans s3
        cases b with
        | false => cases hf; rw [if_neg Bool.false_ne_true]; exact k _ H3 s123 (.bl false)
        | true =>
          rw [if_pos rfl]
          simp only at hf
          cases q4 : fc ρ with
          | none => simp only [q4] at hf; cases hf
          | some z =>
            simp only [q4] at hf
            refine ⟨M, ρ, z, hm.mono s123, he.mono (same_hide s123), q4, fun t H4 s4 r4 => ?_⟩
            exact hg' M H4 u t y z d Q (hm.mono (s123.trans s4)) (r2.mono (same_hide (s3.trans s4))) r4 hf fun v' H5 s5 r5 => k v' H5 ((s123.trans s4).trans s5) r5⟩
theorem dt_chain {op op' : CmpOp} {r r' : R2} {g g' : D → D → Option D} (ho : OpR X (compareOp op) r) (ho' : OpR X (compareOp op') r') (hg : Opd X.K C r g) (hg' : Opd X.K C r' g') (ha : DE C X a fa) (hb : DE C X b fb) (hc : DE C X c fc)
    (he : ∀ whole, isTrue (.Compare a [op, op'] [b, c] pos) X.env whole = (do let v ← whole; standAt (Expr.Compare a [op, op'] [b, c] pos).pos; holding [v] (truthy v)) := by intro _; rfl)
    (hm : lastMarks [op, op'] [b, c] = false := by with_unfolding_all rfl) : DT C X (.Compare a [op, op'] [b, c] pos) (tB (eChain g g' fa fb fc)) := dt_val (de_chain ho ho' hg hg' ha hb hc hm) he

/-! ### calls of what is built in -/
def Cld (K : PySem.W.Frag) (C : Addr) (r : List V → Hp → VK → Prop) (g : List D → Option D) : Prop := ∀ (M : Msk) (H : Hp) (vs : List V) (ds : List D) (d : D) (Q : VK), Hid M H → RpAll K C (hide M H) vs ds → g ds = some d → Then K C M H d Q → r vs H Q
def eCall (g : List D → Option D) (fs : Ev → Option (List D)) : Ev → Option D := fun ρ => match fs ρ with
  | none => none
  | some ds => g ds
theorem ecall_some {g : List D → Option D} {fs : Ev → Option (List D)} {ρ : Ev} {d : D} (h : eCall g fs ρ = some d) : ∃ ds, fs ρ = some ds ∧ g ds = some d := by
  unfold eCall at h
  cases q : fs ρ with
  | none => rw [q] at h; cases h
  | some ds => rw [q] at h; exact ⟨ds, rfl, h⟩
variable {x : Str} {es : List Expr} {fs : Ev → Option (List D)} {p : Pos} {r : List V → Hp → VK → Prop} {g : List D → Option D}
theorem de_callB {id : String} (hc : CallR X (.builtin id) r) (hg : Cld X.K C r g) (hgl : Gl X x) (hm : X.mg x = none) (hv : bootBuiltins x = some (.builtin id)) (ha : DA C X (e :: es) fs) (hn : x ≠ "__name__" := by decide) (hdb : (x == ("__debug__" : Str)) = false := by decide)
    (he : starEach (e :: es) X.env = (false, eval e X.env) :: starEach es X.env := by rfl) (hpl : (backTo pos (starEach es X.env)).any (·.1) = false := by rfl) : DE C X (.Call (.Name x p) (e :: es) [] pos) (eCall g fs) :=
  ⟨PE.imp (pe_callB hc hgl hm hv ha.pa hn hdb he hpl) fun σ H Q q => by
    obtain ⟨M, ρ, d, hm, he, hf, k⟩ := q
    obtain ⟨ds, h1, h2⟩ := ecall_some hf
    exact ⟨M, ρ, ds, hm, he, h1, fun vs H1 s1 r1 => hg M H1 vs ds d Q (hm.mono s1) r1 h2 fun v H2 s2 r2 => k v H2 (s1.trans s2) r2⟩⟩
theorem de_callTy {T : String} (hc : CallR X (.type T) r) (hg : Cld X.K C r g) (hgl : Gl X x) (hm : X.mg x = none) (hv : bootBuiltins x = some (.type T)) (ha : DA C X (e :: es) fs) (hn : x ≠ "__name__" := by decide) (hdb : (x == ("__debug__" : Str)) = false := by decide)
    (he : starEach (e :: es) X.env = (false, eval e X.env) :: starEach es X.env := by rfl) (hpl : (backTo pos (starEach es X.env)).any (·.1) = false := by rfl) : DE C X (.Call (.Name x p) (e :: es) [] pos) (eCall g fs) :=
  ⟨PE.imp (pe_callTy hc hgl hm hv ha.pa hn hdb he hpl) fun σ H Q q => by
    obtain ⟨M, ρ, d, hm, he, hf, k⟩ := q
    obtain ⟨ds, h1, h2⟩ := ecall_some hf
    exact ⟨M, ρ, ds, hm, he, h1, fun vs H1 s1 r1 => hg M H1 vs ds d Q (hm.mono s1) r1 h2 fun v H2 s2 r2 => k v H2 (s1.trans s2) r2⟩⟩
end

/-! what they give -/
def gLen : List D → Option D
  | [.p (.tuple l)] => some (.p (.int (.ofNat l.length)))
  | [.p (.list l)] => some (.p (.int (.ofNat l.length)))
  | _ => none
def bools : List PD → Option (List Bool)
  | [] => some []
  | .bool b :: r => match bools r with
    | none => none
    | some bs => some (b :: bs)
  | _ => none
def andAll : List Bool → Bool
  | [] => true
  | b :: r => if b = true then andAll r else false
def gAll : List D → Option D
  | [.p (.list l)] => match bools l with
    | none => none
    | some bs => some (.p (.bool (andAll bs)))
  | _ => none
def intsOf : List PD → Option (List Int)
  | [] => some []
  | .int b :: r => match intsOf r with
    | none => none
    | some bs => some (b :: bs)
  | _ => none
def sumAll : List Int → Int
  | [] => 0
  | b :: r => b + sumAll r
def gSum : List D → Option D
  | [.p (.list l)] => match intsOf l with
    | none => none
    | some bs => some (.p (.int (sumAll bs)))
  | _ => none
def minOf : Int → List Int → Int
  | m, [] => m
  | m, b :: r => minOf (if ilt b m = true then b else m) r
def gMin : List D → Option D
  | [.p (.list l)] => match intsOf l with
    | some (b :: bs) => some (.p (.int (minOf b bs)))
    | _ => none
  | _ => none
def gList : List D → Option D
  | [.p (.tuple l)] => some (.p (.list l))
  | [.p (.list l)] => some (.p (.list l))
  | _ => none
def gTuple : List D → Option D
  | [.p (.tuple l)] => some (.p (.tuple l))
  | [.p (.list l)] => some (.p (.tuple l))
  | _ => none
def insI (x : Int) : List Int → List Int
  | [] => [x]
  | y :: r => if ilt y x = true then y :: insI x r else x :: y :: r
def sortI : List Int → List Int
  | [] => []
  | x :: r => insI x (sortI r)
def intsD : List Int → List PD
  | [] => []
  | i :: r => .int i :: intsD r
/-- sorted of ints, a tuple or a list -/
def gSortT : List D → Option D
  | [.p (.tuple l)] => match intsOf l with
    | none => none
    | some is => if Nat.blt is.length 64 = true then some (.p (.list (intsD (sortI is)))) else none
  | _ => none
section
variable {K : PySem.W.Frag} {C : Addr} {H : Hp}
theorem rp1 {vs : List V} {d : D} (h : RpAll K C H vs [d]) : ∃ v, vs = [v] ∧ Rp K C H v d := by
  cases h with
  | cons h1 h2 => cases h2; exact ⟨_, rfl, h1⟩
theorem bools_vs : ∀ {l : List PD} {bs : List Bool} {xs : List V}, bools l = some bs → DpAll K H xs l → xs = bs.map V.bl
  | [], _, _, e, h => by cases h; cases e; rfl
  | .bool b :: r, bs, _, e, h => by
    cases h with
    | cons h1 h2 =>
      cases h1
      unfold bools at e
      cases q : bools r with
      | none => rw [q] at e; cases e
      | some t =>
        rw [q] at e
        cases e
        rw [bools_vs q h2]
        rfl
  | .none :: r, _, _, e, h => by cases e
  | .int _ :: r, _, _, e, h => by cases e
  | .str _ :: r, _, _, e, h => by cases e
  | .list _ :: r, _, _, e, h => by cases e
  | .tuple _ :: r, _, _, e, h => by cases e
  | .dict _ :: r, _, _, e, h => by cases e
theorem ints_vs : ∀ {l : List PD} {bs : List Int} {xs : List V}, intsOf l = some bs → DpAll K H xs l → xs = bs.map V.int
  | [], _, _, e, h => by cases h; cases e; rfl
  | .int b :: r, bs, _, e, h => by
    cases h with
    | cons h1 h2 =>
      cases h1
      unfold intsOf at e
      cases q : intsOf r with
      | none => rw [q] at e; cases e
      | some t =>
        rw [q] at e
        cases e
        rw [ints_vs q h2]
        rfl
  | .none :: r, _, _, e, h => by cases e
  | .bool _ :: r, _, _, e, h => by cases e
  | .str _ :: r, _, _, e, h => by cases e
  | .list _ :: r, _, _, e, h => by cases e
  | .tuple _ :: r, _, _, e, h => by cases e
  | .dict _ :: r, _, _, e, h => by cases e
theorem andAll_eq : ∀ bs : List Bool, andAll bs = bs.all id
  | [] => rfl
  | b :: r => by
    cases b with
    | true => exact andAll_eq r
    | false => rfl
theorem sumAll_eq : ∀ bs : List Int, sumAll bs = bs.sum
  | [] => rfl
  | b :: r => by
    show b + sumAll r = _
    rw [sumAll_eq r, List.sum_cons]
theorem minOf_le : ∀ (r : List Int) (m : Int), minOf m r ≤ m ∧ (∀ x ∈ r, minOf m r ≤ x) ∧ (minOf m r = m ∨ minOf m r ∈ r)
  | [], m => ⟨Int.le_refl _, by simp, .inl rfl⟩
  | b :: r, m => by
    show minOf (if ilt b m = true then b else m) r ≤ m ∧ _
    obtain ⟨h1, h2, h3⟩ := minOf_le r (if ilt b m = true then b else m)
    rw [ilt_eq] at *
    show _ ∧ (∀ x ∈ b :: r, minOf (if ilt b m = true then b else m) r ≤ x) ∧ (minOf (if ilt b m = true then b else m) r = m ∨ minOf (if ilt b m = true then b else m) r ∈ b :: r)
    rw [ilt_eq]
    by_cases q : b < m
    · simp only [decide_eq_true q, if_true] at *
      refine ⟨by omega, fun x hx => ?_, .inr ?_⟩
      · rcases List.mem_cons.mp hx with e | e
        · rw [e]; exact h1
        · exact h2 x e
      · rcases h3 with e | e
        · rw [e]; exact List.mem_cons_self
        · exact List.mem_cons_of_mem _ e
    · simp only [decide_eq_false q, Bool.false_eq_true, if_false] at *
      refine ⟨h1, fun x hx => ?_, ?_⟩
      · rcases List.mem_cons.mp hx with e | e
        · rw [e]; omega
        · exact h2 x e
      · rcases h3 with e | e
        · exact .inl e
        · exact .inr (List.mem_cons_of_mem _ e)
theorem cld_len : Cld K C (fun xs H Q => ∃ p ys, xs = [.ref p] ∧ (SqL K H p ys ∨ SqT K H p ys) ∧ Q (.int ys.length) H) gLen := by
  intro M H vs ds d Q hm rs h k
  unfold gLen at h
  split at h
  · cases h
    obtain ⟨v, rfl, rv⟩ := rp1 rs
    obtain ⟨a, xs, rfl, h1, h2⟩ := rp_tup rv
    refine ⟨a, xs, rfl, .inr (seqT_hide h1), ?_⟩
    rw [DpAll_len h2]
    exact k _ H (Same.refl H) (.int _)
  · cases h
    obtain ⟨v, rfl, rv⟩ := rp1 rs
    obtain ⟨a, xs, rfl, h1, h2⟩ := rp_lst rv
    refine ⟨a, xs, rfl, .inl (seqL_hide h1), ?_⟩
    rw [DpAll_len h2]
    exact k _ H (Same.refl H) (.int _)
  · cases h
theorem cld_all : Cld K C (rAll K) gAll := by
  intro M H vs ds d Q hm rs h k
  unfold gAll at h
  split at h
  · rename_i l
    cases q : bools l with
    | none => rw [q] at h; cases h
    | some bs =>
      rw [q] at h
      cases h
      obtain ⟨v, rfl, rv⟩ := rp1 rs
      obtain ⟨a, xs, rfl, h1, h2⟩ := rp_lst rv
      have e := bools_vs q h2
      subst e
      refine ⟨a, bs, rfl, seqL_hide h1, ?_⟩
      rw [← andAll_eq]
      exact k _ H (Same.refl H) (.bl _)
  · cases h
theorem cld_sum : Cld K C (rSum K) gSum := by
  intro M H vs ds d Q hm rs h k
  unfold gSum at h
  split at h
  · rename_i l
    cases q : intsOf l with
    | none => rw [q] at h; cases h
    | some bs =>
      rw [q] at h
      cases h
      obtain ⟨v, rfl, rv⟩ := rp1 rs
      obtain ⟨a, xs, rfl, h1, h2⟩ := rp_lst rv
      have e := ints_vs q h2
      subst e
      refine ⟨a, bs, rfl, seqL_hide h1, ?_⟩
      rw [← sumAll_eq]
      exact k _ H (Same.refl H) (.int _)
  · cases h
theorem cld_min : Cld K C (rMin K) gMin := by
  intro M H vs ds d Q hm rs h k
  unfold gMin at h
  split at h
  · rename_i l
    split at h
    · rename_i b bs q
      cases h
      obtain ⟨v, rfl, rv⟩ := rp1 rs
      obtain ⟨a, xs, rfl, h1, h2⟩ := rp_lst rv
      have e := ints_vs q h2
      subst e
      obtain ⟨m1, m2, m3⟩ := minOf_le bs b
      refine ⟨a, b :: bs, rfl, seqL_hide h1, by simp, fun m hmem hle => ?_⟩
      have e : m = minOf b bs := by
        have u1 : minOf b bs ≤ m := by
          rcases List.mem_cons.mp hmem with e | e
          · rw [e]; exact m1
          · exact m2 m e
        have u2 : m ≤ minOf b bs := by
          rcases m3 with e | e
          · rw [e]; exact hle b List.mem_cons_self
          · exact hle _ (List.mem_cons_of_mem _ e)
        omega
      rw [e]
      exact k _ H (Same.refl H) (.int _)
    · cases h
  · cases h
theorem cld_list : Cld K C (fun xs H Q => ∃ p ys, xs = [.ref p] ∧ (SqL K H p ys ∨ SqT K H p ys) ∧ ∀ l, H l = none → Q (.ref l) (upd H l (.lst ys))) gList := by
  intro M H vs ds d Q hm rs h k
  unfold gList at h
  split at h
  · cases h
    obtain ⟨v, rfl, rv⟩ := rp1 rs
    obtain ⟨a, xs, rfl, h1, h2⟩ := rp_tup rv
    exact ⟨a, xs, rfl, .inr (seqT_hide h1), fun l nl => k _ _ (same_new nl) (new_lst hm nl h2)⟩
  · cases h
    obtain ⟨v, rfl, rv⟩ := rp1 rs
    obtain ⟨a, xs, rfl, h1, h2⟩ := rp_lst rv
    exact ⟨a, xs, rfl, .inl (seqL_hide h1), fun l nl => k _ _ (same_new nl) (new_lst hm nl h2)⟩
  · cases h
theorem cld_tuple : Cld K C (fun xs H Q => ∃ p ys, xs = [.ref p] ∧ ((SqL K H p ys ∧ ∀ l, H l = none → Q (.ref l) (upd H l (.tup ys))) ∨ (SqT K H p ys ∧ Q (.ref p) H))) gTuple := by
  intro M H vs ds d Q hm rs h k
  unfold gTuple at h
  split at h
  · cases h
    obtain ⟨v, rfl, rv⟩ := rp1 rs
    obtain ⟨a, xs, rfl, h1, h2⟩ := rp_tup rv
    exact ⟨a, xs, rfl, .inr ⟨seqT_hide h1, k _ H (Same.refl H) (Dp.tup h1 h2)⟩⟩
  · cases h
    obtain ⟨v, rfl, rv⟩ := rp1 rs
    obtain ⟨a, xs, rfl, h1, h2⟩ := rp_lst rv
    exact ⟨a, xs, rfl, .inl ⟨seqL_hide h1, fun l nl => k _ _ (same_new nl) (new_tup hm nl h2)⟩⟩
  · cases h
end

/-! ### isinstance -/
/-- the built-in classes that are asked for -/
inductive Ty where
  | int | bool | tuple | str
def Ty.name : Ty → String
  | .int => "int"
  | .bool => "bool"
  | .tuple => "tuple"
  | .str => "str"
def kindOf : PD → Option String
  | .none => some "NoneType"
  | .bool _ => some "bool"
  | .int _ => some "int"
  | .str _ => some "str"
  | .tuple _ => some "tuple"
  | _ => none
def gIsi (T : Ty) : D → Option D
  | .p .none => some (.p (.bool false))
  | .p (.bool _) => match T with
    | .int => some (.p (.bool true))
    | .bool => some (.p (.bool true))
    | _ => some (.p (.bool false))
  | .p (.int _) => match T with
    | .int => some (.p (.bool true))
    | _ => some (.p (.bool false))
  | .p (.str _) => match T with
    | .str => some (.p (.bool true))
    | _ => some (.p (.bool false))
  | .p (.tuple _) => match T with
    | .tuple => some (.p (.bool true))
    | _ => some (.p (.bool false))
  | _ => none
theorem tyx_tup {K : PySem.W.Frag} {H : Hp} {a : Addr} {xs : List V} (h : SqT K H a xs) : TyX K H (.ref a) (.type "tuple") := by
  rcases h with (h | ⟨o, h⟩) | ⟨o, its, n, hk, hc, _⟩
  · exact .base (.tup h)
  · exact .fTuple h
  · exact .kTuple hk hc
theorem isi_of {K : PySem.W.Frag} {C : Addr} {M : Msk} {H : Hp} {T : Ty} {x : V} {a d : D} (h : gIsi T a = some d) (rx : Rp K C (hide M H) x a) : ∃ (t : Value) (b : Bool), TyX K H x t ∧ PySem.W.kitOne K t (.type T.name) = some b ∧ d = .p (.bool b) := by
  unfold gIsi at h
  split at h
  · rw [rp_none rx]
    cases h
    exact ⟨_, false, .base .non, kit_ty (by cases T <;> decide +kernel), rfl⟩
  · rw [rp_bool rx]
    cases T with
    | int => cases h; exact ⟨_, true, .base (.bl _), kit_ty (by decide +kernel), rfl⟩
    | bool => cases h; exact ⟨_, true, .base (.bl _), kit_ty (by decide +kernel), rfl⟩
    | tuple => cases h; exact ⟨_, false, .base (.bl _), kit_ty (by decide +kernel), rfl⟩
    | str => cases h; exact ⟨_, false, .base (.bl _), kit_ty (by decide +kernel), rfl⟩
  · rw [rp_int rx]
    cases T with
    | int => cases h; exact ⟨_, true, .base (.int _), kit_ty (by decide +kernel), rfl⟩
    | bool => cases h; exact ⟨_, false, .base (.int _), kit_ty (by decide +kernel), rfl⟩
    | tuple => cases h; exact ⟨_, false, .base (.int _), kit_ty (by decide +kernel), rfl⟩
    | str => cases h; exact ⟨_, false, .base (.int _), kit_ty (by decide +kernel), rfl⟩
  · rw [rp_str rx]
    cases T with
    | int => cases h; exact ⟨_, false, .base (.str _), kit_ty (by decide +kernel), rfl⟩
    | bool => cases h; exact ⟨_, false, .base (.str _), kit_ty (by decide +kernel), rfl⟩
    | tuple => cases h; exact ⟨_, false, .base (.str _), kit_ty (by decide +kernel), rfl⟩
    | str => cases h; exact ⟨_, true, .base (.str _), kit_ty (by decide +kernel), rfl⟩
  · obtain ⟨p, xs, rfl, h1, h2⟩ := rp_tup rx
    have t := tyx_tup (seqT_hide h1)
    cases T with
    | int => cases h; exact ⟨_, false, t, kit_ty (by decide +kernel), rfl⟩
    | bool => cases h; exact ⟨_, false, t, kit_ty (by decide +kernel), rfl⟩
    | tuple => cases h; exact ⟨_, true, t, kit_ty (by decide +kernel), rfl⟩
    | str => cases h; exact ⟨_, false, t, kit_ty (by decide +kernel), rfl⟩
  · cases h
section
variable {C : Addr} {X : Cx} {a : Expr} {pos p p2 : Pos} {f : Ev → Option D}
theorem de_isi (T : Ty) {y : Str} (hg : Gl X "isinstance") (hm : X.mg "isinstance" = none) (hg2 : Gl X y) (hm2 : X.mg y = none) (hv : bootBuiltins y = some (.type T.name)) (ha : DE C X a f) (hn : y ≠ "__name__" := by decide) (hdb : (y == ("__debug__" : Str)) = false := by decide)
    (he : starEach (a :: [.Name y p2]) X.env = (false, eval a X.env) :: starEach [.Name y p2] X.env := by rfl) (he2 : starEach (.Name y p2 :: []) X.env = (false, eval (.Name y p2) X.env) :: starEach [] X.env := by rfl) (hpl : (backTo pos (starEach [.Name y p2] X.env)).any (·.1) = false := by rfl) :
    DE C X (.Call (.Name "isinstance" p) [a, .Name y p2] [] pos) (e1 (gIsi T) f) :=
  ⟨PE.imp (pe_callB call_isi hg hm (by decide +kernel) (pa_cons ha.pe (pa_cons (pe_bltn (v := .ty T.name) hg2 hm2 hv rfl hn hdb) pa_nil he2) he) (by decide) (by decide) he hpl) fun σ H Q q => by
    obtain ⟨M, ρ, d, hm, he, hf, k⟩ := q
    obtain ⟨x, h1, h2⟩ := e1_some hf
    refine ⟨M, ρ, x, hm, he, h1, fun v H1 s1 r1 => ?_⟩
    obtain ⟨t, b, q1, q2, rfl⟩ := isi_of h2 r1
    exact ⟨v, .ty T.name, t, _, b, rfl, .ty _, q1, q2, k _ H1 s1 (.bl b)⟩⟩
end
end FF
/-! ## FE -/
namespace FF
open PySem PySem.Spec PyProof.Rows L2

/-! ### slots that are wiped -/
theorem wipe_at (σ : L2.St) : ∀ (vs : List Nat) (j : Nat), (wipe σ vs)[j]? = if j ∈ vs then (if j < σ.length then some none else none) else σ[j]?
  | [], j => by simp [wipe]
  | v :: vs, j => by
    have ih := wipe_at σ vs j
    show ((wipe σ vs).set v none)[j]? = _
    rw [List.getElem?_set]
    by_cases e : v = j
    · subst e
      rw [if_pos rfl, if_pos List.mem_cons_self, wipe_length]
    · rw [if_neg e, ih]
      have : (j ∈ v :: vs) = (j ∈ vs) := by
        apply propext
        constructor
        · intro h
          rcases List.mem_cons.mp h with z | z
          · exact absurd z.symm e
          · exact z
        · exact List.mem_cons_of_mem _
      simp only [this]
theorem wipe_set {σ : L2.St} {vs : List Nat} {i : Nat} {x : Option V} (h : i ∈ vs) : wipe (σ.set i x) vs = wipe σ vs := by
  apply List.ext_getElem?
  intro j
  rw [wipe_at, wipe_at, List.length_set]
  by_cases e : j ∈ vs
  · rw [if_pos e, if_pos e]
  · rw [if_neg e, if_neg e, List.getElem?_set_ne (fun (z : i = j) => e (z ▸ h))]
theorem wipe_wipe {σ : L2.St} {vs : List Nat} : wipe (wipe σ vs) vs = wipe σ vs := by
  apply List.ext_getElem?
  intro j
  rw [wipe_at, wipe_at σ, wipe_length]
  by_cases e : j ∈ vs
  · rw [if_pos e, if_pos e]
  · simp only [if_neg e, wipe_at]

/-! ### targets -/
def dG (K : PySem.W.Frag) (C : Addr) (vs : List Nat) (g : D → Ev → Option Ev) : TG := fun v σ H Q => ∃ (M : Msk) (ρ : Ev) (d : D) (ρ' : Ev), Hid M H ∧ EnvR K C (hide M H) σ ρ ∧ Rp K C (hide M H) v d ∧ g d ρ = some ρ' ∧
  ∀ σ' H', Same H H' → EnvR K C (hide M H') σ' ρ' → wipe σ' vs = wipe σ vs → Q σ' H'
def dGs (K : PySem.W.Frag) (C : Addr) (vs : List Nat) (g : List PD → Ev → Option Ev) : TGs := fun xs σ H Q => ∃ (M : Msk) (ρ : Ev) (ds : List PD) (ρ' : Ev), Hid M H ∧ EnvR K C (hide M H) σ ρ ∧ DpAll K (hide M H) xs ds ∧ g ds ρ = some ρ' ∧
  ∀ σ' H', Same H H' → EnvR K C (hide M H') σ' ρ' → wipe σ' vs = wipe σ vs → Q σ' H'
structure DG (C : Addr) (X : Cx) (vs : List Nat) (tg : Expr) (g : D → Ev → Option Ev) : Prop where
  pg : PG X tg (dG X.K C vs g)
structure DGs (C : Addr) (X : Cx) (vs : List Nat) (tg : List Expr) (g : List PD → Ev → Option Ev) : Prop where
  pgs : PGs X tg (dGs X.K C vs g)
def tgName (i : Nat) : D → Ev → Option Ev := fun d ρ => some (put ρ i d)
def tgNil : List PD → Ev → Option Ev := fun ds ρ => match ds with
  | [] => some ρ
  | _ => none
def tgCons (g : D → Ev → Option Ev) (gs : List PD → Ev → Option Ev) : List PD → Ev → Option Ev := fun ds ρ => match ds with
  | [] => none
  | d :: r => match g (.p d) ρ with
    | none => none
    | some ρ1 => gs r ρ1
def tgTup (gs : List PD → Ev → Option Ev) : D → Ev → Option Ev := fun d ρ => match d with
  | .p (.tuple ds) => gs ds ρ
  | _ => none
section
variable {C : Addr} {X : Cx} {vs : List Nat} {e : Expr} {es : List Expr} {pos : Pos} {g : D → Ev → Option Ev} {gs : List PD → Ev → Option Ev}
theorem dg_name {i : Nat} (h : PG X e (gName i)) (hi : i ∈ vs := by decide) : DG C X vs e (tgName i) := ⟨PG.imp h fun v σ H Q q => by
  obtain ⟨M, ρ, d, ρ', hm, he, r, hg, k⟩ := q
  cases hg
  exact k _ H (Same.refl H) (he.put r) (wipe_set hi)⟩
theorem dgs_nil : DGs C X vs [] tgNil := ⟨PGs.imp pgs_nil fun xs σ H Q q => by
  obtain ⟨M, ρ, ds, ρ', hm, he, r, hg, k⟩ := q
  unfold tgNil at hg
  split at hg
  · cases hg
    cases r
    exact ⟨rfl, k _ H (Same.refl H) he rfl⟩
  · cases hg⟩
theorem dgs_cons (h : DG C X vs e g) (r : DGs C X vs es gs) (hs : (assignEach (e :: es) X.env).map (·.2) = assign e X.env :: (assignEach es X.env).map (·.2) := by rfl) : DGs C X vs (e :: es) (tgCons g gs) := ⟨PGs.imp (pgs_cons h.pg r.pgs hs) fun xs σ H Q q => by
  obtain ⟨M, ρ, ds, ρ', hm, he, r, hg, k⟩ := q
  unfold tgCons at hg
  split at hg
  · cases hg
  · rename_i d ds
    cases r with
    | cons r1 r2 =>
      cases q1 : g (.p d) ρ with
      | none => rw [q1] at hg; cases hg
      | some ρ1 =>
        rw [q1] at hg
        refine ⟨_, _, rfl, M, ρ, .p d, ρ1, hm, he, r1, q1, fun σ1 H1 s1 e1 w1 => ?_⟩
        exact ⟨M, ρ1, ds, ρ', hm.mono s1, e1, DpAll_mono (same_hide s1) _ _ r2, hg, fun σ2 H2 s2 e2 w2 => k σ2 H2 (s1.trans s2) e2 (w2.trans w1)⟩⟩
theorem dg_tup {n k : Nat} (h : DGs C X vs es gs) (hc : X.calm = true := by rfl) (hn : (assignEach es X.env).length = n := by rfl) (hst : (assignEach es X.env).findIdx? (·.1) = none := by rfl) (hl : ∀ ds ρ ρ', gs ds ρ = some ρ' → ds.length = n) : DG C X vs (.Tuple es k pos) (tgTup gs) := ⟨PG.imp (pg_tup hc h.pgs hn hst) fun v σ H Q q => by
  obtain ⟨M, ρ, d, ρ', hm, he, r, hg, k⟩ := q
  unfold tgTup at hg
  split at hg
  · rename_i ds
    obtain ⟨a, xs, rfl, h1, h2⟩ := rp_tup r
    exact ⟨a, xs, rfl, seqT_hide h1, by rw [DpAll_len h2]; exact hl _ _ _ hg, M, ρ, ds, ρ', hm, he, h2, hg, k⟩
  · cases hg⟩
theorem tgs_len0 (ds : List PD) (ρ ρ' : Ev) (h : tgNil ds ρ = some ρ') : ds.length = 0 := by
  unfold tgNil at h
  split at h
  · rfl
  · cases h
theorem tgs_len {n : Nat} (hr : ∀ ds ρ ρ', gs ds ρ = some ρ' → ds.length = n) (ds : List PD) (ρ ρ' : Ev) (h : tgCons g gs ds ρ = some ρ') : ds.length = n + 1 := by
  unfold tgCons at h
  split at h
  · cases h
  · rename_i d r
    cases q1 : g (.p d) ρ with
    | none => rw [q1] at h; cases h
    | some ρ1 =>
      rw [q1] at h
      rw [List.length_cons, hr _ _ _ h]
end

/-! ### statements -/
inductive Out where
  | nx (ρ : Ev) | ret (d : D) | bk (ρ : Ev) | ct (ρ : Ev) | ex (w a : PD)
/-- what is wanted of an error that is raised: of its word, its place, the heap -/
abbrev WV := V → V → Hp → Prop
def OutR (K : PySem.W.Frag) (C : Addr) (W : WV) (M : Msk) (H : Hp) (E : Ends) : Out → Prop
  | .nx ρ => ∀ σ' H', Same H H' → EnvR K C (hide M H') σ' ρ → E.nx σ' H'
  | .ret d => ∀ v H', Same H H' → Rp K C (hide M H') v d → E.rt v H'
  | .bk ρ => ∀ σ' H', Same H H' → EnvR K C (hide M H') σ' ρ → E.bk σ' H'
  | .ct ρ => ∀ σ' H', Same H H' → EnvR K C (hide M H') σ' ρ → E.ct σ' H'
  | .ex w a => ∀ x y H', Same H H' → Dp K (hide M H') x w → Dp K (hide M H') y a → W x y H'
theorem OutR.later {K : PySem.W.Frag} {C : Addr} {W : WV} {M : Msk} {H H1 : Hp} {E : Ends} {o : Out} (h : OutR K C W M H E o) (s : Same H H1) : OutR K C W M H1 E o := by
  cases o with
  | nx ρ => exact fun σ' H' s' e => h σ' H' (s.trans s') e
  | ret d => exact fun v H' s' r => h v H' (s.trans s') r
  | bk ρ => exact fun σ' H' s' e => h σ' H' (s.trans s') e
  | ct ρ => exact fun σ' H' s' e => h σ' H' (s.trans s') e
  | ex w a => exact fun x y H' s' r1 r2 => h x y H' (s.trans s') r1 r2
def dS (K : PySem.W.Frag) (C : Addr) (W : WV) (f : Ev → Option Out) : TS := fun E σ H => ∃ (M : Msk) (ρ : Ev) (o : Out), Hid M H ∧ EnvR K C (hide M H) σ ρ ∧ f ρ = some o ∧ OutR K C W M H E o
structure DS (C : Addr) (W : WV) (X : Cx) (st : Stmt) (f : Ev → Option Out) : Prop where
  ps : PS X st (dS X.K C W f)
structure DSs (C : Addr) (W : WV) (X : Cx) (st : List Stmt) (f : Ev → Option Out) : Prop where
  pss : PSs X st (dS X.K C W f)
def sNext : Ev → Option Out := fun ρ => some (.nx ρ)
def sSeq (f g : Ev → Option Out) : Ev → Option Out := fun ρ => match f ρ with
  | none => none
  | some (.nx ρ1) => g ρ1
  | some o => some o
def sSet (g : D → Ev → Option Ev) (f : Ev → Option D) : Ev → Option Out := fun ρ => match f ρ with
  | none => none
  | some d => match g d ρ with
    | none => none
    | some ρ1 => some (.nx ρ1)
def sDrop (f : Ev → Option D) : Ev → Option Out := fun ρ => match f ρ with
  | none => none
  | some _ => some (.nx ρ)
def sRet (f : Ev → Option D) : Ev → Option Out := fun ρ => match f ρ with
  | none => none
  | some d => some (.ret d)
def sRetN : Ev → Option Out := fun _ => some (.ret (.p .none))
def sIf (t : Ev → Option Bool) (f g : Ev → Option Out) : Ev → Option Out := fun ρ => match t ρ with
  | none => none
  | some true => f ρ
  | some false => g ρ
def sNo : Ev → Option Out := fun _ => none
def sBreak : Ev → Option Out := fun ρ => some (.bk ρ)
section
variable {C : Addr} {W : WV} {X : Cx} {st : Stmt} {rest : List Stmt} {e : Expr} {pos : Pos} {f : Ev → Option D} {t : Ev → Option Bool} {u v : Ev → Option Out} {g : D → Ev → Option Ev} {vs : List Nat}
theorem dss_nil : DSs C W X [] sNext := ⟨PSs.imp pss_nil fun E σ H q => by
  obtain ⟨M, ρ, o, hm, he, hf, k⟩ := q
  cases hf
  exact k σ H (Same.refl H) he⟩
theorem dss_cons (h : DS C W X st u) (r : DSs C W X rest v) : DSs C W X (st :: rest) (sSeq u v) := ⟨PSs.imp (pss_cons h.ps r.pss) fun E σ H q => by
  obtain ⟨M, ρ, o, hm, he, hf, k⟩ := q
  unfold sSeq at hf
  cases q1 : u ρ with
  | none => rw [q1] at hf; cases hf
  | some o1 =>
    rw [q1] at hf
    refine ⟨M, ρ, o1, hm, he, q1, ?_⟩
    cases o1 with
    | nx ρ1 => exact fun σ1 H1 s1 e1 => ⟨M, ρ1, o, hm.mono s1, e1, hf, k.later s1⟩
    | ret d => cases hf; exact k
    | bk ρ1 => cases hf; exact k
    | ct ρ1 => cases hf; exact k
    | ex w a => cases hf; exact k⟩
theorem dss_one (h : DS C W X st u) : DSs C W X [st] u := ⟨pss_one h.ps⟩
theorem d_set {i : Nat} {t : TE} (h : ∀ σ H Q, dE X.K C f σ H Q → t σ H Q) (E : Ends) (σ : L2.St) (H : Hp) (q : dS X.K C W (sSet (tgName i) f) E σ H) : tAsg t (gName i) E σ H := by
  obtain ⟨M, ρ, o, hm, he, hf, k⟩ := q
  unfold sSet at hf
  cases q1 : f ρ with
  | none => rw [q1] at hf; cases hf
  | some d =>
    rw [q1] at hf
    cases hf
    exact h σ H _ ⟨M, ρ, d, hm, he, q1, fun v H1 s1 r1 => k _ H1 s1 ((he.mono (same_hide s1)).put r1)⟩
theorem ds_set {i : Nat} {x : Str} {pos' : Pos} (h : PS X (.Assign [.Name x pos'] e pos) (tAsg (dE X.K C f) (gName i))) : DS C W X (.Assign [.Name x pos'] e pos) (sSet (tgName i) f) := ⟨PS.imp h (d_set fun _ _ _ q => q)⟩
theorem ds_asg {tg : Expr} (he : DE C X e f) (hg : DG C X vs tg g) (hs : swapsWithSole [tg] e pos.line X.env = pure false := by rfl) (hw : swappedStores [tg] e X.env = pure none := by rfl)
    (h1 : (assignEach [tg] X.env).map (·.2) = [assign tg X.env] := by rfl) : DS C W X (.Assign [tg] e pos) (sSet g f) := ⟨PS.imp (ps_asg he.pe hg.pg hs hw h1) fun E σ H q => by
  obtain ⟨M, ρ, o, hm, he, hf, k⟩ := q
  unfold sSet at hf
  cases q1 : f ρ with
  | none => rw [q1] at hf; cases hf
  | some d =>
    rw [q1] at hf
    cases q2 : g d ρ with
    | none => simp only [q2] at hf; cases hf
    | some ρ1 =>
      simp only [q2] at hf
      cases hf
      exact ⟨M, ρ, d, hm, he, q1, fun v H1 s1 r1 => ⟨M, ρ, d, ρ1, hm.mono s1, he.mono (same_hide s1), r1, q2, fun σ2 H2 s2 e2 _ => k σ2 H2 (s1.trans s2) e2⟩⟩⟩
def sPar (i j : Nat) (fs : Ev → Option (List D)) : Ev → Option Out := fun ρ => match fs ρ with
  | some [a, b] => some (.nx (put (put ρ i a) j b))
  | _ => none
theorem ds_par {i j : Nat} {fs : Ev → Option (List D)} (h : PS X st (tPar i j (dA X.K C fs))) : DS C W X st (sPar i j fs) := ⟨PS.imp h fun E σ H q => by
  obtain ⟨M, ρ, o, hm, he, hf, k⟩ := q
  unfold sPar at hf
  split at hf
  · rename_i a b q1
    cases hf
    refine ⟨M, ρ, [a, b], hm, he, q1, fun vs H1 s1 r1 => ?_⟩
    cases r1 with
    | cons r1 r2 =>
      cases r2 with
      | cons r2 r3 =>
        cases r3
        exact ⟨_, _, rfl, k _ H1 s1 (((he.mono (same_hide s1)).put r1).put r2)⟩
  · cases hf⟩
theorem ds_expr (he : DE C X e f) (hs : swapsWith e none pos.line X.env = pure false := by rfl) : DS C W X (.Expr e pos) (sDrop f) := ⟨PS.imp (ps_expr he.pe hs) fun E σ H q => by
  obtain ⟨M, ρ, o, hm, he, hf, k⟩ := q
  unfold sDrop at hf
  cases q1 : f ρ with
  | none => rw [q1] at hf; cases hf
  | some d =>
    rw [q1] at hf
    cases hf
    exact ⟨M, ρ, d, hm, he, q1, fun v H1 s1 r1 => k σ H1 s1 (he.mono (same_hide s1))⟩⟩
theorem ds_ret (he : DE C X e f) : DS C W X (.Return (some e) pos) (sRet f) := ⟨PS.imp (ps_ret he.pe) fun E σ H q => by
  obtain ⟨M, ρ, o, hm, he, hf, k⟩ := q
  unfold sRet at hf
  cases q1 : f ρ with
  | none => rw [q1] at hf; cases hf
  | some d =>
    rw [q1] at hf
    cases hf
    exact ⟨M, ρ, d, hm, he, q1, k⟩⟩
theorem ds_retN : DS C W X (.Return none pos) sRetN := ⟨PS.imp ps_retN fun E σ H q => by
  obtain ⟨M, ρ, o, hm, he, hf, k⟩ := q
  cases hf
  exact k _ H (Same.refl H) .non⟩
theorem ds_if {c : Expr} {a b : List Stmt} (hc : DT C X c t) (ha : DSs C W X a u) (hb : DSs C W X b v) : DS C W X (.If c a b pos) (sIf t u v) := ⟨PS.imp (ps_if hc.pt ha.pss hb.pss) fun E σ H q => by
  obtain ⟨M, ρ, o, hm, he, hf, k⟩ := q
  unfold sIf at hf
  cases q1 : t ρ with
  | none => rw [q1] at hf; cases hf
  | some x =>
    rw [q1] at hf
    refine ⟨M, ρ, x, hm, he, q1, fun H1 s1 => ?_⟩
    cases x with
    | true => rw [if_pos rfl]; exact ⟨M, ρ, o, hm.mono s1, he.mono (same_hide s1), hf, k.later s1⟩
    | false => rw [if_neg Bool.false_ne_true]; exact ⟨M, ρ, o, hm.mono s1, he.mono (same_hide s1), hf, k.later s1⟩⟩
theorem ds_no : DS C W X st sNo := ⟨PS.imp ps_never fun E σ H q => by
  obtain ⟨M, ρ, o, hm, he, hf, k⟩ := q
  cases hf⟩
theorem dss_no : DSs C W X rest sNo := ⟨PSs.imp pss_never fun E σ H q => by
  obtain ⟨M, ρ, o, hm, he, hf, k⟩ := q
  cases hf⟩
theorem ds_break : DS C W X (.Break pos) sBreak := ⟨PS.imp ps_break fun E σ H q => by
  obtain ⟨M, ρ, o, hm, he, hf, k⟩ := q
  cases hf
  exact k σ H (Same.refl H) he⟩
theorem ds_pass : DS C W X (.Pass pos) sNext := ⟨PS.imp ps_pass fun E σ H q => by
  obtain ⟨M, ρ, o, hm, he, hf, k⟩ := q
  cases hf
  exact k σ H (Same.refl H) he⟩
end

/-! ### what is walked -/
abbrev SameM (M : Msk) (H H' : Hp) : Prop := Same (hide M H) (hide M H')
/-- it gives ds, one after the other, while all that is not hidden stands -/
def Itd (K : PySem.W.Frag) (C : Addr) (M : Msk) (J : It) (H0 : Hp) (ds : List D) : Prop := ∀ M' : Msk, hide M' H0 = hide M H0 → ∀ (i : Nat) (H1 : Hp), SameM M' H0 H1 → Hid M' H1 →
  (∀ d, ds[i]? = some d → J.go i H1 ∧ ∀ x H2, J.yld i H1 x H2 → Same H1 H2 ∧ Rp K C (hide M' H2) x d) ∧ (i = ds.length → J.stop i H1)
def dI (K : PySem.W.Frag) (C : Addr) (f : Ev → Option (List D)) : TI := fun σ H R => ∃ (M : Msk) (ρ : Ev) (ds : List D), Hid M H ∧ EnvR K C (hide M H) σ ρ ∧ f ρ = some ds ∧ ∀ J H', Same H H' → Itd K C M J H' ds → R J H'
structure DI (C : Addr) (X : Cx) (tg e : Expr) (f : Ev → Option (List D)) : Prop where
  pi : PI X tg e (dI X.K C f)
def pds : List PD → List D
  | [] => []
  | d :: r => .p d :: pds r
theorem pds_get : ∀ (l : List PD) (i : Nat), (pds l)[i]? = (l[i]?).map D.p
  | [], i => by simp [pds]
  | x :: r, 0 => rfl
  | x :: r, i + 1 => by
    show (pds r)[i]? = _
    rw [pds_get r i]
    simp
theorem pds_len : ∀ l : List PD, (pds l).length = l.length
  | [] => rfl
  | x :: r => congrArg Nat.succ (pds_len r)
def iSeqL (f : Ev → Option D) : Ev → Option (List D) := fun ρ => match f ρ with
  | some (.p (.list l)) => some (pds l)
  | _ => none
def iSeqT (f : Ev → Option D) : Ev → Option (List D) := fun ρ => match f ρ with
  | some (.p (.tuple l)) => some (pds l)
  | _ => none
section
variable {K : PySem.W.Frag} {C : Addr} {X : Cx} {tg e : Expr} {pos p : Pos} {f fa fb : Ev → Option D} {M : Msk} {H : Hp} {a : Addr} {xs : List V} {l : List PD}
theorem itd_list (h : SqL K (hide M H) a xs) (r : DpAll K (hide M H) xs l) : Itd K C M (Itl K a) H (pds l) := by
  intro M' eM i H1 s1 m1
  rw [← eM] at h r
  have h1 := s1.seq h
  have r1 := DpAll_mono s1 _ _ r
  refine ⟨fun d hd => ?_, fun hi => ?_⟩
  · rw [pds_get] at hd
    cases q : l[i]? with
    | none => rw [q] at hd; cases hd
    | some d' =>
      rw [q] at hd
      cases hd
      obtain ⟨x, hx, rx⟩ := DpAll_get r1 q
      refine ⟨⟨xs, x, seqL_hide h1, hx⟩, fun y H2 hy => ?_⟩
      obtain ⟨e, hy⟩ := hy
      subst e
      have := hy xs (seqL_hide h1)
      rw [hx] at this
      cases this
      exact ⟨Same.refl _, rx⟩
  · refine ⟨xs, seqL_hide h1, ?_⟩
    rw [DpAll_len r, hi, pds_len]
    exact Nat.le_refl _
theorem itd_tup (h : SqT K (hide M H) a xs) (r : DpAll K (hide M H) xs l) : Itd K C M (Itt K a) H (pds l) := by
  intro M' eM i H1 s1 m1
  rw [← eM] at h r
  have h1 := seqT s1 h
  have r1 := DpAll_mono s1 _ _ r
  refine ⟨fun d hd => ?_, fun hi => ?_⟩
  · rw [pds_get] at hd
    cases q : l[i]? with
    | none => rw [q] at hd; cases hd
    | some d' =>
      rw [q] at hd
      cases hd
      obtain ⟨x, hx, rx⟩ := DpAll_get r1 q
      refine ⟨⟨xs, x, seqT_hide h1, hx⟩, fun y H2 hy => ?_⟩
      obtain ⟨e, hy⟩ := hy
      subst e
      have := hy xs (seqT_hide h1)
      rw [hx] at this
      cases this
      exact ⟨Same.refl _, rx⟩
  · refine ⟨xs, seqT_hide h1, ?_⟩
    rw [DpAll_len r, hi, pds_len]
    exact Nat.le_refl _
theorem di_list (he : DE C X e f) : DI C X tg e (iSeqL f) := ⟨PI.imp (pi_list he.pe) fun σ H R q => by
  obtain ⟨M, ρ, ds, hm, he, hf, k⟩ := q
  unfold iSeqL at hf
  split at hf
  · rename_i l q1
    cases hf
    refine ⟨M, ρ, _, hm, he, q1, fun v H1 s1 r1 => ?_⟩
    obtain ⟨a, xs, rfl, h1, h2⟩ := rp_lst r1
    exact ⟨a, rfl, ⟨xs, seqL_hide h1⟩, k _ H1 s1 (itd_list h1 h2)⟩
  · cases hf⟩
theorem di_tup (he : DE C X e f) : DI C X tg e (iSeqT f) := ⟨PI.imp (pi_tup he.pe) fun σ H R q => by
  obtain ⟨M, ρ, ds, hm, he, hf, k⟩ := q
  unfold iSeqT at hf
  split at hf
  · rename_i l q1
    cases hf
    refine ⟨M, ρ, _, hm, he, q1, fun v H1 s1 r1 => ?_⟩
    obtain ⟨a, xs, rfl, h1, h2⟩ := rp_tup r1
    exact ⟨a, rfl, ⟨xs, seqT_hide h1⟩, k _ H1 s1 (itd_tup h1 h2)⟩
  · cases hf⟩
/-- lo, lo + 1, .. -/
def upto (lo : Int) : Nat → List D
  | 0 => []
  | n + 1 => .p (.int lo) :: upto (lo + 1) n
theorem upto_get : ∀ (n : Nat) (lo : Int) (i : Nat), (upto lo n)[i]? = if i < n then some (.p (.int (lo + i))) else none
  | 0, lo, i => by simp [upto]
  | n + 1, lo, 0 => by simp [upto]
  | n + 1, lo, i + 1 => by
    show (upto (lo + 1) n)[i]? = _
    rw [upto_get n (lo + 1) i]
    by_cases h : i < n
    · rw [if_pos h, if_pos (by omega)]
      have : lo + 1 + (i : Int) = lo + ((i + 1 : Nat) : Int) := by omega
      rw [this]
    · rw [if_neg h, if_neg (by omega)]
theorem upto_len : ∀ (n : Nat) (lo : Int), (upto lo n).length = n
  | 0, _ => rfl
  | n + 1, lo => congrArg Nat.succ (upto_len n (lo + 1))
theorem itd_range {lo : Int} {n : Nat} : Itd K C M (Itr lo n) H (upto lo n) := by
  intro M' eM i H1 s1 m1
  refine ⟨fun d hd => ?_, fun hi => ?_⟩
  · rw [upto_get] at hd
    by_cases h : i < n
    · rw [if_pos h] at hd
      cases hd
      refine ⟨h, fun x H2 hy => ?_⟩
      obtain ⟨e1, e2⟩ := hy
      subst e1 e2
      exact ⟨Same.refl _, .int _⟩
    · rw [if_neg h] at hd; cases hd
  · rw [upto_len] at hi
    show n ≤ i
    omega
def rng (a b : Int) : Option (List D) := if near a = true then (if near b = true then some (upto a (b - a).toNat) else none) else none
def iRg1 (f : Ev → Option D) : Ev → Option (List D) := fun ρ => match f ρ with
  | some (.p (.int n)) => rng 0 n
  | _ => none
def iRg2 (f g : Ev → Option D) : Ev → Option (List D) := fun ρ => match f ρ with
  | some (.p (.int a)) => (match g ρ with
    | some (.p (.int b)) => rng a b
    | _ => none)
  | _ => none
theorem rng_some {a b : Int} {ds : List D} (h : rng a b = some ds) : near a = true ∧ near b = true ∧ ds = upto a (b - a).toNat := by
  unfold rng at h
  by_cases q1 : near a = true
  · rw [if_pos q1] at h
    by_cases q2 : near b = true
    · rw [if_pos q2] at h; cases h; exact ⟨q1, q2, rfl⟩
    · rw [if_neg q2] at h; cases h
  · rw [if_neg q1] at h; cases h
theorem di_range1 (he : DE C X e f) (hg : Gl X "range") (hm : X.mg "range" = none) (hs : starEach (e :: []) X.env = (false, eval e X.env) :: starEach [] X.env := by rfl) (hs2 : starEach [e] X.env = [(false, eval e X.env)] := by rfl) : DI C X tg (.Call (.Name "range" p) [e] [] pos) (iRg1 f) := ⟨PI.imp (pi_range1 hg hm (pa_cons he.pe pa_nil hs) hs2) fun σ H R q => by
  obtain ⟨M, ρ, ds, hm, he, hf, k⟩ := q
  unfold iRg1 at hf
  split at hf
  · rename_i n q1
    obtain ⟨_, hn, rfl⟩ := rng_some hf
    have := near_lt hn
    refine ⟨M, ρ, _, hm, he, q1, fun v H1 s1 r1 => ⟨n, by rw [rp_int r1], this.1, this.2.1, ?_⟩⟩
    rw [Int.sub_zero] at k
    exact k _ H1 s1 itd_range
  · cases hf⟩
theorem di_range2 {b : Expr} (he : DE C X e fa) (hb : DE C X b fb) (hg : Gl X "range") (hm : X.mg "range" = none) (hs0 : starEach (e :: [b]) X.env = (false, eval e X.env) :: starEach [b] X.env := by rfl) (hs1 : starEach (b :: []) X.env = (false, eval b X.env) :: starEach [] X.env := by rfl)
    (hs : starEach [e, b] X.env = [(false, eval e X.env), (false, eval b X.env)] := by rfl) (hs2 : starEach [b] X.env = [(false, eval b X.env)] := by rfl) : DI C X tg (.Call (.Name "range" p) [e, b] [] pos) (iRg2 fa fb) := ⟨PI.imp (pi_range2 hg hm (pa_cons he.pe (pa_cons hb.pe pa_nil hs1) hs0) hs hs2) fun σ H R q => by
  obtain ⟨M, ρ, ds, hm, he, hf, k⟩ := q
  unfold iRg2 at hf
  split at hf
  · rename_i a q1
    split at hf
    · rename_i b q2
      obtain ⟨ha, hn, rfl⟩ := rng_some hf
      have n1 := near_lt ha
      have n2 := near_lt hn
      refine ⟨M, ρ, _, hm, he, q1, fun v H1 s1 r1 => ⟨M, ρ, _, hm.mono s1, he.mono (same_hide s1), q2, fun u H2 s2 r2 => ?_⟩⟩
      exact ⟨a, b, by rw [rp_int r1, rp_int r2], ⟨n1.1, n1.2.1, n2.1, n2.2.1⟩, k _ H2 (s1.trans s2) itd_range⟩
    · cases hf
  · cases hf⟩
/-- places with the items -/
def numD (i : Nat) : List PD → List D
  | [] => []
  | d :: r => .p (.tuple [.int (.ofNat i), d]) :: numD (i + 1) r
theorem numD_get : ∀ (l : List PD) (k i : Nat), (numD k l)[i]? = (l[i]?).map fun d => D.p (.tuple [.int (.ofNat (k + i)), d])
  | [], k, i => by simp [numD]
  | x :: r, k, 0 => rfl
  | x :: r, k, i + 1 => by
    show (numD (k + 1) r)[i]? = _
    rw [numD_get r (k + 1) i]
    have : k + 1 + i = k + (i + 1) := by omega
    rw [this]
    simp
theorem numD_len : ∀ (l : List PD) (k : Nat), (numD k l).length = l.length
  | [], _ => rfl
  | x :: r, k => congrArg Nat.succ (numD_len r (k + 1))
def iEnL (f : Ev → Option D) : Ev → Option (List D) := fun ρ => match f ρ with
  | some (.p (.list l)) => some (numD 0 l)
  | _ => none
def iEnT (f : Ev → Option D) : Ev → Option (List D) := fun ρ => match f ρ with
  | some (.p (.tuple l)) => some (numD 0 l)
  | _ => none
theorem itd_enum (h : SqL K (hide M H) a xs) (r : DpAll K (hide M H) xs l) : Itd K C M (Ite K a) H (numD 0 l) := by
  intro M' eM i H1 s1 m1
  rw [← eM] at h r
  have h1 := s1.seq h
  have r1 := DpAll_mono s1 _ _ r
  refine ⟨fun d hd => ?_, fun hi => ?_⟩
  · rw [numD_get] at hd
    cases q : l[i]? with
    | none => rw [q] at hd; cases hd
    | some d' =>
      rw [q] at hd
      cases hd
      obtain ⟨x, hx, rx⟩ := DpAll_get r1 q
      refine ⟨⟨xs, x, seqL_hide h1, hx⟩, fun y H2 hy => ?_⟩
      obtain ⟨T, z, rfl, nT, rfl, hz⟩ := hy
      have := hz xs (seqL_hide h1)
      rw [hx] at this
      cases this
      refine ⟨same_new nT, new_tup m1 nT (.cons ?_ (.cons rx .nil))⟩
      rw [Nat.zero_add]
      exact .int _
  · refine ⟨xs, seqL_hide h1, ?_⟩
    rw [DpAll_len r, hi, numD_len]
    exact Nat.le_refl _
theorem di_enumL {elts : List Expr} {kk : Nat} {tpos : Pos} (he : DE C X e f) (hg : Gl X "enumerate") (hm : X.mg "enumerate" = none) (hs : starEach (e :: []) X.env = (false, eval e X.env) :: starEach [] X.env := by rfl) (hs2 : starEach [e] X.env = [(false, eval e X.env)] := by rfl) :
    DI C X (.Tuple elts kk tpos) (.Call (.Name "enumerate" p) [e] [] pos) (iEnL f) := ⟨PI.imp (pi_enum hg hm (pa_cons he.pe pa_nil hs) hs2) fun σ H R q => by
  obtain ⟨M, ρ, ds, hm, he, hf, k⟩ := q
  unfold iEnL at hf
  split at hf
  · rename_i l q1
    cases hf
    refine ⟨M, ρ, _, hm, he, q1, fun v H1 s1 r1 => ?_⟩
    obtain ⟨a, xs, rfl, h1, h2⟩ := rp_lst r1
    exact ⟨a, xs, rfl, seqL_hide h1, k _ H1 s1 (itd_enum h1 h2)⟩
  · cases hf⟩
def zipD : List PD → List PD → List D
  | d :: r, e :: s => .p (.tuple [d, e]) :: zipD r s
  | _, _ => []
theorem zipD_get : ∀ (l m : List PD) (i : Nat) (d : D), (zipD l m)[i]? = some d → ∃ x y, l[i]? = some x ∧ m[i]? = some y ∧ d = .p (.tuple [x, y])
  | [], m, i, d, h => by simp [zipD] at h
  | x :: r, [], i, d, h => by simp [zipD] at h
  | x :: r, y :: s, 0, d, h => ⟨x, y, rfl, rfl, (Option.some.inj h).symm⟩
  | x :: r, y :: s, i + 1, d, h => by
    obtain ⟨x', y', h1, h2, h3⟩ := zipD_get r s i d h
    exact ⟨x', y', by simpa using h1, by simpa using h2, h3⟩
theorem zipD_len : ∀ l m : List PD, (zipD l m).length = min l.length m.length
  | [], m => by simp [zipD]
  | x :: r, [] => by simp [zipD]
  | x :: r, y :: s => by
    show (zipD r s).length + 1 = _
    rw [zipD_len r s]
    simp only [List.length_cons]
    omega
def iZip (f g : Ev → Option D) : Ev → Option (List D) := fun ρ => match f ρ with
  | some (.p (.tuple l)) => (match g ρ with
    | some (.p (.tuple m)) => some (zipD l m)
    | _ => none)
  | _ => none
theorem di_zip {elts : List Expr} {kk : Nat} {tpos : Pos} {b : Expr} (he : DE C X e fa) (hb : DE C X b fb) (hg : Gl X "zip") (hm : X.mg "zip" = none) (hs0 : starEach (e :: [b]) X.env = (false, eval e X.env) :: starEach [b] X.env := by rfl) (hs1 : starEach (b :: []) X.env = (false, eval b X.env) :: starEach [] X.env := by rfl)
    (hpl : (backTo pos (starEach [b] X.env)).any (·.1) = false := by rfl) : DI C X (.Tuple elts kk tpos) (.Call (.Name "zip" p) [e, b] [] pos) (iZip fa fb) := ⟨PI.imp (RZ.pi_zipA hg hm (pa_cons he.pe (pa_cons hb.pe pa_nil hs1) hs0) hs0 hpl) fun σ H R q => by
  obtain ⟨M, ρ, ds, hm, he, hf, k⟩ := q
  unfold iZip at hf
  split at hf
  · rename_i l q1
    split at hf
    · rename_i m q2
      cases hf
      refine ⟨M, ρ, _, hm, he, q1, fun v H1 s1 r1 => ⟨M, ρ, _, hm.mono s1, he.mono (same_hide s1), q2, fun u H2 s2 r2 => ?_⟩⟩
      obtain ⟨a, xs, rfl, h1, h2⟩ := rp_tup (r1.mono (same_hide s2))
      obtain ⟨b, ys, rfl, h3, h4⟩ := rp_tup r2
      refine ⟨a, b, xs, ys, rfl, .inr ⟨seqT_hide h1, seqT_hide h3, k _ H2 (s1.trans s2) ?_⟩⟩
      intro M' eM i H3 s3 m3
      rw [← eM] at h1 h2 h3 h4
      have h1 := seqT s3 h1
      have h3 := seqT s3 h3
      have h2' := DpAll_mono s3 _ _ h2
      have h4' := DpAll_mono s3 _ _ h4
      refine ⟨fun d hd => ?_, fun hi => ?_⟩
      · obtain ⟨x, y, hx, hy, rfl⟩ := zipD_get l m i d hd
        obtain ⟨v, hv, rv⟩ := DpAll_get h2' hx
        obtain ⟨w, hw, rw'⟩ := DpAll_get h4' hy
        refine ⟨⟨xs, ys, v, w, seqT_hide h1, seqT_hide h3, hv, hw⟩, fun z H4 hz => ?_⟩
        obtain ⟨T, x', y', rfl, nT, rfl, hx', hy'⟩ := hz
        have e1 := hx' xs (seqT_hide h1)
        have e2 := hy' ys (seqT_hide h3)
        rw [hv] at e1
        rw [hw] at e2
        cases e1
        cases e2
        exact ⟨same_new nT, new_tup m3 nT (.cons rv (.cons rw' .nil))⟩
      · refine ⟨xs, ys, seqT_hide h1, seqT_hide h3, ?_⟩
        rw [zipD_len] at hi
        rw [DpAll_len h2, DpAll_len h4]
        omega
    · cases hf
  · cases hf⟩
end

/-! ### for -/
def forD (g : D → Ev → Option Ev) (b : Ev → Option Out) : List D → Ev → Option Out
  | [], ρ => some (.nx ρ)
  | d :: ds, ρ => match g d ρ with
    | none => none
    | some ρ1 => match b ρ1 with
      | none => none
      | some (.nx ρ2) => forD g b ds ρ2
      | some (.ct ρ2) => forD g b ds ρ2
      | some (.bk ρ2) => some (.nx ρ2)
      | some (.ret d) => some (.ret d)
      | some (.ex w a) => some (.ex w a)
def sFor (i : Ev → Option (List D)) (g : D → Ev → Option Ev) (b : Ev → Option Out) : Ev → Option Out := fun ρ => match i ρ with
  | none => none
  | some ds => forD g b ds ρ
section
variable {C : Addr} {W : WV} {X : Cx} {tg iter : Expr} {body : List Stmt} {pos : Pos} {i : Ev → Option (List D)} {g : D → Ev → Option Ev} {b : Ev → Option Out} {vs : List Nat}
theorem drop_get {α : Type} {l : List α} {i : Nat} {d : α} (h : l[i]? = some d) : l.drop i = d :: l.drop (i + 1) := by
  obtain ⟨hi, e⟩ := List.getElem?_eq_some_iff.mp h
  rw [List.drop_eq_getElem_cons hi, e]
theorem ds_for (hi : DI C X tg iter i) (hg : DG C X vs tg g) (hb : DSs C W X body b) (hp : PassesOwn (model X.prog X.w) X.A X.env X.xe) (hc : X.calm = true := by rfl) (hs : ∀ x, foldedSetIterable iter X.env x = pure x := by intro _; rfl) : DS C W X (.For tg iter body [] pos) (sFor i g b) := ⟨PS.imp (ps_for hp hc hi.pi hg.pg hb.pss hs) fun E σ H q => by
  obtain ⟨M, ρ, o, hm, he, hf, k⟩ := q
  unfold sFor at hf
  cases q1 : i ρ with
  | none => rw [q1] at hf; cases hf
  | some ds =>
    rw [q1] at hf
    simp only at hf
    refine ⟨M, ρ, ds, hm, he, q1, fun J H1 s1 itd => ?_⟩
    refine ⟨fun n m σ' H' => m = ds.length - n ∧ n ≤ ds.length ∧ Same H1 H' ∧ ∃ ρ', EnvR X.K C (hide M H') σ' ρ' ∧ forD g b (ds.drop n) ρ' = some o, ⟨ds.length, by omega, Nat.zero_le _, Same.refl _, ρ, he.mono (same_hide s1), by rw [List.drop_zero]; exact hf⟩, ?_⟩
    rintro n m σ' H' ⟨rfl, hn, s2, ρ', he', hf'⟩
    have s12 := s1.trans s2
    have hm' := hm.mono s12
    obtain ⟨go, stop⟩ := itd M rfl n H' (same_hide s2) hm'
    by_cases hlt : n < ds.length
    · have hd : ds[n]? = some ds[n] := List.getElem?_eq_getElem hlt
      obtain ⟨g1, g2⟩ := go _ hd
      rw [drop_get hd] at hf'
      unfold forD at hf'
      cases q2 : g ds[n] ρ' with
      | none => rw [q2] at hf'; cases hf'
      | some ρ1 =>
        rw [q2] at hf'
        simp only at hf'
        refine .inr ⟨g1, fun σ3 H3 => Same H1 H3 ∧ ∃ ρ3, EnvR X.K C (hide M H3) σ3 ρ3 ∧ forD g b (ds.drop (n + 1)) ρ3 = some o, fun σ3 H3 ⟨z1, z2⟩ => ⟨ds.length - (n + 1), by omega, rfl, hlt, z1, z2⟩, fun x H4 hy => ?_⟩
        obtain ⟨s4, r4⟩ := g2 x H4 hy
        refine ⟨M, ρ', ds[n], ρ1, hm'.mono s4, he'.mono (same_hide s4), r4, q2, fun σ5 H5 s5 e5 _ => ?_⟩
        cases q3 : b ρ1 with
        | none => rw [q3] at hf'; cases hf'
        | some o1 =>
          rw [q3] at hf'
          have s45 := s4.trans s5
          refine ⟨M, ρ1, o1, hm'.mono s45, e5, q3, ?_⟩
          cases o1 with
          | nx ρ2 => exact fun σ6 H6 s6 e6 => ⟨s2.trans (s45.trans s6), ρ2, e6, hf'⟩
          | ct ρ2 => exact fun σ6 H6 s6 e6 => ⟨s2.trans (s45.trans s6), ρ2, e6, hf'⟩
          | bk ρ2 =>
            cases hf'
            exact fun σ6 H6 s6 e6 => k σ6 H6 (s12.trans (s45.trans s6)) e6
          | ret d =>
            cases hf'
            exact fun v H6 s6 r6 => k v H6 (s12.trans (s45.trans s6)) r6
          | ex w a =>
            cases hf'
            exact fun x y H6 s6 r6 r7 => k x y H6 (s12.trans (s45.trans s6)) r6 r7
    · have en : n = ds.length := by omega
      subst en
      rw [List.drop_length] at hf'
      cases hf'
      exact .inl ⟨stop rfl, k σ' H' s12 he'⟩⟩
end
end FF
/-! ## FG -/
namespace FF
open PySem PySem.Spec PyProof.Rows L2

/-! ### list comprehensions -/
structure DTs (C : Addr) (X : Cx) (ifs : List Expr) (t : Ev → Option Bool) : Prop where
  pts : PTs X ifs (dT X.K C t)
theorem PTs.imp {X : Cx} {e : List Expr} {t t' : TT} (h : PTs X e t) (w : ∀ σ H Q, t' σ H Q → t σ H Q) : PTs X e t' := ⟨fun pins s σ H Q I q => h.run pins s σ H Q I (w σ H Q q)⟩
def bYes : Ev → Option Bool := fun _ => some true
theorem dts_nil {C : Addr} {X : Cx} : DTs C X [] bYes := ⟨PTs.imp pts_nil fun σ H Q q => by
  obtain ⟨M, ρ, b, hm, he, hf, k⟩ := q
  cases hf
  exact k H (Same.refl H)⟩
theorem dts_one {C : Addr} {X : Cx} {c : Expr} {t : Ev → Option Bool} (h : DT C X c t) : DTs C X [c] t := ⟨pts_one h.pt⟩
/-- what a clause makes of the items -/
def lcD (g : D → Ev → Option Ev) (t : Ev → Option Bool) (e : Ev → Option D) (ρ : Ev) : List D → Option (List PD)
  | [] => some []
  | d :: ds => match g d ρ with
    | none => none
    | some ρ1 => match t ρ1 with
      | none => none
      | some false => lcD g t e ρ ds
      | some true => match e ρ1 with
        | some (.p x) => (match lcD g t e ρ ds with
          | none => none
          | some r => some (x :: r))
        | _ => none
def lcE (i : Ev → Option (List D)) (vs : List Nat) (g : D → Ev → Option Ev) (t : Ev → Option Bool) (e : Ev → Option D) : Ev → Option (List PD) := fun ρ => match i ρ with
  | none => none
  | some ds => if few ds = true then lcD g t e (wipeD ρ vs) ds else none
def asL (f : Ev → Option (List PD)) : Ev → Option D := fun ρ => match f ρ with
  | none => none
  | some r => some (.p (.list r))
def eLc (i : Ev → Option (List D)) (vs : List Nat) (g : D → Ev → Option Ev) (t : Ev → Option Bool) (e : Ev → Option D) : Ev → Option D := asL (lcE i vs g t e)
/-- a list that is new -/
def dL (K : PySem.W.Frag) (C : Addr) (f : Ev → Option (List PD)) : TE := fun σ H Q => ∃ (M : Msk) (ρ : Ev) (ds : List PD), Hid M H ∧ EnvR K C (hide M H) σ ρ ∧ f ρ = some ds ∧ ∀ a xs H', Same H H' → hide M H' a = some (.lst xs) → DpAll K (hide M H') xs ds → Q (.ref a) H'
theorem dL_of {K : PySem.W.Frag} {C : Addr} {f : Ev → Option (List PD)} {σ : L2.St} {H : Hp} {Q : VK} (q : dE K C (asL f) σ H Q) : dL K C f σ H Q := by
  obtain ⟨M, ρ, d, hm, he, hf, k⟩ := q
  unfold asL at hf
  cases e : f ρ with
  | none => rw [e] at hf; cases hf
  | some r =>
    rw [e] at hf
    cases hf
    exact ⟨M, ρ, r, hm, he, e, fun a xs H' s h1 h2 => k _ H' s (Dp.lst (SqL.of h1) h2)⟩
structure DL (C : Addr) (X : Cx) (e : Expr) (f : Ev → Option (List PD)) : Prop where
  pe : PE X e (dL X.K C f)
theorem DL.de {C : Addr} {X : Cx} {e : Expr} {f : Ev → Option (List PD)} (h : DL C X e f) : DE C X e (asL f) := ⟨PE.imp h.pe fun _ _ _ q => dL_of q⟩
section
variable {C : Addr} {X : Cx} {tg iter elt : Expr} {ifs : List Expr} {scope : Scope} {own : List (Str × Nat)} {pos spos : Pos} {i : Ev → Option (List D)} {g : D → Ev → Option Ev} {t : Ev → Option Bool} {e : Ev → Option D} {vs : List Nat}
theorem d_lcL {wi : TI} {K : PySem.W.Frag} (hi : ∀ σ H R, dI K C i σ H R → wi σ H R) (σ : L2.St) (H : Hp) (Q : VK) (q : dL K C (lcE i vs g t e) σ H Q) : tLc wi (dG K C vs g) (dT K C t) (dE K C e) vs σ H Q := by
  obtain ⟨M, ρ, res, hm, he, hf, k⟩ := q
  unfold lcE at hf
  cases q1 : i ρ with
  | none => rw [q1] at hf; cases hf
  | some ds =>
    rw [q1] at hf
    simp only at hf
    by_cases q2 : few ds = true
    · rw [if_pos q2] at hf
      have q3 := hf
      · refine hi σ H _ ⟨M, ρ, ds, hm, he, q1, fun J H1 s1 itd A nA => ?_⟩
        have hm1 := hm.mono s1
        have sN : Same H1 (upd H1 A (.lst [])) := same_new nA
        have mA : M A = false := hm1.new nA
        -- behind n items: acc stands at A, its items are what came so far
        refine ⟨fun n m H' => m = ds.length - n ∧ n ≤ ds.length ∧ Same H1 H' ∧ ∃ acc done left, H' A = some (.lst acc) ∧ acc.length ≤ n ∧ DpAll K (hide (more M A) H') acc done ∧ lcD g t e (wipeD ρ vs) (ds.drop n) = some left ∧ done ++ left = res,
          ⟨ds.length, by omega, Nat.zero_le _, sN, [], [], res, upd_same, Nat.le_refl _, .nil, by rw [List.drop_zero]; exact q3, rfl⟩, ?_⟩
        rintro n m H' ⟨rfl, hn, s2, acc, done, left, hA, hl, hd, hleft, hres⟩
        have s12 := s1.trans s2
        have hm2 := hm.mono s12
        have hmA : Hid (more M A) H' := hm2.more hA
        have hsame : hide (more M A) H1 = hide M H1 := more_new nA
        obtain ⟨go, stop⟩ := itd (more M A) hsame n H' (same_hide s2) hmA
        have he' : EnvR K C (hide (more M A) H') (wipe σ vs) (wipeD ρ vs) := by
          have z := (he.mono (same_hide s1)).wipe vs
          rw [← hsame] at z
          exact z.mono (same_hide s2)
        by_cases hlt : n < ds.length
        · have hdn : ds[n]? = some ds[n] := List.getElem?_eq_getElem hlt
          obtain ⟨g1, g2⟩ := go _ hdn
          rw [drop_get hdn] at hleft
          unfold lcD at hleft
          cases w1 : g ds[n] (wipeD ρ vs) with
          | none => rw [w1] at hleft; cases hleft
          | some ρ1 =>
            rw [w1] at hleft
            simp only at hleft
            cases w2 : t ρ1 with
            | none => rw [w2] at hleft; cases hleft
            | some b =>
              rw [w2] at hleft
              refine .inr ⟨g1, fun H3 => Same H1 H3 ∧ ∃ acc done left, H3 A = some (.lst acc) ∧ acc.length ≤ n + 1 ∧ DpAll K (hide (more M A) H3) acc done ∧ lcD g t e (wipeD ρ vs) (ds.drop (n + 1)) = some left ∧ done ++ left = res,
                fun H3 ⟨z1, z2⟩ => ⟨ds.length - (n + 1), by omega, rfl, hlt, z1, z2⟩, fun x H4 hy => ?_⟩
              obtain ⟨s4, r4⟩ := g2 x H4 hy
              refine ⟨more M A, wipeD ρ vs, ds[n], ρ1, hmA.mono s4, he'.mono (same_hide s4), r4, w1, fun σ5 H5 s5 e5 w5 => ⟨w5.trans wipe_wipe, ?_⟩⟩
              have s45 := s4.trans s5
              refine ⟨more M A, ρ1, b, hmA.mono s45, e5, w2, fun H6 s6 => ?_⟩
              have s46 := s45.trans s6
              have hA6 : H6 A = some (.lst acc) := s46 _ _ hA
              cases b with
              | false =>
                refine iteF ?_
                exact ⟨s2.trans s46, acc, done, left, hA6, by omega, DpAll_mono (same_hide s46) _ _ hd, hleft, hres⟩
              | true =>
                refine iteT ?_
                simp only at hleft
                cases w3 : e ρ1 with
                | none => rw [w3] at hleft; cases hleft
                | some dx =>
                  rw [w3] at hleft
                  cases dx with
                  | look _ _ _ => cases hleft
                  | sts _ => cases hleft
                  | p x0 =>
                    simp only at hleft
                    cases w4 : lcD g t e (wipeD ρ vs) (ds.drop (n + 1)) with
                    | none => rw [w4] at hleft; cases hleft
                    | some left' =>
                      rw [w4] at hleft
                      cases hleft
                      refine ⟨more M A, ρ1, .p x0, hmA.mono s46, e5.mono (same_hide s6), w3, fun y H7 s7 r7 => ?_⟩
                      have s47 := s46.trans s7
                      have hA7 : H7 A = some (.lst acc) := s47 _ _ hA
                      have hlen : acc.length < sizeLine := by
                        have := few_line q2
                        omega
                      refine ⟨acc, hA7, hlen, ?_, acc ++ [y], done ++ [x0], left', upd_same, by rw [List.length_append, List.length_singleton]; omega, ?_, rfl, by rw [List.append_assoc]; exact hres⟩
                      · intro bb oo eb
                        have ne : bb ≠ A := ne_of_none eb nA
                        rw [upd_ne ne]
                        exact s47 _ _ (s2 _ _ eb)
                      · rw [more_upd]
                        exact DpAll_app (DpAll_mono (same_hide s47) _ _ hd) (.cons r7 .nil)
        · have en : n = ds.length := by omega
          subst en
          rw [List.drop_length] at hleft
          cases hleft
          rw [List.append_nil] at hres
          subst hres
          exact .inl ⟨stop rfl, k A acc H' s12 (hide_of hA mA) (DpAll_mono more_le _ _ hd)⟩
    · rw [if_neg q2] at hf; cases hf

theorem d_lc {wi : TI} {K : PySem.W.Frag} (hi : ∀ σ H R, dI K C i σ H R → wi σ H R) (σ : L2.St) (H : Hp) (Q : VK) (q : dE K C (eLc i vs g t e) σ H Q) : tLc wi (dG K C vs g) (dT K C t) (dE K C e) vs σ H Q := d_lcL hi σ H Q (dL_of q)
theorem dl_lc (hc : X.calm = true) (hN : X.N.Nodup) (hi : DI C X tg iter i) (ok : BlkOk X.N X.env.scope scope own)
    (hg : ∀ (s : Shared) (H : Hp) (L : Addr) (cl : List (Str × Addr)) (fp : List Addr), DG C (X.blk s H scope (compEnvC scope cl L X.env) fp) (own.map (·.2)) tg g)
    (ht : ∀ (s : Shared) (H : Hp) (L : Addr) (cl : List (Str × Addr)) (fp : List Addr), DTs C (X.blk s H scope (compEnvC scope cl L X.env) fp) ifs t)
    (he : ∀ (s : Shared) (H : Hp) (L : Addr) (cl : List (Str × Addr)) (fp : List Addr), DE C (X.blk s H scope (compEnvC scope cl L X.env) fp) elt e)
    (hs : ∀ x, foldedSetIterable iter X.env x = pure x := by intro _; rfl) : DL C X (.ListComp elt [⟨tg, iter, ifs, 0⟩] scope pos) (lcE i (own.map (·.2)) g t e) :=
  ⟨PE.imp (pe_lc hc hN hi.pi ok (fun s H L cl fp => (hg s H L cl fp).pg) (fun s H L cl fp => (ht s H L cl fp).pts) (fun s H L cl fp => (he s H L cl fp).pe) hs) (d_lcL fun _ _ _ q => q)⟩
theorem de_lc (hc : X.calm = true) (hN : X.N.Nodup) (hi : DI C X tg iter i) (ok : BlkOk X.N X.env.scope scope own)
    (hg : ∀ (s : Shared) (H : Hp) (L : Addr) (cl : List (Str × Addr)) (fp : List Addr), DG C (X.blk s H scope (compEnvC scope cl L X.env) fp) (own.map (·.2)) tg g)
    (ht : ∀ (s : Shared) (H : Hp) (L : Addr) (cl : List (Str × Addr)) (fp : List Addr), DTs C (X.blk s H scope (compEnvC scope cl L X.env) fp) ifs t)
    (he : ∀ (s : Shared) (H : Hp) (L : Addr) (cl : List (Str × Addr)) (fp : List Addr), DE C (X.blk s H scope (compEnvC scope cl L X.env) fp) elt e)
    (hs : ∀ x, foldedSetIterable iter X.env x = pure x := by intro _; rfl) : DE C X (.ListComp elt [⟨tg, iter, ifs, 0⟩] scope pos) (eLc i (own.map (·.2)) g t e) :=
  ⟨PE.imp (pe_lc hc hN hi.pi ok (fun s H L cl fp => (hg s H L cl fp).pg) (fun s H L cl fp => (ht s H L cl fp).pts) (fun s H L cl fp => (he s H L cl fp).pe) hs) (d_lc fun _ _ _ q => q)⟩
theorem ds_setLc {W : WV} {j : Nat} {y : Str} {py : Pos} (hc : X.calm = true) (hN : X.N.Nodup) (hy : X.N[j]? = some y) (hyl : X.env.scope.names.lookup y = some .local)
    (hsw : swapsWith (.ListComp elt [⟨tg, iter, ifs, 0⟩] scope pos) (some (.Name y py)) spos.line X.env = pure true) (hi : DI C X tg iter i) (ok : BlkOk X.N X.env.scope scope own)
    (hg : ∀ (s : Shared) (H : Hp) (L : Addr) (cl : List (Str × Addr)) (fp : List Addr), DG C (X.blk s H scope (compEnvC scope cl L X.env) fp) (own.map (·.2)) tg g)
    (ht : ∀ (s : Shared) (H : Hp) (L : Addr) (cl : List (Str × Addr)) (fp : List Addr), DTs C (X.blk s H scope (compEnvC scope cl L X.env) fp) ifs t)
    (he : ∀ (s : Shared) (H : Hp) (L : Addr) (cl : List (Str × Addr)) (fp : List Addr), DE C (X.blk s H scope (compEnvC scope cl L X.env) fp) elt e)
    (hs : ∀ x, foldedSetIterable iter X.env x = pure x := by intro _; rfl) : DS C W X (.Assign [.Name y py] (.ListComp elt [⟨tg, iter, ifs, 0⟩] scope pos) spos) (sSet (tgName j) (eLc i (own.map (·.2)) g t e)) :=
  ⟨PS.imp (ps_setLc hc hN hy hyl hsw hi.pi ok (fun s H L cl fp => (hg s H L cl fp).pg) (fun s H L cl fp => (ht s H L cl fp).pts) (fun s H L cl fp => (he s H L cl fp).pe) hs) (d_set (d_lc fun _ _ _ q => q))⟩
end

/-! ### two clauses -/
def lcD2 (g : D → Ev → Option Ev) (t : Ev → Option Bool) (i1 : Ev → Option (List D)) (vs1 : List Nat) (g1 : D → Ev → Option Ev) (t1 : Ev → Option Bool) (e : Ev → Option D) (ρ : Ev) : List D → Option (List PD)
  | [] => some []
  | d :: ds => match g d ρ with
    | none => none
    | some ρ1 => match t ρ1 with
      | none => none
      | some false => lcD2 g t i1 vs1 g1 t1 e ρ ds
      | some true => match i1 ρ1 with
        | none => none
        | some es => match lcD g1 t1 e (wipeD ρ1 vs1) es with
          | none => none
          | some r => match lcD2 g t i1 vs1 g1 t1 e ρ ds with
            | none => none
            | some r' => some (r ++ r')
def eLc2 (i : Ev → Option (List D)) (vs : List Nat) (g : D → Ev → Option Ev) (t : Ev → Option Bool) (i1 : Ev → Option (List D)) (vs1 : List Nat) (g1 : D → Ev → Option Ev) (t1 : Ev → Option Bool) (e : Ev → Option D) : Ev → Option D := fun ρ => match i ρ with
  | none => none
  | some ds => match lcD2 g t i1 vs1 g1 t1 e (wipeD ρ vs) ds with
    | none => none
    | some r => if few r = true then some (.p (.list r)) else none
section
variable {C : Addr} {X : Cx} {tg iter tg1 iter1 elt : Expr} {ifs ifs1 : List Expr} {scope : Scope} {own : List (Str × Nat)} {pos spos : Pos} {i i1 : Ev → Option (List D)} {g g1 : D → Ev → Option Ev} {t t1 : Ev → Option Bool} {e : Ev → Option D} {vs vs1 : List Nat}
theorem d_lc2 {wi : TI} {K : PySem.W.Frag} (hi : ∀ σ H R, dI K C i σ H R → wi σ H R) (σ : L2.St) (H : Hp) (Q : VK) (q : dE K C (eLc2 i vs g t i1 vs1 g1 t1 e) σ H Q) : tLc2 wi (dG K C vs g) (dT K C t) (dI K C i1) (dG K C vs1 g1) (dT K C t1) (dE K C e) vs vs1 σ H Q := by
  obtain ⟨M, ρ, d, hm, he, hf, k⟩ := q
  unfold eLc2 at hf
  cases q1 : i ρ with
  | none => rw [q1] at hf; cases hf
  | some ds =>
    rw [q1] at hf
    simp only at hf
    cases q3 : lcD2 g t i1 vs1 g1 t1 e (wipeD ρ vs) ds with
    | none => rw [q3] at hf; cases hf
    | some res =>
      rw [q3] at hf
      simp only at hf
      by_cases q2 : few res = true
      · rw [if_pos q2] at hf
        cases hf
        refine hi σ H _ ⟨M, ρ, ds, hm, he, q1, fun J H1 s1 itd A nA => ?_⟩
        have hm1 := hm.mono s1
        have sN : Same H1 (upd H1 A (.lst [])) := same_new nA
        have mA : M A = false := hm1.new nA
        have hlen : ∀ {H' : Hp} {acc : List V} {done left : List PD}, DpAll K (hide (more M A) H') acc done → done ++ left = res → left ≠ [] → acc.length < sizeLine := by
          intro H' acc done left h1 h2 h3
          have := few_line q2
          rw [← h2, List.length_append] at this
          have l0 : 0 < left.length := List.length_pos_iff.mpr h3
          rw [DpAll_len h1]
          omega
        refine ⟨fun n m H' => m = ds.length - n ∧ n ≤ ds.length ∧ Same H1 H' ∧ ∃ acc done left, H' A = some (.lst acc) ∧ DpAll K (hide (more M A) H') acc done ∧ lcD2 g t i1 vs1 g1 t1 e (wipeD ρ vs) (ds.drop n) = some left ∧ done ++ left = res,
          ⟨ds.length, by omega, Nat.zero_le _, sN, [], [], res, upd_same, .nil, by rw [List.drop_zero]; exact q3, rfl⟩, ?_⟩
        rintro n m H' ⟨rfl, hn, s2, acc, done, left, hA, hd, hleft, hres⟩
        have s12 := s1.trans s2
        have hm2 := hm.mono s12
        have hmA : Hid (more M A) H' := hm2.more hA
        have hsame : hide (more M A) H1 = hide M H1 := more_new nA
        obtain ⟨go, stop⟩ := itd (more M A) hsame n H' (same_hide s2) hmA
        have he' : EnvR K C (hide (more M A) H') (wipe σ vs) (wipeD ρ vs) := by
          have z := (he.mono (same_hide s1)).wipe vs
          rw [← hsame] at z
          exact z.mono (same_hide s2)
        by_cases hlt : n < ds.length
        · have hdn : ds[n]? = some ds[n] := List.getElem?_eq_getElem hlt
          obtain ⟨g1', g2⟩ := go _ hdn
          rw [drop_get hdn] at hleft
          unfold lcD2 at hleft
          cases w1 : g ds[n] (wipeD ρ vs) with
          | none => rw [w1] at hleft; cases hleft
          | some ρ1 =>
            rw [w1] at hleft
            simp only at hleft
            cases w2 : t ρ1 with
            | none => rw [w2] at hleft; cases hleft
            | some b =>
              rw [w2] at hleft
              refine .inr ⟨g1', fun H3 => Same H1 H3 ∧ ∃ acc done left, H3 A = some (.lst acc) ∧ DpAll K (hide (more M A) H3) acc done ∧ lcD2 g t i1 vs1 g1 t1 e (wipeD ρ vs) (ds.drop (n + 1)) = some left ∧ done ++ left = res,
                fun H3 ⟨z1, z2⟩ => ⟨ds.length - (n + 1), by omega, rfl, hlt, z1, z2⟩, fun x H4 hy => ?_⟩
              obtain ⟨s4, r4⟩ := g2 x H4 hy
              refine ⟨more M A, wipeD ρ vs, ds[n], ρ1, hmA.mono s4, he'.mono (same_hide s4), r4, w1, fun σ5 H5 s5 e5 w5 => ⟨w5.trans wipe_wipe, ?_⟩⟩
              have s45 := s4.trans s5
              refine ⟨more M A, ρ1, b, hmA.mono s45, e5, w2, fun H6 s6 => ?_⟩
              have s46 := s45.trans s6
              have hA6 : H6 A = some (.lst acc) := s46 _ _ hA
              cases b with
              | false =>
                refine iteF ?_
                exact ⟨s2.trans s46, acc, done, left, hA6, DpAll_mono (same_hide s46) _ _ hd, hleft, hres⟩
              | true =>
                refine iteT ?_
                simp only at hleft
                cases w3 : i1 ρ1 with
                | none => rw [w3] at hleft; cases hleft
                | some es =>
                  rw [w3] at hleft
                  simp only at hleft
                  cases w4 : lcD g1 t1 e (wipeD ρ1 vs1) es with
                  | none => rw [w4] at hleft; cases hleft
                  | some mid =>
                    rw [w4] at hleft
                    simp only at hleft
                    cases w5' : lcD2 g t i1 vs1 g1 t1 e (wipeD ρ vs) (ds.drop (n + 1)) with
                    | none => rw [w5'] at hleft; cases hleft
                    | some left' =>
                      rw [w5'] at hleft
                      cases hleft
                      refine ⟨more M A, ρ1, es, hmA.mono s46, e5.mono (same_hide s6), w3, fun J1 H7 s7 itd1 => ?_⟩
                      have s47 := s46.trans s7
                      have hA7 : H7 A = some (.lst acc) := s47 _ _ hA
                      have hm7 := hmA.mono s47
                      have e7 : EnvR K C (hide (more M A) H7) (wipe σ5 vs1) (wipeD ρ1 vs1) := (e5.mono (same_hide (s6.trans s7))).wipe vs1
                      -- the second clause; what stood ahead of it at A: whatever the items so far
                      refine ⟨fun j k HH => k = es.length - j ∧ j ≤ es.length ∧ SameM (more M A) H7 HH ∧ Same H1 HH ∧ ∃ acc2 done2 left2, HH A = some (.lst acc2) ∧ DpAll K (hide (more M A) HH) acc2 done2 ∧ lcD g1 t1 e (wipeD ρ1 vs1) (es.drop j) = some left2 ∧ done2 ++ (left2 ++ left') = res,
                        ⟨es.length, by omega, Nat.zero_le _, Same.refl _, s2.trans s47, acc, done, mid, hA7, DpAll_mono (same_hide s47) _ _ hd, by rw [List.drop_zero]; exact w4, hres⟩, ?_⟩
                      rintro j k HH ⟨rfl, hj, s8, s18, acc2, done2, left2, hA8, hd8, hleft2, hres2⟩
                      have hm8 : Hid (more M A) HH := (hm.mono (s1.trans s18)).more hA8
                      obtain ⟨go1, stop1⟩ := itd1 (more M A) rfl j HH s8 hm8
                      by_cases hlt1 : j < es.length
                      · have hdj : es[j]? = some es[j] := List.getElem?_eq_getElem hlt1
                        obtain ⟨g3, g4⟩ := go1 _ hdj
                        rw [drop_get hdj] at hleft2
                        unfold lcD at hleft2
                        cases v1 : g1 es[j] (wipeD ρ1 vs1) with
                        | none => rw [v1] at hleft2; cases hleft2
                        | some ρ2 =>
                          rw [v1] at hleft2
                          simp only at hleft2
                          cases v2 : t1 ρ2 with
                          | none => rw [v2] at hleft2; cases hleft2
                          | some b1 =>
                            rw [v2] at hleft2
                            refine .inr ⟨g3, fun HH => SameM (more M A) H7 HH ∧ Same H1 HH ∧ ∃ acc2 done2 left2, HH A = some (.lst acc2) ∧ DpAll K (hide (more M A) HH) acc2 done2 ∧ lcD g1 t1 e (wipeD ρ1 vs1) (es.drop (j + 1)) = some left2 ∧ done2 ++ (left2 ++ left') = res,
                              fun HH ⟨z1, z2⟩ => ⟨es.length - (j + 1), by omega, rfl, hlt1, z1, z2⟩, fun x1 H9 hy1 => ?_⟩
                            obtain ⟨s9, r9⟩ := g4 x1 H9 hy1
                            refine ⟨more M A, wipeD ρ1 vs1, es[j], ρ2, hm8.mono s9, (e7.mono s8).mono (same_hide s9), r9, v1, fun σ10 H10 s10 e10 w10 => ⟨w10.trans wipe_wipe, ?_⟩⟩
                            have t10 := s9.trans s10
                            refine ⟨more M A, ρ2, b1, hm8.mono t10, e10, v2, fun H11 s11 => ?_⟩
                            have t11 := t10.trans s11
                            have hA11 : H11 A = some (.lst acc2) := t11 _ _ hA8
                            cases b1 with
                            | false =>
                              refine iteF ?_
                              exact ⟨Same.trans s8 (same_hide t11), s18.trans t11, acc2, done2, left2, hA11, DpAll_mono (same_hide t11) _ _ hd8, hleft2, hres2⟩
                            | true =>
                              refine iteT ?_
                              simp only at hleft2
                              cases v3 : e ρ2 with
                              | none => rw [v3] at hleft2; cases hleft2
                              | some dx =>
                                rw [v3] at hleft2
                                cases dx with
                                | look _ _ _ => cases hleft2
                                | sts _ => cases hleft2
                                | p x0 =>
                                  simp only at hleft2
                                  cases v4 : lcD g1 t1 e (wipeD ρ1 vs1) (es.drop (j + 1)) with
                                  | none => rw [v4] at hleft2; cases hleft2
                                  | some left3 =>
                                    rw [v4] at hleft2
                                    cases hleft2
                                    refine ⟨more M A, ρ2, .p x0, hm8.mono t11, e10.mono (same_hide s11), v3, fun y H12 s12' r12 => ?_⟩
                                    have t12 := t11.trans s12'
                                    have hA12 : H12 A = some (.lst acc2) := t12 _ _ hA8
                                    refine ⟨acc2, hA12, hlen hd8 hres2 (by simp), ?_, ?_, acc2 ++ [y], done2 ++ [x0], left3, upd_same, ?_, rfl, by rw [List.append_assoc]; exact hres2⟩
                                    · show Same _ (hide (more M A) (upd H12 A _))
                                      rw [more_upd]
                                      exact Same.trans s8 (same_hide t12)
                                    · intro bb oo eb
                                      have ne : bb ≠ A := ne_of_none eb nA
                                      rw [upd_ne ne]
                                      exact t12 _ _ (s18 _ _ eb)
                                    · rw [more_upd]
                                      exact DpAll_app (DpAll_mono (same_hide t12) _ _ hd8) (.cons r12 .nil)
                      · have en : j = es.length := by omega
                        subst en
                        rw [List.drop_length] at hleft2
                        cases hleft2
                        exact .inl ⟨stop1 rfl, s18, acc2, done2, left', hA8, hd8, rfl, hres2⟩
        · have en : n = ds.length := by omega
          subst en
          rw [List.drop_length] at hleft
          cases hleft
          rw [List.append_nil] at hres
          subst hres
          refine .inl ⟨stop rfl, k _ H' s12 ?_⟩
          exact Dp.lst (SqL.of (hide_of hA mA)) (DpAll_mono more_le _ _ hd)
      · rw [if_neg q2] at hf; cases hf
theorem de_lc2 (hc : X.calm = true) (hN : X.N.Nodup) (hi : DI C X tg iter i) (ok : BlkOk X.N X.env.scope scope own) (hv : ∀ i ∈ vs1, i ∈ own.map (·.2))
    (hg : ∀ (s : Shared) (H : Hp) (L : Addr) (cl : List (Str × Addr)) (fp : List Addr), DG C (X.blk s H scope (compEnvC scope cl L X.env) fp) (own.map (·.2)) tg g)
    (ht : ∀ (s : Shared) (H : Hp) (L : Addr) (cl : List (Str × Addr)) (fp : List Addr), DTs C (X.blk s H scope (compEnvC scope cl L X.env) fp) ifs t)
    (hi1 : ∀ (s : Shared) (H : Hp) (L : Addr) (cl : List (Str × Addr)) (fp : List Addr), DI C (X.blk s H scope (compEnvC scope cl L X.env) fp) tg1 iter1 i1)
    (hg1 : ∀ (s : Shared) (H : Hp) (L : Addr) (cl : List (Str × Addr)) (fp : List Addr), DG C (X.blk s H scope (compEnvC scope cl L X.env) fp) vs1 tg1 g1)
    (ht1 : ∀ (s : Shared) (H : Hp) (L : Addr) (cl : List (Str × Addr)) (fp : List Addr), DTs C (X.blk s H scope (compEnvC scope cl L X.env) fp) ifs1 t1)
    (he : ∀ (s : Shared) (H : Hp) (L : Addr) (cl : List (Str × Addr)) (fp : List Addr), DE C (X.blk s H scope (compEnvC scope cl L X.env) fp) elt e)
    (hs : ∀ x, foldedSetIterable iter X.env x = pure x := by intro _; rfl) (hs1 : ∀ env x, foldedSetIterable iter1 env x = pure x := by intro _ _; rfl) :
    DE C X (.ListComp elt [⟨tg, iter, ifs, 0⟩, ⟨tg1, iter1, ifs1, 0⟩] scope pos) (eLc2 i (own.map (·.2)) g t i1 vs1 g1 t1 e) :=
  ⟨PE.imp (pe_lc2 hc hN hi.pi ok hv (fun s H L cl fp => (hg s H L cl fp).pg) (fun s H L cl fp => (ht s H L cl fp).pts) (fun s H L cl fp => (hi1 s H L cl fp).pi) (fun s H L cl fp => (hg1 s H L cl fp).pg) (fun s H L cl fp => (ht1 s H L cl fp).pts) (fun s H L cl fp => (he s H L cl fp).pe) hs hs1) (d_lc2 fun _ _ _ q => q)⟩
theorem ds_setLc2 {W : WV} {j : Nat} {y : Str} {py : Pos} (hc : X.calm = true) (hN : X.N.Nodup) (hy : X.N[j]? = some y) (hyl : X.env.scope.names.lookup y = some .local)
    (hsw : swapsWith (.ListComp elt [⟨tg, iter, ifs, 0⟩, ⟨tg1, iter1, ifs1, 0⟩] scope pos) (some (.Name y py)) spos.line X.env = pure true) (hi : DI C X tg iter i) (ok : BlkOk X.N X.env.scope scope own) (hv : ∀ i ∈ vs1, i ∈ own.map (·.2))
    (hg : ∀ (s : Shared) (H : Hp) (L : Addr) (cl : List (Str × Addr)) (fp : List Addr), DG C (X.blk s H scope (compEnvC scope cl L X.env) fp) (own.map (·.2)) tg g)
    (ht : ∀ (s : Shared) (H : Hp) (L : Addr) (cl : List (Str × Addr)) (fp : List Addr), DTs C (X.blk s H scope (compEnvC scope cl L X.env) fp) ifs t)
    (hi1 : ∀ (s : Shared) (H : Hp) (L : Addr) (cl : List (Str × Addr)) (fp : List Addr), DI C (X.blk s H scope (compEnvC scope cl L X.env) fp) tg1 iter1 i1)
    (hg1 : ∀ (s : Shared) (H : Hp) (L : Addr) (cl : List (Str × Addr)) (fp : List Addr), DG C (X.blk s H scope (compEnvC scope cl L X.env) fp) vs1 tg1 g1)
    (ht1 : ∀ (s : Shared) (H : Hp) (L : Addr) (cl : List (Str × Addr)) (fp : List Addr), DTs C (X.blk s H scope (compEnvC scope cl L X.env) fp) ifs1 t1)
    (he : ∀ (s : Shared) (H : Hp) (L : Addr) (cl : List (Str × Addr)) (fp : List Addr), DE C (X.blk s H scope (compEnvC scope cl L X.env) fp) elt e)
    (hs : ∀ x, foldedSetIterable iter X.env x = pure x := by intro _; rfl) (hs1 : ∀ env x, foldedSetIterable iter1 env x = pure x := by intro _ _; rfl) :
    DS C W X (.Assign [.Name y py] (.ListComp elt [⟨tg, iter, ifs, 0⟩, ⟨tg1, iter1, ifs1, 0⟩] scope pos) spos) (sSet (tgName j) (eLc2 i (own.map (·.2)) g t i1 vs1 g1 t1 e)) :=
  ⟨PS.imp (ps_setLc2 hc hN hy hyl hsw hi.pi ok hv (fun s H L cl fp => (hg s H L cl fp).pg) (fun s H L cl fp => (ht s H L cl fp).pts) (fun s H L cl fp => (hi1 s H L cl fp).pi) (fun s H L cl fp => (hg1 s H L cl fp).pg) (fun s H L cl fp => (ht1 s H L cl fp).pts) (fun s H L cl fp => (he s H L cl fp).pe) hs hs1) (d_set (d_lc2 fun _ _ _ q => q))⟩
end
end FF
/-! ## FH -/
namespace FF
open PySem PySem.Spec PyProof.Rows L2

/-! ### defs -/
def nones : Nat → Ev
  | 0 => []
  | n + 1 => none :: nones n
theorem nones_eq : ∀ n : Nat, nones n = List.replicate n none
  | 0 => rfl
  | n + 1 => by
    show none :: nones n = _
    rw [nones_eq n, List.replicate_succ]
def somes : List D → Ev → Ev
  | [], r => r
  | d :: ds, r => some d :: somes ds r
theorem somes_eq : ∀ (ds : List D) (r : Ev), somes ds r = ds.map some ++ r
  | [], r => rfl
  | d :: ds, r => by
    show some d :: somes ds r = _
    rw [somes_eq ds r]
    rfl
/-- what a body gives when it is called: e empty slots behind the arguments -/
inductive ROut where
  | ret (d : D) | ex (w a : PD)
def runX (e : Nat) (u : Ev → Option Out) (ds : List D) : Option ROut := match u (somes ds (nones e)) with
  | some (.ret d) => some (.ret d)
  | some (.nx _) => some (.ret (.p .none))
  | some (.ex w a) => some (.ex w a)
  | _ => none
def runD (e : Nat) (u : Ev → Option Out) (ds : List D) : Option D := match u (somes ds (nones e)) with
  | some (.ret d) => some d
  | some (.nx _) => some (.p .none)
  | _ => none
/-- the promise of a def that never raises -/
def spD (K : PySem.W.Frag) (C : Addr) (n : Nat) (m : List D → Option D) : Sp := fun vs H Q _ => vs.length = n ∧ ∃ (M : Msk) (ds : List D) (d : D), Hid M H ∧ RpAll K C (hide M H) vs ds ∧ m ds = some d ∧ Then K C M H d Q
section
variable {P : Program} {w : World} {K : PySem.W.Frag} {mg : Str → Option Value} {base : Heap} {C : Addr}
theorem env_start {K : PySem.W.Frag} {C : Addr} {H : Hp} {N : List Str} {vs : List V} {ds : List D} {e n : Nat} (h : RpAll K C H vs ds) (hn : vs.length = n) (he : n + e = N.length) : EnvR K C H (start N vs) (somes ds (nones e)) := by
  have hl := h.len
  have z := EnvR.start (N := N) h (by omega)
  rw [somes_eq, nones_eq]
  have : N.length - ds.length = e := by omega
  rw [this] at z
  exact z
theorem fnD {x qual : Str} {st : Stmt} {f : Addr} {fd : FuncData} {N ps : List Str} {k e : Nat} {u : Ev → Option Out} (F : Fun K x qual st f fd) (S : FnScope N ps (defScope st)) (he : ps.length + e = N.length)
    (hb : ∀ (cdv : Value) (A : Around) (outer : List Env) (s : Shared) (H : Hp) (E : XK), Room k (A.deeper (envOfC qual (defScope st) s.heap.objs.size f cdv)) →
      DSs C (fun _ _ _ => False) (cxOf (L2.CX P w) P w K mg base N qual (defScope st) f cdv A outer s H E).nox (defBody st) u) : FnOk P w K mg base (L2.CX P w) (k + 1) f fd ps (spD K C ps.length (runD e u)) := by
  refine F.okX S (fun vs H Q E h => h.1) (fun cdv A outer s H vs Q E hr h => ⟨_, PSs.nox (hb cdv A outer s H E hr).pss, ?_⟩)
  obtain ⟨hn, M, ds, d, hm, r, hf, k⟩ := h
  unfold runD at hf
  cases q : u (somes ds (nones e)) with
  | none => rw [q] at hf; cases hf
  | some o =>
    rw [q] at hf
    refine ⟨M, _, o, hm, env_start r hn he, q, ?_⟩
    cases o with
    | nx ρ => cases hf; exact fun σ' H' s' _ => k _ H' s' .non
    | ret d' => cases hf; exact k
    | bk ρ => cases hf
    | ct ρ => cases hf
    | ex w a => cases hf
/-- the mirror stands at more than one level -/
theorem FnOk.same {x : Nat} {f : Addr} {fd : FuncData} {ps : List Str} {k n : Nat} {m m' : List D → Option D} (F : FnOk P w K mg base (L2.CX P w) k f fd ps (spD K C n m)) (h : ∀ ds d, m' ds = some d → m ds = some d) : FnOk P w K mg base (L2.CX P w) k f fd ps (spD K C n m') :=
  F.imp fun vs H Q E ⟨hn, M, ds, d, hm, r, hf, k⟩ => ⟨hn, M, ds, d, hm, r, h ds d hf, k⟩
end

/-! ### calls -/
section
variable {C : Addr} {X : Cx} {x m : Str} {e o : Expr} {es : List Expr} {p pos apos : Pos} {fs : Ev → Option (List D)} {fo : Ev → Option D} {k n : Nat} {f : Addr} {fd : FuncData} {ps : List Str} {mm : List D → Option D}
/-- a call of a def with n arguments -/
def eFn (n : Nat) (mm : List D → Option D) (fs : Ev → Option (List D)) : Ev → Option D := fun ρ => match fs ρ with
  | none => none
  | some ds => if Nat.beq ds.length n = true then mm ds else none
theorem efn_some {ρ : Ev} {d : D} (h : eFn n mm fs ρ = some d) : ∃ ds, fs ρ = some ds ∧ ds.length = n ∧ mm ds = some d := by
  unfold eFn at h
  cases q : fs ρ with
  | none => rw [q] at h; cases h
  | some ds =>
    rw [q] at h
    simp only at h
    by_cases q2 : Nat.beq ds.length n = true
    · rw [if_pos q2] at h
      exact ⟨ds, rfl, Nat.eq_of_beq_eq_true q2, h⟩
    · rw [if_neg q2] at h; cases h
theorem de_call (F : FnOk X.prog X.w X.K X.mg X.base (L2.CX X.prog X.w) k f fd ps (spD X.K C n mm)) (hr : Room k X.A) (hg : Gl X x) (hm : X.mg x = some (.ref f)) (hk : PySem.W.keepIn X.K (.ref f) = true) (hb : Binds X.K fd ps [])
    (ha : DA C X (e :: es) fs) (hdb : (x == ("__debug__" : Str)) = false := by decide) (he : starEach (e :: es) X.env = (false, eval e X.env) :: starEach es X.env := by rfl) (hpl : (backTo pos (starEach es X.env)).any (·.1) = false := by rfl) :
    DE C X (.Call (.Name x p) (e :: es) [] pos) (eFn n mm fs) := ⟨PE.imp (pe_call F hr hg hm hk hb .nil passL ha.pa hdb he hpl) fun σ H Q q => by
  obtain ⟨M, ρ, d, hm, he, hf, k⟩ := q
  obtain ⟨ds, h1, h2, h3⟩ := efn_some hf
  refine ⟨M, ρ, ds, hm, he, h1, fun vs H1 s1 r1 => ?_⟩
  show spD X.K C n mm (vs ++ []) H1 Q E0
  rw [List.append_nil]
  exact ⟨r1.len.trans h2, M, ds, d, hm.mono s1, r1, h3, fun v H2 s2 r2 => k v H2 (s1.trans s2) r2⟩⟩
theorem de_call0 (F : FnOk X.prog X.w X.K X.mg X.base (L2.CX X.prog X.w) k f fd ps (spD X.K C n mm)) (hr : Room k X.A) (hg : Gl X x) (hm : X.mg x = some (.ref f)) (hk : PySem.W.keepIn X.K (.ref f) = true) (hb : Binds X.K fd ps [])
    (hdb : (x == ("__debug__" : Str)) = false := by decide) : DE C X (.Call (.Name x p) [] [] pos) (eFn n mm aNil) := ⟨PE.imp (pe_call0 F hr hg hm hk hb .nil passL hdb) fun σ H Q q => by
  obtain ⟨M, ρ, d, hm, he, hf, k⟩ := q
  obtain ⟨ds, h1, h2, h3⟩ := efn_some hf
  cases h1
  exact ⟨h2, M, [], d, hm, .nil, h3, fun v H2 s2 r2 => k v H2 s2 r2⟩⟩
/-- o.m(..), o a look -/
def eMeth (n : Nat) (mm : List D → Option D) (fo : Ev → Option D) (fs : Ev → Option (List D)) : Ev → Option D := fun ρ => match fo ρ with
  | some (.look a b c) => (match fs ρ with
    | none => none
    | some ds => if Nat.beq (ds.length + 1) n = true then mm (.look a b c :: ds) else none)
  | _ => none
theorem emeth_some {ρ : Ev} {d : D} (h : eMeth n mm fo fs ρ = some d) : ∃ a b c ds, fo ρ = some (.look a b c) ∧ fs ρ = some ds ∧ ds.length + 1 = n ∧ mm (.look a b c :: ds) = some d := by
  unfold eMeth at h
  split at h
  · rename_i a b c q1
    cases q : fs ρ with
    | none => rw [q] at h; cases h
    | some ds =>
      rw [q] at h
      simp only at h
      by_cases q2 : Nat.beq (ds.length + 1) n = true
      · rw [if_pos q2] at h
        exact ⟨a, b, c, ds, q1, rfl, Nat.eq_of_beq_eq_true q2, h⟩
      · rw [if_neg q2] at h; cases h
  · cases h
theorem look_at {K : PySem.W.Frag} {M : Msk} {H : Hp} {v : V} {ws ss : List PD} {fs : List (List Int × PD)} (h : Rp K C (hide M H) v (.look ws ss fs)) : ∃ a dx aw as af, v = .ref a ∧
    H a = some (.ins C dx [(("list_words" : Str), .ref aw), (("every_state" : Str), .ref as), (("failed" : Str), .ref af)]) ∧ LookAt K C (hide M H) a ws ss fs := by
  obtain ⟨a, rfl, l⟩ := h
  obtain ⟨dx, aw, as, af, xw, xs, kvs, h1, _⟩ := l.ex
  exact ⟨a, dx, aw, as, af, rfl, (of_hide h1).2, l⟩
/-- not an attribute of a look -/
def notFld (m : Str) : Bool := !(m == ("list_words" : Str)) && !(m == ("every_state" : Str)) && !(m == ("failed" : Str))
theorem notFld_l {m : Str} {a b c : V} (h : notFld m = true) : List.lookup m [(("list_words" : Str), a), (("every_state" : Str), b), (("failed" : Str), c)] = none := by
  unfold notFld at h
  simp only [Bool.and_eq_true, Bool.not_eq_true'] at h
  simp [List.lookup, h.1.1, h.1.2, h.2]
theorem de_meth {pl : Sem Bool} (ho : DE C X o fo) (c : Cls X.K C) (hm : Meth X.K C m f) (F : FnOk X.prog X.w X.K X.mg X.base (L2.CX X.prog X.w) k f fd ps (spD X.K C n mm)) (hr : Room k X.A) (hb : Binds X.K fd ps []) (hnf : notFld m = true)
    (ha : DA C X (e :: es) fs) (hst : starEach (e :: es) X.env = (false, eval e X.env) :: starEach es X.env := by rfl) (hpl : (backTo pos (starEach es X.env)).any (·.1) = false := by rfl)
    (ht : eval (.Call (.Attribute o m apos) (e :: es) [] pos) X.env = (do
      let ov ← eval o X.env
      standAt apos.atName
      let (f, first) ← holding [ov] (getMethod ov m pl)
      callWith pos f first (backTo pos (starEach (e :: es) X.env)) (backToKw pos (keywordEach [] X.env))) := by rfl) : DE C X (.Call (.Attribute o m apos) (e :: es) [] pos) (eMeth n mm fo fs) :=
  ⟨PE.imp (pe_meth ho.pe c hm F hr hb .nil passL ha.pa hst hpl ht) fun σ H Q q => by
    obtain ⟨M, ρ, d, hm, he, hf, k⟩ := q
    obtain ⟨ws, ss, fl, ds, h1, h2, h3, h4⟩ := emeth_some hf
    refine ⟨M, ρ, _, hm, he, h1, fun v H1 s1 r1 => ?_⟩
    obtain ⟨a, dx, aw, as, af, rfl, ha, _⟩ := look_at r1
    refine ⟨a, dx, _, rfl, ha, notFld_l hnf, M, ρ, ds, hm.mono s1, he.mono (same_hide s1), h2, fun vs H2 s2 r2 => ?_⟩
    show spD X.K C n mm (V.ref a :: (vs ++ [])) H2 Q E0
    rw [List.append_nil]
    exact ⟨by rw [List.length_cons, r2.len]; exact h3, M, _, d, (hm.mono s1).mono s2, .cons (r1.mono (same_hide s2)) r2, h4, fun v H3 s3 r3 => k v H3 ((s1.trans s2).trans s3) r3⟩⟩
theorem de_meth0 {pl : Sem Bool} (ho : DE C X o fo) (c : Cls X.K C) (hm : Meth X.K C m f) (F : FnOk X.prog X.w X.K X.mg X.base (L2.CX X.prog X.w) k f fd ps (spD X.K C n mm)) (hr : Room k X.A) (hb : Binds X.K fd ps []) (hnf : notFld m = true)
    (ht : eval (.Call (.Attribute o m apos) [] [] pos) X.env = (do
      let ov ← eval o X.env
      standAt apos.atName
      let (f, first) ← holding [ov] (getMethod ov m pl)
      callWith pos f first (backTo pos (starEach [] X.env)) (backToKw pos (keywordEach [] X.env))) := by rfl) : DE C X (.Call (.Attribute o m apos) [] [] pos) (eMeth n mm fo aNil) :=
  ⟨PE.imp (pe_meth0 ho.pe c hm F hr hb .nil passL ht) fun σ H Q q => by
    obtain ⟨M, ρ, d, hm, he, hf, k⟩ := q
    obtain ⟨ws, ss, fl, ds, h1, h2, h3, h4⟩ := emeth_some hf
    cases h2
    refine ⟨M, ρ, _, hm, he, h1, fun v H1 s1 r1 => ?_⟩
    obtain ⟨a, dx, aw, as, af, rfl, ha, _⟩ := look_at r1
    refine ⟨a, dx, _, rfl, ha, notFld_l hnf, ?_⟩
    exact ⟨h3, M, _, d, hm.mono s1, .cons r1 .nil, h4, fun v H3 s3 r3 => k v H3 (s1.trans s3) r3⟩⟩

/-! ### the attributes of a look -/
def eWords (fo : Ev → Option D) : Ev → Option D := fun ρ => match fo ρ with
  | some (.look a _ _) => some (.p (.list a))
  | _ => none
def eStates (fo : Ev → Option D) : Ev → Option D := fun ρ => match fo ρ with
  | some (.look _ b _) => some (.p (.list b))
  | _ => none
def keyI : List PD → Option (List Int)
  | [] => some []
  | .int i :: r => match keyI r with
    | none => none
    | some k => some (i :: k)
  | _ => none
def eqIs : List Int → List Int → Bool
  | [], [] => true
  | a :: r, b :: s => if ieq a b = true then eqIs r s else false
  | _, _ => false
theorem eqIs_eq : ∀ a b : List Int, eqIs a b = decide (a = b)
  | [], [] => rfl
  | [], b :: s => rfl
  | a :: r, [] => rfl
  | a :: r, b :: s => by
    show (if ieq a b = true then eqIs r s else false) = _
    rw [ieq_eq, eqIs_eq r s]
    by_cases e : a = b
    · subst e
      rw [if_pos (decide_eq_true rfl)]
      simp
    · rw [if_neg (by simp [e])]
      simp [e]
def findF : List (List Int × PD) → List Int → Option PD
  | [], _ => none
  | (k, d) :: r, i => if eqIs k i = true then some d else findF r i
def eFailed (fo fk : Ev → Option D) : Ev → Option D := fun ρ => match fo ρ with
  | some (.look _ _ c) => (match fk ρ with
    | some (.p (.tuple l)) => (match keyI l with
      | some k => (match findF c k with
        | some d => some (.p d)
        | none => none)
      | none => none)
    | _ => none)
  | _ => none
theorem keyI_vs {K : PySem.W.Frag} {H : Hp} : ∀ {l : List PD} {k : List Int} {xs : List V}, keyI l = some k → DpAll K H xs l → xs = (k.map (Sum.inl : Int → L2.Key)).map kV
  | [], _, _, e, h => by cases h; cases e; rfl
  | .int b :: r, bs, _, e, h => by
    cases h with
    | cons h1 h2 =>
      cases h1
      unfold keyI at e
      cases q : keyI r with
      | none => rw [q] at e; cases e
      | some t =>
        rw [q] at e
        cases e
        rw [keyI_vs q h2]
        rfl
  | .none :: r, _, _, e, h => by cases e
  | .bool _ :: r, _, _, e, h => by cases e
  | .str _ :: r, _, _, e, h => by cases e
  | .list _ :: r, _, _, e, h => by cases e
  | .tuple _ :: r, _, _, e, h => by cases e
  | .dict _ :: r, _, _, e, h => by cases e
theorem map_inl_inj {a b : List Int} (h : a.map (Sum.inl : Int → L2.Key) = b.map Sum.inl) : a = b := by
  induction a generalizing b with
  | nil => cases b with
    | nil => rfl
    | cons _ _ => cases h
  | cons x r ih => cases b with
    | nil => cases h
    | cons y s =>
      simp only [List.map_cons, List.cons.injEq, Sum.inl.injEq] at h
      rw [h.1, ih h.2]
theorem findF_val {K : PySem.W.Frag} {H : Hp} {kvs : List (List L2.Key × V)} {c : List (List Int × PD)} {i : List Int} {d : PD} (h : FsOk K H kvs c) (e : findF c i = some d) : ∃ v, valV kvs (i.map Sum.inl) = some v ∧ Dp K H v d := by
  induction h with
  | nil => cases e
  | @cons k v d' kvs fs h1 h2 ih =>
    unfold findF at e
    by_cases q : eqIs k i = true
    · rw [if_pos q] at e
      cases e
      have ek : k = i := by rw [eqIs_eq] at q; exact of_decide_eq_true q
      subst ek
      refine ⟨v, ?_, h1⟩
      unfold valV
      simp
    · rw [if_neg q] at e
      obtain ⟨u, h3, h4⟩ := ih e
      refine ⟨u, ?_, h4⟩
      have ek : ¬ k = i := fun z => q (by rw [eqIs_eq]; exact decide_eq_true z)
      have ek2 : ¬ k.map (Sum.inl : Int → L2.Key) = i.map Sum.inl := fun z => ek (map_inl_inj z)
      unfold valV at h3 ⊢
      rw [List.find?_cons]
      have e3 : decide ((k.map (Sum.inl : Int → L2.Key), v).fst = i.map Sum.inl) = false := decide_eq_false ek2
      rw [e3]
      exact h3
/-- d[k], k a tuple that may be a constant of the text -/
theorem key_ofS {pins : List (Addr × Obj)} {σ : L2.St} {H : Hp} {s : Shared} {b : Addr} {ks : List L2.Key} (I : Inv X pins σ H s) (h : SqT X.K H b (ks.map kV)) : (tupleKind (mixKind X.prog X.w)).is s.heap ks b := by
  obtain ⟨its, o, n, r, h1, h2, h3⟩ := sqT_at I.hok I.kIn h
  exact ⟨o, its.toArray, n, h1, h2, h3, by simpa using items_are r⟩
def tDGetS (K : PySem.W.Frag) (td ty : TE) : TE := fun σ H Q => td σ H fun x H1 => ty σ H1 fun y H2 => ∃ a v kvs k b, x = .ref a ∧ H2 a = some (.dT kvs) ∧ y = .ref b ∧ SqT K H2 b (k.map kV) ∧ valV kvs k = some v ∧ Q v H2
theorem pe_dgetS {i : Expr} {td ty : TE} (hu : X.A.units + 1 < cLine) (ho : PE X o td) (hi : PE X i ty) (hs : NoSl i) : PE X (.Subscript o i pos) (tDGetS X.K td ty) := by
  refine ⟨fun pins s σ H Q I h => ?_⟩
  refine subD_of PySem.F.slot_dict_getitem.lookup hs (thn (ho.run pins s σ H _ I h) fun u s1 ⟨x, H1, I1, rx, q1⟩ => thn (hi.run pins s1 σ H1 _ I1 q1) fun iv s2 ⟨y, H2, I2, ry, a, v, kvs, k, b, ex, e, ey, g, l, q2⟩ => ?_)
  subst ex
  obtain rfl : u = Value.ref a := rx
  subst ey
  cases (show iv = Value.ref b from ry)
  obtain ⟨z, hd, xs, rel, dd⟩ := dt_rd I2.hok (.inl e)
  obtain ⟨w', hw, rw'⟩ := RelO.some_of (v := v) (o := (atKey xs k).map (·.2)) (by rw [← l]; exact rel.val k)
  obtain ⟨p, hp, hp2⟩ := Option.map_eq_some_iff.mp hw
  refine ⟨?_, ?_⟩
  · obtain ⟨o, es, ep, q1, q2, _⟩ := dd
    exact ⟨o, q1, q2.1⟩
  · refine wpAny_getItem_heap (tupleKind_room_in1 hu) (key_ofS I2 g) dd hp ?_
    rw [hp2]
    exact ⟨v, H2, I2.tok _, rw', q2⟩
theorem de_words (ho : DE C X o fo) (c : Cls X.K C) (hn : NoAttr X.K C "list_words") (hb : attributeBase o "list_words" X.env (eval o X.env) = eval o X.env := by rfl) : DE C X (.Attribute o "list_words" pos) (eWords fo) :=
  ⟨PE.imp (pe_fld ho.pe hb) fun σ H Q q => by
    obtain ⟨M, ρ, d, hm, he, hf, k⟩ := q
    unfold eWords at hf
    split at hf
    · rename_i ws ss fl q1
      cases hf
      refine ⟨M, ρ, _, hm, he, q1, fun v H1 s1 r1 => ?_⟩
      obtain ⟨a, rfl, l⟩ := r1
      obtain ⟨dx, aw, as, af, xw, xs, kvs, h1, h2, h3, h4, h5, h6, h7⟩ := l.ex
      exact ⟨a, C, dx, _, .ref aw, rfl, (of_hide h1).2, c, hn, rfl, k _ H1 s1 (Dp.lst (SqL.of h2) h3)⟩
    · cases hf⟩
theorem de_states (ho : DE C X o fo) (c : Cls X.K C) (hn : NoAttr X.K C "every_state") (hb : attributeBase o "every_state" X.env (eval o X.env) = eval o X.env := by rfl) : DE C X (.Attribute o "every_state" pos) (eStates fo) :=
  ⟨PE.imp (pe_fld ho.pe hb) fun σ H Q q => by
    obtain ⟨M, ρ, d, hm, he, hf, k⟩ := q
    unfold eStates at hf
    split at hf
    · rename_i ws ss fl q1
      cases hf
      refine ⟨M, ρ, _, hm, he, q1, fun v H1 s1 r1 => ?_⟩
      obtain ⟨a, rfl, l⟩ := r1
      obtain ⟨dx, aw, as, af, xw, xs, kvs, h1, h2, h3, h4, h5, h6, h7⟩ := l.ex
      refine ⟨a, C, dx, _, .ref as, rfl, (of_hide h1).2, c, hn, ?_, k _ H1 s1 (Dp.lst (SqL.of h4) h5)⟩
      have e1 : (("every_state" : Str) == ("list_words" : Str)) = false := by decide +kernel
      simp [List.lookup, e1]
    · cases hf⟩
theorem de_failed {e : Expr} {fk : Ev → Option D} (hu : X.A.units + 1 < cLine) (ho : DE C X o fo) (hk : DE C X e fk) (c : Cls X.K C) (hn : NoAttr X.K C "failed") (hs : NoSl e) (hb : attributeBase o "failed" X.env (eval o X.env) = eval o X.env := by rfl) :
    DE C X (.Subscript (.Attribute o "failed" apos) e pos) (eFailed fo fk) :=
  ⟨PE.imp (pe_dgetS hu (pe_fld ho.pe hb) hk.pe hs) fun σ H Q q => by
    obtain ⟨M, ρ, d, hm, he, hf, k⟩ := q
    unfold eFailed at hf
    split at hf
    · rename_i ws ss fl q1
      split at hf
      · rename_i l q2
        split at hf
        · rename_i ks q3
          split at hf
          · rename_i x q4
            cases hf
            refine ⟨M, ρ, _, hm, he, q1, fun v H1 s1 r1 => ?_⟩
            obtain ⟨a, rfl, lk⟩ := r1
            obtain ⟨dx, aw, as, af, xw, xs, kvs, h1, h2, h3, h4, h5, h6, h7⟩ := id lk.ex
            have e1 : (("failed" : Str) == ("list_words" : Str)) = false := by decide +kernel
            have e2 : (("failed" : Str) == ("every_state" : Str)) = false := by decide +kernel
            refine ⟨a, C, dx, _, .ref af, rfl, (of_hide h1).2, c, hn, by simp [List.lookup, e1, e2], M, ρ, _, hm.mono s1, he.mono (same_hide s1), q2, fun u H2 s2 r2 => ?_⟩
            obtain ⟨b, ys, rfl, h8, h9⟩ := rp_tup r2
            have h6' := (of_hide (same_hide s2 _ _ h6)).2
            obtain ⟨v, h10, h11⟩ := findF_val (h7.mono (same_hide s2)) q4
            have ey := keyI_vs q3 h9
            subst ey
            exact ⟨af, v, kvs, _, b, rfl, h6', rfl, seqT_hide h8, h10, k _ H2 (s1.trans s2) h11⟩
          · cases hf
        · cases hf
      · cases hf
    · cases hf⟩
end
end FF
/-! ## FI -/
namespace FF
open PySem PySem.Spec PyProof.Rows L2

/-! ### enumerate of a tuple -/
set_option maxHeartbeats 1000000 in
theorem meets_enum1 {v : Value} {o : Obj} {H : Heap → Prop} (B : Begins v o H) :
    Meets (Builtin.«enumerate.__new__» ⟨[.type "enumerate", v], []⟩) (fun _ R s => H s.heap ∧
      R (.ok (.ret (.ref (s.heap.push o).objs.size))) { s with heap := (s.heap.push o).push { cls := .type "enumerate", data := .fields #[.none, .bool false, .ref s.heap.objs.size, rawInt 0, .none, .none] } }) :=
  .of_wp fun prog w A R s h => by
    obtain ⟨hp, g, d, tk, os⟩ := s; obtain ⟨h1, h⟩ := h
    have hsub := sub_enumerate
    have q1 : ∀ {A' : Around} {E : Value → Shared → Prop} {Q : Value → Shared → Prop}, Q (.ref hp.objs.size) ⟨hp.push o, g, d, tk, os⟩ → wpAny (model prog w) A' (pyIter v) Q E ⟨hp, g, d, tk, os⟩ :=
      fun q => B.iter prog w _ _ ⟨hp, g, d, tk, os⟩ _ h1 q
    wp_walk using q1
    refine wpAny_stack_any fun st => wpAny_pure ?_
    split
    · rename_i c _ _ _ _ _
      cases (c == Value.type "enumerate")
      · wp_walk using q1
        exact ⟨_, rfl, h⟩
      · wp_walk using q1
        exact ⟨_, rfl, h⟩
    · wp_walk using q1
      exact ⟨_, rfl, h⟩
theorem enum_begins1 {prog : Program} {w : World} {A : Around} {E : Value → Shared → Prop} {s : Shared} {v : Value} {o : Obj} {H : Heap → Prop} {Q : Value → Shared → Prop} (B : Begins v o H) (h1 : H s.heap)
    (h : ∀ h', IsEnum h' (s.heap.objs.size + 1) s.heap.objs.size 0 .none → h'.get? s.heap.objs.size = some o → h'.objs.size = s.heap.objs.size + 2 →
      (∀ b o, s.heap.get? b = some o → h'.get? b = some o) → Q (.ref (s.heap.objs.size + 1)) { s with heap := h' }) :
    wpAny (model prog w) A (call (.type "enumerate") [v]) Q E s := by
  refine callType_new F.called_enumerate (by decide) (F.typeCall_enumerate_1 _) (F.newCall_enumerate_1 _) (fun obj => F.args_object_init_2 obj _) F.entry_enumerate_new
    (meets_enum1 B) ⟨h1, ?_⟩
  have hz : (s.heap.push o).objs.size = s.heap.objs.size + 1 := Heap.size_push ..
  show _ ∧ _
  rw [hz]
  have he : IsEnum ((s.heap.push o).push { cls := .type "enumerate", data := .fields #[.none, .bool false, .ref s.heap.objs.size, rawInt 0, .none, .none] }) (s.heap.objs.size + 1) s.heap.objs.size 0 .none := by
    have := Heap.get?_push_size (s.heap.push o) (o := { cls := .type "enumerate", data := .fields #[.none, .bool false, .ref s.heap.objs.size, rawInt 0, .none, .none] }) rfl
    rw [hz] at this; exact this
  refine ⟨⟨_, he, rfl⟩, h _ he (Heap.get?_push_of_some _ (Heap.get?_push_size _ B.free)) (by rw [Heap.size_push, hz]) fun b o x => Heap.get?_push_of_some _ (Heap.get?_push_of_some _ x)⟩
def Itet (K : PySem.W.Frag) (a : Addr) : It :=
  ⟨fun i H => ∃ (xs : List V) (x : V), SqT K H a xs ∧ xs[i]? = some x, fun i H v H' => ∃ T x, v = .ref T ∧ H T = none ∧ H' = upd H T (.tup [.int (i : Nat), x]) ∧ ∀ xs, SqT K H a xs → xs[i]? = some x, fun i H => ∃ xs : List V, SqT K H a xs ∧ xs.length ≤ i⟩
theorem turn_enumT {P : Program} {w : World} {K : PySem.W.Frag} {elts : List Expr} {kk : Nat} {tpos : Pos} (a e it : Addr) (hat : a ≠ it) (hae : a ≠ e) :
    Turn P w K (.Tuple elts kk tpos) (Itet K a) [e, it] e (fun i h => (∃ old, IsEnum h e it ((i : Nat) : Int) old) ∧ h.IsTupleIter it a i ∧ e ≠ it) where
  mem := by simp
  obj := fun i h st b hb => by
    obtain ⟨⟨old, he⟩, ⟨o, ho, hc, hd⟩, _⟩ := st
    have e' : b = e ∨ b = it := by simpa using hb
    rcases e' with z | z
    · rw [z]; exact ⟨_, he, fun v q => nomatch q⟩
    · rw [z]; exact ⟨o, ho, fun v q => by rw [hd] at q; cases q⟩
  keep := fun i h h' st k => let ⟨⟨old, he⟩, hi, hne⟩ := st; ⟨⟨old, k e (by simp) _ he⟩, hi.at fun o q => k it (by simp) o q, hne⟩
  item := by
    intro X hP hw hK hc i pins s σ H E I hf st hg
    subst hP hw hK
    obtain ⟨⟨old, he⟩, hit, hne⟩ := st
    obtain ⟨xs, x, hq, hx⟩ := hg
    obtain ⟨its, rv, p, hz⟩ := I.tuple hq
    obtain ⟨u, hu, ru⟩ := rv.get hx
    have hel : e < s.heap.objs.size := Heap.lt_size he
    have hil : it < s.heap.objs.size := by obtain ⟨_, q, _⟩ := hit; exact Heap.lt_size q
    have hlt : i < its.toArray.size := by
      have := (List.getElem?_eq_some_iff.mp hu).1
      simpa using this
    have hef : e ∉ [it, a] := by
      simp only [List.mem_cons, List.not_mem_nil, or_false, not_or]
      exact ⟨hne, Ne.symm hae⟩
    refine wpAny_pyNext_enum_itemC (Draws.tuple (A := X.A.in1) (show X.A.in1.handled = none from I.ok.hd hc) it a hat its.toArray) he ⟨hit, p⟩ hlt hne hef fun x' h' tk hP ho hst' hT hsz hk => ?_
    have ex : x' = u := by
      have hP' : its.toArray[i]? = some x' := hP
      have h2 : its.toArray[i]? = some u := by simpa using hu
      rw [h2] at hP'
      exact (Option.some.inj hP').symm
    subst ex
    obtain ⟨hit', _⟩ := hst'
    refine ⟨_, rfl, wpAny_letOwnedTupleGo_enum (s := { s with heap := h', toks := tk + 1 }) ho fun h'' he' sb => ?_⟩
    have hT2 : h''.get? s.heap.objs.size = some { cls := .type "tuple", data := .seq #[.int i tk, x'] } := (sb.2 _ (Nat.ne_of_gt hel)).trans hT
    have new : ObjOk X.prog X.w (upd H s.heap.objs.size (.tup [.int (i : Nat), x])) h'' s.heap.objs.size (.tup [.int (i : Nat), x]) :=
      ⟨by show 2 ≤ sizeLine; decide, [.int i tk, x'], .cons ⟨_, rfl⟩ (.cons ru .nil), ⟨_, hT2, rfl, _, rfl⟩⟩
    have I1 : Inv X pins σ (upd H s.heap.objs.size (.tup [.int (i : Nat), x])) { s with heap := h'', toks := tk + 1 } :=
      I.turnedNew (ch := [e, it]) (fun b ob hb q => (sb.2 b (fun z => hb (by simp [z]))).trans (hk b ob (fun z => hb (by simp [z])) (fun z => hb (by simp [z])) q)) hf (Nat.le_refl _) new
    refine ⟨.ref s.heap.objs.size, _, I1, rfl, ⟨_, x, rfl, I.hok.fresh (Nat.le_refl _), rfl, fun ys hy => by rw [I.tuple_inj hy hq]; exact hx⟩, ⟨⟨x', ?_⟩, hit'.at fun o q => (sb.2 it (Ne.symm hne)).trans q, hne⟩, fun b hb => ?_⟩
    · have e1 : ((i + 1 : Nat) : Int) = (i : Int) + 1 := by omega
      rw [e1]; exact he'
    · have hb' : b < s.heap.objs.size := by
        have e' : b = e ∨ b = it := by simpa using hb
        rcases e' with z | z
        · rw [z]; exact hel
        · rw [z]; exact hil
      rw [upd_ne (Nat.ne_of_lt hb')]
      exact (hf b hb).1
  done := by
    intro X hP hw hK hc i pins s σ H E I hf st hg
    subst hP hw hK
    obtain ⟨⟨old, he⟩, hit, hne⟩ := st
    obtain ⟨xs, hq, hx⟩ := hg
    obtain ⟨its, rv, p, hz⟩ := I.tuple hq
    obtain ⟨f0, f1, f2, f3, f4, f5⟩ := hf it (by simp)
    have hl := rv.length
    have e0 : its.toArray[i]? = none := by simp; omega
    have hT : s.TypeIs (.ref e) "enumerate" := ⟨_, he, rfl⟩
    unfold pyNext
    refine wpAny_bind (wpAny_attempt (wpAny_callSpecial?_slot (name := Str.ofString "__next__") hT F.slot_enumerate_next
      (wpAny_call_entry F.slot_enumerate_next hT F.entry_enumerate_next ?_ (F.args_enumerate_next_1 _))))
    show wpAny _ _ (field (.ref e) 2 >>= _) _ _ _
    refine wpAny_bind (wpAny_field he rfl (x := .ref it) rfl ?_)
    refine wpAny_bind (wpAny_nextOf_tuple_end (I.ok.hd hc) hit p e0 fun h' x he' hx' => ?_)
    obtain ⟨o, ho, hcl⟩ := hx'
    refine wpAny_bind (wpAny_isInstance (T := "StopIteration") (b := true) ⟨o, ho, hcl⟩ isSubtype_stop ?_)
    exact wpAny_pure ⟨rfl, I.turned (t' := s.toks) (fun b o hb q => he' b o hb q) f0 f1 f3 f4 f5⟩
  self := fun A i s Q E st h => let ⟨⟨_, he⟩, _⟩ := st; wpAny_pyIter_enum he h
def iEnumT (K : PySem.W.Frag) (ta : TA) : TI := fun σ H R => ta σ H fun vs H1 => ∃ a xs, vs = [.ref a] ∧ SqT K H1 a xs ∧ R (Itet K a) H1
theorem pi_enumT {X : Cx} {e : Expr} {ta : TA} {p pos tpos : Pos} {elts : List Expr} {kk : Nat} (hg : Gl X "enumerate") (hm : X.mg "enumerate" = none) (ha : PA X [e] ta) (hs : starEach [e] X.env = [(false, eval e X.env)] := by rfl) :
    PI X (.Tuple elts kk tpos) (.Call (.Name "enumerate" p) [e] [] pos) (iEnumT X.K ta) := by
  refine ⟨fun pins s σ H R I h => ?_⟩
  refine Call_ (ld_blt I hg hm boot_enumerate (PyProof.Rows.callWith_type1 (thn (ha.run pos pins s σ H _ I h) fun us s1 ⟨vs, H1, I1, r1, q1⟩ => ?_) hs rfl))
  obtain ⟨a, xs, ex, hq, q⟩ := q1
  subst ex
  cases r1 with
  | cons r rr =>
    cases rr
    cases r
    obtain ⟨its, rv, p', hz⟩ := I1.tuple hq
    have hal : a < s1.heap.objs.size := by obtain ⟨_, q, _⟩ := id p'; exact Heap.lt_size q
    refine enum_begins1 (begins_tuple a its.toArray) (show s1.heap.IsTuple a its.toArray from p') fun h' he hit hsz hk => wpAny_pyIter_enum he ?_
    have I2 : Inv X pins σ H1 { s1 with heap := h' } := I1.kept (t' := s1.toks) hk
    refine ⟨s1.heap.objs.size + 1, [s1.heap.objs.size + 1, s1.heap.objs.size], _, _, H1, rfl, I2, turn_enumT a (s1.heap.objs.size + 1) s1.heap.objs.size (Nat.ne_of_lt hal) (Nat.ne_of_lt (Nat.lt_succ_of_lt hal)), ⟨⟨.none, he⟩, ⟨_, hit, rfl, rfl⟩, Nat.succ_ne_self _⟩, fun b hb => ?_, q⟩
    have e' : b = s1.heap.objs.size + 1 ∨ b = s1.heap.objs.size := by simpa using hb
    have hle : s1.heap.objs.size ≤ b := by
      rcases e' with z | z
      · rw [z]; exact Nat.le_add_right _ _
      · rw [z]; exact Nat.le_refl _
    exact I1.fpOk hle (I1.hok.fresh hle)
theorem itd_enumT {K : PySem.W.Frag} {C : Addr} {M : Msk} {H : Hp} {a : Addr} {xs : List V} {l : List PD} (h : SqT K (hide M H) a xs) (r : DpAll K (hide M H) xs l) : Itd K C M (Itet K a) H (numD 0 l) := by
  intro M' eM i H1 s1 m1
  rw [← eM] at h r
  have h1 := seqT s1 h
  have r1 := DpAll_mono s1 _ _ r
  refine ⟨fun d hd => ?_, fun hi => ?_⟩
  · rw [numD_get] at hd
    cases q : l[i]? with
    | none => rw [q] at hd; cases hd
    | some d' =>
      rw [q] at hd
      cases hd
      obtain ⟨x, hx, rx⟩ := DpAll_get r1 q
      refine ⟨⟨xs, x, seqT_hide h1, hx⟩, fun y H2 hy => ?_⟩
      obtain ⟨T, z, rfl, nT, rfl, hz⟩ := hy
      have := hz xs (seqT_hide h1)
      rw [hx] at this
      cases this
      refine ⟨same_new nT, new_tup m1 nT (.cons ?_ (.cons rx .nil))⟩
      rw [Nat.zero_add]
      exact .int _
  · refine ⟨xs, seqT_hide h1, ?_⟩
    rw [DpAll_len r, hi, numD_len]
    exact Nat.le_refl _
theorem di_enumT {C : Addr} {X : Cx} {e : Expr} {f : Ev → Option D} {p pos : Pos} {elts : List Expr} {kk : Nat} {tpos : Pos} (he : DE C X e f) (hg : Gl X "enumerate") (hm : X.mg "enumerate" = none) (hs : starEach (e :: []) X.env = (false, eval e X.env) :: starEach [] X.env := by rfl) (hs2 : starEach [e] X.env = [(false, eval e X.env)] := by rfl) :
    DI C X (.Tuple elts kk tpos) (.Call (.Name "enumerate" p) [e] [] pos) (iEnT f) := ⟨PI.imp (pi_enumT hg hm (pa_cons he.pe pa_nil hs) hs2) fun σ H R q => by
  obtain ⟨M, ρ, ds, hm, he, hf, k⟩ := q
  unfold iEnT at hf
  split at hf
  · rename_i l q1
    cases hf
    refine ⟨M, ρ, _, hm, he, q1, fun v H1 s1 r1 => ?_⟩
    obtain ⟨a, xs, rfl, h1, h2⟩ := rp_tup r1
    exact ⟨a, xs, rfl, seqT_hide h1, k _ H1 s1 (itd_enumT h1 h2)⟩
  · cases hf⟩
end FF
/-! ## FJ -/
namespace FF
open PySem PySem.Spec PyProof.Rows L2

/-! ### a, b, *rest = a tuple -/
theorem walks_tail {prog : Program} {w : World} {A : Around} (hh : A.handled = none) (I ax : Addr) (hne : ax ≠ I) (items : Array Value) (k : Nat) (hk : k ≤ items.size) :
    Walks prog w A I [I, ax] [I] (items.size - k) (fun i v => items[k + i]? = some v) (fun i h => h.IsTupleIter I ax (k + i) ∧ h.IsTuple ax items) where
  sub := fun b hb => by simp at hb; simp [hb]
  frame := fun _ _ _ st hk => ⟨st.1.at fun o e => hk I (by simp) o e, st.2.at fun o e => hk ax (by simp) o e⟩
  item := fun i s Q E hi st hQ => by
    have hlt : k + i < items.size := by omega
    refine wpAny_pyNext_tuple_item st.1 st.2 (x := items[k + i]) (by simp [hlt]) fun h' hit' hs' => ?_
    exact hQ _ h' s.toks (by simp [hlt]) ⟨hit', st.2.extBut hs'.extBut hne⟩ fun b o hb e => hs'.extBut b o (fun h => hb (by simp [h])) e
  done := fun s Q E st hQ => by
    have e : k + (items.size - k) = items.size := by omega
    rw [e] at st
    exact wpAny_pyNext_tuple_end hh st.1 st.2 (by simp) fun h' he' => hQ h' s.toks fun b o hb e => he' b o (fun h => hb (by simp [h])) e
  self := fun _ _ _ _ st hQ => wpAny_pyIter_tupleiter st.1 hQ
section
variable {prog : Program} {w : World} {A : Around} {E : Value → Shared → Prop} {s : Shared}
theorem unpackItems_star {t : Addr} {items : Array Value} {n k : Nat} {Q : List Value → Shared → Prop} (hh : A.handled = none) (ht : IsTup s.heap t items) (hk : k ≤ items.size) (hn : n = k + 1) (hz : items.size ≤ sizeLine)
    (hQ : ∀ h' tk, Heap.ExtBut s.heap.objs.size s.heap h' → Q (items.toList.take k ++ [.ref h'.objs.size]) { s with heap := h'.push { cls := .type "list", data := .seq (items.toList.drop k).toArray }, toks := tk }) : wpAny (model prog w) A (unpackItems (.ref t) n (some k)) Q E s := by
  have hlt : t ≠ s.heap.objs.size := by obtain ⟨o, ho, _⟩ := ht; exact Nat.ne_of_lt (Heap.lt_size ho)
  unfold unpackItems
  refine wpAny_bind ?_
  unfold notIterableAtAll
  refine wpAny_bind (wpAny_specialOf ht.typeIs slot_tuple_iter.lookup ?_)
  refine wpAny_pure ?_
  simp only [Bool.false_eq_true, if_false]
  refine wpAny_bind (wpAny_holding (iter_tuple ht ?_))
  refine wpAny_bind (wpAny_holding (draw_tuple hlt k 0 _ _ ⟨_, Heap.get?_push_size _ rfl, rfl, rfl⟩ (ht.push _) (by omega) fun h₁ hit₁ hs₁ => ?_))
  have hl : (List.take k (List.drop 0 items.toList)).length = k := by
    rw [List.drop_zero, List.length_take]
    simp only [Array.length_toList]
    omega
  rw [if_neg (by omega)]
  have ht₁ : IsTup h₁ t items := (ht.push _).extBut hs₁.extBut hlt
  rw [Nat.zero_add] at hit₁
  have hsz : h₁.objs.size = s.heap.objs.size + 1 := by
    have := hs₁.1
    rw [this]
    simp [Heap.size_push]
  refine wpAny_bind (wpAny_holding ?_)
  refine wpAny_collect_iter (s := { s with heap := h₁ }) (.inr (.inr (.inr rfl))) (walks_tail (A := A.in1) hh s.heap.objs.size t hlt items k hk).toS (fun i s' st => ?_) ⟨hit₁, ht₁⟩ (fun b hb => ?_) (by simp) (fun s' acc hm hacc => ?_) (by omega)
  · obtain ⟨⟨o, ho, hc, _⟩, _⟩ := st
    exact ⟨o, ho, hc⟩
  · have hb' : b = s.heap.objs.size ∨ b = t := by simpa using hb
    have hT : t < s.heap.objs.size := by obtain ⟨o, ho, _⟩ := ht; exact Heap.lt_size ho
    show b < h₁.objs.size
    rw [hsz]
    rcases hb' with e | e
    · rw [e]; exact Nat.lt_succ_self _
    · rw [e]; exact Nat.lt_succ_of_lt hT
  · have eacc : acc.toList = items.toList.drop k := by
      apply List.ext_getElem?
      intro j
      rw [List.getElem?_drop]
      by_cases hj : j < items.size - k
      · have hj2 : j < acc.size := by rw [hacc.1]; exact hj
        have h1 := hacc.2 j acc[j] (by simp [hj2])
        have h2 : acc.toList[j]? = some acc[j] := by simp [hj2]
        rw [h2]
        simpa using h1.symm
      · rw [List.getElem?_eq_none (by simp [hacc.1]; omega), List.getElem?_eq_none (by simp; omega)]
    rw [eacc]
    have e0 : n - 1 - k = 0 := by omega
    simp only [e0]
    rw [if_neg (by omega)]
    have es := Moved.eq_with hm
    have hx : Heap.ExtBut s.heap.objs.size s.heap s'.heap := fun b o hb e => hm.heap b o (by simpa using hb) (hs₁.extBut b o hb (Heap.get?_push_of_some _ e))
    show wpAny _ _ (newList (((items.toList.drop k)).take ((items.toList.drop k).length - 0)) >>= fun l => pure (List.take k (List.drop 0 items.toList) ++ [l] ++ (items.toList.drop k).drop ((items.toList.drop k).length - 0))) _ _ _
    rw [Nat.sub_zero, List.take_length, List.drop_length]
    unfold newList
    refine wpAny_bind (wpAny_newObj_type (wpAny_pure ?_) (by show (items.toList.drop k).toArray.size ≤ sizeLine; simp only [List.size_toArray, List.length_drop, Array.length_toList]; omega))
    rw [es, List.drop_zero, List.append_nil]
    exact hQ s'.heap s'.toks hx
end
/-- (a, b, *rest) = a tuple -/
def gTupS (K : PySem.W.Frag) (k : Nat) (t : TGs) : TG := fun v σ H Q => ∃ a xs, v = .ref a ∧ SqT K H a xs ∧ k ≤ xs.length ∧ ∀ p, H p = none → t (xs.take k ++ [.ref p]) σ (upd H p (.lst (xs.drop k))) Q
theorem pg_tupS {X : Cx} {pos : Pos} {es : List Expr} {kk : Nat} {t : TGs} {k n : Nat} (hc : X.calm = true) (h : PGs X es t)
    (hn : (assignEach es X.env).length = n := by rfl) (hst : (assignEach es X.env).findIdx? (·.1) = some k := by rfl) (hnk : n = k + 1 := by rfl) : PG X (.Tuple es kk pos) (gTupS X.K k t) := by
  refine ⟨fun pins s σ H v u Q I r hw => ?_⟩
  obtain ⟨a, xs, e1, hq, hl, hw⟩ := hw
  subst e1
  cases r
  obtain ⟨its, rv, ht, hz⟩ := I.tuple hq
  rw [assign_Tuple]
  refine wpAny_bind (wpAny_standAt ?_)
  unfold unpack
  rw [hn, hst]
  have el := rv.length
  refine wpAny_bind (wpAny_holding (unpackItems_star (I.ok.hd hc) ht (by simp; omega) hnk (by simp; omega) fun h' tk hx => ?_))
  have I1 : Inv X pins σ H { s with heap := h', toks := tk } := I.kept (t' := tk) fun b o e => hx b o (Nat.ne_of_lt (Heap.lt_size e)) e
  have e2 : its.toArray.toList = its := by simp
  rw [e2]
  have hf : H h'.objs.size = none := I1.hok.fresh (Nat.le_refl _)
  have rd : Vals (xs.drop k) (its.drop k) := rv.drop k
  have I2 : Inv X pins σ (upd H h'.objs.size (.lst (xs.drop k))) { s with heap := h'.push { cls := .type "list", data := .seq (its.drop k).toArray }, toks := tk } :=
    I1.laid (t' := tk) (fun b o e => Heap.get?_push_of_some _ e) (Nat.le_refl _) ⟨by simp only [List.length_drop]; omega, its.drop k, 0, rd, Heap.get?_push_size _ rfl⟩
  have r2 : Vals (xs.take k ++ [V.ref h'.objs.size]) (its.take k ++ [Value.ref h'.objs.size]) := (rv.take k).append (.cons rfl .nil)
  exact h.run pins _ σ _ _ _ Q I2 r2 (hw _ hf)
def tgStar (k : Nat) (gs : List PD → Ev → Option Ev) : D → Ev → Option Ev := fun d ρ => match d with
  | .p (.tuple ds) => if Nat.ble k ds.length = true then gs (ds.take k ++ [.list (ds.drop k)]) ρ else none
  | _ => none
section
variable {C : Addr} {X : Cx} {vs : List Nat} {e : Expr} {es : List Expr} {pos : Pos} {gs : List PD → Ev → Option Ev}
theorem dg_star {n k kk : Nat} (h : DGs C X vs es gs) (hc : X.calm = true := by rfl) (hn : (assignEach es X.env).length = n := by rfl) (hst : (assignEach es X.env).findIdx? (·.1) = some k := by rfl) (hnk : n = k + 1 := by rfl) : DG C X vs (.Tuple es kk pos) (tgStar k gs) := ⟨PG.imp (pg_tupS hc h.pgs hn hst hnk) fun v σ H Q q => by
  obtain ⟨M, ρ, d, ρ', hm, he, r, hg, k'⟩ := q
  unfold tgStar at hg
  split at hg
  · rename_i ds
    by_cases hk : Nat.ble k ds.length = true
    · rw [if_pos hk] at hg
      obtain ⟨a, xs, rfl, h1, h2⟩ := rp_tup r
      have hle : k ≤ ds.length := Nat.le_of_ble_eq_true hk
      refine ⟨a, xs, rfl, seqT_hide h1, by rw [DpAll_len h2]; exact hle, fun p np => ?_⟩
      refine ⟨M, ρ, _, ρ', hm.mono (same_new np), he.mono (same_hide (same_new np)), ?_, hg, fun σ' H' s' e' w' => k' σ' H' ((same_new np).trans s') e' w'⟩
      exact DpAll_app (DpAll_mono (same_hide (same_new np)) _ _ (DpAll_take k h2)) (.cons (new_lst (C := C) hm np (DpAll_drop k h2)) .nil)
    · rw [if_neg hk] at hg; cases hg
  · cases hg⟩
theorem pgs_consStar {p : Pos} {t : TG} {u : TGs} (h1 : PG X e t) (h2 : PGs X es u)
    (hs : (assignEach (.Starred e p :: es) X.env).map (·.2) = assign e X.env :: (assignEach es X.env).map (·.2) := by rfl) : PGs X (.Starred e p :: es) (gCons t u) := by
  refine ⟨fun pins s σ H vs us Q I r h => ?_⟩
  obtain ⟨v, vr, e1, h⟩ := h
  subst e1
  cases r with
  | cons r rr =>
    rw [hs]
    refine assignInOrder_cons (thn (h1.run pins s σ H _ _ _ I r h) fun _ s1 ⟨σ1, H1, I1, q1⟩ => ?_)
    exact h2.run pins s1 σ1 H1 _ _ Q I1 rr q1
/-- a starred name among the targets -/
theorem dgs_consStar {g : D → Ev → Option Ev} {p : Pos} (h : DG C X vs e g) (r : DGs C X vs es gs) (hs : (assignEach (.Starred e p :: es) X.env).map (·.2) = assign e X.env :: (assignEach es X.env).map (·.2) := by rfl) : DGs C X vs (.Starred e p :: es) (tgCons g gs) := ⟨PGs.imp (pgs_consStar h.pg r.pgs hs) fun xs σ H Q q => by
  obtain ⟨M, ρ, ds, ρ', hm, he, r, hg, k⟩ := q
  unfold tgCons at hg
  split at hg
  · cases hg
  · rename_i d ds
    cases r with
    | cons r1 r2 =>
      cases q1 : g (.p d) ρ with
      | none => rw [q1] at hg; cases hg
      | some ρ1 =>
        rw [q1] at hg
        refine ⟨_, _, rfl, M, ρ, .p d, ρ1, hm, he, r1, q1, fun σ1 H1 s1 e1 w1 => ?_⟩
        exact ⟨M, ρ1, ds, ρ', hm.mono s1, e1, DpAll_mono (same_hide s1) _ _ r2, hg, fun σ2 H2 s2 e2 w2 => k σ2 H2 (s1.trans s2) e2 (w2.trans w1)⟩⟩
end

/-! ### a star in a display -/
def aStar (f : Ev → Option D) (g : Ev → Option (List D)) : Ev → Option (List D) := fun ρ => match f ρ with
  | some (.p (.tuple l)) => (match g ρ with
    | none => none
    | some ds => some (pds l ++ ds))
  | _ => none
theorem rp_pds {K : PySem.W.Frag} {C : Addr} {H : Hp} : ∀ {l : List PD} {xs : List V}, DpAll K H xs l → RpAll K C H xs (pds l)
  | [], _, h => by cases h; exact .nil
  | d :: r, _, h => by
    cases h with
    | cons h1 h2 => exact .cons h1 (rp_pds h2)
theorem rp_app {K : PySem.W.Frag} {C : Addr} {H : Hp} {xs ys : List V} {l m : List D} (h1 : RpAll K C H xs l) (h2 : RpAll K C H ys m) : RpAll K C H (xs ++ ys) (l ++ m) := by
  induction h1 with
  | nil => exact h2
  | cons a _ ih => exact .cons a ih
theorem da_star {C : Addr} {X : Cx} {e : Expr} {es : List Expr} {p : Pos} {f : Ev → Option D} {fs : Ev → Option (List D)} (h : DE C X e f) (r : DA C X es fs) (hs : starEach (.Starred e p :: es) X.env = (true, eval e X.env) :: starEach es X.env := by rfl) : DA C X (.Starred e p :: es) (aStar f fs) :=
  ⟨PA.imp (StX.pa_star h.pe r.pa hs) fun σ H Q q => by
    obtain ⟨M, ρ, ds, hm, he, hf, k⟩ := q
    unfold aStar at hf
    split at hf
    · rename_i l q1
      cases q2 : fs ρ with
      | none => rw [q2] at hf; cases hf
      | some m =>
        rw [q2] at hf
        cases hf
        refine ⟨M, ρ, _, hm, he, q1, fun v H1 s1 r1 => ?_⟩
        obtain ⟨a, xs, rfl, h1, h2⟩ := rp_tup r1
        refine ⟨a, xs, rfl, .inl (seqT_hide h1), M, ρ, m, hm.mono s1, he.mono (same_hide s1), q2, fun ys H2 s2 r2 => ?_⟩
        exact k _ H2 (s1.trans s2) (rp_app (rp_pds (DpAll_mono (same_hide s2) _ _ h2)) r2)
    · cases hf⟩

/-! ### match on texts -/
/-- what the cases ask: each a text and its block -/
inductive Cases (X : Cx) (C : Addr) (W : WV) : List MatchCase → List (Str × (Ev → Option Out)) → Prop
  | nil : Cases X C W [] []
  | cons {x y : Str} {j : Nat} {p1 p2 : Pos} {body : List Stmt} {u : Ev → Option Out} {cs : List MatchCase} {us : List (Str × (Ev → Option Out))} : x = y → DSs C W X body u → Cases X C W cs us →
    Cases X C W (⟨.MatchValue (.Constant (.str x) j p1) p2, none, body⟩ :: cs) ((y, u) :: us)
def caseD (x : Str) (ρ : Ev) : List (Str × (Ev → Option Out)) → Option Out
  | [] => some (.nx ρ)
  | (y, u) :: r => if seqs x y = true then u ρ else caseD x ρ r
def sMatch (f : Ev → Option D) (us : List (Str × (Ev → Option Out))) : Ev → Option Out := fun ρ => match f ρ with
  | some (.p (.str x)) => caseD x ρ us
  | _ => none
theorem cases_run {X : Cx} {C : Addr} {W : WV} {cs : List MatchCase} {us : List (Str × (Ev → Option Out))} (h : Cases X C W cs us) : ∀ {pins : List (Addr × Obj)} {s : Shared} {σ : L2.St} {H : Hp} {E : Ends} {M : Msk} {ρ : Ev} {o : Out} {x : Str} {t : Tok} {b : Bool}, Inv X pins σ H s → Hid M H → EnvR X.K C (hide M H) σ ρ → caseD x ρ us = some o → OutR X.K C W M H E o →
    wpAny (model X.prog X.w) X.A (matchCases cs X.env (.str x t) b) (SP X pins E) X.xe s := by
  induction h with
  | nil =>
    intro pins s σ H E M ρ o x t b I hm he hf k
    cases hf
    exact wpAny_matchCases_nil ⟨σ, H, I, k σ H (Same.refl H) he⟩
  | cons hxy hb hr ih =>
    intro pins s σ H E M ρ o x t b I hm he hf k
    subst hxy
    rename_i x' j p1 p2 body u cs us
    unfold caseD at hf
    refine wpAny_matchCases_cons (wpAny_matchPattern_Value ?_)
    refine wpAny_mono (pe_str.run pins s σ H (fun v H' => v = .str x' ∧ H' = H) I ⟨rfl, rfl⟩) (fun w s1 hw => ?_) fun _ _ z => z
    obtain ⟨y, H1, I1, ry, rfl, rfl⟩ := hw
    obtain ⟨t1, rfl⟩ := ry
    refine wpAny_mono (op_eq pins s1 σ H1 (.str x) (.str x') _ _ (fun v H' => v = .bl (seqs x x') ∧ H' = H1) I1 ⟨t, rfl⟩ ⟨t1, rfl⟩ ?_) (fun w s2 hw => ?_) fun _ _ z => z
    · refine ⟨rfl, ?_, rfl⟩
      rw [seqs_eq]
      refine congrArg V.bl (decide_eq_decide.mpr ?_)
      simp
    · obtain ⟨y, H2, I2, ry, rfl, rfl⟩ := hw
      obtain rfl : w = .bool (seqs x x') := ry
      refine wpAny_truthy_bool ?_
      cases q : seqs x x' with
      | true =>
        rw [q] at hf
        exact wpAny_assignInOrder_none (hb.pss.run _ _ _ _ _ I2 ⟨M, ρ, o, hm, he, hf, k⟩)
      | false =>
        rw [q] at hf
        exact ih I2 hm he hf k
theorem ds_match {X : Cx} {C : Addr} {W : WV} {e : Expr} {f : Ev → Option D} {cs : List MatchCase} {us : List (Str × (Ev → Option Out))} {pos : Pos} (he : DE C X e f) (hc : Cases X C W cs us) : DS C W X (.Match e cs pos) (sMatch f us) := ⟨⟨fun pins s σ H E I q => by
  obtain ⟨M, ρ, o, hm, hr, hf, k⟩ := q
  unfold sMatch at hf
  split at hf
  · rename_i x q1
    refine wpAny_Match (thn (he.pe.run pins s σ H _ I ⟨M, ρ, _, hm, hr, q1, fun v H1 s1 r1 => (⟨v, H1, rfl, s1, r1⟩ : ∃ v' H1', (v, H1) = (v', H1') ∧ Same H H1' ∧ Rp X.K C (hide M H1') v' (.p (.str x)))⟩) fun u s1 hu => ?_)
    obtain ⟨v, H1, I1, ru, v', H1', ev, s1', r1⟩ := hu
    cases ev
    have evs := rp_str r1
    subst evs
    obtain ⟨t, rfl⟩ := ru
    exact cases_run hc I1 (hm.mono s1') (hr.mono (same_hide s1')) hf (k.later s1')
  · cases hf⟩⟩
end FF
/-! ## FK -/
namespace FF
open PySem PySem.Spec PyProof.Rows L2

/-! ### a tuple backwards -/
section
variable {prog : Program} {w : World} {A : Around} {E : Value → Shared → Prop} {s : Shared}
theorem adjust_rev (n : Nat) : Builtin.Slice.sliceAdjust none none (-1) (n : Int) = ((n : Int) - 1, -1) := by
  unfold Builtin.Slice.sliceAdjust
  first | rfl | simp
theorem places_rev (n : Nat) : Builtin.Slice.slicePlaces ((n : Int) - 1) (-1) (-1) = n := by
  unfold Builtin.Slice.slicePlaces
  simp
  split <;> omega
theorem pick_rev (xs : Array Value) : ((List.range xs.size).filterMap fun (m : Nat) => xs[((xs.size : Int) - 1 + (m : Int) * (-1)).toNat]?).toArray = xs.toList.reverse.toArray := by
  rw [← PySem.W.krv_pick xs]
  unfold slicePick
  rw [PySem.W.krv_bounds]
  show _ = ((sliceRange ((xs.size : Int) - 1) (-1) (-1)).filterMap (xs[·]?)).toArray
  rw [PySem.W.krv_sliceRange, List.filterMap_map]
  have e : (fun (m : Nat) => xs[((xs.size : Int) - 1 + (m : Int) * (-1)).toNat]?) = (fun (i : Nat) => xs[i]?) ∘ fun k => xs.size - 1 - k := by
    funext m
    show xs[((xs.size : Int) - 1 + (m : Int) * (-1)).toNat]? = xs[xs.size - 1 - m]?
    congr 1
    omega
  rw [e]
theorem sliceApplied_rev {sl : Addr} {vs : Value} {n : Nat} {Q : Int × Int × Nat → Shared → Prop} (hs : s.heap.IsSliceOf sl .none .none vs) (ps : IsPart vs (some (-1)))
    (h : Q ((n : Int) - 1, -1, n) s) : wpAny (model prog w) A (Builtin.Slice.sliceApplied (.ref sl) (pure (n : Int))) Q E s := by
  obtain ⟨os, hos, hcs, hds⟩ := id hs
  unfold Builtin.Slice.sliceApplied Builtin.Slice.sliceFields
  refine wpAny_bind (wpAny_bind (wpAny_field hos hds (x := .none) rfl (wpAny_bind (wpAny_field hos hds (x := .none) rfl (wpAny_bind (wpAny_field hos hds (x := vs) rfl (wpAny_pure ?_)))))))
  refine wpAny_bind (HT.slicePart_ ps ?_)
  show wpAny _ _ (if ((-1 : Int) == 0) = true then _ else _) _ _ s
  rw [if_neg (by decide)]
  refine wpAny_bind (HT.slicePart_ .none (wpAny_bind (HT.slicePart_ .none (wpAny_bind (wpAny_pure ?_)))))
  show wpAny _ _ (match Builtin.Slice.sliceAdjust none none (-1) (n : Int) with | (lo, hi) => pure (lo, (-1 : Int), Builtin.Slice.slicePlaces lo hi (-1))) _ _ s
  rw [adjust_rev n]
  show wpAny _ _ (pure ((n : Int) - 1, (-1 : Int), Builtin.Slice.slicePlaces ((n : Int) - 1) (-1) (-1))) _ _ s
  rw [places_rev]
  exact wpAny_pure h
theorem getItem_tuple_rev {t sl : Addr} {items : Array Value} {vs : Value} {Q : Value → Shared → Prop} (ht : IsTup s.heap t items) (hs : s.heap.IsSliceOf sl .none .none vs) (ps : IsPart vs (some (-1)))
    (h : Q (.ref s.heap.objs.size) { s with heap := s.heap.push { cls := .type "tuple", data := .seq items.toList.reverse.toArray } })
    (hsz : items.size ≤ sizeLine) : wpAny (model prog w) A (getItem (.ref t) (.ref sl)) Q E s := by
  have htake : sizeOk (.seq items.toList.reverse.toArray) := by
    show items.toList.reverse.toArray.size ≤ sizeLine
    simpa using hsz
  obtain ⟨os, hos, hcs, hds⟩ := id hs
  have hTs : s.TypeIs (.ref sl) "slice" := ⟨os, hos, hcs⟩
  unfold getItem
  try with_reducible refine wpAny_holding ?_
  first | refine wpAny_bind (wpAny_pure ?_) | skip
  refine wpAny_bind (wpAny_sequenceKey ht.typeIs (by decide) ?_)
  refine wpAny_bind (wpAny_callSpecial?_slot (name := Str.ofString "__getitem__") ht.typeIs PyProof.Rows.slot_tuple_getitem
    (wpAny_call_entry PyProof.Rows.slot_tuple_getitem ht.typeIs entry_tuple_getitem ?_ (args_tuple_getitem _ _)))
  show wpAny _ _ (Builtin.Tuple.tupleItemsOf (.ref t) >>= _) _ _ s
  refine wpAny_bind (tupleItemsOf_ ht ?_)
  refine wpAny_bind (wpAny_typeOf hTs ?_)
  rw [if_pos (by decide)]
  refine wpAny_bind (sliceApplied_rev hs ps ?_)
  have hno : ¬ ((((items.size : Int) - 1) == 0 && (-1 : Int) == 1 && items.size == items.size) = true) := by
    intro q
    rw [Bool.and_eq_true, Bool.and_eq_true] at q
    exact absurd q.1.2 (by decide)
  show wpAny _ _ (if (((items.size : Int) - 1) == 0 && (-1 : Int) == 1 && items.size == items.size) = true then _ else _) _ _ s
  rw [if_neg hno, pick_rev]
  first
    | exact wpAny_bind (m := Builtin.Tuple.tupleExact _) (wpAny_newObj_type (wpAny_pure ⟨_, rfl, wpAny_pure h⟩) htake)
    | exact wpAny_bind (m := Builtin.Tuple.tupleExact _) (wpAny_newObj_type (wpAny_bind (wpAny_pure (wpAny_pure ⟨_, rfl, wpAny_pure h⟩))) htake)
    | exact wpAny_bind (wpAny_bind (m := Builtin.Tuple.tupleExact _) (wpAny_newObj_type (wpAny_pure (wpAny_pure ⟨_, rfl, wpAny_pure h⟩)) htake))
    | exact wpAny_bind (wpAny_bind (m := Builtin.Tuple.tupleExact _) (wpAny_newObj_type (wpAny_pure ⟨_, rfl, wpAny_pure h⟩) htake))
end
def tRevT (K : PySem.W.Frag) (te : TE) : TE := fun σ H Q => te σ H fun x H1 => ∃ a xs, x = .ref a ∧ SqT K H1 a xs ∧ ∀ p, H1 p = none → Q (.ref p) (upd H1 p (.tup xs.reverse))
theorem pe_revT {X : Cx} {e : Expr} {te : TE} {k : Nat} {p1 p2 p3 pos : Pos} (he : PE X e te) : PE X (.Subscript e (.Slice none none (some (.UnaryOp .USub (.Constant (.int 1) k p1) p2)) p3) pos) (tRevT X.K te) := by
  refine ⟨fun pins s σ H Q I h => ?_⟩
  refine Subscript_ (thn (he.run pins s σ H _ I h) fun v s1 ⟨x, H1, I1, r1, q1⟩ => ?_)
  obtain ⟨a, xs, ex, hx, q⟩ := q1
  subst ex
  cases r1
  have hst : PO X (some (.UnaryOp .USub (.Constant (.int 1) k p1) p2)) (tPart (tUn (rU fun i => .int (-i)) (tC (.int 1)))) := po_some (pe_un un_neg pe_int)
  refine wpAny_Slice (thn (po_none.run pins s1 σ H1 (fun o H2 => o = none ∧ H2 = H1) I1 ⟨rfl, rfl⟩) fun vl s2 ⟨l, H2, I2, pl, el, e2⟩ => ?_)
  subst el e2
  refine thn (po_none.run pins s2 σ H2 (fun o H3 => o = none ∧ H3 = H2) I2 ⟨rfl, rfl⟩) fun vu s3 ⟨u, H3, I3, pu, eu, e3⟩ => ?_
  subst eu e3
  refine thn (hst.run pins s3 σ H3 (fun o H4 => o = some (-1) ∧ H4 = H3) I3 ⟨1, rfl, -1, rfl, rfl, rfl⟩) fun vs s4 ⟨o, H4, I4, ps, eo, e4⟩ => ?_
  subst eo e4
  cases pl
  cases pu
  have I5 : Inv X pins σ H4 { s4 with heap := s4.heap.push { cls := .type "slice", data := .fields #[.none, .none, vs] } } := I4.kept (t' := s4.toks) fun b ob q => Heap.get?_push_of_some _ q
  obtain ⟨its, r, ht, hz⟩ := I5.tuple hx
  have hlen := r.length
  show wpAny (model X.prog X.w) X.A (subscriptTail e (.Slice none none (some (.UnaryOp .USub (.Constant (.int 1) k p1) p2)) p3) (.ref a) (.ref s4.heap.objs.size)) (EP X pins σ Q) X.xe { s4 with heap := s4.heap.push { cls := .type "slice", data := .fields #[.none, .none, vs] } }
  refine tail_any (ops := [.ref a, .ref s4.heap.objs.size]) ht.typeIs (PyProof.Rows.slot_tuple_getitem.lookup) ?_ (by with_unfolding_all rfl)
  refine getItem_tuple_rev ht (Heap.IsSliceOf.new _ .none .none vs) ps ?_ (by rw [List.size_toArray]; omega)
  refine ⟨.ref _, _, I5.laid (t' := s4.toks) (o := .tup xs.reverse) (fun b ob q => Heap.get?_push_of_some _ q) (Nat.le_refl _) ?_, rfl, q _ (I5.hok.fresh (Nat.le_refl _))⟩
  exact ⟨by rw [List.length_reverse]; exact hz, its.reverse, r.reverse, IsTup.new _ _⟩
def gRevT : D → Option D
  | .p (.tuple l) => some (.p (.tuple (rev l [])))
  | _ => none
where rev : List PD → List PD → List PD
  | [], r => r
  | d :: l, r => rev l (d :: r)
theorem rev_eq : ∀ l r : List PD, gRevT.rev l r = l.reverse ++ r
  | [], r => rfl
  | d :: l, r => by
    show gRevT.rev l (d :: r) = _
    rw [rev_eq l (d :: r)]
    simp
theorem DpAll_rev {K : PySem.W.Frag} {H : Hp} : ∀ {l : List PD} {xs : List V}, DpAll K H xs l → DpAll K H xs.reverse l.reverse
  | [], _, h => by cases h; exact .nil
  | d :: r, _, h => by
    cases h with
    | cons h1 h2 =>
      rw [List.reverse_cons, List.reverse_cons]
      exact DpAll_app (DpAll_rev h2) (.cons h1 .nil)
theorem de_rev {C : Addr} {X : Cx} {e : Expr} {f : Ev → Option D} {k : Nat} {p1 p2 p3 pos : Pos} (he : DE C X e f) : DE C X (.Subscript e (.Slice none none (some (.UnaryOp .USub (.Constant (.int 1) k p1) p2)) p3) pos) (e1 gRevT f) :=
  ⟨PE.imp (pe_revT he.pe) fun σ H Q q => by
    obtain ⟨M, ρ, d, hm, hr, hf, k⟩ := q
    obtain ⟨x, h1, h2⟩ := e1_some hf
    unfold gRevT at h2
    split at h2
    · rename_i l
      cases h2
      refine ⟨M, ρ, _, hm, hr, h1, fun v H1 s1 r1 => ?_⟩
      obtain ⟨a, xs, rfl, q1, q2⟩ := rp_tup r1
      refine ⟨a, xs, rfl, seqT_hide q1, fun p np => k _ _ (s1.trans (same_new np)) ?_⟩
      rw [rev_eq, List.append_nil]
      exact new_tup (hm.mono s1) np (DpAll_rev q2)
    · cases h2⟩

/-! ### ranges as lists and tuples -/
def rngP (i : Int) : Nat → List PD
  | 0 => []
  | n + 1 => .int i :: rngP (i + 1) n
def eRgL (f : Ev → Option D) : Ev → Option D := fun ρ => match f ρ with
  | some (.p (.int (.ofNat n))) => if Nat.ble n 1000 = true then some (.p (.list (rngP 0 n))) else none
  | _ => none
def eRgT (f : Ev → Option D) : Ev → Option D := fun ρ => match f ρ with
  | some (.p (.int (.ofNat n))) => if Nat.ble n 1000 = true then some (.p (.tuple (rngP 0 n))) else none
  | _ => none
theorem rg_vs {K : PySem.W.Frag} {H : Hp} : ∀ (n : Nat) (i : Int), DpAll K H ((List.range n).map fun k => V.int (i + (k : Nat))) (rngP i n)
  | 0, i => .nil
  | n + 1, i => by
    rw [List.range_succ_eq_map, List.map_cons, List.map_map]
    refine .cons ?_ ?_
    · have : i + ((0 : Nat) : Int) = i := by omega
      rw [this]
      exact .int i
    · have h := rg_vs (K := K) (H := H) n (i + 1)
      have e : (fun k : Nat => V.int (i + 1 + (k : Nat))) = (fun k : Nat => V.int (i + (k : Nat))) ∘ Nat.succ := by
        funext k
        show V.int _ = V.int _
        congr 1
        push_cast
        omega
      rw [e] at h
      exact h
theorem de_rgL {C : Addr} {X : Cx} {e : Expr} {f : Ev → Option D} {p p2 pos pos2 : Pos} (hc : X.calm = true) (hg : Gl X "list") (hm : X.mg "list" = none) (hg2 : Gl X "range") (hm2 : X.mg "range" = none) (he : DE C X e f)
    (na : starEach [e] X.env = (false, eval e X.env) :: starEach [] X.env := by rfl) (nb : starEach [.Call (.Name "range" p2) [e] [] pos2] X.env = (false, eval (.Call (.Name "range" p2) [e] [] pos2) X.env) :: starEach [] X.env := by rfl) :
    DE C X (.Call (.Name "list" p) [.Call (.Name "range" p2) [e] [] pos2] [] pos) (eRgL f) := ⟨PE.imp (pe_listRg hc hg hm (prg_1 hg2 hm2 he.pe na) nb) fun σ H Q q => by
  obtain ⟨M, ρ, d, hm, hr, hf, k⟩ := q
  unfold eRgL at hf
  split at hf
  · rename_i n q1
    by_cases hn : Nat.ble n 1000 = true
    · rw [if_pos hn] at hf
      cases hf
      have hn' : n ≤ 1000 := Nat.le_of_ble_eq_true hn
      refine ⟨M, ρ, _, hm, hr, q1, fun v H1 s1 r1 => ⟨.ofNat n, rp_int r1, ?_, fun p np => k _ _ (s1.trans (same_new np)) ?_⟩⟩
      · have : (Int.ofNat n) = (n : Int) := rfl
        exact RgOk.of_le (by omega) (by rw [this]; omega) (by omega) (by rw [this]; omega)
      · refine new_lst (hm.mono s1) np ?_
        have h := rg_vs (K := X.K) (H := hide M H1) n 0
        first
          | exact h
          | (unfold rgV; simpa using h)
    · rw [if_neg hn] at hf; cases hf
  · cases hf⟩
theorem de_rgT {C : Addr} {X : Cx} {e : Expr} {f : Ev → Option D} {p p2 pos pos2 : Pos} (hc : X.calm = true) (hg : Gl X "tuple") (hm : X.mg "tuple" = none) (hg2 : Gl X "range") (hm2 : X.mg "range" = none) (he : DE C X e f)
    (na : starEach [e] X.env = (false, eval e X.env) :: starEach [] X.env := by rfl) (nb : starEach [.Call (.Name "range" p2) [e] [] pos2] X.env = (false, eval (.Call (.Name "range" p2) [e] [] pos2) X.env) :: starEach [] X.env := by rfl) :
    DE C X (.Call (.Name "tuple" p) [.Call (.Name "range" p2) [e] [] pos2] [] pos) (eRgT f) := ⟨PE.imp (pe_tupRg hc hg hm (prg_1 hg2 hm2 he.pe na) nb) fun σ H Q q => by
  obtain ⟨M, ρ, d, hm, hr, hf, k⟩ := q
  unfold eRgT at hf
  split at hf
  · rename_i n q1
    by_cases hn : Nat.ble n 1000 = true
    · rw [if_pos hn] at hf
      cases hf
      have hn' : n ≤ 1000 := Nat.le_of_ble_eq_true hn
      refine ⟨M, ρ, _, hm, hr, q1, fun v H1 s1 r1 => ⟨.ofNat n, rp_int r1, ?_, fun p np => k _ _ (s1.trans (same_new np)) ?_⟩⟩
      · have : (Int.ofNat n) = (n : Int) := rfl
        exact RgOk.of_le (by omega) (by rw [this]; omega) (by omega) (by rw [this]; omega)
      · refine new_tup (hm.mono s1) np ?_
        have h := rg_vs (K := X.K) (H := hide M H1) n 0
        first
          | exact h
          | (unfold rgV; simpa using h)
    · rw [if_neg hn] at hf; cases hf
  · cases hf⟩
end FF
/-! ## FL -/
namespace FF
open PySem PySem.Spec PyProof.Rows L2

/-! ### xs = []; for ..: xs.extend(a new list) -/
theorem EnvR.forgetSet {K : PySem.W.Frag} {C : Addr} {H : Hp} {σ : L2.St} {ρ : Ev} {i : Nat} {x : Option V} (h : EnvR K C H σ ρ) : EnvR K C H (σ.set i x) (FF.forget ρ i) := by
  refine ⟨by rw [List.length_set, forget_len]; exact h.len, fun j e q => ?_⟩
  obtain ⟨ne, q⟩ := lk_forget ρ i j e q
  obtain ⟨u, a, b⟩ := h.get j e q
  exact ⟨u, by rw [List.getElem?_set_ne (Ne.symm ne)]; exact a, b⟩
theorem EnvR.putHere {K : PySem.W.Frag} {C : Addr} {H : Hp} {σ : L2.St} {ρ : Ev} {i : Nat} {v : V} {d : D} (h : EnvR K C H σ ρ) (hv : σ[i]? = some (some v)) (r : Rp K C H v d) : EnvR K C H σ (FF.put ρ i d) := by
  refine ⟨by rw [put_len]; exact h.len, fun j e q => ?_⟩
  rcases lk_put ρ i j d e q with ⟨rfl, rfl⟩ | ⟨ne, q⟩
  · exact ⟨v, hv, r⟩
  · exact h.get j e q
def extD (g : D → Ev → Option Ev) (f : Ev → Option (List PD)) : List D → Ev → List PD → Option (Ev × List PD)
  | [], ρ, acc => some (ρ, acc)
  | d :: ds, ρ, acc => match g d ρ with
    | none => none
    | some ρ1 => match f ρ1 with
      | none => none
      | some r => if few (acc ++ r) = true then extD g f ds ρ1 (acc ++ r) else none
def sExt (j : Nat) (i : Ev → Option (List D)) (g : D → Ev → Option Ev) (f : Ev → Option (List PD)) : Ev → Option Out := fun ρ => if Nat.blt j ρ.length = true then (match i (forget ρ j) with
  | none => none
  | some ds => match extD g f ds (forget ρ j) [] with
    | none => none
    | some (ρ1, r) => some (.nx (put ρ1 j (.p (.list r))))) else none
theorem wipe_out {σ : L2.St} {vs : List Nat} {j : Nat} (h : j ∉ vs) : (wipe σ vs)[j]? = σ[j]? := by
  rw [wipe_at, if_neg h]
theorem dss_ext {C : Addr} {W : WV} {X : Cx} {tg iter nm e : Expr} {st0 : Stmt} {rest : List Stmt} {vs : List Nat} {ap cp ep fpos : Pos} {j : Nat} {i : Ev → Option (List D)} {g : D → Ev → Option Ev} {f : Ev → Option (List PD)} {u : Ev → Option Out}
    (h0 : PS X st0 (tAsg (tLst tNil) (gName j))) (hi : DI C X tg iter i) (hg : DG C X vs tg g) (hv : PE X nm (tVar j)) (he : DL C X e f) (hr : DSs C W X rest u) (hp : PassesOwn (model X.prog X.w) X.A X.env X.xe) (hj : j ∉ vs := by decide)
    (hc : X.calm = true := by rfl) (hs : ∀ x, foldedSetIterable iter X.env x = pure x := by intro _; rfl)
    (hst : starEach (e :: []) X.env = (false, eval e X.env) :: starEach [] X.env := by rfl) (hbase : attributeBase nm "extend" X.env (eval nm X.env) = eval nm X.env := by rfl)
    (hfew : ((backTo cp (starEach (e :: []) X.env)).all (fun x => !x.1) && (backToKw cp (keywordEach [] X.env)).all (fun x => x.1.isSome)
      && decide ((e :: ([] : List Expr)).length + ([] : List Keyword).length + (if ([] : List Keyword).isEmpty then 0 else 1) < 30)) = true := by rfl)
    (hline : (ap.endLine == cp.line) = true := by rfl) (hsw : swapsWith (.Call (.Attribute nm "extend" ap) [e] [] cp) none ep.line X.env = pure false := by rfl) :
    DSs C W X (st0 :: .For tg iter [.Expr (.Call (.Attribute nm "extend" ap) [e] [] cp) ep] [] fpos :: rest) (sSeq (sExt j i g f) u) :=
  ⟨PSs.imp (pss_cons h0 (pss_cons (ps_for hp hc hi.pi hg.pg (pss_one (ps_expr (pe_bm PySem.F.plainAttrs_list PySem.F.slot_list_extend PySem.F.type_list_extend mt_extend hv (pa_cons he.pe pa_nil hst) hbase hfew hline hst rfl) hsw)) hs) hr.pss)) fun E σ H q => by
    obtain ⟨M, ρ, o, hm, hr, hf, k⟩ := q
    refine ⟨by show 0 ≤ sizeLine; omega, fun A nA => ?_⟩
    have hrl := hr.len
    unfold sSeq at hf
    cases q0 : sExt j i g f ρ with
    | none => rw [q0] at hf; cases hf
    | some o0 =>
      rw [q0] at hf
      unfold sExt at q0
      by_cases hb : Nat.blt j ρ.length = true
      case neg => rw [if_neg hb] at q0; cases q0
      rw [if_pos hb] at q0
      have hjl : j < σ.length := by
        rw [hrl]
        have : Nat.ble (j + 1) ρ.length = true := hb
        exact Nat.le_of_ble_eq_true this
      cases q1 : i (forget ρ j) with
      | none => rw [q1] at q0; cases q0
      | some ds =>
        rw [q1] at q0
        simp only at q0
        cases q2 : extD g f ds (forget ρ j) [] with
        | none => rw [q2] at q0; cases q0
        | some pr =>
          obtain ⟨ρf, res⟩ := pr
          rw [q2] at q0
          cases q0
          simp only at hf
          have sN : Same H (upd H A (.lst [])) := same_new nA
          have mA : M A = false := hm.new nA
          have hm0 : Hid (more M A) (upd H A (.lst [])) := (hm.mono sN).more upd_same
          have e0 : hide (more M A) (upd H A (.lst [])) = hide M H := by rw [more_upd, more_new nA]
          have r0 : EnvR X.K C (hide (more M A) (upd H A (.lst []))) (σ.set j (some (.ref A))) (forget ρ j) := by
            rw [e0]
            exact hr.forgetSet
          refine ⟨more M A, forget ρ j, ds, hm0, r0, q1, fun J H2 s2 itd => ?_⟩
          have sAll : Same H H2 := sN.trans s2
          have hA2 : H2 A = some (.lst []) := s2 _ _ upd_same
          refine ⟨fun n m σ' H' => m = ds.length - n ∧ n ≤ ds.length ∧ SameM (more M A) H2 H' ∧ Same H H' ∧ σ'[j]? = (σ.set j (some (V.ref A)))[j]? ∧ ∃ ρ' acc done, EnvR X.K C (hide (more M A) H') σ' ρ' ∧ H' A = some (.lst acc) ∧ DpAll X.K (hide (more M A) H') acc done ∧ extD g f (ds.drop n) ρ' done = some (ρf, res),
            ⟨ds.length, by omega, Nat.zero_le _, Same.refl _, sAll, rfl, _, [], [], r0.mono (same_hide s2), hA2, .nil, by rw [List.drop_zero]; exact q2⟩, ?_⟩
          rintro n m σ' H' ⟨rfl, hn, s3, s13, hσ, ρ', acc, done, re, hA, hd, hx⟩
          have hm3 : Hid (more M A) H' := (hm.mono s13).more hA
          obtain ⟨go, stop⟩ := itd (more M A) rfl n H' s3 hm3
          by_cases hlt : n < ds.length
          · have hdn : ds[n]? = some ds[n] := List.getElem?_eq_getElem hlt
            obtain ⟨g1, g2⟩ := go _ hdn
            rw [drop_get hdn] at hx
            unfold extD at hx
            cases w1 : g ds[n] ρ' with
            | none => rw [w1] at hx; cases hx
            | some ρ1 =>
              rw [w1] at hx
              simp only at hx
              cases w2 : f ρ1 with
              | none => rw [w2] at hx; cases hx
              | some r =>
                rw [w2] at hx
                simp only at hx
                by_cases w3 : few (done ++ r) = true
                · rw [if_pos w3] at hx
                  refine .inr ⟨g1, fun σ4 H4 => SameM (more M A) H2 H4 ∧ Same H H4 ∧ σ4[j]? = (σ.set j (some (V.ref A)))[j]? ∧ ∃ ρ' acc done, EnvR X.K C (hide (more M A) H4) σ4 ρ' ∧ H4 A = some (.lst acc) ∧ DpAll X.K (hide (more M A) H4) acc done ∧ extD g f (ds.drop (n + 1)) ρ' done = some (ρf, res),
                    fun σ4 H4 ⟨z1, z2, z3, z4⟩ => ⟨ds.length - (n + 1), by omega, rfl, hlt, z1, z2, z3, z4⟩, fun x H4 hy => ?_⟩
                  obtain ⟨s4, r4⟩ := g2 x H4 hy
                  refine ⟨more M A, ρ', ds[n], ρ1, hm3.mono s4, re.mono (same_hide s4), r4, w1, fun σ5 H5 s5 e5 w5 => ?_⟩
                  have s45 := s4.trans s5
                  have hA5 : H5 A = some (.lst acc) := s45 _ _ hA
                  have hσ5 : σ5[j]? = (σ.set j (some (V.ref A)))[j]? := by rw [← hσ, ← wipe_out (σ := σ5) hj, w5, wipe_out hj]
                  have hσv : σ5[j]? = some (some (V.ref A)) := by rw [hσ5, List.getElem?_set_self hjl]
                  refine ⟨_, hσv, .inl ⟨rfl, acc, SqL.of hA5⟩, more M A, ρ1, r, hm3.mono s45, e5, w2, fun a xs H6 s6 ha hxs => ?_⟩
                  have s46 := s45.trans s6
                  have hA6 : H6 A = some (.lst acc) := s46 _ _ hA
                  obtain ⟨ma, ha6⟩ := of_hide ha
                  have hlen : acc.length + xs.length ≤ sizeLine := by
                    have := few_line w3
                    rw [List.length_append] at this
                    rw [DpAll_len hd, DpAll_len hxs]
                    omega
                  refine ⟨A, a, acc, xs, rfl, rfl, hA6, ha6, hlen, ?_, ?_, hσ5, ρ1, acc ++ xs, done ++ r, ?_, upd_same, ?_, hx⟩
                  · show Same _ (hide (more M A) (upd H6 A _))
                    rw [more_upd]
                    exact Same.trans s3 (same_hide s46)
                  · intro bb oo eb
                    rw [upd_ne (ne_of_none eb nA)]
                    exact s46 _ _ (s13 _ _ eb)
                  · rw [more_upd]
                    exact e5.mono (same_hide s6)
                  · rw [more_upd]
                    exact DpAll_app (DpAll_mono (same_hide s46) _ _ hd) hxs
                · rw [if_neg w3] at hx; cases hx
          · have en : n = ds.length := by omega
            subst en
            rw [List.drop_length] at hx
            cases hx
            have hσv : σ'[j]? = some (some (V.ref A)) := by rw [hσ, List.getElem?_set_self hjl]
            refine .inl ⟨stop rfl, M, _, o, hm.mono s13, (re.mono more_le).putHere (d := .p (.list res)) hσv (Dp.lst (SqL.of (hide_of hA mA)) (DpAll_mono more_le _ _ hd)), hf, k.later s13⟩⟩
end FF
/-! ## FM -/
namespace FF
open PySem PySem.Spec PyProof.Rows L2

/-- list(x): a new list -/
def lOf (f : Ev → Option D) : Ev → Option (List PD) := fun ρ => match f ρ with
  | some (.p (.tuple l)) => some l
  | some (.p (.list l)) => some l
  | _ => none
theorem dl_list {C : Addr} {X : Cx} {e : Expr} {f : Ev → Option D} {p pos : Pos} (hg : Gl X "list") (hm : X.mg "list" = none) (he : DE C X e f) (hst : starEach (e :: []) X.env = (false, eval e X.env) :: starEach [] X.env := by rfl) :
    DL C X (.Call (.Name "list" p) [e] [] pos) (lOf f) := ⟨PE.imp (pe_callTy call_list_of hg hm boot_list (pa_cons he.pe pa_nil hst) (by decide) (by decide) hst rfl) fun σ H Q q => by
  obtain ⟨M, ρ, ds, hm, hr, hf, k⟩ := q
  unfold lOf at hf
  split at hf
  · rename_i l q1
    cases hf
    refine ⟨M, ρ, _, hm, hr, q1, fun v H1 s1 r1 => ?_⟩
    obtain ⟨a, xs, rfl, h1, h2⟩ := rp_tup r1
    refine ⟨a, xs, rfl, .inr (seqT_hide h1), fun l nl => ?_⟩
    have hm1 := hm.mono s1
    exact k _ xs _ (s1.trans (same_new nl)) (hide_new hm1 nl) (DpAll_mono (same_hide (same_new nl)) _ _ h2)
  · rename_i l q1
    cases hf
    refine ⟨M, ρ, _, hm, hr, q1, fun v H1 s1 r1 => ?_⟩
    obtain ⟨a, xs, rfl, h1, h2⟩ := rp_lst r1
    refine ⟨a, xs, rfl, .inl (seqL_hide h1), fun l nl => ?_⟩
    have hm1 := hm.mono s1
    exact k _ xs _ (s1.trans (same_new nl)) (hide_new hm1 nl) (DpAll_mono (same_hide (same_new nl)) _ _ h2)
  · cases hf⟩

/-! ### xs.index(text) -/
def idxS (x : Str) : List PD → Option Nat
  | [] => none
  | .str y :: r => if seqs y x = true then (if memS.allS r = true then some 0 else none) else (match idxS x r with
    | none => none
    | some n => some (n + 1))
  | _ => none
def eIdx (f g : Ev → Option D) : Ev → Option D := fun ρ => match f ρ with
  | some (.p (.list l)) => (match g ρ with
    | some (.p (.str x)) => (match idxS x l with
      | some n => some (.p (.int (.ofNat n)))
      | none => none)
    | _ => none)
  | _ => none
theorem idxS_at {K : PySem.W.Frag} {H : Hp} {x : Str} : ∀ {l : List PD} {xs : List V} {n : Nat}, idxS x l = some n → DpAll K H xs l → xs.all flatV = true ∧ ∃ z, xs[n]? = some z ∧ eqV z (.str x) = true ∧ ∀ (m : Nat) (z' : V), m < n → xs[m]? = some z' → eqV z' (.str x) = false
  | [], _, _, e, h => by cases e
  | .str y :: l, _, n, e, h => by
    cases h with
    | @cons v vs _ _ h1 h2 =>
      cases h1
      unfold idxS at e
      by_cases q : seqs y x = true
      · rw [if_pos q] at e
        by_cases q2 : memS.allS l = true
        · rw [if_pos q2] at e
          cases e
          have ey : y = x := by rw [seqs_eq] at q; exact of_decide_eq_true q
          subst ey
          refine ⟨by simp only [List.all_cons, allS_flat q2 h2, Bool.and_true]; rfl, .str y, rfl, ?_, fun m z' hm => absurd hm (Nat.not_lt_zero _)⟩
          show (y == y) = true
          simp
        · rw [if_neg q2] at e; cases e
      · rw [if_neg q] at e
        cases q3 : idxS x l with
        | none => rw [q3] at e; cases e
        | some k =>
          rw [q3] at e
          cases e
          obtain ⟨a, z, b1, b2, b3⟩ := idxS_at (l := l) q3 h2
          have ey : ¬ y = x := fun z => q (by rw [seqs_eq]; exact decide_eq_true z)
          refine ⟨by simp only [List.all_cons, a, Bool.and_true]; rfl, z, by simpa using b1, b2, fun m z' hm hz => ?_⟩
          cases m with
          | zero =>
            simp only [List.getElem?_cons_zero, Option.some.injEq] at hz
            subst hz
            show (y == x) = false
            exact beq_eq_false_iff_ne.mpr ey
          | succ m => exact b3 m z' (by omega) (by simpa using hz)
  | .none :: r, _, _, e, h => by cases e
  | .bool _ :: r, _, _, e, h => by cases e
  | .int _ :: r, _, _, e, h => by cases e
  | .list _ :: r, _, _, e, h => by cases e
  | .tuple _ :: r, _, _, e, h => by cases e
  | .dict _ :: r, _, _, e, h => by cases e
theorem de_index {C : Addr} {X : Cx} {o e : Expr} {f g : Ev → Option D} {apos cp : Pos} (ho : DE C X o f) (he : DE C X e g)
    (hst : starEach (e :: []) X.env = (false, eval e X.env) :: starEach [] X.env := by rfl) (hbase : attributeBase o "index" X.env (eval o X.env) = eval o X.env := by rfl)
    (hfew : ((backTo cp (starEach (e :: []) X.env)).all (fun x => !x.1) && (backToKw cp (keywordEach [] X.env)).all (fun x => x.1.isSome)
      && decide ((e :: ([] : List Expr)).length + ([] : List Keyword).length + (if ([] : List Keyword).isEmpty then 0 else 1) < 30)) = true := by rfl)
    (hline : (apos.endLine == cp.line) = true := by rfl) : DE C X (.Call (.Attribute o "index" apos) [e] [] cp) (eIdx f g) :=
  ⟨PE.imp (pe_bm PySem.F.plainAttrs_list PySem.F.slot_list_index PySem.F.type_list_index mt_index ho.pe (pa_cons he.pe pa_nil hst) hbase hfew hline hst rfl) fun σ H Q q => by
    obtain ⟨M, ρ, d, hm, hr, hf, k⟩ := q
    unfold eIdx at hf
    split at hf
    · rename_i l q1
      split at hf
      · rename_i x q2
        split at hf
        · rename_i n q3
          cases hf
          refine ⟨M, ρ, _, hm, hr, q1, fun v H1 s1 r1 => ?_⟩
          obtain ⟨a, xs, rfl, h1, h2⟩ := rp_lst r1
          refine ⟨.inl ⟨rfl, xs, seqL_hide h1⟩, M, ρ, _, hm.mono s1, hr.mono (same_hide s1), q2, fun w H2 s2 r2 => ?_⟩
          have ew := rp_str r2
          subst ew
          obtain ⟨fl, z, b1, b2, b3⟩ := idxS_at q3 (DpAll_mono (same_hide s2) _ _ h2)
          exact ⟨a, xs, .str x, n, z, rfl, rfl, seqL_hide ((same_hide s2).seq h1), rfl, fl, b1, b2, b3, k _ H2 (s1.trans s2) (.int _)⟩
        · cases hf
      · cases hf
    · cases hf⟩
end FF
/-! ## FN -/
namespace FF
open PySem PySem.Spec PyProof.Rows L2

section
variable {C : Addr} {X : Cx}
theorem de_neg {i : Int} {j : Nat} {p pos : Pos} : DE C X (.UnaryOp .USub (.Constant (.int i) j p) pos) (eC (.p (.int (-i)))) := ⟨PE.imp (pe_un un_neg pe_int) fun σ H Q q => by
  obtain ⟨M, ρ, d, hm, he, hf, k⟩ := q
  cases hf
  exact ⟨i, rfl, k _ H (Same.refl H) (.int _)⟩⟩
/-- three names at once -/
def sPar3 (i j l : Nat) (fs : Ev → Option (List D)) : Ev → Option Out := fun ρ => match fs ρ with
  | some [a, b, c] => some (.nx (put (put (put ρ i a) j b) l c))
  | _ => none
theorem ds_par3 {W : WV} {st : Stmt} {i j l : Nat} {fs : Ev → Option (List D)} (h : PS X st (tPar3 i j l (dA X.K C fs))) : DS C W X st (sPar3 i j l fs) := ⟨PS.imp h fun E σ H q => by
  obtain ⟨M, ρ, o, hm, he, hf, k⟩ := q
  unfold sPar3 at hf
  split at hf
  · rename_i a b c q1
    cases hf
    refine ⟨M, ρ, [a, b, c], hm, he, q1, fun vs H1 s1 r1 => ?_⟩
    cases r1 with
    | cons r1 r2 =>
      cases r2 with
      | cons r2 r3 =>
        cases r3 with
        | cons r3 r4 =>
          cases r4
          exact ⟨_, _, _, rfl, k _ H1 s1 ((((he.mono (same_hide s1)).put r1).put r2).put r3)⟩
  · cases hf⟩
/-- names from a display, cells among them -/
def dGsD (K : PySem.W.Frag) (C : Addr) (vs : List Nat) (g : List D → Ev → Option Ev) : TGs := fun xs σ H Q => ∃ (M : Msk) (ρ : Ev) (ds : List D) (ρ' : Ev), Hid M H ∧ EnvR K C (hide M H) σ ρ ∧ RpAll K C (hide M H) xs ds ∧ g ds ρ = some ρ' ∧
  ∀ σ' H', Same H H' → EnvR K C (hide M H') σ' ρ' → wipe σ' vs = wipe σ vs → Q σ' H'
structure DGsD (C : Addr) (X : Cx) (vs : List Nat) (tg : List Expr) (g : List D → Ev → Option Ev) : Prop where
  pgs : PGs X tg (dGsD X.K C vs g)
def dgNil : List D → Ev → Option Ev := fun ds ρ => match ds with
  | [] => some ρ
  | _ => none
def dgCons (g : D → Ev → Option Ev) (gs : List D → Ev → Option Ev) : List D → Ev → Option Ev := fun ds ρ => match ds with
  | [] => none
  | d :: r => match g d ρ with
    | none => none
    | some ρ1 => gs r ρ1
variable {vs : List Nat} {e : Expr} {es : List Expr} {pos : Pos} {g : D → Ev → Option Ev} {gs : List D → Ev → Option Ev}
theorem dgd_nil : DGsD C X vs [] dgNil := ⟨PGs.imp pgs_nil fun xs σ H Q q => by
  obtain ⟨M, ρ, ds, ρ', hm, he, r, hg, k⟩ := q
  unfold dgNil at hg
  split at hg
  · cases hg
    cases r
    exact ⟨rfl, k _ H (Same.refl H) he rfl⟩
  · cases hg⟩
theorem dgd_cons (h : DG C X vs e g) (r : DGsD C X vs es gs) (hs : (assignEach (e :: es) X.env).map (·.2) = assign e X.env :: (assignEach es X.env).map (·.2) := by rfl) : DGsD C X vs (e :: es) (dgCons g gs) := ⟨PGs.imp (pgs_cons h.pg r.pgs hs) fun xs σ H Q q => by
  obtain ⟨M, ρ, ds, ρ', hm, he, r, hg, k⟩ := q
  unfold dgCons at hg
  split at hg
  · cases hg
  · rename_i d ds
    cases r with
    | cons r1 r2 =>
      cases q1 : g d ρ with
      | none => rw [q1] at hg; cases hg
      | some ρ1 =>
        rw [q1] at hg
        refine ⟨_, _, rfl, M, ρ, d, ρ1, hm, he, r1, q1, fun σ1 H1 s1 e1 w1 => ?_⟩
        exact ⟨M, ρ1, ds, ρ', hm.mono s1, e1, r2.mono (same_hide s1), hg, fun σ2 H2 s2 e2 w2 => k σ2 H2 (s1.trans s2) e2 (w2.trans w1)⟩⟩
def sTupAsg (fs : Ev → Option (List D)) (gs : List D → Ev → Option Ev) : Ev → Option Out := fun ρ => match fs ρ with
  | none => none
  | some ds => if Nat.ble ds.length 3 = true then (match gs ds ρ with
    | none => none
    | some ρ1 => some (.nx ρ1)) else none
theorem ds_tupAsg {W : WV} {ts : List Expr} {n kt k2 : Nat} {p p2 : Pos} {fs : Ev → Option (List D)} (ha : DA C X es fs) (hg : DGsD C X vs ts gs) (hn : (assignEach ts X.env).length = n := by rfl) (hna : (assignEach ts X.env).findIdx? (·.1) = none := by rfl) (hc : X.calm = true := by rfl)
    (hlen : ∀ ds ρ ρ', gs ds ρ = some ρ' → ds.length = n)
    (hs : swapsWithSole [.Tuple ts kt p] (.Tuple es k2 p2) pos.line X.env = pure false := by rfl) (hw : swappedStores [.Tuple ts kt p] (.Tuple es k2 p2) X.env = pure none := by rfl)
    (h1 : (assignEach [.Tuple ts kt p] X.env).map (·.2) = [assign (.Tuple ts kt p) X.env] := by rfl) : DS C W X (.Assign [.Tuple ts kt p] (.Tuple es k2 p2) pos) (sTupAsg fs gs) :=
  ⟨PS.imp (ps_asg (pe_tup ha.pa) (pg_tup hc hg.pgs hn hna) hs hw h1) fun E σ H q => by
    obtain ⟨M, ρ, o, hm, he, hf, k⟩ := q
    unfold sTupAsg at hf
    cases q1 : fs ρ with
    | none => rw [q1] at hf; cases hf
    | some ds =>
      rw [q1] at hf
      simp only at hf
      by_cases hb : Nat.ble ds.length 3 = true
      · rw [if_pos hb] at hf
        cases q2 : gs ds ρ with
        | none => rw [q2] at hf; cases hf
        | some ρ1 =>
          rw [q2] at hf
          cases hf
          have hb' : ds.length ≤ 3 := Nat.le_of_ble_eq_true hb
          refine ⟨M, ρ, ds, hm, he, q1, fun vs H1 s1 r1 => ⟨by rw [r1.len]; exact Nat.le_trans hb' (by decide), fun q nq => ?_⟩⟩
          have sq := same_new (o := HO.tup vs) nq
          refine ⟨q, vs, rfl, SqT.of upd_same, by rw [r1.len]; exact hlen _ _ _ q2, M, ρ, ds, ρ1, (hm.mono s1).mono sq, (he.mono (same_hide s1)).mono (same_hide sq), r1.mono (same_hide sq), q2, fun σ' H' s' e' _ => ?_⟩
          exact k σ' H' ((s1.trans sq).trans s') e'
      · rw [if_neg hb] at hf; cases hf⟩
theorem dgs_len0 (ds : List D) (ρ ρ' : Ev) (h : dgNil ds ρ = some ρ') : ds.length = 0 := by
  unfold dgNil at h
  split at h
  · rfl
  · cases h
theorem dgs_len {n : Nat} (hr : ∀ ds ρ ρ', gs ds ρ = some ρ' → ds.length = n) (ds : List D) (ρ ρ' : Ev) (h : dgCons g gs ds ρ = some ρ') : ds.length = n + 1 := by
  unfold dgCons at h
  split at h
  · cases h
  · rename_i d r
    cases q1 : g d ρ with
    | none => rw [q1] at h; cases h
    | some ρ1 =>
      rw [q1] at h
      rw [List.length_cons, hr _ _ _ h]
end
/-- a promise of nothing -/
theorem fn_none {P : Program} {w : World} {K : PySem.W.Frag} {mg : Str → Option Value} {base : Heap} {C : Addr} {x qual : Str} {st : Stmt} {f : Addr} {fd : FuncData} {N ps : List Str} {k n : Nat} (F : Fun K x qual st f fd) (S : FnScope N ps (defScope st)) (hn : ps.length = n) :
    FnOk P w K mg base (L2.CX P w) (k + 1) f fd ps (spD K C n fun _ => none) :=
  F.okX S (fun vs H Q E h => h.1.trans hn.symm) fun cdv A outer s H vs Q E hr h => by
    obtain ⟨_, M, ds, d, hm, r, hf, k⟩ := h
    cases hf
end FF
/-! ## FO -/
namespace FF
open PySem PySem.Spec PyProof.Rows L2 GenW

/-! ### for x in a list: yield x, the end of a generator's body -/
section
variable {prog : Program} {w : World} {A : Around} {R : GenEnd} {Y : Protocol} {n : Nat} {s₀ : Shared} {c : Code} {fs : List Frame} {s : Shared} {env : Env} {Kf : Flow → Sem PySem.Fin} {J : Value → Sem PySem.Fin} {gd : Bool → Bool} {lv : List Value → List Value}
theorem never {α : Type} {t : Sem α} {Q : α → Shared → Prop} {M : Model} {A : Around} {E : Value → Shared → Prop} {s : Shared} (h : wpAny M A t Q (fun _ _ => False) s) : wpAny M A t Q E s := wpAny_mono h (fun _ _ z => z) fun _ _ z => z.elim
/-- the frame below a for loop -/
abbrev loopK (env : Env) (Kf : Flow → Sem PySem.Fin) (J : Value → Sem PySem.Fin) (gd : Bool → Bool) (lv : List Value → List Value) : Result → Sem PySem.Fin := fun r => ((match r with | .ok f => (.pure f : Sem Flow) | .error e => .raise e).onRaise fun (x : Value) => do
  if (← field x 1) == Value.none then unsupported "frame.own-activation:exception-without-traceback"
  setFlight x env.frame).wrap Kf J gd lv
theorem seg_For {target iter : Expr} {body orelse : List Stmt} {pos : Pos}
    (h : wpAny (model prog w) (A.over c fs) (eval iter env) (fun x s1 => wpAny (model prog w) (A.over c fs) (pyIter x) (fun it s2 => ∀ p, Seg (model prog w) A R Y n s₀ (.forLoop target it body orelse env) ((model prog w).den (.forLoop target it body orelse env)) (.ret (loopK env Kf J gd lv) none (gd false) (lv []) c p [] :: fs) s2) (fun _ _ => False) s1) (fun _ _ => False) s)
    (hs : ∀ x, foldedSetIterable iter env x = pure x := by intro _; rfl) : Seg (model prog w) A R Y n s₀ c ((exec (.For target iter body orelse pos) env).wrap Kf J gd lv) fs s := by
  rw [exec_For]
  refine seg_bind_wrap (wpAny_standAt ?_)
  refine seg_bind_wrap (never (wpAny_mono h (fun x s1 h1 => ?_) fun _ _ z => z))
  refine seg_bind_wrap (wpAny_of_eq (hs x) ?_)
  refine seg_bind_wrap (wpAny_standAt ?_)
  refine seg_bind_wrap (wpAny_holding (never (wpAny_mono h1 (fun it s2 h2 => ?_) fun _ _ z => z)))
  exact seg_call h2
theorem seg_forLoop {target : Expr} {it : Value} {body : List Stmt} {fs' : List Frame}
    (h : wpAny (model prog w) (A.over (.forLoop target it body [] env) fs') (pyNext it) (fun r s1 => match r with
      | none => Seg (model prog w) A R Y n s₀ (.forLoop target it body [] env) (.pure (.again (.block [] env))) fs' s1
      | some v => wpAny (model prog w) (A.over (.forLoop target it body [] env) fs') (letOwnedTupleGo target it v) (fun _ s2 => wpAny (model prog w) (A.over (.forLoop target it body [] env) fs') (assign target env v) (fun _ s3 =>
          Seg (model prog w) A R Y n s₀ (.forLoop target it body [] env) ((execs body env).wrap (fun f => match f with
            | .next | .cont => .pure (.again (.forLoop target it body [] env))
            | .brk => .pure (.done .next)
            | .ret v => .pure (.done (.ret v))) (fun e => (do noteFrame e env; theTreesLotGoes e : Sem Unit).wrap (fun _ => .raise e) .raise id id) id id) fs' s3) (fun _ _ => False) s2) (fun _ _ => False) s1) (fun _ _ => False) s) :
    Seg (model prog w) A R Y n s₀ (.forLoop target it body [] env) ((model prog w).den (.forLoop target it body [] env)) fs' s := by
  show Seg _ A R Y n s₀ _ ((forTurn target it body [] env).onRaise (fun x => do noteFrame x env; theTreesLotGoes x)) fs' s
  unfold forTurn
  rw [Sem.onRaise_eq_wrap]
  refine seg_bind_wrap (wpAny_standAt ?_)
  refine seg_bind_wrap (wpAny_onRaise (wpAny_mono h (fun r s1 h1 => ?_) fun _ _ z => z.elim))
  cases r with
  | none => exact h1
  | some v =>
    refine seg_bind_wrap (never (wpAny_mono h1 (fun _ s2 h2 => ?_) fun _ _ z => z))
    refine seg_bind_wrap (never (wpAny_mono h2 (fun _ s3 h3 => ?_) fun _ _ z => z))
    show Seg _ _ _ _ _ _ _ ((execs body env >>= _).wrap _ _ _ _) _ _
    rw [Sem.bind_eq_wrap', Sem.wrap_wrap]
    rw [Sem.wrap_congr (execs body env) _ _ (K' := fun f => match f with
          | .next | .cont => .pure (.again (.forLoop target it body [] env))
          | .brk => .pure (.done .next)
          | .ret v => .pure (.done (.ret v))) (H' := (fun e => (do noteFrame e env; theTreesLotGoes e : Sem Unit).wrap (fun _ => .raise e) .raise id id))
      (fun f => by cases f <;> rfl)
      (fun e => by first | exact Sem.bind_eq_wrap _ _ | (show (do noteFrame e env; theTreesLotGoes e : Sem Unit).bind (fun _ => .raise e) = _; rw [Sem.bind_eq_wrap]))]
    exact h3
end
/-- where the loop stands: the frame's names at L, the list at F, its iterator at it -/
structure GR (L it F : Addr) (us : List Value) (j : Nat) (h : Heap) : Prop where
  ns : ∃ m, h.Ns L m
  it : h.IsListIter it F j
  ls : h.IsList F us.toArray
/-- changed at it and L alone -/
def Ch (it L : Addr) (s s' : Shared) : Prop := s'.gens = s.gens ∧ s'.os = s.os ∧ s'.drawn = s.drawn ∧ ∀ b o, b ≠ it → b ≠ L → s.heap.get? b = some o → s'.heap.get? b = some o
theorem Ch.refl {it L : Addr} {s : Shared} : Ch it L s s := ⟨rfl, rfl, rfl, fun _ _ _ _ e => e⟩
theorem Ch.trans {it L : Addr} {s s1 s2 : Shared} (a : Ch it L s s1) (b : Ch it L s1 s2) : Ch it L s s2 :=
  ⟨b.1.trans a.1, b.2.1.trans a.2.1, b.2.2.1.trans a.2.2.1, fun c o h1 h2 e => b.2.2.2 c o h1 h2 (a.2.2.2 c o h1 h2 e)⟩
/-- a turn's ground: the loop's beginning, or where the consumer left it -/
def Bas (N : Nat) (Pre Phi : Addr → Addr → List Value → Nat → Shared → Prop) (it F : Addr) (us : List Value) (j : Nat) (s₀ sB : Shared) : Prop := (j = 0 ∧ Pre it F us 0 sB) ∨ (0 < j ∧ Phi it F us j s₀ ∧ sB = s₀)
def YO (N : Nat) (L : Addr) (Pre Phi : Addr → Addr → List Value → Nat → Shared → Prop) : Protocol := fun n s₀ v s kap =>
  ∃ (it F : Addr) (us : List Value) (j : Nat) (sB : Shared), j + n = N ∧ us.length = N ∧ us[j]? = some v ∧ GR L it F us (j + 1) s.heap ∧ Bas N Pre Phi it F us j s₀ sB ∧ Ch it L sB s ∧
    ∀ s', GR L it F us (j + 1) s'.heap → Phi it F us (j + 1) s' → kap (.send .none) s'
def FO (N : Nat) (L : Addr) (Pre Phi : Addr → Addr → List Value → Nat → Shared → Prop) (n : Nat) (s₀ s : Shared) : Prop :=
  n = 1 ∧ ∃ (it F : Addr) (us : List Value) (sB : Shared), us.length = N ∧ Bas N Pre Phi it F us N s₀ sB ∧ Ch it L sB s
def RO (N : Nat) (L : Addr) (Pre Phi : Addr → Addr → List Value → Nat → Shared → Prop) : GenEnd := fun n s₀ r s =>
  ((r = .ok (.ret .none) ∨ r = .ok .next) ∧ FO N L Pre Phi n s₀ s) ∨ ∃ e, r = .error e ∧ False
section
variable {prog : Program} {w : World} {A : Around} {c : Code} {fs : List Frame} {env : Env} {Kf : Flow → Sem PySem.Fin} {J : Value → Sem PySem.Fin} {gd : Bool → Bool} {lv : List Value → List Value} {N : Nat} {L it F : Addr} {Pre Phi : Addr → Addr → List Value → Nat → Shared → Prop} {us : List Value} {x : Str}
theorem seg_turns {px py yp fp : Pos} {p : Pos} (hL : env.locals = L) (hk : env.scope.kind = .function) (hl : env.kindOf x = some .local) (hxd : (x == ("__debug__" : Str)) = false) (hco : env.scope.isCoroutine = false) (hi : interactive env = false)
    (hh : (A.over c fs).handled = none) (hsp : splitAtGen fs = none) (hgu : fs.any Frame.guarded = false) (hgd : gd false = false) (n1 : it ≠ L) (n2 : F ≠ L) (n3 : F ≠ it) (hN : us.length = N)
    (hend : ∀ s₀ s, (∃ sB, Bas N Pre Phi it F us N s₀ sB ∧ Ch it L sB s) → Seg (model prog w) A (RO N L Pre Phi) (YO N L Pre Phi) 1 s₀ c (Kf .next) fs s)
    (hp : (env.scope.kind == .class || (env.scope.kind == .module && env.locals != env.globals)) = false) :
    ∀ (r j : Nat) (s₀ s sB : Shared), j + r = N → GR L it F us j s.heap → Bas N Pre Phi it F us j s₀ sB → Ch it L sB s →
      Seg (model prog w) A (RO N L Pre Phi) (YO N L Pre Phi) (r + 1) s₀ (.forLoop (.Name x px) (.ref it) [.Expr (.Yield (some (.Name x py)) yp) fp] [] env) ((model prog w).den (.forLoop (.Name x px) (.ref it) [.Expr (.Yield (some (.Name x py)) yp) fp] [] env)) (.ret (loopK env Kf J gd lv) none (gd false) (lv []) c p [] :: fs) s := by
  intro r
  induction r with
  | zero =>
    intro j s₀ s sB hj hG hB hC
    have hj' : j = N := by omega
    subst hj'
    refine seg_forLoop ?_
    refine wpAny_pyNext_list_end (by first | exact hh | exact over_handled.trans hh) hG.it hG.ls (by simp; omega) fun h' he => ?_
    have hC' : Ch it L sB { s with heap := h' } := hC.trans ⟨rfl, rfl, rfl, fun b o h1 h2 e => he b o h1 e⟩
    refine seg_again rfl ?_
    show Seg _ _ _ _ _ _ _ (((execs [] env).onRaise (fun x => do noteFrame x env; theTreesLotGoes x)) >>= fun f => (.pure (.done f) : Sem PySem.Fin)) _ _
    refine seg_bind (wpAny_onRaise (wpAny_execs_nil ?_))
    refine seg_leaf (.ok .next) ?_
    exact hend s₀ _ ⟨sB, hB, hC'⟩
  | succ r ih =>
    intro j s₀ s sB hj hG hB hC
    have hlt : j < us.length := by omega
    obtain ⟨m, hm⟩ := hG.ns
    refine seg_forLoop ?_
    refine wpAny_pyNext_list_item hG.it hG.ls (x := us[j]) (by simp [hlt]) fun h1 hit1 hs1 => ?_
    obtain ⟨oi, hoi, hci, hdi⟩ := id hit1
    refine go_of (s := { s with heap := h1 }) (n := "list_iterator") hoi hci hdi (by decide) ?_
    have hm1 : h1.Ns L m := hm.at' fun o e => hs1.extBut L o (Ne.symm n1) e
    refine wpAny_assign_Name (wpAny_storeName_local (s := { s with heap := h1 }) (m := m) hl (by rw [hL]; exact hm1) (fun h2 hm2 hs2 => ?_) hp)
    rw [hL] at hm2 hs2
    have hs2' : Heap.SameBut L h1 h2 := hs2
    have hit2 : h2.IsListIter it F (j + 1) := hit1.at fun o e => hs2'.extBut it o n1 e
    have hls2 : h2.IsList F us.toArray := hG.ls.at fun o e => hs2'.extBut F o n2 (hs1.extBut F o n3 e)
    have hC2 : Ch it L sB { s with heap := h2, toks := s.toks + 1 } := hC.trans ⟨rfl, rfl, rfl, fun b o h1' h2' e => hs2'.extBut b o h2' (hs1.extBut b o h1' e)⟩
    refine seg_execs_cons ?_
    refine seg_Expr_Yield ?_ rfl ?_ ?_ hco hi
    · show (splitAtGen fs).map _ = none
      rw [hsp]; rfl
    · show (gd false || fs.any Frame.guarded) = false
      rw [hgd, hgu]; rfl
    · refine wpAny_Name (wpAny_loadName_local hk hl (by rw [hL]; exact hm2) (if_pos rfl) ?_) hxd
      intro kap hkap
      refine ⟨it, F, us, j, sB, by omega, hN, by simp [hlt], ⟨⟨_, hm2⟩, hit2, hls2⟩, hB, hC2, fun s' hG' hP' => hkap .none s' ?_⟩
      refine seg_execs_nil ?_
      refine seg_again rfl ?_
      exact ih (j + 1) s' s' s' (by omega) hG' (.inr ⟨Nat.succ_pos _, hP', rfl⟩) Ch.refl
end
end FF
/-! ## FP -/
namespace FF
open PySem PySem.Spec PyProof.Rows L2 GenW

/-! ### a generator def: a prefix, then for x in xs: yield x -/
/-- the items of a list; if asked, each is a tracked tuple of ints -/
structure Its (tr : Bool) (K : PySem.W.Frag) (H : Hp) (xs : List V) (items : List PD) : Prop where
  dp : DpAll K H xs items
  st : tr = true → ∃ l : List (List Int), items = l.map stP ∧ TrAll H xs l
theorem Its.mono {tr : Bool} {K : PySem.W.Frag} {H H' : Hp} (e : Same H H') {xs : List V} {items : List PD} (h : Its tr K H xs items) : Its tr K H' xs items := ⟨DpAll_mono e _ _ h.dp, fun z => let ⟨l, a, b⟩ := h.st z; ⟨l, a, b.mono e⟩⟩
/-- the loop is reached: what stood at the call stands, the list at F holds the items -/
def PQ (tr : Bool) (P : Program) (w : World) (K : PySem.W.Frag) (outer : List Env) (H : Hp) (sc : Shared) (pn : List (Addr × Obj)) (L a g : Nat) (M : Msk) (items : List PD) (it F : Addr) (us : List Value) (_ : Nat) (s : Shared) : Prop :=
  ∃ (H' : Hp) (xs : List V), (s.os = sc.os ∧ AllBare s.gens ∧ Un (frs outer) [] H H' sc.heap s.heap ∧ HOk P w H' s.heap) ∧ ((∀ p ∈ pn, s.heap.get? p.1 = some p.2 ∧ H' p.1 = none) ∧ s.heap.IsGen a g ∧ s.heap.NoLimit ∧ H' a = none ∧ H' L = none ∧ H' it = none) ∧
    (sc.heap.objs.size ≤ it ∧ it ≠ a ∧ it ≠ L ∧ ∀ p ∈ pn, p.1 ≠ it) ∧ Same H H' ∧ SqL K (hide M H') F xs ∧ Vals xs us ∧ Its tr K (hide M H') xs items
/-- a generator that has not begun -/
def GMd (tr : Bool) (P : Program) (w : World) (K : PySem.W.Frag) (k : Nat) (outer : List Env) (H : Hp) (sc : Shared) (M : Msk) (items : List PD) (u : Value) (s' : Shared) : Prop :=
  ∃ (a g L : Nat) (c : Code), u = .ref a ∧ (sc.heap.objs.size ≤ a ∧ a < s'.heap.objs.size) ∧ (sc.heap.objs.size ≤ L ∧ L < s'.heap.objs.size ∧ L ≠ a) ∧ s'.heap.IsGen a g ∧ s'.gens[g]? = some (.fresh c) ∧ s'.os = sc.os ∧ AllBare s'.gens ∧ s'.heap.NoLimit ∧ (∀ b o, sc.heap.get? b = some o → s'.heap.get? b = some o) ∧
    ∀ (A : Around) (pn : List (Addr × Obj)) (Phi : Addr → Addr → List Value → Nat → Shared → Prop) (s2 : Shared), Room k A → A.frames = some outer → (∀ b o, s'.heap.get? b = some o → s2.heap.get? b = some o) → (∀ p ∈ pn, s'.heap.objs.size ≤ p.1 ∧ s2.heap.get? p.1 = some p.2 ∧ ∀ v, p.2.data ≠ .cell v) → s2.os = sc.os → AllBare s2.gens →
      Seg (model P w) A (RO items.length L (PQ tr P w K outer H sc pn L a g M items) Phi) (YO items.length L (PQ tr P w K outer H sc pn L a g M items) Phi) (items.length + 1) s2 c ((model P w).den c) [] s2
structure GnOk (tr : Bool) (P : Program) (w : World) (K : PySem.W.Frag) (mg : Str → Option Value) (base : Heap) (C : Addr) (k : Nat) (f : Addr) (fd : FuncData) (ps : List Str) (n : Nat) (m : List D → Option (List PD)) : Prop where
  len : n = ps.length
  run : ∀ (A : Around) (outer : List Env) (s : Shared) (H : Hp) (args : Args) (us : List Value) (vs : List V) (M : Msk) (ds : List D) (items : List PD), Room k A → Env0 P w K mg base A outer s H → BindsTo s fd args (ps.zip us) → Vals vs us → vs.length = n → Hid M H → RpAll K C (hide M H) vs ds → m ds = some items →
    codeAny (model P w) A (.call (.ref f) args) (fun r s' => match r with | .ok (.ret u) => GMd tr P w K k outer H s M items u s' | _ => False) s
theorem FsOk.len {K : PySem.W.Frag} {H : Hp} {kvs : List (List L2.Key × V)} {fs : List (List Int × PD)} (h : FsOk K H kvs fs) : True := trivial
theorem env_startG {K : PySem.W.Frag} {C : Addr} {H : Hp} {N : List Str} {vs : List V} {ds : List D} {e n : Nat} (h : RpAll K C H vs ds) (hn : vs.length = n) (he : n + e = N.length) : EnvR K C H (start N vs) (somes ds (nones e)) := env_start h hn he
/-- what a prefix of two statements gives, then the list in slot j -/
def runG (e j : Nat) (u1 u2 : Ev → Option Out) (ds : List D) : Option (List PD) := match u1 (somes ds (nones e)) with
  | some (.nx ρ1) => (match u2 ρ1 with
    | some (.nx ρ2) => (match lk ρ2 j with
      | some (.p (.list l)) => some l
      | _ => none)
    | _ => none)
  | _ => none
def onlyNx (Q : L2.St → Hp → Prop) : Ends := { nx := Q, rt := fun _ _ => False, bk := fun _ _ => False, ct := fun _ _ => False }
theorem sp_nx {X : Cx} {pins : List (Addr × Obj)} {Q : L2.St → Hp → Prop} {f : Flow} {s : Shared} (h : SP X pins (onlyNx Q) f s) : f = .next ∧ ∃ σ H, Inv X pins σ H s ∧ Q σ H := by
  cases f with
  | next => exact ⟨rfl, h⟩
  | brk => obtain ⟨_, _, _, q⟩ := h; exact q.elim
  | cont => obtain ⟨_, _, _, q⟩ := h; exact q.elim
  | ret u => obtain ⟨_, _, _, _, _, q⟩ := h; exact q.elim
theorem gnD {P : Program} {w : World} {K : PySem.W.Frag} {mg : Str → Option Value} {base : Heap} {C : Addr} {x qual : Str} {st : Stmt} {f : Addr} {fd : FuncData} {N ps : List Str} {k e j n : Nat} {y ls : Str} {u1 u2 : Ev → Option Out} {a1 a2 : Stmt} {py pl pz yp ep fp : Pos}
    (F : Fun K x qual st f fd) (S : GScope N ps (defScope st)) (he : ps.length + e = N.length) (hn : n = ps.length) (hbody : defBody st = [a1, a2, .For (.Name y py) (.Name ls pl) [.Expr (.Yield (some (.Name y pz)) yp) ep] [] fp])
    (hyl : (defScope st).names.lookup y = some .local) (hyd : (y == ("__debug__" : Str)) = false) (hj : N[j]? = some ls) (hjv : (defScope st).names.lookup ls = some .local ∨ (defScope st).names.lookup ls = some .cell) (hjd : (ls == ("__debug__" : Str)) = false) (hjc : (ls == ("__classdict__" : Str)) = false)
    (hb : ∀ (cdv : Value) (A : Around) (outer : List Env) (s : Shared) (H : Hp) (pn : List (Addr × Obj)), Room k (A.deeper (envOfC qual (defScope st) s.heap.objs.size f cdv)) →
      DS C (fun _ _ _ => False) (gcxOf P w K mg base N qual (defScope st) f cdv A outer s H E0 pn).nox a1 u1 ∧ DS C (fun _ _ _ => False) (gcxOf P w K mg base N qual (defScope st) f cdv A outer s H E0 pn).nox a2 u2) :
    GnOk false P w K mg base C (k + 1) f fd ps n (runG e j u1 u2) := by
  obtain ⟨oc, od, kV, doc, pm, an, cdv, ct, osl, rfl, lk0, hcd⟩ := F.ex
  refine ⟨hn, fun A outer s H args us vs M ds items hr e0 hbd r hl hm rs hit => ?_⟩
  have KX : K.In s.heap := e0.mod.kin.keeps fun b o z => (e0.bs b o z).1
  have lim : s.heap.NoLimit := e0.mod.nolimit.keeps fun b o z => (e0.bs b o z).1
  have hkind : ∀ z ∈ ps.zip us, (defScope st).names.lookup z.1 = some .local ∨ ((defScope st).names.lookup z.1 = some .cell ∧ ((cellsFrom (s.heap.objs.size + 1) (defScope st).names []).lookup z.1).isSome = true) := fun ⟨n, v⟩ hz => by
    rcases S.par n (List.of_mem_zip hz).1 with q | q
    · exact .inl q
    · exact .inr ⟨q, PySem.W.cellsFrom_some _ _ _ (.inl q)⟩
  refine codeAny_call_generator hr.depth (KX _ _ lk0) rfl S.co S.gen rfl (PySem.W.codeRec_of KX hcd) (hbd _ _ _ _ ?_)
  refine wpAny_newFunctionEnv_cells S.kind hkind fun env hen s1 xc => ?_
  subst hen
  have lim1 : s1.heap.NoLimit := lim.keeps xc.toInCall.keep
  refine ⟨lim1, ?_⟩
  obtain ⟨h1, tk, es1, hk1⟩ := xc.done
  have os1 : s1.os = s.os := by rw [es1]
  have gen1 : s1.gens = s.gens := by rw [es1]
  have lt1 : s.heap.objs.size < s1.heap.objs.size := xc.toInCall.ns.lt
  have sz1 : s.heap.objs.size ≤ s1.heap.objs.size := Nat.le_of_lt lt1
  have kp1 : ∀ b o, s.heap.get? b = some o → s1.heap.get? b = some o := xc.toInCall.keep
  have main : ∀ (go : Obj) (nm qn : Value) (tk2 : Nat), go.cls = .type "generator" → go.data = .fields #[.int s1.gens.size 0, nm, qn] → go.slots = #[] → (∀ h : Heap, (h.push go).get? h.objs.size = some go) →
      GMd false P w K (k + 1) outer H s M items (.ref s1.heap.objs.size) { s1 with gens := s1.gens.push (.fresh (.func (defBody st) (envOfC qual (defScope st) s.heap.objs.size f cdv))), toks := tk2, heap := s1.heap.push go } := by
    intro go nm qn tk2 hgc hgd0 hgs hgp
    have hgen : ∀ h : Heap, h.get? s1.heap.objs.size = some go → h.IsGen s1.heap.objs.size s1.gens.size := fun h z => ⟨go, nm, qn, z, hgc, hgd0, hgs⟩
    have hpushed : (s1.heap.push go).get? s1.heap.objs.size = some go := hgp _
    have hsz' : (s1.heap.push go).objs.size = s1.heap.objs.size + 1 := Heap.size_push _ _
    refine ⟨s1.heap.objs.size, s1.gens.size, s.heap.objs.size, _, rfl, ⟨sz1, ?_⟩, ⟨Nat.le_refl _, ?_, Nat.ne_of_lt lt1⟩, hgen _ hpushed, Array.getElem?_push_size .., os1, ?_, lim1.keeps fun b o z => Heap.get?_push_of_some _ z, fun b o z => Heap.get?_push_of_some _ (kp1 b o z), ?_⟩
    · show _ < (s1.heap.push go).objs.size
      rw [hsz']; exact Nat.lt_succ_self _
    · show _ < (s1.heap.push go).objs.size
      rw [hsz']; exact Nat.lt_succ_of_lt lt1
    · exact AllBare.push (by rw [gen1]; exact e0.bare) rfl
    intro Aw pn Phi s2 hrw hfr hk2 hpn hos hba
    have e0w : Env0 P w K mg base Aw outer s H := ⟨hfr, e0.mod, e0.bs, e0.bsz, e0.funs, e0.frf, e0.hok, e0.bare⟩
    have I1 : Inv (gcxOf P w K mg base N qual (defScope st) f cdv Aw outer s H E0 []) [] (start N vs) H s1 := inv_startG S hrw.hd e0w (hl.trans hn) r xc
    have kp2 : ∀ b o, s1.heap.get? b = some o → s2.heap.get? b = some o := fun b o z => hk2 b o (Heap.get?_push_of_some _ z)
    have I2 : Inv (gcxOf P w K mg base N qual (defScope st) f cdv Aw outer s H E0 []) [] (start N vs) H s2 :=
      I1.call' (ch := []) (hos.trans os1.symm) (Un.kept kp2) (I1.hok.kept kp2) hba fun b z => by simp at z
    have hea : s2.heap.get? s1.heap.objs.size = some go := hk2 s1.heap.objs.size go hpushed
    have hgd : ∀ v, go.data ≠ .cell v := fun v q => by rw [hgd0] at q; cases q
    have young : ∀ b, s1.heap.objs.size ≤ b → H b = none ∧ b ≠ s.heap.objs.size ∧ b ∉ frs outer ∧ s.heap.objs.size ≤ b := fun b hb =>
      ⟨I1.hok.fresh hb, Nat.ne_of_gt (Nat.lt_of_lt_of_le lt1 hb), I1.nofs hb, Nat.le_trans sz1 hb⟩
    -- the consumer's things and the generator's own object are pinned
    have I3 : Inv (gcxOf P w K mg base N qual (defScope st) f cdv Aw outer s H E0 ((s1.heap.objs.size, go) :: pn)) [] (start N vs) H s2 := Inv.pinnedG I2 fun p hp => by
      rw [List.append_nil] at hp
      rcases List.mem_cons.mp hp with z | z
      · subst z
        obtain ⟨y1, y2, y3, _⟩ := young s1.heap.objs.size (Nat.le_refl _)
        exact ⟨hea, y1, y2, y3, hgd⟩
      · obtain ⟨q1, q2, q3⟩ := hpn p z
        have q1' : s1.heap.objs.size + 1 ≤ p.1 := by rw [← hsz']; exact q1
        obtain ⟨y1, y2, y3, _⟩ := young p.1 (Nat.le_of_succ_le q1')
        exact ⟨q2, y1, y2, y3, q3⟩
    have I4 := I3.wish fun _ _ => False
    obtain ⟨hb1, hb2⟩ := hb cdv Aw outer s H ((s1.heap.objs.size, go) :: pn) (hrw.deeper _)
    -- what the prefix gives
    unfold runG at hit
    split at hit
    case h_2 => cases hit
    rename_i ρ1 q1
    split at hit
    case h_2 => cases hit
    rename_i ρ2 q2
    split at hit
    case h_2 => cases hit
    rename_i l q3
    cases hit
    have hρ0 : EnvR K C (hide M H) (start N vs) (somes ds (nones e)) := env_start rs (hl.trans hn) he
    refine seg_func ?_
    rw [hbody]
    refine seg_execs_cons (seg_wrap ?_)
    rw [over_func]
    refine never (wpAny_mono (hb1.ps.run [] s2 (start N vs) H (onlyNx fun σ' H' => Same H H' ∧ EnvR K C (hide M H') σ' ρ1) I4 ⟨M, _, _, hm, hρ0, q1, fun σ' H' s' z => ⟨s', z⟩⟩) (fun fl s3 h3 => ?_) fun _ _ z => z)
    obtain ⟨rfl, σ3, H3, I5, sm3, r3⟩ := sp_nx h3
    refine seg_execs_cons (seg_wrap ?_)
    rw [over_func]
    refine never (wpAny_mono (hb2.ps.run [] s3 σ3 H3 (onlyNx fun σ' H' => Same H H' ∧ EnvR K C (hide M H') σ' ρ2) I5 ⟨M, _, _, hm.mono sm3, r3, q2, fun σ' H' s' z => ⟨sm3.trans s', z⟩⟩) (fun fl s4 h4 => ?_) fun _ _ z => z)
    obtain ⟨rfl, σ4, H4, I6, sm4, r4⟩ := sp_nx h4
    obtain ⟨v, hv, rv⟩ := r4.get j _ q3
    obtain ⟨Fa, xs, rfl, hF, hxs⟩ := rp_lst rv
    refine seg_execs_cons (seg_For ?_ (hs := by intro _; rfl))
    rw [over_func]
    have pvl : PE (gcxOf P w K mg base N qual (defScope st) f cdv Aw outer s H E0 ((s1.heap.objs.size, go) :: pn)).nox (.Name ls pl) (tVar j) := pe_var hj (hjv.elim .inl fun z => .inr (.inl z)) hjd hjc
    refine wpAny_mono (pvl.run [] s4 σ4 H4 (fun v' H' => v' = .ref Fa ∧ H' = H4) I6 ⟨_, hv, rfl, rfl⟩) (fun u s5 h5 => ?_) fun _ _ z => z
    obtain ⟨v', H5, I7, rv', rfl, rfl⟩ := h5
    obtain rfl : u = Value.ref Fa := rv'
    obtain ⟨its, rvs, hp, hz⟩ := I7.list (seqL_hide hF)
    refine wpAny_pyIter_list hp.isList fun p => ?_
    have hit5 : (s5.heap.push { cls := .type "list_iterator", data := .fields #[.ref Fa, .int 0 0] }).IsListIter s5.heap.objs.size Fa 0 := ⟨_, Heap.get?_push_size _ rfl, rfl, rfl⟩
    have I8 := I7.kept (t' := s5.toks) (h' := s5.heap.push { cls := .type "list_iterator", data := .fields #[.ref Fa, .int 0 0] }) fun b o z => Heap.get?_push_of_some _ z
    obtain ⟨mm, hns, _⟩ := id I8.loc
    have hns' : Heap.Ns (s5.heap.push { cls := .type "list_iterator", data := .fields #[.ref Fa, .int 0 0] }) s.heap.objs.size mm := hns
    have hlen : its.length = items.length := by rw [← rvs.length, DpAll_len hxs]
    have hLlt : s.heap.objs.size < s5.heap.objs.size := I7.lt
    have hal : s1.heap.objs.size < s5.heap.objs.size := by
      have z := (I7.pin (s1.heap.objs.size, go) (List.mem_append_left _ List.mem_cons_self)).1
      exact Heap.lt_size z
    have hFlt : Fa < s5.heap.objs.size := by obtain ⟨_, z, _⟩ := hp.isList; exact Heap.lt_size z
    have hnit : H5 s5.heap.objs.size = none := I7.hok.fresh (Nat.le_refl _)
    have hia : interactive (envOfC qual (defScope st) s.heap.objs.size f cdv) = false := by
      unfold interactive
      show ((defScope st).kind == .module && _) = false
      rw [S.kind]; rfl
    refine seg_turns (env := envOfC qual (defScope st) s.heap.objs.size f cdv) (us := its) (N := items.length) (L := s.heap.objs.size) (F := Fa) rfl S.kind hyl hyd S.co hia ?_ rfl rfl rfl (Nat.ne_of_gt hLlt) ?_ (Nat.ne_of_lt hFlt) hlen (fun s₀ s' h => ?_) ?_ items.length 0 s2 _ _ (Nat.zero_add _) ⟨⟨mm, hns'⟩, hit5, hp.isList.push _⟩ (.inl ⟨rfl, ?_⟩) Ch.refl
    · rw [over_func]
      exact (hrw.deeper _).hd
    · intro z
      obtain ⟨ol, z1, _, nl, z2⟩ := hp.isList
      obtain ⟨od', es', ep', z3, z4, _⟩ := hns'
      have z5 := (Heap.get?_push_of_some (h := s5.heap) { cls := .type "list_iterator", data := .fields #[.ref Fa, .int 0 0] } z1).symm.trans ((congrArg _ z).trans z3)
      cases z5
      rw [z2] at z4
      cases z4
    · refine seg_execs_nil ?_
      obtain ⟨sB, hB, hC⟩ := h
      exact seg_end (.ok (.ret .none)) (.inl ⟨.inl rfl, rfl, _, _, its, sB, hlen, hB, hC⟩)
    · show ((defScope st).kind == .class || ((defScope st).kind == .module && _)) = false
      rw [S.kind]; rfl
    · refine ⟨H5, xs, ⟨I8.os, I8.bare, I8.base, I8.hok⟩, ⟨fun q hq => ?_, ?_, I8.nolimit, ?_, I8.free, hnit⟩, ⟨Nat.le_trans sz1 (Nat.le_of_lt hal), Nat.ne_of_gt hal, Nat.ne_of_gt hLlt, fun q hq => ?_⟩, sm4, hF, rvs, ⟨hxs, fun z => nomatch z⟩⟩
      · have z := I8.pin q (List.mem_append_left _ (List.mem_cons_of_mem _ hq))
        exact ⟨z.1, z.2.1⟩
      · exact hgen _ (I8.pin (s1.heap.objs.size, go) (List.mem_append_left _ List.mem_cons_self)).1
      · exact (I8.pin (s1.heap.objs.size, go) (List.mem_append_left _ List.mem_cons_self)).2.1
      · have z := (I7.pin q (List.mem_append_left _ (List.mem_cons_of_mem _ hq))).1
        exact Nat.ne_of_lt (Heap.lt_size z)
  exact main _ _ _ _ rfl rfl rfl fun h => Heap.get?_push_size _ rfl
end FF
/-! ## FQ -/
namespace FF
open PySem PySem.Spec PyProof.Rows L2 GenW

section
variable {tr : Bool} {P : Program} {w : World} {K : PySem.W.Frag} {outer : List Env} {H : Hp} {sc : Shared} {pn pn' : List (Addr × Obj)} {L a g : Nat} {M : Msk} {items : List PD} {it F : Addr} {us : List Value} {s s' : Shared}
theorem bare_sub {G G' : Array GenState} (h : AllBare G) (e : G' = G) : AllBare G' := e ▸ h
/-- only the generator's own two things and what is pinned have changed -/
theorem pq_move {i j : Nat} (h : PQ tr P w K outer H sc pn L a g M items it F us i s) (Z : List Addr) (hk : ∀ b o, b ∉ Z → s.heap.get? b = some o → s'.heap.get? b = some o) (hZ : ∀ b ∈ Z, sc.heap.objs.size ≤ b ∧ b ≠ a ∧ (b = it ∨ b = L ∨ ∃ p ∈ pn, p.1 = b)) (hcs : cStatics < sc.heap.objs.size)
    (hp : ∀ p' ∈ pn', s'.heap.get? p'.1 = some p'.2 ∧ ∃ p ∈ pn, p.1 = p'.1) (ho : s'.os = s.os) (hb : AllBare s'.gens) : PQ tr P w K outer H sc pn' L a g M items it F us j s' := by
  obtain ⟨H', xs, ⟨os, bare, un, hok⟩, ⟨hpn, hg, hlim, na, nL, nit⟩, ⟨z1, z2, z3, z4⟩, sm, hF, rv, hx⟩ := h
  have nZ : ∀ b ∈ Z, H' b = none := fun b hb => by
    rcases (hZ b hb).2.2 with e | e | ⟨p, hp, e⟩
    · rw [e]; exact nit
    · rw [e]; exact nL
    · rw [← e]; exact (hpn p hp).2
  have old : ∀ b o, sc.heap.get? b = some o → b ∉ Z := fun b o e hb => by
    have h1 := Heap.lt_size e
    have h2 := (hZ b hb).1
    exact absurd (Nat.lt_of_lt_of_le h1 h2) (Nat.lt_irrefl _)
  have trk : ∀ b u, H' b = some u → b ∉ Z := fun b u e hb => by rw [nZ b hb] at e; cases e
  refine ⟨H', xs, ⟨ho.trans os, hb, ⟨fun b o e n n1 n2 => hk b o (old b o e) (un.keep b o e n n1 n2), fun b o e n n1 n2 => ?_, un.free, fun b o e n => ?_, un.tups, un.frzs, un.tbls⟩, fun b u e => ?_⟩, ⟨fun p' hp' => ?_, ?_, ?_, na, nL, nit⟩, ⟨z1, z2, z3, fun p' hp' => ?_⟩, sm, hF, rv, hx⟩
  · obtain ⟨sl, q⟩ := un.slot b o e n n1 n2
    exact ⟨sl, hk b _ (old b o e) q⟩
  · obtain ⟨o', q⟩ := un.there b o e n
    exact ⟨o', hk b _ (old b o e) q⟩
  · refine (hok b u e).stay (fun c v hc y => hk c v ?_ y) (fun _ y => y) fun _ _ y => y
    rcases hc with y | y
    · rw [y]; exact trk b u e
    · exact trk c _ y
  · obtain ⟨q1, p, hp1, hp2⟩ := hp p' hp'
    exact ⟨q1, by rw [← hp2]; exact (hpn p hp1).2⟩
  · obtain ⟨o, nm, qn, e, r⟩ := hg
    exact ⟨o, nm, qn, hk a o (fun hb => (hZ a hb).2.1 rfl) e, r⟩
  · obtain ⟨mc, hns, hnn⟩ := hlim
    exact ⟨mc, hns.at' fun o e => hk cStatics o (fun hb => absurd (Nat.lt_of_lt_of_le hcs (hZ _ hb).1) (Nat.lt_irrefl _)) e, hnn⟩
  · obtain ⟨_, p, hp1, hp2⟩ := hp p' hp'
    rw [← hp2]
    exact z4 p hp1
theorem pq_ch {i j : Nat} (h : PQ tr P w K outer H sc pn L a g M items it F us i s) (hc : Ch it L s s') (hcs : cStatics < sc.heap.objs.size) (hL : sc.heap.objs.size ≤ L ∧ L ≠ a ∧ ∀ p ∈ pn, p.1 ≠ L) : PQ tr P w K outer H sc pn L a g M items it F us j s' := by
  have h0 := h
  obtain ⟨H', xs, ⟨_, bare, _, _⟩, ⟨hpn, _⟩, ⟨z1, z2, z3, z4⟩, _⟩ := h0
  refine pq_move h [it, L] (fun b o hb e => hc.2.2.2 b o (fun z => hb (by simp [z])) (fun z => hb (by simp [z])) e) (fun b hb => ?_) hcs (fun p hp => ⟨hc.2.2.2 p.1 p.2 (z4 p hp) (hL.2.2 p hp) (hpn p hp).1, p, hp, rfl⟩) hc.2.1 (by rw [hc.1]; exact bare)
  have e : b = it ∨ b = L := by simpa using hb
  rcases e with e | e
  · rw [e]; exact ⟨z1, z2, .inl rfl⟩
  · rw [e]; exact ⟨hL.1, hL.2.1, .inr (.inl rfl)⟩
theorem pq_gens {i j : Nat} {G : Array GenState} (h : PQ tr P w K outer H sc pn L a g M items it F us i s) (hG : AllBare G) : PQ tr P w K outer H sc pn L a g M items it F us j { s with gens := G } := by
  obtain ⟨H', xs, ⟨os, bare, un, hok⟩, h2⟩ := h
  exact ⟨H', xs, ⟨os, hG, un, hok⟩, h2⟩

/-! ### list(g) -/
def LPhi (tr : Bool) (P : Program) (w : World) (K : PySem.W.Frag) (outer : List Env) (H : Hp) (sc : Shared) (S L a g : Nat) (M : Msk) (items : List PD) (it F : Addr) (us : List Value) (j : Nat) (s : Shared) : Prop :=
  ∃ c, PQ tr P w K outer H sc [(S, lstObj (us.take j).toArray c)] L a g M items it F us j s
theorem push_step {S : Addr} {j c : Nat} {v : Value} {G : Array GenState} {tk : Nat} (h : PQ tr P w K outer H sc [(S, lstObj (us.take j).toArray c)] L a g M items it F us j s) (hG : GR L it F us (j + 1) s.heap) (hv : us[j]? = some v) (hSa : S ≠ a) (hSL : S ≠ L) (hSs : sc.heap.objs.size ≤ S) (hcs : cStatics < sc.heap.objs.size) (hB : AllBare G) :
    GR L it F us (j + 1) (s.heap.update S (Obj.mapSeq (·.push v))) ∧ LPhi tr P w K outer H sc S L a g M items it F us (j + 1) { s with heap := s.heap.update S (Obj.mapSeq (·.push v)), gens := G, toks := tk } := by
  obtain ⟨H', xs, _, ⟨hpn, _⟩, ⟨z1, z2, z3, z4⟩, _⟩ := id h
  have hS := (hpn (S, lstObj (us.take j).toArray c) (List.mem_singleton.mpr rfl)).1
  have hSit : S ≠ it := z4 (S, lstObj (us.take j).toArray c) (List.mem_singleton.mpr rfl)
  have hjl : j < us.length := (List.getElem?_eq_some_iff.mp hv).1
  have hSF : S ≠ F := fun e => by
    obtain ⟨o, h1, _, n, h2⟩ := hG.ls
    rw [← e] at h1
    have h3 := hS.symm.trans h1
    cases h3
    have h4 : (us.take j).toArray = us.toArray := (Data.seq.inj h2).1
    have h5 := congrArg Array.size h4
    simp at h5
    omega
  have kp : ∀ b o, b ≠ S → s.heap.get? b = some o → (s.heap.update S (Obj.mapSeq (·.push v))).get? b = some o := fun b o hb e => (Heap.get?_update_other _ _ (Ne.symm hb)).trans e
  refine ⟨⟨?_, hG.it.at fun o e => kp it o (Ne.symm hSit) e, hG.ls.at fun o e => kp F o (Ne.symm hSF) e⟩, ?_⟩
  · obtain ⟨m, hm⟩ := hG.ns
    exact ⟨m, hm.at' fun o e => kp L o (Ne.symm hSL) e⟩
  · have hS' := Heap.get?_update_self (Obj.mapSeq (·.push v)) hS rfl
    have ea : (us.take j).toArray.push v = (us.take (j + 1)).toArray := by
      rw [List.take_add_one, hv]
      simp
    obtain ⟨c', hc'⟩ : ∃ c', Obj.mapSeq (·.push v) (lstObj (us.take j).toArray c) = lstObj ((us.take j).toArray.push v) c' := ⟨_, rfl⟩
    rw [hc', ea] at hS'
    refine ⟨c', pq_move h [S] (fun b o hb e => kp b o (by simpa using hb) e) (fun b hb => ?_) hcs (fun p' hp' => ?_) rfl hB⟩
    · rw [List.mem_singleton.mp hb]
      exact ⟨hSs, hSa, .inr (.inr ⟨_, List.mem_singleton.mpr rfl, rfl⟩)⟩
    · rw [List.mem_singleton.mp hp']
      exact ⟨hS', _, List.mem_singleton.mpr rfl, rfl⟩
theorem drainO {A : Around} {R : Result → Shared → Prop} {S : Addr} {res : Value} (hh : A.handled = none) (hd : A.depth < recursionLimit) (hSa : S ≠ a) (hSL : S ≠ L) (hSs : sc.heap.objs.size ≤ S) (hcs : cStatics < sc.heap.objs.size) (hL : sc.heap.objs.size ≤ L ∧ L ≠ a) (hN : items.length ≤ sizeLine)
    (c₀ : Nat) (hend : ∀ s' it F us c, us.length = items.length → PQ tr P w K outer H sc [(S, lstObj us.toArray c)] L a g M items it F us 0 s' → R (.ok (.ret res)) s') :
    ∀ (r j : Nat) (s : Shared), j + r = items.length → s.heap.IsGen a g → s.heap.NoLimit → 
      (∃ gs, s.gens[g]? = some gs ∧ gs.Goes (model P w) A.in1.in1 (RO items.length L (PQ tr P w K outer H sc [(S, lstObj #[] c₀)] L a g M items) (LPhi tr P w K outer H sc S L a g M items)) (YO items.length L (PQ tr P w K outer H sc [(S, lstObj #[] c₀)] L a g M items) (LPhi tr P w K outer H sc S L a g M items)) (r + 1) (.send .none) (s.setGen g .running)) →
      codeAny (model P w) A (.builtin "list.extend.loop" ⟨[.ref S, .ref a, res], []⟩) R s := by
  have ground : ∀ {it F : Addr} {us : List Value} {j : Nat} {s₀ sB s1 : Shared}, Bas items.length (PQ tr P w K outer H sc [(S, lstObj #[] c₀)] L a g M items) (LPhi tr P w K outer H sc S L a g M items) it F us j s₀ sB → Ch it L sB s1 → ∃ c, PQ tr P w K outer H sc [(S, lstObj (us.take j).toArray c)] L a g M items it F us j s1 := by
    intro it F us j s₀ sB s1 hB hC
    have hL3 : ∀ o : Obj, sc.heap.objs.size ≤ L ∧ L ≠ a ∧ ∀ p ∈ [(S, o)], p.1 ≠ L := fun o => ⟨hL.1, hL.2, fun p hp => by rw [List.mem_singleton.mp hp]; exact hSL⟩
    rcases hB with ⟨rfl, hP⟩ | ⟨_, ⟨c, hP⟩, rfl⟩
    · exact ⟨c₀, pq_ch hP hC hcs (hL3 _)⟩
    · exact ⟨c, pq_ch hP hC hcs (hL3 _)⟩
  intro r
  induction r with
  | zero =>
    intro j s hj hg hl ⟨gs, hgs, hgo⟩
    refine codeAny_builtin F.entry_extend_loop ?_
    rw [Around.under_plainId F.plain_extend_loop _]
    show wpAny _ A.in1 (pyNext (.ref a) >>= _) _ _ s
    refine wpAny_bind (next_genG (A := A.in1) (F := FO items.length L (PQ tr P w K outer H sc [(S, lstObj #[] c₀)] L a g M items) (LPhi tr P w K outer H sc S L a g M items)) (Er := fun _ _ => False) hh hl hd hg hgs hgo (fun v s₁ gs' hbare hv => ?_) (fun s₁ hp h' hk => ?_) fun e s₁ he => he.elim)
    · obtain ⟨it, F, us, j', sB, hj', hlen, hvj, hG, hB, hC, hkap⟩ := hv
      have := (List.getElem?_eq_some_iff.mp hvj).1
      omega
    · obtain ⟨_, it, F, us, sB, hlen, hB, hC⟩ := hp
      obtain ⟨c, hP⟩ := ground hB hC
      obtain ⟨_, _, ⟨_, bare1, _⟩, ⟨hpn, _⟩, _⟩ := id hP
      rw [← hlen, List.take_length] at hP
      refine wpAny_pure (hend _ it F us c hlen ?_)
      refine pq_move hP [] (fun b o _ e => hk b o e) (fun b hb => by simp at hb) hcs (fun p' hp' => ?_) rfl (allBare_setGen bare1 rfl)
      rw [List.mem_singleton.mp hp']
      obtain ⟨_, _, _, ⟨hpn', _⟩, _⟩ := id hP
      exact ⟨hk _ _ (hpn' _ (List.mem_singleton.mpr rfl)).1, _, List.mem_singleton.mpr rfl, rfl⟩
  | succ r ih =>
    intro j s hj hg hl ⟨gs, hgs, hgo⟩
    have hgl : g < s.gens.size := (Array.getElem?_eq_some_iff.mp hgs).1
    refine codeAny_builtin F.entry_extend_loop ?_
    rw [Around.under_plainId F.plain_extend_loop _]
    show wpAny _ A.in1 (pyNext (.ref a) >>= _) _ _ s
    refine wpAny_bind (wpAny_gsz (n := g + 1) hgl (next_genG (A := A.in1) (F := FO items.length L (PQ tr P w K outer H sc [(S, lstObj #[] c₀)] L a g M items) (LPhi tr P w K outer H sc S L a g M items)) (Er := fun _ _ => False) hh hl hd hg hgs hgo (fun v s₁ gs' hbare hv => ?_) (fun s₁ hp h' hk => ?_) fun e s₁ he => he.elim))
    · intro hsz
      obtain ⟨it, F, us, j', sB, hj', hlen, hvj, hG, hB, hC, hkap⟩ := hv
      have ej : j' = j := by omega
      subst ej
      obtain ⟨c, hP⟩ := ground hB hC
      obtain ⟨_, _, ⟨_, bare1, _⟩, ⟨hpn, hg1, hl1, _⟩, _⟩ := id hP
      have hS1 := (hpn _ (List.mem_singleton.mpr rfl)).1
      have hjl : j' < us.length := (List.getElem?_eq_some_iff.mp hvj).1
      show wpAny _ A.in1 (updateSeq S (·.push v) >>= _) _ _ _
      refine wpAny_bind ?_
      have hsl : (us.take j').toArray.size = j' := by simp; omega
      refine wpAny_updateSeq hS1 rfl (wpAny_pure ⟨plainId_quiet PySem.F.plain_extend_loop _, ?_⟩) (by omega) (by show ((us.take j').toArray.push v).size ≤ sizeLine + 1; rw [Array.size_push]; omega)
      have hsz1 : g < s₁.gens.size := by
        have q : (s₁.setGen g gs').gens.size = s₁.gens.size := setGen_size _ _ _
        have hsz' : g + 1 ≤ (s₁.setGen g gs').gens.size := hsz
        omega
      have bare2 : AllBare ({ s₁.setGen g gs' with heap := s₁.heap.update S (Obj.mapSeq (·.push v)) } : Shared).gens := allBare_setGen bare1 hbare
      obtain ⟨q1, q2⟩ := push_step (G := (({ s₁.setGen g gs' with heap := s₁.heap.update S (Obj.mapSeq (·.push v)) } : Shared).setGen g .running).gens) (tk := s₁.toks) hP hG hvj hSa hSL hSs hcs (allBare_setGen bare2 rfl)
      obtain ⟨_, _, _, _, ⟨_, hg2, hl2, _⟩, _⟩ := id q2
      refine ih (j' + 1) { s₁.setGen g gs' with heap := s₁.heap.update S (Obj.mapSeq (·.push v)) } (by omega) hg2 hl2 ⟨gs', setGen_at hsz1, ?_⟩
      exact hkap (({ s₁.setGen g gs' with heap := s₁.heap.update S (Obj.mapSeq (·.push v)) } : Shared).setGen g .running) q1 q2
    · intro hsz
      have := hp.1
      omega

end
theorem call_listO {P : Program} {w : World} {K : PySem.W.Frag} {outer : List Env} {H : Hp} {sc s : Shared} {M : Msk} {items : List PD} {A : Around} {k : Nat} {u : Value} {Q' : Value → Shared → Prop} {E : Value → Shared → Prop}
    (hr : Room (k + 3) A) (hfr : A.frames = some outer) (h : GMd tr P w K k outer H sc M items u s) (hN : items.length ≤ sizeLine) (hcs : cStatics < sc.heap.objs.size)
    (hQ : ∀ S s' it F us c L a g, sc.heap.objs.size ≤ S → us.length = items.length → PQ tr P w K outer H sc [(S, lstObj us.toArray c)] L a g M items it F us 0 s' → Q' (.ref S) s') :
    wpAny (model P w) A (call (.type "list") [u]) Q' E s := by
  obtain ⟨a, g, L, c, rfl, ⟨ha1, ha2⟩, ⟨hL1, hL2, hL3⟩, hg, hgs, hos, hb, hl, hkp, wake⟩ := h
  have hSa : s.heap.objs.size ≠ a := Nat.ne_of_gt ha2
  have hSL : s.heap.objs.size ≠ L := Nat.ne_of_gt hL2
  refine callType_codes (Q₁ := fun obj s₁ => obj = .ref s.heap.objs.size ∧ s₁ = { s with heap := s.heap.push { cls := .type "list", data := .seq #[] } }) F.called_list (F.typeCall_list_1 _) F.entry_list_init
    (code_list_new _ ⟨rfl, rfl⟩) fun obj s₁ h₁ => ?_
  obtain ⟨rfl, rfl⟩ := h₁
  have hS : (s.heap.push { cls := .type "list", data := .seq #[] }).get? s.heap.objs.size = some { cls := .type "list", data := .seq #[] } := Heap.get?_push_size _ rfl
  refine ⟨⟨_, hS, rfl⟩, F.args_list_init_2 _ _, ?_⟩
  show wpAny _ A.in1.in1 (do let old ← Builtin.List.listItems (.ref s.heap.objs.size); Builtin.List.listUpdate (.ref s.heap.objs.size) (fun _ => #[]); letGo old.toList.reverse; Builtin.List.listExtendWith (.ref s.heap.objs.size) (.ref a) .none) _ _ _
  refine wpAny_bind ?_
  unfold Builtin.List.listItems
  refine wpAny_bind (wpAny_seqItems hS rfl (wpAny_pure ?_))
  show wpAny _ A.in1.in1 (updateSeq s.heap.objs.size (fun _ => #[]) >>= fun _ => letGo (#[] : Array Value).toList.reverse >>= fun _ => Builtin.List.listExtendWith (.ref s.heap.objs.size) (.ref a) .none) _ _ _
  refine wpAny_bind (wpAny_updateSeq hS rfl ?_)
  have hS2 := Heap.get?_update_self (Obj.mapSeq (fun _ => (#[] : Array Value))) hS rfl
  refine wpAny_bind (wpAny_letGo ?_)
  unfold Builtin.List.listExtendWith
  have up : ∀ (h : Heap) (f : Obj → Obj), (∀ b o, s.heap.get? b = some o → h.get? b = some o) → ∀ b o, s.heap.get? b = some o → (h.update s.heap.objs.size f).get? b = some o := fun h f q b o e =>
    (Heap.get?_update_other _ _ (Ne.symm (Nat.ne_of_lt (Heap.lt_size e)))).trans (q b o e)
  have k1 : ∀ b o, s.heap.get? b = some o → (s.heap.push { cls := .type "list", data := .seq #[] }).get? b = some o := fun b o e => Heap.get?_push_of_some _ e
  have k2 := up _ (Obj.mapSeq (fun _ => (#[] : Array Value))) k1
  have gty : ∀ {h : Heap}, (∀ b o, s.heap.get? b = some o → h.get? b = some o) → h.IsGen a g := fun {h} q => hg.keeps q
  refine wpAny_bind (wpAny_typeOf (Heap.IsGen.typeIs (s := { s with heap := _ }) (gty k2)) ?_)
  have h1 : Builtin.List.listSameRef (.ref s.heap.objs.size) (.ref a) = false := by simp [Builtin.List.listSameRef, hSa]
  have h2 : (Value.type "generator" == Value.type "list") = false := by decide
  have h3 : (Value.type "generator" == Value.type "tuple") = false := by decide
  simp only [h1, h2, h3, Bool.or_false, Bool.false_eq_true, if_false]
  refine wpAny_bind (wpAny_pyIter_gen (s := { s with heap := _ }) (gty k2) ?_)
  refine wpAny_bind (wpAny_holding ?_)
  unfold Builtin.List.listLengthHint
  refine wpAny_bind (wpAny_specialOf (Heap.IsGen.typeIs (s := { s with heap := _ }) (gty k2)) F.gen_no_len ?_)
  show wpAny _ A.in1.in1 (specialOf (Value.ref a) (Str.ofString "__length_hint__") >>= _) _ _ _
  refine wpAny_bind (wpAny_specialOf (Heap.IsGen.typeIs (s := { s with heap := _ }) (gty k2)) F.gen_no_hint ?_)
  refine wpAny_pure ?_
  show wpAny _ A.in1.in1 (rule "list.extend.makes-room" >>= fun _ => Builtin.List.listTouch (.ref s.heap.objs.size) >>= fun _ =>
    again (.builtin "list.extend.loop" ⟨[.ref s.heap.objs.size, .ref a, .none], []⟩)) _ _ _
  refine wpAny_bind (wpAny_rule ?_)
  refine wpAny_bind ?_
  show wpAny _ A.in1.in1 (updateSeq s.heap.objs.size (·.push .none) >>= fun _ => updateSeq s.heap.objs.size (·.pop)) _ _ _
  refine wpAny_bind (wpAny_updateSeq hS2 rfl ?_)
  have hS3 := Heap.get?_update_self (Obj.mapSeq (·.push Value.none)) hS2 rfl
  refine wpAny_updateSeq (hz := by seq_fits) hS3 rfl ?_
  have hS4 := Heap.get?_update_self (Obj.mapSeq (·.pop)) hS3 rfl
  have k4 := up _ (Obj.mapSeq (·.pop)) (up _ (Obj.mapSeq (·.push Value.none)) k2)
  obtain ⟨c₀, hc₀⟩ : ∃ c₀, Obj.mapSeq (·.pop) (Obj.mapSeq (·.push Value.none) (Obj.mapSeq (fun _ => (#[] : Array Value)) { cls := .type "list", data := .seq #[] })) = lstObj #[] c₀ := ⟨_, rfl⟩
  rw [hc₀] at hS4
  refine wpAny_pure ⟨plainId_quiet F.plain_extend_loop _, ?_⟩
  refine drainO (P := P) (w := w) (K := K) (outer := outer) (H := H) (sc := sc) (M := M) (items := items) (A := A.in1) (S := s.heap.objs.size) (L := L) (a := a) (g := g) hr.hd (by have := hr.dp; show A.depth < _; omega) hSa hSL (Nat.le_trans ha1 (Nat.le_of_lt ha2)) hcs ⟨hL1, hL3⟩ hN c₀
    (fun s' it F us c hlen hP => ⟨rfl, hQ _ s' it F us c L a g (Nat.le_trans ha1 (Nat.le_of_lt ha2)) hlen hP⟩)
    items.length 0 _ (Nat.zero_add _) (gty k4) (hl.keeps k4) ⟨_, hgs, rfl, ?_⟩
  refine wake _ _ _ _ ⟨hr.hd, ?_, ?_⟩ hfr k4 (fun p hp => ?_) hos (allBare_setGen (s := { s with heap := _ }) hb rfl)
  · have := hr.dp
    show A.depth + 3 * k + 5 < _
    omega
  · have := hr.un
    show A.units + 1 + 1 + 1 + 16 * k + 200 < _
    omega
  · rw [List.mem_singleton.mp hp]
    exact ⟨Nat.le_refl _, hS4, fun v q => by cases q⟩

/-! ### the expression list(f(..)), f a generator def -/
def eGen (n : Nat) (m : List D → Option (List PD)) (fs : Ev → Option (List D)) : Ev → Option D := fun ρ => match fs ρ with
  | none => none
  | some ds => if Nat.beq ds.length n = true then (match m ds with
    | none => none
    | some items => if few items = true then some (.p (.list items)) else none) else none
theorem egen_some {n : Nat} {m : List D → Option (List PD)} {fs : Ev → Option (List D)} {ρ : Ev} {d : D} (h : eGen n m fs ρ = some d) : ∃ ds items, fs ρ = some ds ∧ ds.length = n ∧ m ds = some items ∧ few items = true ∧ d = .p (.list items) := by
  unfold eGen at h
  cases q : fs ρ with
  | none => rw [q] at h; cases h
  | some ds =>
    rw [q] at h
    simp only at h
    by_cases q2 : Nat.beq ds.length n = true
    · rw [if_pos q2] at h
      cases q3 : m ds with
      | none => rw [q3] at h; cases h
      | some items =>
        rw [q3] at h
        simp only at h
        by_cases q4 : few items = true
        · rw [if_pos q4] at h
          cases h
          exact ⟨ds, items, rfl, Nat.eq_of_beq_eq_true q2, q3, q4, rfl⟩
        · rw [if_neg q4] at h; cases h
    · rw [if_neg q2] at h; cases h
section
variable {tr : Bool} {C : Addr} {X : Cx} {k n : Nat} {f : Addr} {fd : FuncData} {ps : List Str} {m : List D → Option (List PD)} {x nm : Str} {e : Expr} {es : List Expr} {fs : Ev → Option (List D)} {p p2 pos pos2 : Pos}
/-- the call of a generator def, its value still asleep -/
theorem run_gn {pins : List (Addr × Obj)} {σ : L2.St} {H : Hp} {s : Shared} {us : List Value} {vs : List V} {M : Msk} {ds : List D} {items : List PD} {E1 : Value → Shared → Prop} (F : GnOk tr X.prog X.w X.K X.mg X.base C k f fd ps n m) (hr : Room k X.A) (hb : L2.Binds X.K fd ps [])
    (I : Inv X pins σ H s) (r : Vals vs us) (hm : Hid M H) (rs : RpAll X.K C (hide M H) vs ds) (hn : ds.length = n) (h : m ds = some items) :
    wpAny (model X.prog X.w) X.A (call (.ref f) us) (fun u s' => GMd tr X.prog X.w X.K k X.stack H s M items u s') E1 s := by
  have hl : vs.length = n := rs.len.trans hn
  have hl2 : (us ++ []).length = ps.length := by rw [List.append_nil, ← r.length, hl]; exact F.len
  have hb' := hb s us I.kIn hl2
  rw [List.append_nil] at hb'
  refine wpAny_call (codeAny_mono (F.run X.A X.stack s H ⟨us, []⟩ us vs M ds items hr I.env0 hb' r hl hm rs h) fun r s' hq => ?_)
  cases r with
  | error e => exact False.elim hq
  | ok fl =>
    cases fl with
    | ret u => exact hq
    | next => exact False.elim hq
    | brk => exact False.elim hq
    | cont => exact False.elim hq
theorem cs_lt {pins : List (Addr × Obj)} {σ : L2.St} {H : Hp} {s : Shared} (I : Inv X pins σ H s) : cStatics < s.heap.objs.size := by
  obtain ⟨mc, hns, _⟩ := I.nolimit
  exact hns.lt
/-- back in the consumer's context -/
theorem inv_pq {pins pn : List (Addr × Obj)} {σ : L2.St} {H : Hp} {sc s : Shared} {L a g : Nat} {M : Msk} {items : List PD} {it F : Addr} {us : List Value} {i : Nat} (I : Inv X pins σ H sc) (h : PQ tr X.prog X.w X.K X.stack H sc pn L a g M items it F us i s) :
    ∃ H' xs, Inv X pins σ H' s ∧ (∀ p ∈ pn, s.heap.get? p.1 = some p.2 ∧ H' p.1 = none) ∧ H' L = none ∧ H' it = none ∧ H' a = none ∧ Same H H' ∧ SqL X.K (hide M H') F xs ∧ Vals xs us ∧ Its tr X.K (hide M H') xs items := by
  obtain ⟨H', xs, ⟨os, bare, un, hok⟩, ⟨hpn, hg, hlim, na, nL, nit⟩, _, sm, hF, rv, hx⟩ := h
  exact ⟨H', xs, I.call' (ch := []) os un hok bare fun b z => by simp at z, hpn, nL, nit, na, sm, hF, rv, hx⟩
theorem de_gen (F : GnOk tr X.prog X.w X.K X.mg X.base C k f fd ps n m) (hr : Room (k + 3) X.A) (hg : Gl X x) (hm : X.mg x = some (.ref f)) (hk : PySem.W.keepIn X.K (.ref f) = true) (hb : L2.Binds X.K fd ps []) (hgl : Gl X "list") (hml : X.mg "list" = none)
    (ha : DA C X (e :: es) fs) (hdb : (x == ("__debug__" : Str)) = false := by decide) (he : starEach (e :: es) X.env = (false, eval e X.env) :: starEach es X.env := by rfl) (hpl : (backTo pos (starEach es X.env)).any (·.1) = false := by rfl)
    (he2 : starEach [.Call (.Name x p) (e :: es) [] pos] X.env = (false, eval (.Call (.Name x p) (e :: es) [] pos) X.env) :: starEach [] X.env := by rfl) :
    DE C X (.Call (.Name "list" p2) [.Call (.Name x p) (e :: es) [] pos] [] pos2) (eGen n m fs) := by
  refine ⟨⟨fun pins s σ H Q I q => ?_⟩⟩
  obtain ⟨M, ρ, d, hmk, hrr, hf, kq⟩ := q
  obtain ⟨ds, items, h1, h2, h3, h4, rfl⟩ := egen_some hf
  refine wpAny_Call_Name_kw (ld_blt I hgl hml boot_list ?_ (by decide) (by decide))
  refine PyProof.Rows.callWith_type1 ?_ he2 rfl
  rw [he2]
  show wpAny _ _ (spliced ((false, eval (.Call (.Name x p) (e :: es) [] pos) X.env) :: backTo pos2 (starEach [] X.env))) _ _ s
  have inner : wpAny (model X.prog X.w) X.A (eval (.Call (.Name x p) (e :: es) [] pos) X.env) (fun u s2 => ∃ H1 sc, Inv X pins σ H1 sc ∧ Same H H1 ∧ GMd tr X.prog X.w X.K k X.stack H1 sc M items u s2) X.xe s := by
    refine wpAny_Call_Name_kw (ld_glob I hg hm ?_ hdb)
    refine PySem.W.callWith_K (h₀ := X.base) I.ok.mod.kin hk (thn (ha.pa.run pos pins s σ H (fun vs H1 => Same H H1 ∧ RpAll X.K C (hide M H1) vs ds) I ⟨M, ρ, ds, hmk, hrr, h1, fun vs H1 s1 r1 => ⟨s1, r1⟩⟩) fun us s1 ⟨vs, H1, I1, r, sm, rs⟩ => ⟨I1.kIn, ?_⟩) he hpl
    exact wpAny_mono (run_gn F (hr.mono (by omega)) hb I1 r (hmk.mono sm) rs h2 h3) (fun u s2 hG => ⟨H1, s1, I1, sm, hG⟩) fun _ _ z => z
  refine Calls.spliced_cons (thn inner fun u s2 ⟨H1, sc, I1, sm, hG⟩ => ?_)
  refine Calls.spliced_nil ?_
  have hN : items.length ≤ sizeLine := Nat.le_of_lt (few_line h4)
  refine call_listO hr I1.ok.frames hG hN (cs_lt I1) fun S s' it F us c L a g hS hlen hP => ?_
  have hP0 := hP
  obtain ⟨H', xs, ⟨os, bare, un, hok⟩, ⟨hpn, _⟩, _, sm2, hF, rv, hx⟩ := hP
  obtain ⟨hSo, hSn⟩ := hpn _ (List.mem_singleton.mpr rfl)
  have hlx : xs.length ≤ sizeLine := by rw [DpAll_len hx.dp]; exact hN
  have I2 := I1.drained (out := xs) (ex := []) hS hlx hSo (by simpa using rv) ExOk.nil os bare un hok hSn
  have hm' := hmk.mono (sm.trans sm2)
  exact ⟨.ref S, _, I2, rfl, kq _ _ ((sm.trans sm2).trans (same_new hSn)) (new_lst hm' hSn hx.dp)⟩
end
end FF
/-! ## FR -/
namespace FF
open PySem PySem.Spec PyProof.Rows L2 GenW

/-! ### next of a generator that sleeps again -/
section
variable {M : Model}
theorem resumeS {A : Around} {R : GenEnd} {Y : Protocol} {n : Nat} {E : Value → Shared → Prop} {s : Shared} {g : Nat} {gs : GenState} {r : Resume} {l : List Value} {α : Type} {k : GenResult → Sem α} {Q : α → Shared → Prop} (hg : s.gens[g]? = some gs)
    (hgo : gs.Goes M A R Y n r (s.setGen g .running)) (hR : ∀ x s₁, R n (s.setGen g .running) x s₁ → wpAny M A (k (End.ret x).result) Q E (s₁.setGen g .finished))
    (hY : ∀ v s₁ gs', gs'.bare = true → sleeps gs' = true → Y (n - 1) (s.setGen g .running) v s₁ (fun r' s'' => match (generalizing := false) n with | 0 => False | m + 1 => gs'.Goes M A R Y m r' s'') → wpAny M A (k (.yielded v)) Q E (s₁.setGen g gs')) :
    wpAny M A (.resume g r l k) Q E s := by
  intro Γ p hΓ
  rw [Sem.wp_resume]
  have hB : ∀ c, (Γ.wake c p).Woken A := fun c => hΓ.wake c p
  have fin : ∀ e₁ s₁, SegEnd R Y n (Seg.next M A R Y n) (s.setGen g .running) e₁ s₁ → Sem.wp M Γ (k e₁.result) (fun a _ s' => Q a s') (fun e _ s' => E e s') p (s₁.setGen g e₁.genState) := by
    intro e₁ s₁ he
    cases e₁ with
    | ret x => exact hR x s₁ he Γ p hΓ
    | susp v g₀ l₀ k₀ c₀ p₀ fs₀ =>
      refine hY v s₁ _ (End.bare_of_quiet he.1) rfl ?_ Γ p hΓ
      cases n with
      | zero => exact he.2
      | succ m => exact he.2
  have hqt : ∀ e₁ s₁, SegEnd R Y n (Seg.next M A R Y n) (s.setGen g .running) e₁ s₁ → e₁.quiet = true := by
    intro e₁ s₁ he
    cases e₁ with
    | ret x => rfl
    | susp v g₀ l₀ k₀ c₀ p₀ fs₀ => exact he.1
  cases gs with
  | fresh c =>
    obtain ⟨rfl, hs⟩ := hgo
    obtain ⟨e₁, s₁, hr, he⟩ := seg_iff.mp hs (Γ.wake c p) p rfl (hB c)
    exact ⟨_, _, by unfold Wakes; rw [hg]; exact ⟨e₁, s₁, hr, hqt e₁ s₁ he, rfl, rfl⟩, fin e₁ s₁ he⟩
  | suspended k₀ l₀ c₀ p₀ fs₀ cl =>
    obtain ⟨e₁, s₁, hr, he⟩ := seg_iff.mp hgo (Γ.wake c₀ p) p₀ rfl (hB c₀)
    exact ⟨_, _, by unfold Wakes; rw [hg]; exact ⟨e₁, s₁, hr, hqt e₁ s₁ he, rfl, rfl⟩, fin e₁ s₁ he⟩
  | running => exact hgo.elim
  | finished => exact hgo.elim
end
section
variable {P : Program} {w : World} {A : Around} {E : Value → Shared → Prop} {s : Shared}
theorem next_genS {a : Addr} {g n : Nat} {gs : GenState} {F : Nat → Shared → Shared → Prop} {Y : Protocol} {Q : Option Value → Shared → Prop} (hh : A.handled = none)
    (hl : s.heap.NoLimit) (hroom : A.depth < recursionLimit) (hg : s.heap.IsGen a g) (hgs : s.gens[g]? = some gs)
    (hgo : gs.Goes (model P w) A.in1 (fun n s₀ r s₁ => ((r = .ok (.ret .none) ∨ r = .ok .next) ∧ F n s₀ s₁) ∨ ∃ e, r = .error e ∧ False) Y n (.send .none) (s.setGen g .running))
    (hY : ∀ v s₁ gs', gs'.bare = true → sleeps gs' = true → Y (n - 1) (s.setGen g .running) v s₁ (fun r' s'' => match (generalizing := false) n with
        | 0 => False
        | m + 1 => gs'.Goes (model P w) A.in1 (fun n s₀ r s₁ => ((r = .ok (.ret .none) ∨ r = .ok .next) ∧ F n s₀ s₁) ∨ ∃ e, r = .error e ∧ False) Y m r' s'') → Q (some v) (s₁.setGen g gs'))
    (hP : ∀ s₁, F n (s.setGen g .running) s₁ → ∀ h', (∀ b o, s₁.heap.get? b = some o → h'.get? b = some o) → Q none { s₁.setGen g .finished with heap := h' }) :
    wpAny (model P w) A (pyNext (.ref a)) Q E s := by
  unfold pyNext
  refine wpAny_bind (wpAny_attempt (wpAny_callSpecial?_slot (name := Str.ofString "__next__") hg.typeIs slot_gen_next
    (wpAny_call_entry slot_gen_next hg.typeIs entry_gen_next ?_ (args_gen_next _))))
  show wpAny _ A.in1 (Builtin.Generator.genWake (.ref a) (.send .none)) _ _ s
  unfold Builtin.Generator.genWake
  refine wpAny_bind (wpAny_holding (wpAny_genNumber hg (wpAny_bind (wpAny_genState hgs ?_))))
  cases gs with
  | running => exact hgo.elim
  | finished => exact hgo.elim
  | _ =>
    refine wpAny_bind (wpAny_roomToWake hl hroom ?_)
    show wpAny _ A.in1 (.resume g (.send .none) [] _) _ _ s
    refine resumeS hgs hgo (fun x s₁ hx => ?_) (fun v s₁ gs' hb hsl hv => ?_)
    · rcases hx with ⟨hr, hp⟩ | ⟨e, _, he⟩
      · have hres : End.result (.ret x) = .returned .none := by
          rcases hr with hr | hr <;> rw [hr] <;> rfl
        first | rw [hres] | simp only [hres]
        show wpAny _ A.in1 (newExc (.type "StopIteration") [] >>= _) _ _ _
        refine wpAny_bind ?_
        simp only [newExc, newTuple]
        refine wpAny_bind (wpAny_newObj_type ?_ (by size_fits))
        refine wpAny_bind (m := firstArgMember _ _) (wpAny_of_eq (a := Value.none) (by first | rfl | (simp only [firstArgMember]; rfl)) ?_)
        refine wpAny_newObj_type ?_ (by size_fits)
        simp only [raiseNew]
        refine wpAny_bind (wpAny_bind (wpAny_handled ?_))
        first | rw [show A.in1.handled = none from hh] | rw [hh]
        refine wpAny_throw ?_
        refine wpAny_bind (wpAny_isInstance (T := "StopIteration") (b := true) ⟨_, Heap.get?_push_size _ rfl, rfl⟩ isSubtype_stop ?_)
        exact wpAny_pure (hP s₁ hp _ fun b o hb => Heap.get?_push_of_some _ (Heap.get?_push_of_some _ hb))
      · exact he.elim
    · exact wpAny_pure ⟨v, rfl, wpAny_pure (hY v s₁ gs' hb hsl hv)⟩
end

/-! ### what sleeps stays asleep -/
theorem bare_dumb (x : GenState) : (dumb x).bare = x.bare := by cases x <;> rfl
def sleeper (G : Array GenState) (i : Nat) : Option GenState := match G[i]? with
  | some y => if sleeps y = true then some y else none
  | none => none
theorem zg_dumb (G : Array GenState) : Zg (sleeper G) (G.map dumb) G where
  size := by simp
  slp := fun i y e => by
    unfold sleeper at e
    cases q : G[i]? with
    | none => rw [q] at e; cases e
    | some x =>
      rw [q] at e
      simp only at e
      by_cases hs : sleeps x = true
      · rw [if_pos hs] at e
        cases e
        exact ⟨hs, rfl, by rw [Array.getElem?_map, q]; rfl⟩
      · rw [if_neg hs] at e; cases e
  awk := fun i e => by
    unfold sleeper at e
    rw [Array.getElem?_map]
    cases q : G[i]? with
    | none => exact ⟨rfl, fun x h => by cases h⟩
    | some x =>
      rw [q] at e
      simp only at e
      by_cases hs : sleeps x = true
      · rw [if_pos hs] at e; cases e
      · have ed : dumb x = x := by cases x <;> first | rfl | exact absurd rfl hs
        refine ⟨by rw [← ed]; simp [ed], fun y h => ?_⟩
        have h' : dumb x = y := Option.some.inj h
        rw [ed] at h'
        rw [← h']
        cases x <;> first | trivial | exact absurd rfl hs
theorem asleep {α : Type} {M : Model} {A : Around} {t : Sem α} {Q : α → Shared → Prop} {E : Value → Shared → Prop} {s : Shared} (hb : AllBare s.gens) (h : ∀ G, AllBare G → wpAny M A t Q (fun _ _ => False) { s with gens := G }) :
    wpAny M A t (fun a s' => ∃ s0 G, Q a s0 ∧ s' = { s0 with gens := G } ∧ (AllBare s0.gens → AllBare G) ∧ ∀ (i : Nat) (y : GenState), s.gens[i]? = some y → sleeps y = true → G[i]? = some y) E s := by
  have hbd : AllBare (s.gens.map dumb) := fun y hy => by
    obtain ⟨x, hx, rfl⟩ := Array.mem_map.mp hy
    rw [bare_dumb]
    exact hb x hx
  refine wpAny_mono (wpAny_z (s := { s with gens := s.gens.map dumb }) (G := s.gens) (zg_dumb s.gens) (h _ hbd)) (fun a s' hs => ?_) fun e s' hs => ?_
  · obtain ⟨s0, G, q, rfl, z⟩ := hs
    refine ⟨s0, G, q, rfl, fun h0 y hy => ?_, fun i y hi hs => ?_⟩
    · obtain ⟨i, hi, e⟩ := Array.mem_iff_getElem.mp hy
      have ei : G[i]? = some y := by rw [Array.getElem?_eq_getElem hi, e]
      cases q : sleeper s.gens i with
      | none =>
        rw [(z.awk i q).1] at ei
        exact h0 y (Array.mem_of_getElem? ei)
      | some x =>
        obtain ⟨_, h1, h2⟩ := z.slp i x q
        rw [h1] at ei
        cases ei
        rw [← bare_dumb]
        exact h0 _ (Array.mem_of_getElem? h2)
    · have e : sleeper s.gens i = some y := by
        unfold sleeper
        rw [hi]
        exact if_pos hs
      exact (z.slp i y e).2.1
  · obtain ⟨s0, G, q, _⟩ := hs
    exact q.elim
section
variable {X : Cx} {pins : List (Addr × Obj)} {σ : L2.St} {H : Hp} {s : Shared}
theorem inv_gens {G : Array GenState} (I : Inv X pins σ H s) (hG : AllBare G) : Inv X pins σ H { s with gens := G } :=
  I.call' (s' := { s with gens := G }) (ch := []) rfl Un.refl I.hok hG fun b z => by simp at z

/-! ### the block of a comprehension that has begun before -/
theorem block_at {σ0 : L2.St} {H0 : Hp} {sc : Shared} {scope : Scope} {own : List (Str × Nat)} {Lc : Addr} (I0 : Inv X pins σ0 H0 sc) (I : Inv X pins σ H s) (un : Un (frs X.stack) [] H0 H sc.heap s.heap) (os : s.os = sc.os) (ok : BlkOk X.N X.env.scope scope own) (hN : X.N.Nodup)
    (hL : sc.heap.objs.size ≤ Lc) (hns : s.heap.Ns Lc fun _ => none) (hH : H Lc = none) (hnc : ∀ y ∈ scope.names, y.2 ≠ .cell) :
    Inv (X.blk sc H0 scope (compEnvC scope (cloFrom X.env.cells scope.names []) Lc X.env) []) [] (wipe σ (own.map (·.2))) H s := by
  have hfree : ∀ y ∈ scope.names, y.2 = .free → ∃ c, X.env.cells.lookup y.1 = some c := fun y hy e => by
    rcases ok.free y hy e with k | k
    · exact I.ok.has _ (.inl k)
    · exact I.ok.has _ (.inr k)
  generalize hcenv : compEnvC scope (cloFrom X.env.cells scope.names []) Lc X.env = cenv
  have hL' : cenv.locals = Lc := by rw [← hcenv]; rfl
  have hcl : cenv.cells = cloFrom X.env.cells scope.names [] := by rw [← hcenv]; rfl
  have hsc : cenv.scope = relS scope X.env.scope := by rw [← hcenv]; rfl
  have cm : ∀ {y c}, (y, c) ∈ cloFrom X.env.cells scope.names [] → X.env.cells.lookup y = some c := fun {y c} hm => by
    rcases cloFrom_mem hm with hm | ⟨h1, rfl⟩
    · cases hm
    · obtain ⟨c, hc⟩ := hfree _ h1 rfl
      rw [hc]
      rfl
  have mem : ∀ {y c}, cenv.cells.lookup y = some c → X.env.cells.lookup y = some c := fun {y c} e => by
    rw [hcl] at e
    exact cm (PySem.mem_of_lookup e)
  have look : ∀ {y}, scope.names.lookup y = some .free → ∃ c, cenv.cells.lookup y = some c ∧ X.env.cells.lookup y = some c := fun {y} hl => by
    have hy : (y, NameKind.free) ∈ scope.names := PySem.mem_of_lookup hl
    obtain ⟨c', e'⟩ := mem_lookup (cloFrom_has (cells := X.env.cells) (acc := []) hy)
    rw [← hcl] at e'
    exact ⟨c', e', mem e'⟩
  have fsx : ∀ b ∈ frs X.stack, b < sc.heap.objs.size := fun b hb => by
    obtain ⟨_, o, ho, _⟩ := I0.stack.mem hb
    exact Heap.lt_size ho
  have okB : (X.blk sc H0 scope cenv []).Ok := by
    refine ⟨I.ok.mod, by show cenv.scope.kind = _; rw [hsc]; exact ok.kind, by show cenv.globals = _; rw [← hcenv]; exact I.ok.glob, by show cenv.builtins = _; rw [← hcenv]; exact I.ok.blt, by show sc.heap.objs.size ≤ cenv.locals; rw [hL']; exact hL,
      fun y z c e1 e2 => I.ok.inj y z c (mem e1) (mem e2), fun y hy => ?_, fun y c z e => ?_, I.ok.hd, I.ok.frames, .inl rfl, fun b hb => (by cases hb), I0.bs, Nat.le_trans I.ok.bsz I0.sz, fun b o e hb => (by cases hb), fun b hb => (by cases hb), I0.stack, I0.stkFree⟩
    · show ∃ c, cenv.cells.lookup y = some c
      have key : ∀ k, cenv.kindOf y = some k → (k = .cell ∨ k = .free) → ∃ c, cenv.cells.lookup y = some c := fun k hk hk' => by
        unfold Env.kindOf at hk
        rw [hsc] at hk
        obtain ⟨k', e, r⟩ := lookup_relS hk
        have : k' = .cell ∨ k' = .free := by
          rcases r with rfl | ⟨rfl, _⟩
          · exact hk'
          · exact .inr rfl
        rcases this with rfl | rfl
        · exact absurd rfl (hnc _ (PySem.mem_of_lookup e))
        · obtain ⟨c, h1, _⟩ := look e
          exact ⟨c, h1⟩
      rcases hy with hy | hy
      · exact key _ hy (.inl rfl)
      · exact key _ hy (.inr rfl)
    · have z : (scope.names.lookup y == some NameKind.cell) = true := z
      have z : scope.names.lookup y = some .cell := by simpa using z
      exact absurd rfl (hnc _ (PySem.mem_of_lookup z))
  refine ⟨okB, os, I.bare, un, ⟨fun _ => none, ?_, fun i y av e1 e2 e3 => ?_⟩, fun y c e => I.cell y c (mem e), ?_, fun y c e => I.freeC y c (mem e), fun p hp => ?_, I.hok, by rw [wipe_length]; exact I.len⟩
  · show Heap.Ns _ cenv.locals _
    rw [hL']
    exact hns
  · obtain ⟨e2, hne⟩ := wipe_some e2
    have hfr : scope.names.lookup y = some .free ∧ (cenv.kindOf y = some .cell ∨ cenv.kindOf y = some .free) := by
      have key : ∀ k, cenv.scope.names.lookup y = some k → k = .local ∨ k = .cell ∨ k = .free → scope.names.lookup y = some .free ∧ (cenv.kindOf y = some .cell ∨ cenv.kindOf y = some .free) := fun k hk hk' => by
        have hk0 := hk
        rw [hsc] at hk
        obtain ⟨k', e, r⟩ := lookup_relS hk
        have no : ¬ (k' = .local ∨ k' = .cell) := fun hh => by
          rcases ok.own _ (PySem.mem_of_lookup e) hh with e' | e'
          · obtain ⟨p, hp, hpy⟩ := List.mem_map.mp e'
            have e3 := ok.ix p hp
            have : p.1 = y := hpy
            rw [this] at e3
            exact hne (List.mem_map.mpr ⟨p, hp, nodup_ix hN e3 e1⟩)
          · exact e' (List.mem_of_getElem? e1)
        rcases r with rfl | ⟨rfl, rfl⟩
        · rcases hk' with rfl | rfl | rfl
          · exact absurd (.inl rfl) no
          · exact absurd (.inr rfl) no
          · exact ⟨e, .inr hk0⟩
        · exact ⟨e, .inl hk0⟩
      have e3 : Vis cenv.scope y := e3
      rcases e3 with e3 | e3 | e3
      · exact key _ e3 (.inl rfl)
      · exact key _ e3 (.inr (.inl rfl))
      · exact key _ e3 (.inr (.inr rfl))
    obtain ⟨m, hn, hl⟩ := I.loc
    have hvis : Vis X.env.scope y := (ok.free _ (PySem.mem_of_lookup hfr.1) rfl).elim (fun k => .inr (.inl k)) (fun k => .inr (.inr k))
    obtain ⟨w, r, q⟩ := hl i y av e1 e2 hvis
    refine ⟨w, r, .inr ⟨hfr.2, ?_⟩⟩
    obtain ⟨c, h1, h2⟩ := look hfr.1
    rcases q with ⟨k, _⟩ | ⟨_, c', e', z⟩
    · have k : X.env.scope.names.lookup y = some .local := k
      rcases ok.free _ (PySem.mem_of_lookup hfr.1) rfl with k' | k' <;> rw [show X.env.scope.names.lookup y = _ from k'] at k <;> cases k
    · rw [h2] at e'; cases e'
      exact ⟨c, h1, z⟩
  · show H cenv.locals = none
    rw [hL']; exact hH
  · exact absurd (show p ∈ ([] : List (Addr × Obj)) ++ [] from hp) (by simp)
end
end FF
/-! ## FS -/
namespace FF
open PySem PySem.Spec PyProof.Rows L2 GenW

theorem nocell_cells : ∀ (names : List (Str × NameKind)) (n : Nat) (acc : List (Str × Addr)), (∀ y ∈ names, y.2 ≠ .cell) → cellsFrom n names acc = acc
  | [], _, _, _ => rfl
  | (x, kd) :: r, n, acc, h => by
    have h1 : kd ≠ .cell := h (x, kd) List.mem_cons_self
    have h2 : (kd == NameKind.cell) = false := by cases kd <;> first | rfl | exact absurd rfl h1
    unfold cellsFrom
    rw [h2]
    exact nocell_cells r n acc fun y hy => h y (List.mem_cons_of_mem _ hy)
theorem nocell_push : ∀ (names : List (Str × NameKind)) (hp : Heap), (∀ y ∈ names, y.2 ≠ .cell) → pushCells hp names = hp
  | [], _, _ => rfl
  | (x, kd) :: r, hp, h => by
    have h1 : kd ≠ .cell := h (x, kd) List.mem_cons_self
    have h2 : (kd == NameKind.cell) = false := by cases kd <;> first | rfl | exact absurd rfl h1
    unfold pushCells
    rw [h2]
    exact nocell_push r hp fun y hy => h y (List.mem_cons_of_mem _ hy)
def allT : List PD → Bool
  | [] => true
  | .tuple _ :: r => allT r
  | _ => false
theorem refs_only {K : PySem.W.Frag} {H : Hp} : ∀ {l : List PD} {xs : List V} {us ws : List Value}, allT l = true → DpAll K H xs l → Vals xs us → Vals xs ws → us = ws
  | [], _, _, _, _, h, r1, r2 => by cases h; cases r1; cases r2; rfl
  | .tuple ds :: l, _, _, _, e, h, r1, r2 => by
    cases h with
    | cons h1 h2 =>
      cases h1
      cases r1 with
      | cons a1 b1 =>
        cases r2 with
        | cons a2 b2 =>
          have e1 : _ = Value.ref _ := a1
          have e2 : _ = Value.ref _ := a2
          rw [e1, e2, refs_only (l := l) e h2 b1 b2]
  | .none :: _, _, _, _, e, _, _, _ => by cases e
  | .bool _ :: _, _, _, _, e, _, _, _ => by cases e
  | .int _ :: _, _, _, _, e, _, _, _ => by cases e
  | .str _ :: _, _, _, _, e, _, _, _ => by cases e
  | .list _ :: _, _, _, _, e, _, _, _ => by cases e
  | .dict _ :: _, _, _, _, e, _, _, _ => by cases e
theorem refs_V {K : PySem.W.Frag} {H : Hp} : ∀ {l : List PD} {xs ys : List V} {us : List Value}, allT l = true → DpAll K H xs l → Vals xs us → us.length = l.length := fun {l xs ys us} _ h r => by rw [← r.length, DpAll_len h]
def lcGE (n : Nat) (m : List D → Option (List PD)) (fs : Ev → Option (List D)) (vs : List Nat) (g : D → Ev → Option Ev) (t : Ev → Option Bool) (e : Ev → Option D) : Ev → Option (List PD) := fun ρ => match fs ρ with
  | none => none
  | some ds => if Nat.beq ds.length n = true then (match m ds with
    | none => none
    | some items => if few items = true then (if allT items = true then lcD g t e (wipeD ρ vs) (pds items) else none) else none) else none
theorem lcge_some {n : Nat} {m : List D → Option (List PD)} {fs : Ev → Option (List D)} {vs : List Nat} {g : D → Ev → Option Ev} {t : Ev → Option Bool} {e : Ev → Option D} {ρ : Ev} {res : List PD} (h : lcGE n m fs vs g t e ρ = some res) :
    ∃ ds items, fs ρ = some ds ∧ ds.length = n ∧ m ds = some items ∧ few items = true ∧ allT items = true ∧ lcD g t e (wipeD ρ vs) (pds items) = some res := by
  unfold lcGE at h
  cases q : fs ρ with
  | none => rw [q] at h; cases h
  | some ds =>
    rw [q] at h
    simp only at h
    by_cases q2 : Nat.beq ds.length n = true
    · rw [if_pos q2] at h
      cases q3 : m ds with
      | none => rw [q3] at h; cases h
      | some items =>
        rw [q3] at h
        simp only at h
        by_cases q4 : few items = true
        · rw [if_pos q4] at h
          by_cases q5 : allT items = true
          · rw [if_pos q5] at h
            exact ⟨ds, items, rfl, Nat.eq_of_beq_eq_true q2, q3, q4, q5, h⟩
          · rw [if_neg q5] at h; cases h
        · rw [if_neg q4] at h; cases h
    · rw [if_neg q2] at h; cases h
section
variable {tr : Bool} {X : Cx} {C : Addr}
/-- the consumer at a turn's head -/
def CPhi (X Xc : Cx) (M : Msk) (H1 : Hp) (sc : Shared) (D Cc L a g : Nat) (vs : List Nat) (σ : L2.St) (lc : List FF.D → Option (List PD)) (items res : List PD) (it F : Addr) (us : List Value) (j : Nat) (s : Shared) : Prop :=
  ∃ (H' : Hp) (acc : List V) (done left : List PD) (xs : List V), Inv Xc [] (wipe σ vs) H' s ∧ Same H1 H' ∧ (H' D = some (.lst acc) ∧ acc.length ≤ j ∧ DpAll X.K (hide (more M D) H') acc done ∧ lc ((pds items).drop j) = some left ∧ done ++ left = res) ∧
    (SqL X.K (hide (more M D) H') F xs ∧ Vals xs us ∧ DpAll X.K (hide (more M D) H') xs items) ∧ (H' L = none ∧ H' it = none ∧ H' a = none) ∧ (sc.heap.objs.size ≤ it ∧ it ≠ L ∧ it ≠ a ∧ it ≠ Cc) ∧ s.heap.IsGen a g
theorem lcG_core {k n : Nat} {f : Addr} {fd : FuncData} {ps : List Str} {mm : List FF.D → Option (List PD)} {fs : Ev → Option (List FF.D)} {tg elt e1 : Expr} {es : List Expr} {ifs : List Expr} {x : Str} {p cpos pos pos' : Pos} {scope : Scope} {own : List (Str × Nat)} {g : FF.D → Ev → Option Ev} {t : Ev → Option Bool} {ee : Ev → Option FF.D}
    {pins : List (Addr × Obj)} {s : Shared} {σ : L2.St} {H : Hp} {Q : VK} {use : Option (Value → Sem Unit)} {Qf : Value → Shared → Prop}
    (hc : X.calm = true) (hN : X.N.Nodup) (ok : BlkOk X.N X.env.scope scope own) (hnc : ∀ y ∈ scope.names, y.2 ≠ .cell)
    (Fg : GnOk tr X.prog X.w X.K X.mg X.base C k f fd ps n mm) (hr : Room (k + 1) X.A) (hgx : Gl X x) (hmx : X.mg x = some (.ref f)) (hk : PySem.W.keepIn X.K (.ref f) = true) (hb : L2.Binds X.K fd ps []) (ha : DA C X (e1 :: es) fs)
    (hg : ∀ (s : Shared) (H : Hp) (L : Addr) (cl : List (Str × Addr)) (fp : List Addr), DG C (X.blk s H scope (compEnvC scope cl L X.env) fp) (own.map (·.2)) tg g)
    (ht : ∀ (s : Shared) (H : Hp) (L : Addr) (cl : List (Str × Addr)) (fp : List Addr), DTs C (X.blk s H scope (compEnvC scope cl L X.env) fp) ifs t)
    (he : ∀ (s : Shared) (H : Hp) (L : Addr) (cl : List (Str × Addr)) (fp : List Addr), DE C (X.blk s H scope (compEnvC scope cl L X.env) fp) elt ee)
    (hdb : (x == ("__debug__" : Str)) = false) (hst : starEach (e1 :: es) X.env = (false, eval e1 X.env) :: starEach es X.env) (hpl : (backTo cpos (starEach es X.env)).any (·.1) = false)
    (hs : ∀ z, foldedSetIterable (.Call (.Name x p) (e1 :: es) [] cpos) X.env z = pure z) (I : Inv X pins σ H s) (q : dL X.K C (lcGE n mm fs (own.map (·.2)) g t ee) σ H Q)
    (hRR : ∀ D Cc s' m H', Inv X pins σ H' s' → Q (.ref D) H' → s'.heap.Ns Cc m → FpOk X pins H' Cc → compPost (model X.prog X.w) X.A X.xe use Qf (.ref D) Cc (.ok .next) s') :
    wpAny (model X.prog X.w) X.A (comprehension (.ListComp elt [⟨tg, .Call (.Name x p) (e1 :: es) [] cpos, ifs, 0⟩] scope pos) scope X.env pos' (newList []) false (eval (.Call (.Name x p) (e1 :: es) [] cpos) X.env) use) Qf X.xe s := by
  obtain ⟨M, ρ, res, hm, hrho, hf, kq⟩ := q
  obtain ⟨ds, items, h1, h2, h3, h4, h5, h6⟩ := lcge_some hf
  have hfree : ∀ y ∈ scope.names, y.2 = .free → ∃ c, X.env.cells.lookup y.1 = some c := fun y hy e => by
    rcases ok.free y hy e with k | k
    · exact I.ok.has _ (.inl k)
    · exact I.ok.has _ (.inr k)
  have inner : wpAny (model X.prog X.w) X.A (eval (.Call (.Name x p) (e1 :: es) [] cpos) X.env) (fun u s2 => ∃ H1 sc, Inv X pins σ H1 sc ∧ Same H H1 ∧ GMd tr X.prog X.w X.K k X.stack H1 sc M items u s2) X.xe s := by
    refine wpAny_Call_Name_kw (ld_glob I hgx hmx ?_ hdb)
    refine PySem.W.callWith_K (h₀ := X.base) I.ok.mod.kin hk (thn (ha.pa.run cpos pins s σ H (fun vs H1 => Same H H1 ∧ RpAll X.K C (hide M H1) vs ds) I ⟨M, ρ, ds, hm, hrho, h1, fun vs H1 s1 r1 => ⟨s1, r1⟩⟩) fun us s1 ⟨vs, H1, I1, r, sm, rs⟩ => ⟨I1.kIn, ?_⟩) hst hpl
    exact wpAny_mono (run_gn Fg (hr.mono (by omega)) hb I1 r (hm.mono sm) rs h2 h3) (fun u s2 hG => ⟨H1, s1, I1, sm, hG⟩) fun _ _ z => z
  refine wpAny_comprehension_free (use := use) rfl hs (closure_ok hfree) ok.kind (fun y hy e => by rw [ok.uniq y hy, e]) (thn inner fun u s2 ⟨H1, sc, I1, sm, hG⟩ => ?_)
  obtain ⟨a, gn, L, c, rfl, ⟨ha1, ha2⟩, ⟨hL1, hL2, hL3⟩, hgen, hgs, hos, hbare, hlim, hkp, wake⟩ := hG
  refine wpAny_pyIter_gen hgen ?_
  refine wpAny_newObj_type (newEnv_comp ?_) (by show 0 ≤ sizeLine; decide)
  rw [nocell_cells _ _ _ hnc, nocell_push _ _ hnc]
  generalize hD : s2.heap.objs.size = D
  generalize hs3 : ({ s2 with heap := s2.heap.push { cls := .type "list", data := .seq ([] : List Value).toArray } } : Shared) = s3
  have h3h : s3.heap = s2.heap.push (lstObj #[] 0) := by rw [← hs3]
  generalize hCc : s3.heap.objs.size = Cc
  have hDC : D + 1 = Cc := by rw [← hCc, h3h, Heap.size_push, hD]
  show codeAny _ _ (.compStart (.ListComp elt [⟨tg, .Call (.Name x p) (e1 :: es) [] cpos, ifs, 0⟩] scope pos) 0 (.ref a) (.ref D) (compEnvC scope (cloFrom X.env.cells scope.names []) Cc X.env)) (compPost (model X.prog X.w) X.A X.xe use Qf (.ref D) Cc) { s3 with heap := s3.heap.push { cls := .type "dict", data := .dict #[] } }
  generalize hs4 : ({ s3 with heap := s3.heap.push { cls := .type "dict", data := .dict #[] } } : Shared) = s4
  have h4h : s4.heap = s3.heap.push { cls := .type "dict", data := .dict #[] } := by rw [← hs4]
  have k24 : ∀ b o, s2.heap.get? b = some o → s4.heap.get? b = some o := fun b o e => by rw [h4h, h3h]; exact Heap.get?_push_of_some _ (Heap.get?_push_of_some _ e)
  have gens4 : s4.gens = s2.gens := by rw [← hs4, ← hs3]
  have os4 : s4.os = s2.os := by rw [← hs4, ← hs3]
  have oD : s4.heap.get? D = some (lstObj #[] 0) := by
    rw [h4h]
    refine Heap.get?_push_of_some _ ?_
    rw [h3h, ← hD]
    exact Heap.get?_push_size _ rfl
  have oC : s4.heap.get? Cc = some { cls := .type "dict", data := .dict #[] } := by
    rw [h4h, ← hCc]
    exact Heap.get?_push_size _ rfl
  have nsC : s4.heap.Ns Cc fun _ => none := by
    rw [h4h, ← hCc]
    exact Heap.Ns.new ..
  have hsD : sc.heap.objs.size ≤ D := by rw [← hD]; exact Nat.le_trans ha1 (Nat.le_of_lt ha2)
  have hsC : sc.heap.objs.size ≤ Cc := by omega
  have aD : a < D := by rw [← hD]; exact ha2
  have LD : L < D := by rw [← hD]; exact hL2
  have hcs := cs_lt I1
  have fsx : ∀ b ∈ frs X.stack, b < sc.heap.objs.size := fun b hb => by
    obtain ⟨_, o, ho, _⟩ := I1.stack.mem hb
    exact Heap.lt_size ho
  have clx : ∀ y c', (compEnvC scope (cloFrom X.env.cells scope.names []) Cc X.env).cells.lookup y = some c' → c' < sc.heap.objs.size := fun y c' e => by
    have hm' := PySem.mem_of_lookup e
    rcases cloFrom_mem hm' with hm' | ⟨hy, rfl⟩
    · cases hm'
    · obtain ⟨c', hc'⟩ := hfree _ hy rfl
      rw [hc']
      obtain ⟨w', z⟩ := I1.cell _ _ hc'
      exact z.lt
  -- the block's context
  generalize hXc : X.blk sc H1 scope (compEnvC scope (cloFrom X.env.cells scope.names []) Cc X.env) [] = Xc
  have fpc : ∀ {H' : Hp} (b : Addr), sc.heap.objs.size ≤ b → b ≠ Cc → H' b = none → FpOk Xc [] H' b := fun {H'} b q1 q2 q3 => by
    subst hXc
    refine ⟨q3, q2, fun z => absurd (Nat.lt_of_lt_of_le (fsx b z) q1) (Nat.lt_irrefl _), .inr q1, fun y c' e z => ?_, fun p hp => absurd (show p ∈ ([] : List (Addr × Obj)) ++ [] from hp) (by simp)⟩
    have := clx y c' e
    rw [z] at this
    exact absurd (Nat.lt_of_lt_of_le this q1) (Nat.lt_irrefl _)
  let lc := lcD g t ee (wipeD ρ (own.map (·.2)))
  let Pre := PQ tr X.prog X.w X.K X.stack H1 sc [(D, lstObj #[] 0), (Cc, ({ cls := .type "dict", data := .dict #[] } : Obj))] L a gn M items
  let Phi := CPhi X Xc M H1 sc D Cc L a gn (own.map (·.2)) σ lc items res
  have hmk : Hid M H1 := hm.mono sm
  -- what the ground gives
  have ground : ∀ {it F : Addr} {us : List Value} {j : Nat} {s₀ sB s1 : Shared}, Bas items.length Pre Phi it F us j s₀ sB → Ch it L sB s1 → Phi it F us j s1 := by
    intro it F us j s₀ sB s1 hB hC
    rcases hB with ⟨rfl, hP⟩ | ⟨_, hP, rfl⟩
    · have hP1 := pq_ch (j := 0) hP hC hcs ⟨hL1, hL3, fun p hp => by
        rcases List.mem_cons.mp hp with z | z
        · rw [z]; exact Nat.ne_of_gt LD
        · rw [List.mem_singleton.mp z]; show Cc ≠ L; omega⟩
      obtain ⟨H', xs, ⟨os, bare, un, hok⟩, ⟨hpn, hg1, hlim1, na, nL, nit⟩, ⟨z1, z2, z3, z4⟩, sm1, hF, rv, hx⟩ := hP1
      obtain ⟨eD, nD⟩ := hpn _ List.mem_cons_self
      obtain ⟨eC, nC⟩ := hpn _ (List.mem_cons_of_mem _ List.mem_cons_self)
      have I2 := I1.drained (out := []) (ex := []) (acc := #[]) (c := 0) hsD (by simp) eD .nil ExOk.nil os bare un hok nD
      have neD : ∀ b o, sc.heap.get? b = some o → b ≠ D := fun b o e => Nat.ne_of_lt (Nat.lt_of_lt_of_le (Heap.lt_size e) hsD)
      have un2 : Un (frs X.stack) [] H1 (upd H' D (.lst [])) sc.heap s1.heap := ⟨un.keep, un.slot, fun b o e n hb => by rw [upd_ne (neD b o e)]; exact un.free b o e n hb, un.there,
        fun b ys e => by have z := un.tups b ys e; rw [upd_ne (ne_of_none z nD)]; exact z, fun b o y e => by have z := un.frzs b o y e; rw [upd_ne (ne_of_none z nD)]; exact z,
        fun b qs e => by obtain ⟨more', z⟩ := un.tbls b qs e; exact ⟨more', by rw [upd_ne (ne_of_none z nD)]; exact z⟩⟩
      have nsC1 : s1.heap.Ns Cc fun _ => none := nsC.at' fun o e => by rw [oC] at e; cases e; exact eC
      have I3 := block_at I1 I2 un2 os ok hN hsC nsC1 (by rw [upd_ne (by show Cc ≠ D; omega)]; exact nC) hnc
      rw [hXc] at I3
      have eh : hide (more M D) (upd H' D (.lst [])) = hide M H' := by rw [more_upd, more_new nD]
      refine ⟨upd H' D (.lst []), [], [], res, xs, I3, sm1.trans (same_new nD), ⟨upd_same, Nat.le_refl _, .nil, by rw [List.drop_zero]; exact h6, rfl⟩, ⟨by rw [eh]; exact hF, rv, by rw [eh]; exact hx.dp⟩, ⟨?_, ?_, ?_⟩, ⟨z1, z3, z2, fun z => z4 _ (List.mem_cons_of_mem _ List.mem_cons_self) z.symm⟩, hg1⟩
      · rw [upd_ne (Nat.ne_of_lt LD)]; exact nL
      · rw [upd_ne (fun z => z4 _ List.mem_cons_self z.symm)]; exact nit
      · rw [upd_ne (Nat.ne_of_lt aD)]; exact na
    · obtain ⟨H', acc, done, left, xs, I2, sm1, b1, b2, ⟨nL, nit, na⟩, ⟨z1, z2, z3, z4⟩, hg1⟩ := hP
      obtain ⟨hh, gg, dd, tt, oo⟩ := s1
      obtain ⟨c1, c2, c3, c4⟩ := hC
      simp only at c1 c2 c3
      subst c1 c2 c3
      have I3 : Inv Xc [] (wipe σ (own.map (·.2))) H' { sB with heap := hh, toks := tt } := I2.turnedL (t' := tt) (ch := [it, L]) (fun b o hb e => c4 b o (fun z => hb (by simp [z])) (fun z => hb (by simp [z])) e) fun b hb => by
        have e : b = it ∨ b = L := by simpa using hb
        rcases e with e | e
        · rw [e]; exact fpc it z1 z4 nit
        · rw [e]; exact fpc L hL1 (by show L ≠ Cc; omega) nL
      refine ⟨H', acc, done, left, xs, I3, sm1, b1, b2, ⟨nL, nit, na⟩, ⟨z1, z2, z3, z4⟩, ?_⟩
      obtain ⟨o, nm, qn, e, r⟩ := hg1
      exact ⟨o, nm, qn, c4 a o (Ne.symm z3) (Ne.symm hL3) e, r⟩
  have loop : codeAny (model X.prog X.w) X.A (.compLoop (.ListComp elt [⟨tg, .Call (.Name x p) (e1 :: es) [] cpos, ifs, 0⟩] scope pos) 0 (.ref a) (.ref D) (compEnvC scope (cloFrom X.env.cells scope.names []) Cc X.env)) (compPost (model X.prog X.w) X.A X.xe use Qf (.ref D) Cc) s4 := by
    subst hXc
    have pg := hg sc H1 Cc (cloFrom X.env.cells scope.names []) []
    have pt := ht sc H1 Cc (cloFrom X.env.cells scope.names []) []
    have pe := he sc H1 Cc (cloFrom X.env.cells scope.names []) []
    have nD1 : H1 D = none := I1.hok.fresh hsD
    have mD : M D = false := hmk.new nD1
    refine compLoop_any (fun n s' => ∃ j gs, j + n = items.length ∧ s'.heap.IsGen a gn ∧ s'.heap.NoLimit ∧ s'.gens[gn]? = some gs ∧ gs.Goes (model X.prog X.w) X.A.in1 (RO items.length L Pre Phi) (YO items.length L Pre Phi) (n + 1) (.send .none) (s'.setGen gn .running)) ?_ items.length ⟨0, .fresh c, Nat.zero_add _, hgen.keeps k24, hlim.keeps k24, by rw [gens4]; exact hgs, rfl, ?_⟩
    · rintro n s5 ⟨j, gs, hj, hg5, hl5, hgs5, hgo5⟩
      have hgl : gn < s5.gens.size := (Array.getElem?_eq_some_iff.mp hgs5).1
      refine wpAny_gsz (n := gn + 1) hgl (next_genS (F := FO items.length L Pre Phi) (I1.ok.hd hc) hl5 hr.depth hg5 hgs5 hgo5 (fun v s₁ gs' hbare' hsl hv => ?_) (fun s₁ hp h' hk' => ?_))
      · intro hsz
        obtain ⟨it, F, us, j', sB, hj', hlen, hvj, hG, hB, hC, hkap⟩ := hv
        have ej : j' = j := by omega
        subst ej
        have hP := ground hB hC
        obtain ⟨H', acc, done, left, xs, I6, sm6, ⟨b1, b2, b3, b4, b5⟩, ⟨c1, c2, c3⟩, ⟨nL, nit, na⟩, ⟨z1, z2, z3, z4⟩, hg6⟩ := id hP
        have hjl : j' < us.length := (List.getElem?_eq_some_iff.mp hvj).1
        obtain ⟨n, rfl⟩ : ∃ n', n = n' + 1 := ⟨n - 1, by omega⟩
        have bare7 : AllBare (s₁.setGen gn gs').gens := allBare_setGen I6.bare hbare'
        have hgl1 : gn < s₁.gens.size := by
          have q : (s₁.setGen gn gs').gens.size = s₁.gens.size := setGen_size _ _ _
          have hsz' : gn + 1 ≤ (s₁.setGen gn gs').gens.size := hsz
          omega
        have at7 : (s₁.setGen gn gs').gens[gn]? = some gs' := setGen_at hgl1
        have I7 : Inv (X.blk sc H1 scope (compEnvC scope (cloFrom X.env.cells scope.names []) Cc X.env) []) [] (wipe σ (own.map (·.2))) H' (s₁.setGen gn gs') := inv_gens I6 bare7
        have hfp : ∀ b ∈ [L, it, a], FpOk (X.blk sc H1 scope (compEnvC scope (cloFrom X.env.cells scope.names []) Cc X.env) []) [] H' b := fun b hb => by
          have e : b = L ∨ b = it ∨ b = a := by simpa using hb
          rcases e with e | e | e
          · rw [e]; exact fpc L hL1 (by show L ≠ Cc; omega) nL
          · rw [e]; exact fpc it z1 z4 nit
          · rw [e]; exact fpc a ha1 (by show a ≠ Cc; omega) na
        have hob : ∀ b ∈ [L, it, a], ∃ o, (s₁.setGen gn gs').heap.get? b = some o ∧ ∀ v, o.data ≠ .cell v := fun b hb => by
          have e : b = L ∨ b = it ∨ b = a := by simpa using hb
          rcases e with e | e | e
          · obtain ⟨m0, o, es', ep', ho, hd, _⟩ := hG.ns
            exact ⟨o, by rw [e]; exact ho, fun v q => by rw [hd] at q; cases q⟩
          · obtain ⟨o, ho, _, hd⟩ := hG.it
            exact ⟨o, by rw [e]; exact ho, fun v q => by rw [hd] at q; cases q⟩
          · obtain ⟨o, nm, qn, ho, _, hd, _⟩ := hg6
            exact ⟨o, by rw [e]; exact ho, fun v q => by rw [hd] at q; cases q⟩
        have I8 := I7.pinned hfp hob
        obtain ⟨og, nm, qn, hog, hclg, hdg, hslg⟩ := id hg6
        refine go_of (s := s₁.setGen gn gs') (n := "generator") hog hclg hdg (by decide) ?_
        -- the item
        have hji : j' < items.length := by omega
        have hdi : items[j']? = some items[j'] := List.getElem?_eq_getElem hji
        obtain ⟨xv, hxv, rxv⟩ := DpAll_get c3 hdi
        obtain ⟨uv, huv, ruv⟩ := Vals.get c2 hxv
        rw [hvj] at huv
        cases huv
        have hdd : (pds items)[j']? = some (FF.D.p items[j']) := by rw [pds_get, hdi]; rfl
        have b4' : lcD g t ee (wipeD ρ (own.map (·.2))) ((pds items).drop j') = some left := b4
        rw [drop_get hdd] at b4'
        unfold lcD at b4'
        have hmA : Hid (more M D) H' := (hmk.mono sm6).more b1
        have he' : EnvR X.K C (hide (more M D) H') (wipe σ (own.map (·.2))) (wipeD ρ (own.map (·.2))) := by
          have z := (hrho.mono (same_hide sm)).wipe (own.map (·.2))
          rw [← more_new nD1] at z
          exact z.mono (same_hide sm6)
        -- a turn's end
        have fin : ∀ {s6 : Shared} {σ6 : L2.St} {H6 : Hp} {acc' : List V} {done' left' : List PD}, Inv (X.blk sc H1 scope (compEnvC scope (cloFrom X.env.cells scope.names []) Cc X.env) []) ([] ++ pinsAt [L, it, a] (s₁.setGen gn gs').heap) σ6 H6 s6 → s6.gens[gn]? = some gs' → wipe σ6 (own.map (·.2)) = wipe (wipe σ (own.map (·.2))) (own.map (·.2)) → Same H1 H6 → SameM (more M D) H' H6 → H6 D = some (.lst acc') → acc'.length ≤ j' + 1 → DpAll X.K (hide (more M D) H6) acc' done' → lcD g t ee (wipeD ρ (own.map (·.2))) ((pds items).drop (j' + 1)) = some left' → done' ++ left' = res →
            ∃ m, m < n + 1 ∧ ∃ j gs, j + m = items.length ∧ s6.heap.IsGen a gn ∧ s6.heap.NoLimit ∧ s6.gens[gn]? = some gs ∧ gs.Goes (model X.prog X.w) X.A.in1 (RO items.length L Pre Phi) (YO items.length L Pre Phi) (m + 1) (.send .none) (s6.setGen gn .running) := by
          intro s6 σ6 H6 acc' done' left' J6 e1 e2 e3 e4 e5 e6 e7 e8 e9
          have pin6 : ∀ b ∈ [L, it, a], ∀ o, s₁.heap.get? b = some o → s6.heap.get? b = some o ∧ H6 b = none := fun b hb o e =>
            let z := J6.pin (b, o) (List.mem_append_right _ (List.mem_append_right _ (mem_pinsAt hb e)))
            ⟨z.1, z.2.1⟩
          have hG6 : GR L it F us (j' + 1) s6.heap := by
            refine ⟨?_, hG.it.at fun o e => (pin6 it (by simp) o e).1, ?_⟩
            · obtain ⟨m0, hm0⟩ := hG.ns
              exact ⟨m0, hm0.at' fun o e => (pin6 L (by simp) o e).1⟩
            · obtain ⟨its, rvs, hp, _⟩ := J6.list (seqL_hide (e4.seq c1))
              have eus := refs_only h5 c3 c2 rvs
              rw [eus]
              exact hp.isList
          have hg6' : s6.heap.IsGen a gn := ⟨og, nm, qn, (pin6 a (by simp) og hog).1, hclg, hdg, hslg⟩
          refine ⟨n, Nat.lt_succ_self _, j' + 1, gs', by omega, hg6', J6.nolimit, e1, ?_⟩
          have hlw : (wipe σ (own.map (·.2))).length = σ6.length := by
            have z := congrArg List.length e2
            rw [wipe_length, wipe_length, wipe_length] at z
            rw [wipe_length]
            exact z.symm
          have J7 : Inv (X.blk sc H1 scope (compEnvC scope (cloFrom X.env.cells scope.names []) Cc X.env) []) [] (wipe σ (own.map (·.2))) H6 s6 := (J6.unpinned (pins := [])).weak hlw fun i v e => by
            rw [← wipe_wipe, ← e2] at e
            exact (wipe_some e).1
          refine hkap (s6.setGen gn .running) hG6 ⟨H6, acc', done', left', xs, inv_gens J7 (allBare_setGen J7.bare rfl), e3, ⟨e5, e6, e7, e8, e9⟩, ⟨e4.seq c1, c2, DpAll_mono e4 _ _ c3⟩, ⟨?_, ?_, (pin6 a (by simp) og hog).2⟩, ⟨z1, z2, z3, z4⟩, hg6'⟩
          · obtain ⟨m0, o, es', ep', ho, _⟩ := hG.ns
            exact (pin6 L (by simp) o ho).2
          · obtain ⟨o, ho, _⟩ := hG.it
            exact (pin6 it (by simp) o ho).2
        cases w1 : g (.p items[j']) (wipeD ρ (own.map (·.2))) with
        | none => rw [w1] at b4'; cases b4'
        | some ρ1 =>
          rw [w1] at b4'
          simp only at b4'
          refine wpAny_mono (asleep (E := notedBy (model X.prog X.w) X.A (compEnvC scope (cloFrom X.env.cells scope.names []) Cc X.env) fun e s' => compPost (model X.prog X.w) X.A X.xe use Qf (.ref D) Cc (.error e) s') bare7 fun G hG0 => pg.pg.run _ _ (wipe σ (own.map (·.2))) H' xv v (fun σ5 H5 => Same H' H5 ∧ EnvR X.K C (hide (more M D) H5) σ5 ρ1 ∧ wipe σ5 (own.map (·.2)) = wipe (wipe σ (own.map (·.2))) (own.map (·.2))) (inv_gens I8 hG0) ruv ⟨more M D, _, .p items[j'], ρ1, hmA, he', rxv, w1, fun σ5 H5 s5' e5 w5 => ⟨s5', e5, w5⟩⟩) (fun _ sa hsa => ?_) fun _ _ z => z
          obtain ⟨sb, G1, ⟨σ5, H5, I9, s5', e5, w5⟩, rfl, hb1, hk1⟩ := hsa
          have I10 := inv_gens I9 (hb1 I9.bare)
          have at10 : ({ sb with gens := G1 } : Shared).gens[gn]? = some gs' := hk1 gn gs' at7 hsl
          cases w2 : t ρ1 with
          | none => rw [w2] at b4'; cases b4'
          | some b =>
            rw [w2] at b4'
            refine wpAny_mono (asleep (hb1 I9.bare) fun G hG0 => pt.pts.run _ _ σ5 H5 (fun b' H6 => b' = b ∧ Same H5 H6) (inv_gens I10 hG0) ⟨more M D, ρ1, b, hmA.mono s5', e5, w2, fun H6 s6' => ⟨rfl, s6'⟩⟩) (fun b' sa hsa => ?_) fun _ _ z => z
            obtain ⟨sc', G2, ⟨H6, I11, rfl, s6'⟩, rfl, hb2, hk2⟩ := hsa
            have I12 := inv_gens I11 (hb2 I11.bare)
            have at12 : ({ sc' with gens := G2 } : Shared).gens[gn]? = some gs' := hk2 gn gs' at10 hsl
            have s56 : Same H' H6 := s5'.trans s6'
            have hD6 : H6 D = some (.lst acc) := s56 _ _ b1
            cases b' with
            | false =>
              simp only [Bool.false_eq_true, if_false] at b4' ⊢
              exact fin I12 at12 w5 (sm6.trans s56) (same_hide s56) hD6 (by omega) (DpAll_mono (same_hide s56) _ _ b3) b4' b5
            | true =>
              simp only [if_true] at b4' ⊢
              cases w3 : ee ρ1 with
              | none => rw [w3] at b4'; cases b4'
              | some dx =>
                rw [w3] at b4'
                cases dx with
                | look _ _ _ => cases b4'
                | sts _ => cases b4'
                | p x0 =>
                  simp only at b4'
                  cases w4 : lcD g t ee (wipeD ρ (own.map (·.2))) ((pds items).drop (j' + 1)) with
                  | none => rw [w4] at b4'; cases b4'
                  | some left' =>
                    rw [w4] at b4'
                    cases b4'
                    refine wpAny_mono (asleep (hb2 I11.bare) fun G hG0 => pe.pe.run _ _ σ5 H6 (fun y H7 => Same H6 H7 ∧ Dp X.K (hide (more M D) H7) y x0) (inv_gens I12 hG0) ⟨more M D, ρ1, .p x0, hmA.mono s56, e5.mono (same_hide s6'), w3, fun y H7 s7 r7 => ⟨s7, r7⟩⟩) (fun uy sa hsa => ?_) fun _ _ z => z
                    obtain ⟨sd, G3, ⟨y, H7, I13, ry, s7, r7⟩, rfl, hb3, hk3⟩ := hsa
                    have I14 := inv_gens I13 (hb3 I13.bare)
                    have at14 : ({ sd with gens := G3 } : Shared).gens[gn]? = some gs' := hk3 gn gs' at12 hsl
                    have s67 : Same H' H7 := s56.trans s7
                    have hD7 : H7 D = some (.lst acc) := s67 _ _ b1
                    have hlen' : acc.length < sizeLine := by
                      have := few_line h4
                      omega
                    refine wpAny_mono (asleep (hb3 I13.bare) fun G hG0 => app_ok (X := X.blk sc H1 scope (compEnvC scope (cloFrom X.env.cells scope.names []) Cc X.env) []) (E := fun _ _ => False) (Q := fun _ s' => Inv (X.blk sc H1 scope (compEnvC scope (cloFrom X.env.cells scope.names []) Cc X.env) []) ([] ++ pinsAt [L, it, a] (s₁.setGen gn gs').heap) σ5 (upd H7 D (.lst (acc ++ [y]))) s') (inv_gens I14 hG0) hD7 hlen' ry fun s11 I11' => I11') (fun _ sa hsa => ?_) fun _ _ z => z
                    obtain ⟨se, G4, I15, rfl, hb4, hk4⟩ := hsa
                    have I16 := inv_gens I15 (hb4 I15.bare)
                    have at16 : ({ se with gens := G4 } : Shared).gens[gn]? = some gs' := hk4 gn gs' at14 hsl
                    refine fin I16 at16 w5 (fun bb oo eb => ?_) ?_ upd_same (by rw [List.length_append, List.length_singleton]; omega) (done' := done ++ [x0]) ?_ w4 (by rw [List.append_assoc]; exact b5)
                    · rw [upd_ne (ne_of_none eb nD1)]
                      exact s67 _ _ (sm6 _ _ eb)
                    · show Same _ (hide (more M D) (upd H7 D _))
                      rw [more_upd]
                      exact same_hide s67
                    · rw [more_upd]
                      exact DpAll_app (DpAll_mono (same_hide s67) _ _ b3) (.cons r7 .nil)
      · intro hsz
        obtain ⟨hn1, it, F, us, sB, hlen, hB, hC⟩ := hp
        have hP := ground hB hC
        obtain ⟨H', acc, done, left, xs, I6, sm6, ⟨b1, b2, b3, b4, b5⟩, _, _, _, _⟩ := hP
        have b4' : lcD g t ee (wipeD ρ (own.map (·.2))) ((pds items).drop items.length) = some left := b4
        rw [← pds_len, List.drop_length] at b4'
        cases b4'
        rw [List.append_nil] at b5
        subst b5
        have I7 : Inv (X.blk sc H1 scope (compEnvC scope (cloFrom X.env.cells scope.names []) Cc X.env) []) [] (wipe σ (own.map (·.2))) H' { s₁.setGen gn .finished with heap := h' } := inv_gens (I6.kept (t' := s₁.toks) hk') (allBare_setGen I6.bare rfl)
        have I8 : Inv X pins σ H' { s₁.setGen gn .finished with heap := h' } := I1.call' (ch := []) I7.os I7.base I7.hok I7.bare fun b z => by simp at z
        obtain ⟨m0, hn0, _⟩ := I7.loc
        exact hRR D Cc _ m0 H' I8 (kq D acc H' (sm.trans sm6) (hide_of b1 mD) (DpAll_mono more_le _ _ b3)) hn0 (I1.fpOk hsC I7.free)
    · refine wake _ _ Phi _ ⟨hr.hd, ?_, ?_⟩ I1.ok.frames k24 (fun p hp => ?_) (os4.trans hos) (allBare_setGen (by rw [gens4]; exact hbare) rfl)
      · have := hr.dp
        show X.A.depth + 3 * k + 5 < _
        omega
      · have := hr.un
        show X.A.units + 1 + 16 * k + 200 < _
        omega
      · rcases List.mem_cons.mp hp with z | z
        · rw [z]; exact ⟨Nat.le_of_eq hD, oD, fun v q => by cases q⟩
        · rw [List.mem_singleton.mp z]; exact ⟨by show s2.heap.objs.size ≤ Cc; omega, oC, fun v q => by cases q⟩
  exact codeAny_compStart_list loop (wpAny_pyIter_gen (hgen.keeps k24) loop)
end
end FF
/-! ## FT -/
namespace FF
open PySem PySem.Spec PyProof.Rows L2 GenW

section
variable {tr : Bool} {X : Cx} {C : Addr} {k n : Nat} {f : Addr} {fd : FuncData} {ps : List Str} {mm : List FF.D → Option (List PD)} {fs : Ev → Option (List FF.D)} {tg elt e1 : Expr} {es : List Expr} {ifs : List Expr} {x y : Str} {p py cpos pos spos : Pos} {scope : Scope} {own : List (Str × Nat)} {g : FF.D → Ev → Option Ev} {t : Ev → Option Bool} {ee : Ev → Option FF.D}
/-- name = [.. for .. in f(..)], f a generator def -/
theorem ds_setLcG {W : WV} {j : Nat} (hc : X.calm = true) (hN : X.N.Nodup) (hy : X.N[j]? = some y) (hyl : X.env.scope.names.lookup y = some .local)
    (hsw : swapsWith (.ListComp elt [⟨tg, .Call (.Name x p) (e1 :: es) [] cpos, ifs, 0⟩] scope pos) (some (.Name y py)) spos.line X.env = pure true) (ok : BlkOk X.N X.env.scope scope own) (hnc : ∀ y ∈ scope.names, y.2 ≠ .cell)
    (Fg : GnOk tr X.prog X.w X.K X.mg X.base C k f fd ps n mm) (hr : Room (k + 1) X.A) (hgx : Gl X x) (hmx : X.mg x = some (.ref f)) (hk : PySem.W.keepIn X.K (.ref f) = true) (hb : L2.Binds X.K fd ps []) (ha : DA C X (e1 :: es) fs)
    (hg : ∀ (s : Shared) (H : Hp) (L : Addr) (cl : List (Str × Addr)) (fp : List Addr), DG C (X.blk s H scope (compEnvC scope cl L X.env) fp) (own.map (·.2)) tg g)
    (ht : ∀ (s : Shared) (H : Hp) (L : Addr) (cl : List (Str × Addr)) (fp : List Addr), DTs C (X.blk s H scope (compEnvC scope cl L X.env) fp) ifs t)
    (he : ∀ (s : Shared) (H : Hp) (L : Addr) (cl : List (Str × Addr)) (fp : List Addr), DE C (X.blk s H scope (compEnvC scope cl L X.env) fp) elt ee)
    (hdb : (x == ("__debug__" : Str)) = false := by decide) (hst : starEach (e1 :: es) X.env = (false, eval e1 X.env) :: starEach es X.env := by rfl) (hpl : (backTo cpos (starEach es X.env)).any (·.1) = false := by rfl)
    (hs : ∀ z, foldedSetIterable (.Call (.Name x p) (e1 :: es) [] cpos) X.env z = pure z := by intro _; rfl) :
    DS C W X (.Assign [.Name y py] (.ListComp elt [⟨tg, .Call (.Name x p) (e1 :: es) [] cpos, ifs, 0⟩] scope pos) spos) (sSet (tgName j) (asL (lcGE n mm fs (own.map (·.2)) g t ee))) := by
  refine ⟨⟨fun pins s σ H D I h => ?_⟩⟩
  have h := d_set (t := dL X.K C (lcGE n mm fs (own.map (·.2)) g t ee)) (fun _ _ _ q => dL_of q) D σ H h
  rw [exec_Assign_Name_used _ _ _ _ hsw]
  refine wpAny_bind (wpAny_standAt (wpAny_bind ?_))
  show wpAny _ X.A (do let _ ← comprehension (.ListComp elt [⟨tg, .Call (.Name x p) (e1 :: es) [] cpos, ifs, 0⟩] scope pos) scope X.env (firstIterPos [⟨tg, .Call (.Name x p) (e1 :: es) [] cpos, ifs, 0⟩] pos) (newList []) false (eval (.Call (.Name x p) (e1 :: es) [] cpos) X.env) (some (assign (.Name y py) X.env))) _ _ s
  have h : dL X.K C (lcGE n mm fs (own.map (·.2)) g t ee) σ H (fun x H1 => gName j x σ H1 D.nx) := h
  refine wpAny_bind (thn (lcG_core (Qf := fun _ s' => SP X pins D .next s') hc hN ok hnc Fg hr hgx hmx hk hb ha hg ht he hdb hst hpl hs I h fun L Cc s' m H' I' q hn f => ?_) fun _ s' hq => wpAny_pure (wpAny_pure hq))
  show wpAny _ _ (assign (.Name y py) X.env (.ref L)) _ _ _
  refine wpAny_assign_Name (store_ok2 (v := V.ref L) I' hN hy (.inl hyl) rfl (fun s2 I2 ⟨a, sb, ha⟩ => ?_) (.inr hyl))
  obtain ⟨f0, f1, f2, f3, f4, f5⟩ := f
  have haC : Cc ≠ a := by
    rcases ha with z | z
    · rw [z]; exact f1
    · exact fun e => f4 y a z e.symm
  refine ⟨m, hn.sameBut sb haC, fun h3 sb3 => ?_⟩
  exact ⟨_, H', I2.turned (t' := s2.toks) (fun b o hb e => (sb3.2 b hb).trans e) f0 f1 f3 f4 f5, q⟩

/-! ### for x in f(..): break -/
def sForB (n : Nat) (m : List FF.D → Option (List PD)) (fs : Ev → Option (List FF.D)) (g : FF.D → Ev → Option Ev) : Ev → Option Out := fun ρ => match fs ρ with
  | none => none
  | some ds => if Nat.beq ds.length n = true then (match m ds with
    | none => none
    | some items => match items with
      | [] => none
      | d :: _ => match g (.p d) ρ with
        | none => none
        | some ρ1 => some (.nx ρ1)) else none
theorem sforb_some {m : List FF.D → Option (List PD)} {ρ : Ev} {o : Out} (h : sForB n m fs g ρ = some o) : ∃ ds d r ρ1, fs ρ = some ds ∧ ds.length = n ∧ m ds = some (d :: r) ∧ g (.p d) ρ = some ρ1 ∧ o = .nx ρ1 := by
  unfold sForB at h
  cases q : fs ρ with
  | none => rw [q] at h; cases h
  | some ds =>
    rw [q] at h
    simp only at h
    by_cases q2 : Nat.beq ds.length n = true
    · rw [if_pos q2] at h
      cases q3 : m ds with
      | none => rw [q3] at h; cases h
      | some items =>
        rw [q3] at h
        cases items with
        | nil => cases h
        | cons d r =>
          simp only at h
          cases q4 : g (.p d) ρ with
          | none => rw [q4] at h; cases h
          | some ρ1 => rw [q4] at h; cases h; exact ⟨ds, d, r, ρ1, rfl, Nat.eq_of_beq_eq_true q2, q3, q4, rfl⟩
    · rw [if_neg q2] at h; cases h
theorem ds_forB {W : WV} {vs : List Nat} {pb : Pos} (Fg : GnOk tr X.prog X.w X.K X.mg X.base C k f fd ps n mm) (hr : Room (k + 1) X.A) (hgx : Gl X x) (hmx : X.mg x = some (.ref f)) (hk : PySem.W.keepIn X.K (.ref f) = true) (hb : L2.Binds X.K fd ps []) (ha : DA C X (e1 :: es) fs)
    (hg : DG C X vs tg g) (hp : PassesOwn (model X.prog X.w) X.A X.env X.xe) (hc : X.calm = true := by rfl)
    (hdb : (x == ("__debug__" : Str)) = false := by decide) (hst : starEach (e1 :: es) X.env = (false, eval e1 X.env) :: starEach es X.env := by rfl) (hpl : (backTo cpos (starEach es X.env)).any (·.1) = false := by rfl)
    (hs : ∀ z, foldedSetIterable (.Call (.Name x p) (e1 :: es) [] cpos) X.env z = pure z := by intro _; rfl) :
    DS C W X (.For tg (.Call (.Name x p) (e1 :: es) [] cpos) [.Break pb] [] pos) (sForB n mm fs g) := by
  refine ⟨⟨fun pins s σ H D I q => ?_⟩⟩
  obtain ⟨M, ρ, o, hm, hrho, hf, kq⟩ := q
  obtain ⟨ds, d, items', ρ1, h1, h2, h3, h4, rfl⟩ := sforb_some hf
  generalize hitems : d :: items' = items at h3
  have inner : wpAny (model X.prog X.w) X.A (eval (.Call (.Name x p) (e1 :: es) [] cpos) X.env) (fun u s2 => ∃ H1 sc, Inv X pins σ H1 sc ∧ Same H H1 ∧ GMd tr X.prog X.w X.K k X.stack H1 sc M items u s2) X.xe s := by
    refine wpAny_Call_Name_kw (ld_glob I hgx hmx ?_ hdb)
    refine PySem.W.callWith_K (h₀ := X.base) I.ok.mod.kin hk (thn (ha.pa.run cpos pins s σ H (fun vs H1 => Same H H1 ∧ RpAll X.K C (hide M H1) vs ds) I ⟨M, ρ, ds, hm, hrho, h1, fun vs H1 s1 r1 => ⟨s1, r1⟩⟩) fun us s1 ⟨vs, H1, I1, r, sm, rs⟩ => ⟨I1.kIn, ?_⟩) hst hpl
    exact wpAny_mono (run_gn Fg (hr.mono (by omega)) hb I1 r (hm.mono sm) rs h2 h3) (fun u s2 hG => ⟨H1, s1, I1, sm, hG⟩) fun _ _ z => z
  refine wpAny_For (thn inner fun u s2 ⟨H1, sc, I1, sm, hG⟩ => ?_) hs
  obtain ⟨a, gn, L, c, rfl, ⟨ha1, ha2⟩, ⟨hL1, hL2, hL3⟩, hgen, hgs, hos, hbare, hlim, hkp, wake⟩ := hG
  refine wpAny_pyIter_gen hgen ?_
  have hcs := cs_lt I1
  refine codeAny_forLoop_any (fun _ s' => s' = s2) ?_ 0 rfl
  rintro m0 s3 rfl
  have hgl : gn < s3.gens.size := (Array.getElem?_eq_some_iff.mp hgs).1
  refine wpAny_passesOwn hp (wpAny_gsz (n := gn + 1) hgl (next_genS (F := FO items.length L (PQ tr X.prog X.w X.K X.stack H1 sc [] L a gn M items) (fun _ _ _ _ _ => False)) (I1.ok.hd hc) hlim hr.depth hgen hgs ⟨rfl, wake _ [] (fun _ _ _ _ _ => False) _ ⟨hr.hd, ?_, ?_⟩ I1.ok.frames (fun b o e => e) (fun p hp => by cases hp) hos (allBare_setGen hbare rfl)⟩ (fun v s₁ gs' hbare' hsl hv => ?_) (fun s₁ hp h' hk' => ?_)))
  · have := hr.dp
    show X.A.depth + 3 * k + 5 < _
    omega
  · have := hr.un
    show X.A.units + 1 + 16 * k + 200 < _
    omega
  · intro hsz
    obtain ⟨it, F, us, j', sB, hj', hlen, hvj, hGR, hB, hC, hkap⟩ := hv
    have ej : j' = 0 := by omega
    subst ej
    rcases hB with ⟨_, hP⟩ | ⟨h0, _⟩
    · have hP1 := pq_ch (j := 0) hP hC hcs ⟨hL1, hL3, fun p hp => by cases hp⟩
      obtain ⟨H', xs, I2, _, nL, nit, na, sm2, hF, rv, hx⟩ := inv_pq I1 hP1
      have I3 : Inv X pins σ H' (s₁.setGen gn gs') := inv_gens I2 (allBare_setGen I2.bare hbare')
      obtain ⟨og, nm, qn, hog, hclg, hdg, hslg⟩ : s₁.heap.IsGen a gn := by
        obtain ⟨_, _, _, ⟨_, hg1, _⟩, _⟩ := hP1
        exact hg1
      refine wpAny_passesOwn hp (go_of (s := s₁.setGen gn gs') (n := "generator") hog hclg hdg (by decide) ?_)
      subst hitems
      have hdi : (d :: items')[0]? = some d := rfl
      obtain ⟨xv, hxv, rxv⟩ := DpAll_get hx.dp hdi
      obtain ⟨uv, huv, ruv⟩ := Vals.get rv hxv
      rw [hvj] at huv
      cases huv
      have sm12 := sm.trans sm2
      refine wpAny_passesOwn hp (thn (hg.pg.run pins _ σ H' xv v (fun σ5 H5 => D.nx σ5 H5) I3 ruv ⟨M, ρ, .p d, ρ1, hm.mono sm12, hrho.mono (same_hide sm12), rxv, h4, fun σ5 H5 s5 e5 w5 => kq σ5 H5 (sm12.trans s5) e5⟩) fun _ s6 ⟨σ6, H6, I6, q6⟩ => ?_)
      refine wpAny_passesOwn hp ?_
      exact thn ((pss_one (ps_break (pos := pb))).run pins _ σ6 H6 { nx := fun _ _ => False, rt := fun _ _ => False, bk := D.nx } I6 q6) fun fl s7 q7 => by
        cases fl with
        | next => obtain ⟨_, _, _, z⟩ := q7; exact z.elim
        | cont => obtain ⟨_, _, _, z⟩ := q7; exact z.elim
        | brk => exact q7
        | ret v => obtain ⟨_, _, _, _, _, z⟩ := q7; exact z.elim
    · exact absurd h0 (Nat.lt_irrefl _)
  · obtain ⟨hn1, _⟩ := hp
    subst hitems
    exact absurd hn1 (by simp)
end
end FF
/-! ## FU -/
namespace FF
open PySem PySem.Spec PyProof.Rows L2 GenW

/-! ### yield from a list -/
section
variable {prog : Program} {w : World} {A : Around} {E : Value → Shared → Prop} {s : Shared}
theorem spec_lst_item {it t : Addr} {i : Nat} {items : Array Value} {x : Value} {Q : Option Value → Shared → Prop} (hit : s.heap.IsListIter it t i) (ht : s.heap.IsList t items) (hx : items[i]? = some x)
    (hQ : ∀ h', h'.IsListIter it t (i + 1) → Heap.SameBut it s.heap h' → Q (some x) { s with heap := h' }) : wpAny (model prog w) A (callSpecial? (.ref it) "__next__") Q E s := by
  obtain ⟨o, ho, hc, hd⟩ := id hit
  obtain ⟨ol, hol, _, nl, hdl⟩ := ht
  refine wpAny_callSpecial?_slot (name := Str.ofString "__next__") hit.typeIs slot_listiter_next (wpAny_call_entry slot_listiter_next hit.typeIs entry_listiter_next ?_ (args_listiter_next _))
  show wpAny _ _ (field (.ref it) 0 >>= _) _ _ s
  refine wpAny_bind (wpAny_field ho hd (x := .ref t) rfl ?_)
  show wpAny _ _ (if (Value.ref t == Value.none) = true then _ else _) _ _ s
  rw [if_neg (show ¬ ((Value.ref t == Value.none) = true) from Bool.false_ne_true)]
  show wpAny _ _ (field (.ref it) 1 >>= _) _ _ s
  refine wpAny_bind (wpAny_field ho hd (x := .int i 0) rfl ?_)
  show wpAny _ _ (seqItems? (.ref t) >>= _) _ _ s
  refine wpAny_bind (wpAny_seqItems hol hdl ?_)
  simp only [Int.toNat_natCast, hx]
  refine wpAny_bind (wpAny_setField ho hd (by simp) (wpAny_pure ⟨x, rfl, hQ _ ?_ (Heap.SameBut.update ..)⟩))
  exact ⟨_, Heap.get?_update_self _ ho (Obj.isFreed_of_fields (Obj.data_mapFields hd _)), (Obj.cls_mapFields ..).trans hc, by
    rw [Obj.data_mapFields hd]; simp [rawInt]⟩
theorem spec_lst_end {it t : Addr} {i : Nat} {items : Array Value} {Q : Option Value → Shared → Prop} (hh : A.handled = none) (hit : s.heap.IsListIter it t i) (ht : s.heap.IsList t items) (hx : items[i]? = none)
    (hE : ∀ e h', StopX e h' → Heap.ExtBut it s.heap h' → E e { s with heap := h' }) : wpAny (model prog w) A (callSpecial? (.ref it) "__next__") Q E s := by
  obtain ⟨o, ho, hc, hd⟩ := id hit
  obtain ⟨ol, hol, _, nl, hdl⟩ := ht
  refine wpAny_callSpecial?_slot (name := Str.ofString "__next__") hit.typeIs slot_listiter_next (wpAny_call_entry slot_listiter_next hit.typeIs entry_listiter_next ?_ (args_listiter_next _))
  show wpAny _ _ (field (.ref it) 0 >>= _) _ _ s
  refine wpAny_bind (wpAny_field ho hd (x := .ref t) rfl ?_)
  show wpAny _ _ (if (Value.ref t == Value.none) = true then _ else _) _ _ s
  rw [if_neg (show ¬ ((Value.ref t == Value.none) = true) from Bool.false_ne_true)]
  show wpAny _ _ (field (.ref it) 1 >>= _) _ _ s
  refine wpAny_bind (wpAny_field ho hd (x := .int i 0) rfl ?_)
  show wpAny _ _ (seqItems? (.ref t) >>= _) _ _ s
  refine wpAny_bind (wpAny_seqItems hol hdl ?_)
  simp only [Int.toNat_natCast, hx]
  refine wpAny_bind (wpAny_rule (wpAny_bind (wpAny_setField ho hd (by simp) ?_)))
  show wpAny _ _ (newExc (.type "StopIteration") [] >>= _) _ _ _
  refine wpAny_bind ?_
  simp only [newExc, newTuple]
  refine wpAny_bind (wpAny_newObj_type ?_ (by size_fits))
  refine wpAny_bind (m := firstArgMember _ _) (wpAny_of_eq (a := Value.none) (by first | rfl | (simp only [firstArgMember]; rfl)) ?_)
  refine wpAny_newObj_type ?_ (by size_fits)
  simp only [raiseNew]
  refine wpAny_bind (wpAny_handled ?_)
  first | rw [show A.in1.handled = none from hh] | rw [hh]
  refine wpAny_bind (wpAny_pure (wpAny_throw ?_))
  refine hE _ _ ⟨_, _, _, rfl, Heap.get?_push_size _ rfl, rfl, rfl, ?_⟩ (((Heap.SameBut.update ..).extBut.push _).push _)
  first
    | rfl
    | (rw [Array.getElem?_append_left (by decide)]; rfl)
    | kernel_rfl
end
theorem close_lst : typeLookup (.type "list_iterator") "close" = pure none := by rw [typeLookup_type, builtinLookup_eq_fast]; kernel_rfl
abbrev yfC (it : Addr) : Code := .builtin "proto.yield_from" ⟨[.ref it, .bool false, .none], []⟩
section
variable {prog : Program} {w : World} {A : Around} {fs : List Frame} {N : Nat} {L it F : Addr} {Pre Phi : Addr → Addr → List Value → Nat → Shared → Prop} {us : List Value}
theorem seg_yfO (hden : ∀ it : Value, (model prog w).den (.builtin "proto.yield_from" ⟨[it, .bool false, .none], []⟩) = Builtin.«proto.yield_from» ⟨[it, .bool false, .none], []⟩) (hh : (A.over (yfC it) fs).handled = none) (hsp : splitAtGen fs = none) (hgu : fs.any Frame.guarded = false) (n1 : it ≠ L) (n3 : F ≠ it) (hN : us.length = N)
    (hend : ∀ s₀ s, (∃ sB, Bas N Pre Phi it F us N s₀ sB ∧ Ch it L sB s) → Seg (model prog w) A (RO N L Pre Phi) (YO N L Pre Phi) 1 s₀ (yfC it) (.pure (.done (.ret .none))) fs s) :
    ∀ (r j : Nat) (s₀ s sB : Shared), j + r = N → GR L it F us j s.heap → Bas N Pre Phi it F us j s₀ sB → Ch it L sB s →
      Seg (model prog w) A (RO N L Pre Phi) (YO N L Pre Phi) (r + 1) s₀ (yfC it) ((model prog w).den (yfC it)) fs s := by
  intro r
  induction r with
  | zero =>
    intro j s₀ s sB hj hG hB hC
    have hj' : j = N := by omega
    subst hj'
    show Seg _ _ _ _ _ _ _ ((model prog w).den (.builtin "proto.yield_from" ⟨[.ref it, .bool false, .none], []⟩)) _ _
    rw [hden]
    unfold Builtin.«proto.yield_from»
    try dsimp only
    refine seg_bind (wpAny_pure ?_)
    try dsimp only
    refine seg_bind (wpAny_attempt (wpAny_holding ?_))
    rw [if_neg Bool.false_ne_true, if_pos (show (Value.none == Value.none) = true from rfl)]
    refine wpAny_bind (wpAny_rule (wpAny_bind ?_))
    refine spec_lst_end hh hG.it hG.ls (by simp; omega) fun e h' hS hk => ?_
    obtain ⟨a, o, vs, rfl, hoa, hcls, hdat, h5⟩ := hS
    try dsimp only
    refine seg_bind (wpAny_endsTurn hoa hcls ?_)
    try dsimp only
    rw [if_pos rfl]
    first
      | refine seg_bind (wpAny_rule ?_)
      | (rw [if_neg Bool.false_ne_true]; refine seg_bind (wpAny_rule ?_))
      | (rw [if_neg Bool.false_ne_true]; refine seg_bind (wpAny_pure ?_); refine seg_bind (wpAny_rule ?_))
    refine seg_bind (wpAny_field hoa hdat h5 ?_)
    exact hend s₀ _ ⟨sB, hB, hC.trans ⟨rfl, rfl, rfl, fun b o h1 h2 e => hk b o h1 e⟩⟩
  | succ r ih =>
    intro j s₀ s sB hj hG hB hC
    have hlt : j < us.length := by omega
    show Seg _ _ _ _ _ _ _ ((model prog w).den (.builtin "proto.yield_from" ⟨[.ref it, .bool false, .none], []⟩)) _ _
    rw [hden]
    unfold Builtin.«proto.yield_from»
    try dsimp only
    refine seg_bind (wpAny_pure ?_)
    try dsimp only
    refine seg_bind (wpAny_attempt (wpAny_holding ?_))
    rw [if_neg Bool.false_ne_true, if_pos (show (Value.none == Value.none) = true from rfl)]
    refine wpAny_bind (wpAny_rule (wpAny_bind ?_))
    refine spec_lst_item hG.it hG.ls (x := us[j]) (by simp [hlt]) fun h1 hit1 hs1 => ?_
    obtain ⟨oi, hoi, hoc, hod⟩ := id hit1
    refine wpAny_pure ?_
    try dsimp only
    refine seg_bind (wpAny_typeOf (s := { s with heap := h1 }) (T := "list_iterator") ⟨oi, hoi, hoc⟩ ?_)
    try dsimp only
    first
      | (refine seg_bind (wpAny_of_eq close_lst ?_); refine seg_bind (wpAny_pure ?_))
      | refine seg_bind (wpAny_bind (wpAny_of_eq close_lst (wpAny_pure ?_)))
      | refine seg_bind (wpAny_of_eq close_lst ?_)
    try dsimp only
    refine seg_bind (wpAny_sleptOver (s := { s with heap := h1 }) hoi hoc (by decide) ?_)
    obtain ⟨m, hm⟩ := hG.ns
    have hC2 : Ch it L sB { s with heap := h1 } := hC.trans ⟨rfl, rfl, rfl, fun b o h1' h2' e => hs1.extBut b o h1' e⟩
    have hG2 : GR L it F us (j + 1) h1 := ⟨⟨m, hm.at' fun o e => hs1.extBut L o (Ne.symm n1) e⟩, hit1, hG.ls.at fun o e => hs1.extBut F o n3 e⟩
    refine seg_yield hsp rfl hgu ?_
    refine ⟨it, F, us, j, sB, by omega, hN, by simp [hlt], hG2, hB, hC2, fun s' hG' hP' => ?_⟩
    obtain ⟨oj, hoj, hojc, _⟩ := hG'.it
    show Seg _ _ _ _ _ s' _ (Builtin.Generator.sleptOver (.ref it) false >>= fun _ => _) fs s'
    refine seg_bind (wpAny_sleptOver hoj hojc (by decide) ?_)
    try dsimp only
    refine seg_bind (wpAny_pure ?_)
    exact seg_again (plainId_quiet plain_yf _) (ih (j + 1) s' s' s' (by omega) hG' (.inr ⟨Nat.succ_pos _, hP', rfl⟩) Ch.refl)
end
end FF
/-! ## FV -/
namespace FF
open PySem PySem.Spec PyProof.Rows L2 GenW
/-- as runG, the list one of tracked states -/
def runY (e j : Nat) (u1 u2 : Ev → Option Out) (ds : List D) : Option (List PD) := match u1 (somes ds (nones e)) with
  | some (.nx ρ1) => (match u2 ρ1 with
    | some (.nx ρ2) => (match lk ρ2 j with
      | some (.sts l) => some (l.map stP)
      | _ => none)
    | _ => none)
  | _ => none
theorem gnY {P : Program} {w : World} {K : PySem.W.Frag} {mg : Str → Option Value} {base : Heap} {C : Addr} {x qual : Str} {st : Stmt} {f : Addr} {fd : FuncData} {N ps : List Str} {k e j n : Nat} {ls : Str} {u1 u2 : Ev → Option Out} {a1 a2 : Stmt} {pl yp ep : Pos}
    (F : Fun K x qual st f fd) (S : GScope N ps (defScope st)) (he : ps.length + e = N.length) (hn : n = ps.length) (hbody : defBody st = [a1, a2, .Expr (.YieldFrom (.Name ls pl) yp) ep])
    (hj : N[j]? = some ls) (hjv : (defScope st).names.lookup ls = some .local ∨ (defScope st).names.lookup ls = some .cell) (hjd : (ls == ("__debug__" : Str)) = false) (hjc : (ls == ("__classdict__" : Str)) = false)
    (hb : ∀ (cdv : Value) (A : Around) (outer : List Env) (s : Shared) (H : Hp) (pn : List (Addr × Obj)), Room k (A.deeper (envOfC qual (defScope st) s.heap.objs.size f cdv)) →
      DS C (fun _ _ _ => False) (gcxOf P w K mg base N qual (defScope st) f cdv A outer s H E0 pn).nox a1 u1 ∧ DS C (fun _ _ _ => False) (gcxOf P w K mg base N qual (defScope st) f cdv A outer s H E0 pn).nox a2 u2) :
    GnOk true P w K mg base C (k + 1) f fd ps n (runY e j u1 u2) := by
  obtain ⟨oc, od, kV, doc, pm, an, cdv, ct, osl, rfl, lk0, hcd⟩ := F.ex
  refine ⟨hn, fun A outer s H args us vs M ds items hr e0 hbd r hl hm rs hit => ?_⟩
  have KX : K.In s.heap := e0.mod.kin.keeps fun b o z => (e0.bs b o z).1
  have lim : s.heap.NoLimit := e0.mod.nolimit.keeps fun b o z => (e0.bs b o z).1
  have hkind : ∀ z ∈ ps.zip us, (defScope st).names.lookup z.1 = some .local ∨ ((defScope st).names.lookup z.1 = some .cell ∧ ((cellsFrom (s.heap.objs.size + 1) (defScope st).names []).lookup z.1).isSome = true) := fun ⟨n, v⟩ hz => by
    rcases S.par n (List.of_mem_zip hz).1 with q | q
    · exact .inl q
    · exact .inr ⟨q, PySem.W.cellsFrom_some _ _ _ (.inl q)⟩
  refine codeAny_call_generator hr.depth (KX _ _ lk0) rfl S.co S.gen rfl (PySem.W.codeRec_of KX hcd) (hbd _ _ _ _ ?_)
  refine wpAny_newFunctionEnv_cells S.kind hkind fun env hen s1 xc => ?_
  subst hen
  have lim1 : s1.heap.NoLimit := lim.keeps xc.toInCall.keep
  refine ⟨lim1, ?_⟩
  obtain ⟨h1, tk, es1, hk1⟩ := xc.done
  have os1 : s1.os = s.os := by rw [es1]
  have gen1 : s1.gens = s.gens := by rw [es1]
  have lt1 : s.heap.objs.size < s1.heap.objs.size := xc.toInCall.ns.lt
  have sz1 : s.heap.objs.size ≤ s1.heap.objs.size := Nat.le_of_lt lt1
  have kp1 : ∀ b o, s.heap.get? b = some o → s1.heap.get? b = some o := xc.toInCall.keep
  have main : ∀ (go : Obj) (nm qn : Value) (tk2 : Nat), go.cls = .type "generator" → go.data = .fields #[.int s1.gens.size 0, nm, qn] → go.slots = #[] → (∀ h : Heap, (h.push go).get? h.objs.size = some go) →
      GMd true P w K (k + 1) outer H s M items (.ref s1.heap.objs.size) { s1 with gens := s1.gens.push (.fresh (.func (defBody st) (envOfC qual (defScope st) s.heap.objs.size f cdv))), toks := tk2, heap := s1.heap.push go } := by
    intro go nm qn tk2 hgc hgd0 hgs hgp
    have hgen : ∀ h : Heap, h.get? s1.heap.objs.size = some go → h.IsGen s1.heap.objs.size s1.gens.size := fun h z => ⟨go, nm, qn, z, hgc, hgd0, hgs⟩
    have hpushed : (s1.heap.push go).get? s1.heap.objs.size = some go := hgp _
    have hsz' : (s1.heap.push go).objs.size = s1.heap.objs.size + 1 := Heap.size_push _ _
    refine ⟨s1.heap.objs.size, s1.gens.size, s.heap.objs.size, _, rfl, ⟨sz1, ?_⟩, ⟨Nat.le_refl _, ?_, Nat.ne_of_lt lt1⟩, hgen _ hpushed, Array.getElem?_push_size .., os1, ?_, lim1.keeps fun b o z => Heap.get?_push_of_some _ z, fun b o z => Heap.get?_push_of_some _ (kp1 b o z), ?_⟩
    · show _ < (s1.heap.push go).objs.size
      rw [hsz']; exact Nat.lt_succ_self _
    · show _ < (s1.heap.push go).objs.size
      rw [hsz']; exact Nat.lt_succ_of_lt lt1
    · exact AllBare.push (by rw [gen1]; exact e0.bare) rfl
    intro Aw pn Phi s2 hrw hfr hk2 hpn hos hba
    have e0w : Env0 P w K mg base Aw outer s H := ⟨hfr, e0.mod, e0.bs, e0.bsz, e0.funs, e0.frf, e0.hok, e0.bare⟩
    have I1 : Inv (gcxOf P w K mg base N qual (defScope st) f cdv Aw outer s H E0 []) [] (start N vs) H s1 := inv_startG S hrw.hd e0w (hl.trans hn) r xc
    have kp2 : ∀ b o, s1.heap.get? b = some o → s2.heap.get? b = some o := fun b o z => hk2 b o (Heap.get?_push_of_some _ z)
    have I2 : Inv (gcxOf P w K mg base N qual (defScope st) f cdv Aw outer s H E0 []) [] (start N vs) H s2 :=
      I1.call' (ch := []) (hos.trans os1.symm) (Un.kept kp2) (I1.hok.kept kp2) hba fun b z => by simp at z
    have hea : s2.heap.get? s1.heap.objs.size = some go := hk2 s1.heap.objs.size go hpushed
    have hgd : ∀ v, go.data ≠ .cell v := fun v q => by rw [hgd0] at q; cases q
    have young : ∀ b, s1.heap.objs.size ≤ b → H b = none ∧ b ≠ s.heap.objs.size ∧ b ∉ frs outer ∧ s.heap.objs.size ≤ b := fun b hb =>
      ⟨I1.hok.fresh hb, Nat.ne_of_gt (Nat.lt_of_lt_of_le lt1 hb), I1.nofs hb, Nat.le_trans sz1 hb⟩
    -- the consumer's things and the generator's own object are pinned
    have I3 : Inv (gcxOf P w K mg base N qual (defScope st) f cdv Aw outer s H E0 ((s1.heap.objs.size, go) :: pn)) [] (start N vs) H s2 := Inv.pinnedG I2 fun p hp => by
      rw [List.append_nil] at hp
      rcases List.mem_cons.mp hp with z | z
      · subst z
        obtain ⟨y1, y2, y3, _⟩ := young s1.heap.objs.size (Nat.le_refl _)
        exact ⟨hea, y1, y2, y3, hgd⟩
      · obtain ⟨q1, q2, q3⟩ := hpn p z
        have q1' : s1.heap.objs.size + 1 ≤ p.1 := by rw [← hsz']; exact q1
        obtain ⟨y1, y2, y3, _⟩ := young p.1 (Nat.le_of_succ_le q1')
        exact ⟨q2, y1, y2, y3, q3⟩
    have I4 := I3.wish fun _ _ => False
    obtain ⟨hb1, hb2⟩ := hb cdv Aw outer s H ((s1.heap.objs.size, go) :: pn) (hrw.deeper _)
    -- what the prefix gives
    unfold runY at hit
    split at hit
    case h_2 => cases hit
    rename_i ρ1 q1
    split at hit
    case h_2 => cases hit
    rename_i ρ2 q2
    split at hit
    case h_2 => cases hit
    rename_i l q3
    obtain rfl : l.map stP = items := Option.some.inj hit
    generalize hitems : l.map stP = items at *
    have hρ0 : EnvR K C (hide M H) (start N vs) (somes ds (nones e)) := env_start rs (hl.trans hn) he
    refine seg_func ?_
    rw [hbody]
    refine seg_execs_cons (seg_wrap ?_)
    rw [over_func]
    refine never (wpAny_mono (hb1.ps.run [] s2 (start N vs) H (onlyNx fun σ' H' => Same H H' ∧ EnvR K C (hide M H') σ' ρ1) I4 ⟨M, _, _, hm, hρ0, q1, fun σ' H' s' z => ⟨s', z⟩⟩) (fun fl s3 h3 => ?_) fun _ _ z => z)
    obtain ⟨rfl, σ3, H3, I5, sm3, r3⟩ := sp_nx h3
    refine seg_execs_cons (seg_wrap ?_)
    rw [over_func]
    refine never (wpAny_mono (hb2.ps.run [] s3 σ3 H3 (onlyNx fun σ' H' => Same H H' ∧ EnvR K C (hide M H') σ' ρ2) I5 ⟨M, _, _, hm.mono sm3, r3, q2, fun σ' H' s' z => ⟨sm3.trans s', z⟩⟩) (fun fl s4 h4 => ?_) fun _ _ z => z)
    obtain ⟨rfl, σ4, H4, I6, sm4, r4⟩ := sp_nx h4
    obtain ⟨v, hv, rv⟩ := r4.get j _ q3
    obtain ⟨Fa, xs, rfl, hF0, htr⟩ := rv
    have hF : SqL K (hide M _) Fa xs := SqL.of hF0
    have hxs := htr.dp (K := K)
    rw [hitems] at hxs
    have hia : interactive (envOfC qual (defScope st) s.heap.objs.size f cdv) = false := by
      unfold interactive
      show ((defScope st).kind == .module && _) = false
      rw [S.kind]; rfl
    refine seg_execs_cons ?_
    rw [exec_Expr (envOfC qual (defScope st) s.heap.objs.size f cdv) _ ep hia rfl]
    rename_i _cw
    show Seg _ _ _ _ _ _ _ (.at ep fun _ => ((eval (.Name ls pl) (envOfC qual (defScope st) s.heap.objs.size f cdv) >>= fun v => (standAt yp >>= fun _ => yieldFrom (envOfC qual (defScope st) s.heap.objs.size f cdv) v)) >>= fun x => dropValue (.YieldFrom (.Name ls pl) yp) ep x).wrap _ _ _ _) _ _
    refine seg_at ?_
    refine segw_bind2 ?_
    rw [over_func]
    have pvl : PE (gcxOf P w K mg base N qual (defScope st) f cdv Aw outer s H E0 ((s1.heap.objs.size, go) :: pn)).nox (.Name ls pl) (tVar j) := pe_var hj (hjv.elim .inl fun z => .inr (.inl z)) hjd hjc
    refine wpAny_mono (pvl.run [] s4 σ4 H4 (fun v' H' => v' = .ref Fa ∧ H' = H4) I6 ⟨_, hv, rfl, rfl⟩) (fun u s5 h5 => ?_) fun _ _ z => (show False from z).elim
    obtain ⟨v', H5, I7, rv', rfl, rfl⟩ := h5
    obtain rfl : u = Value.ref Fa := rv'
    obtain ⟨its, rvs, hp, hz⟩ := I7.list (seqL_hide hF)
    have hne' : ¬ ((Value.type "list" == Value.type "coroutine") = true) := by decide
    refine seg_at ?_
    show Seg _ _ _ _ _ _ _ ((yieldFrom (envOfC qual (defScope st) s.heap.objs.size f cdv) (.ref Fa)).wrap (fun b => (dropValue (.YieldFrom (.Name ls pl) yp) ep b).wrap _ _ _ _) _ _ _) _ s5
    unfold yieldFrom
    refine seg_bind_wrap (wpAny_typeOf hp.isList.typeIs ?_)
    rw [if_neg hne']
    refine seg_bind_wrap (wpAny_holding ?_)
    rw [over_func]
    refine wpAny_pyIter_list hp.isList ?_
    refine seg_call fun p => ?_
    have hit5 : (s5.heap.push { cls := .type "list_iterator", data := .fields #[.ref Fa, .int 0 0] }).IsListIter s5.heap.objs.size Fa 0 := ⟨_, Heap.get?_push_size _ rfl, rfl, rfl⟩
    have I8 := I7.kept (t' := s5.toks) (h' := s5.heap.push { cls := .type "list_iterator", data := .fields #[.ref Fa, .int 0 0] }) fun b o z => Heap.get?_push_of_some _ z
    obtain ⟨mm, hns, _⟩ := id I8.loc
    have hns' : Heap.Ns (s5.heap.push { cls := .type "list_iterator", data := .fields #[.ref Fa, .int 0 0] }) s.heap.objs.size mm := hns
    have hlen : its.length = items.length := by rw [← rvs.length, DpAll_len hxs]
    have hLlt : s.heap.objs.size < s5.heap.objs.size := I7.lt
    have hal : s1.heap.objs.size < s5.heap.objs.size := by
      have z := (I7.pin (s1.heap.objs.size, go) (List.mem_append_left _ List.mem_cons_self)).1
      exact Heap.lt_size z
    have hFlt : Fa < s5.heap.objs.size := by obtain ⟨_, z, _⟩ := hp.isList; exact Heap.lt_size z
    have hnit : H5 s5.heap.objs.size = none := I7.hok.fresh (Nat.le_refl _)
    refine seg_yfO (us := its) (N := items.length) (L := s.heap.objs.size) (F := Fa) (fun it => den_yf (X := gcxOf P w K mg base N qual (defScope st) f cdv Aw outer s H E0 []) (it := it)) ?_ rfl rfl (Nat.ne_of_gt hLlt) (Nat.ne_of_lt hFlt) hlen (fun s₀ s' h => ?_) items.length 0 s2 _ _ (Nat.zero_add _) ⟨⟨mm, hns'⟩, hit5, hp.isList.push _⟩ (.inl ⟨rfl, ?_⟩) Ch.refl
    · exact (hrw.deeper (envOfC qual (defScope st) s.heap.objs.size f cdv)).hd
    · refine seg_leaf (.ok (.ret .none)) ?_
      obtain ⟨sB, hB, hC⟩ := h
      exact seg_end (.ok (.ret .none)) (.inl ⟨.inl rfl, rfl, _, _, its, sB, hlen, hB, hC⟩)
    · refine ⟨H5, xs, ⟨I8.os, I8.bare, I8.base, I8.hok⟩, ⟨fun q hq => ?_, ?_, I8.nolimit, ?_, I8.free, hnit⟩, ⟨Nat.le_trans sz1 (Nat.le_of_lt hal), Nat.ne_of_gt hal, Nat.ne_of_gt hLlt, fun q hq => ?_⟩, sm4, hF, rvs, ⟨hxs, fun _ => ⟨l, hitems.symm, htr⟩⟩⟩
      · have z := I8.pin q (List.mem_append_left _ (List.mem_cons_of_mem _ hq))
        exact ⟨z.1, z.2.1⟩
      · exact hgen _ (I8.pin (s1.heap.objs.size, go) (List.mem_append_left _ List.mem_cons_self)).1
      · exact (I8.pin (s1.heap.objs.size, go) (List.mem_append_left _ List.mem_cons_self)).2.1
      · have z := (I7.pin q (List.mem_append_left _ (List.mem_cons_of_mem _ hq))).1
        exact Nat.ne_of_lt (Heap.lt_size z)
  exact main _ _ _ _ rfl rfl rfl fun h => Heap.get?_push_size _ rfl
end FF
/-! ## FW -/
namespace FF
open PySem PySem.Spec PyProof.Rows L2

/-! ### lists of tracked states -/
def dTr (K : PySem.W.Frag) (C : Addr) (f : Ev → Option (List Int)) : TE := fun σ H Q => ∃ (M : Msk) (ρ : Ev) (k : List Int), Hid M H ∧ EnvR K C (hide M H) σ ρ ∧ f ρ = some k ∧ ∀ b H', Same H H' → hide M H' b = some (.tup (kI k)) → Q (.ref b) H'
structure DTr (C : Addr) (X : Cx) (e : Expr) (f : Ev → Option (List Int)) : Prop where
  pe : PE X e (dTr X.K C f)
def nums : List D → Option (List Int)
  | [] => some []
  | .p (.int i) :: r => match nums r with
    | none => none
    | some k => some (i :: k)
  | _ => none
theorem ints_kI {K : PySem.W.Frag} {C : Addr} {H : Hp} : ∀ {ds : List D} {vs : List V} {k : List Int}, RpAll K C H vs ds → nums ds = some k → vs = kI k
  | [], _, _, h, e => by cases h; cases e; rfl
  | d :: r, _, _, h, e => by
    cases h with
    | cons h1 h2 =>
      unfold nums at e
      split at e
      · rename_i q0
        cases q0
      · rename_i i r' hd
        obtain ⟨rfl, rfl⟩ := List.cons.inj hd
        split at e
        · cases e
        · rename_i k q
          cases e
          rw [ints_kI h2 q, rp_int h1]
          rfl
      · cases e
def eTrT (fs : Ev → Option (List D)) : Ev → Option (List Int) := fun ρ => match fs ρ with
  | none => none
  | some ds => match nums ds with
    | none => none
    | some k => if few k = true then some k else none
theorem dtr_tup {C : Addr} {X : Cx} {es : List Expr} {fs : Ev → Option (List D)} {kk : Nat} {pos : Pos} (h : DA C X es fs) : DTr C X (.Tuple es kk pos) (eTrT fs) := ⟨PE.imp (pe_tup h.pa) fun σ H Q q => by
  obtain ⟨M, ρ, k, hm, he, hf, kq⟩ := q
  unfold eTrT at hf
  cases q1 : fs ρ with
  | none => rw [q1] at hf; cases hf
  | some ds =>
    rw [q1] at hf
    simp only at hf
    cases q2 : nums ds with
    | none => rw [q2] at hf; cases hf
    | some k' =>
      rw [q2] at hf
      simp only at hf
      by_cases q3 : few k' = true
      · rw [if_pos q3] at hf
        cases hf
        refine ⟨M, ρ, ds, hm, he, q1, fun vs H1 s1 r1 => ?_⟩
        have hv := ints_kI r1 q2
        refine ⟨?_, fun p n => kq p _ (s1.trans (same_new n)) ?_⟩
        · rw [hv]
          unfold kI
          rw [List.length_map, List.length_map]
          exact Nat.le_of_lt (few_line q3)
        · rw [hv]
          exact hide_new (hm.mono s1) n
      · rw [if_neg q3] at hf; cases hf⟩
theorem de_sts0 {C : Addr} {X : Cx} {kk : Nat} {p1 p2 : Pos} : DE C X (.List [.Tuple [] kk p1] p2) (eC (.sts [[]])) := ⟨PE.imp (pe_lst (pa_cons (pe_tup pa_nil) pa_nil)) fun σ H Q q => by
  obtain ⟨M, ρ, d, hm, he, hf, k⟩ := q
  cases hf
  refine ⟨by show 0 ≤ sizeLine; decide, fun p n => ⟨by show 1 ≤ sizeLine; decide, fun p' n' => k _ _ ((same_new n).trans (same_new n')) ⟨p', _, rfl, hide_new (hm.mono (same_new n)) n', .cons (same_hide (same_new n') _ _ (hide_new hm n)) .nil⟩⟩⟩⟩
def sps : List (List Int) → List D
  | [] => []
  | k :: r => .p (stP k) :: sps r
theorem sps_eq : ∀ l, sps l = pds (l.map stP)
  | [] => rfl
  | k :: r => congrArg (D.p (stP k) :: ·) (sps_eq r)
def iSts (f : Ev → Option D) : Ev → Option (List D) := fun ρ => match f ρ with
  | some (.sts l) => some (sps l)
  | _ => none
theorem di_sts {C : Addr} {X : Cx} {tg e : Expr} {f : Ev → Option D} (he : DE C X e f) : DI C X tg e (iSts f) := ⟨PI.imp (pi_list he.pe) fun σ H R q => by
  obtain ⟨M, ρ, ds, hm, he, hf, k⟩ := q
  unfold iSts at hf
  split at hf
  · rename_i l q1
    cases hf
    refine ⟨M, ρ, _, hm, he, q1, fun v H1 s1 r1 => ?_⟩
    obtain ⟨a, xs, rfl, h1, h2⟩ := r1
    exact ⟨a, rfl, ⟨xs, seqL_hide (SqL.of h1)⟩, k _ H1 s1 (by rw [sps_eq]; exact itd_list (SqL.of h1) h2.dp)⟩
  · cases hf⟩
def stD (g : D → Ev → Option Ev) (t : Ev → Option Bool) (e : Ev → Option (List Int)) (ρ : Ev) : List D → Option (List (List Int))
  | [] => some []
  | d :: ds => match g d ρ with
    | none => none
    | some ρ1 => match t ρ1 with
      | none => none
      | some false => stD g t e ρ ds
      | some true => match e ρ1 with
        | none => none
        | some x => match stD g t e ρ ds with
          | none => none
          | some r => some (x :: r)
def stD2 (g : D → Ev → Option Ev) (t : Ev → Option Bool) (i1 : Ev → Option (List D)) (vs1 : List Nat) (g1 : D → Ev → Option Ev) (t1 : Ev → Option Bool) (e : Ev → Option (List Int)) (ρ : Ev) : List D → Option (List (List Int))
  | [] => some []
  | d :: ds => match g d ρ with
    | none => none
    | some ρ1 => match t ρ1 with
      | none => none
      | some false => stD2 g t i1 vs1 g1 t1 e ρ ds
      | some true => match i1 ρ1 with
        | none => none
        | some es => match stD g1 t1 e (wipeD ρ1 vs1) es with
          | none => none
          | some r => match stD2 g t i1 vs1 g1 t1 e ρ ds with
            | none => none
            | some r' => some (r ++ r')
def eSt2 (i : Ev → Option (List D)) (vs : List Nat) (g : D → Ev → Option Ev) (t : Ev → Option Bool) (i1 : Ev → Option (List D)) (vs1 : List Nat) (g1 : D → Ev → Option Ev) (t1 : Ev → Option Bool) (e : Ev → Option (List Int)) : Ev → Option D := fun ρ => match i ρ with
  | none => none
  | some ds => match stD2 g t i1 vs1 g1 t1 e (wipeD ρ vs) ds with
    | none => none
    | some r => if few r = true then some (.sts r) else none
section
variable {C : Addr} {X : Cx} {tg iter tg1 iter1 elt : Expr} {ifs ifs1 : List Expr} {scope : Scope} {own : List (Str × Nat)} {pos spos : Pos} {i i1 : Ev → Option (List D)} {g g1 : D → Ev → Option Ev} {t t1 : Ev → Option Bool} {e : Ev → Option (List Int)} {vs vs1 : List Nat}
theorem d_st2 {wi : TI} {K : PySem.W.Frag} (hi : ∀ σ H R, dI K C i σ H R → wi σ H R) (σ : L2.St) (H : Hp) (Q : VK) (q : dE K C (eSt2 i vs g t i1 vs1 g1 t1 e) σ H Q) : tLc2 wi (dG K C vs g) (dT K C t) (dI K C i1) (dG K C vs1 g1) (dT K C t1) (dTr K C e) vs vs1 σ H Q := by
  obtain ⟨M, ρ, d, hm, he, hf, k⟩ := q
  unfold eSt2 at hf
  cases q1 : i ρ with
  | none => rw [q1] at hf; cases hf
  | some ds =>
    rw [q1] at hf
    simp only at hf
    cases q3 : stD2 g t i1 vs1 g1 t1 e (wipeD ρ vs) ds with
    | none => rw [q3] at hf; cases hf
    | some res =>
      rw [q3] at hf
      simp only at hf
      by_cases q2 : few res = true
      · rw [if_pos q2] at hf
        cases hf
        refine hi σ H _ ⟨M, ρ, ds, hm, he, q1, fun J H1 s1 itd A nA => ?_⟩
        have hm1 := hm.mono s1
        have sN : Same H1 (upd H1 A (.lst [])) := same_new nA
        have mA : M A = false := hm1.new nA
        have hlen : ∀ {H' : Hp} {acc : List V} {done left : List (List Int)}, TrAll (hide (more M A) H') acc done → done ++ left = res → left ≠ [] → acc.length < sizeLine := by
          intro H' acc done left h1 h2 h3
          have := few_line q2
          rw [← h2, List.length_append] at this
          have l0 : 0 < left.length := List.length_pos_iff.mpr h3
          rw [h1.len]
          omega
        refine ⟨fun n m H' => m = ds.length - n ∧ n ≤ ds.length ∧ Same H1 H' ∧ ∃ acc done left, H' A = some (.lst acc) ∧ TrAll (hide (more M A) H') acc done ∧ stD2 g t i1 vs1 g1 t1 e (wipeD ρ vs) (ds.drop n) = some left ∧ done ++ left = res,
          ⟨ds.length, by omega, Nat.zero_le _, sN, [], [], res, upd_same, .nil, by rw [List.drop_zero]; exact q3, rfl⟩, ?_⟩
        rintro n m H' ⟨rfl, hn, s2, acc, done, left, hA, hd, hleft, hres⟩
        have s12 := s1.trans s2
        have hm2 := hm.mono s12
        have hmA : Hid (more M A) H' := hm2.more hA
        have hsame : hide (more M A) H1 = hide M H1 := more_new nA
        obtain ⟨go, stop⟩ := itd (more M A) hsame n H' (same_hide s2) hmA
        have he' : EnvR K C (hide (more M A) H') (wipe σ vs) (wipeD ρ vs) := by
          have z := (he.mono (same_hide s1)).wipe vs
          rw [← hsame] at z
          exact z.mono (same_hide s2)
        by_cases hlt : n < ds.length
        · have hdn : ds[n]? = some ds[n] := List.getElem?_eq_getElem hlt
          obtain ⟨g1', g2⟩ := go _ hdn
          rw [drop_get hdn] at hleft
          unfold stD2 at hleft
          cases w1 : g ds[n] (wipeD ρ vs) with
          | none => rw [w1] at hleft; cases hleft
          | some ρ1 =>
            rw [w1] at hleft
            simp only at hleft
            cases w2 : t ρ1 with
            | none => rw [w2] at hleft; cases hleft
            | some b =>
              rw [w2] at hleft
              refine .inr ⟨g1', fun H3 => Same H1 H3 ∧ ∃ acc done left, H3 A = some (.lst acc) ∧ TrAll (hide (more M A) H3) acc done ∧ stD2 g t i1 vs1 g1 t1 e (wipeD ρ vs) (ds.drop (n + 1)) = some left ∧ done ++ left = res,
                fun H3 ⟨z1, z2⟩ => ⟨ds.length - (n + 1), by omega, rfl, hlt, z1, z2⟩, fun x H4 hy => ?_⟩
              obtain ⟨s4, r4⟩ := g2 x H4 hy
              refine ⟨more M A, wipeD ρ vs, ds[n], ρ1, hmA.mono s4, he'.mono (same_hide s4), r4, w1, fun σ5 H5 s5 e5 w5 => ⟨w5.trans wipe_wipe, ?_⟩⟩
              have s45 := s4.trans s5
              refine ⟨more M A, ρ1, b, hmA.mono s45, e5, w2, fun H6 s6 => ?_⟩
              have s46 := s45.trans s6
              have hA6 : H6 A = some (.lst acc) := s46 _ _ hA
              cases b with
              | false =>
                refine iteF ?_
                exact ⟨s2.trans s46, acc, done, left, hA6, TrAll.mono (same_hide s46) hd, hleft, hres⟩
              | true =>
                refine iteT ?_
                simp only at hleft
                cases w3 : i1 ρ1 with
                | none => rw [w3] at hleft; cases hleft
                | some es =>
                  rw [w3] at hleft
                  simp only at hleft
                  cases w4 : stD g1 t1 e (wipeD ρ1 vs1) es with
                  | none => rw [w4] at hleft; cases hleft
                  | some mid =>
                    rw [w4] at hleft
                    simp only at hleft
                    cases w5' : stD2 g t i1 vs1 g1 t1 e (wipeD ρ vs) (ds.drop (n + 1)) with
                    | none => rw [w5'] at hleft; cases hleft
                    | some left' =>
                      rw [w5'] at hleft
                      cases hleft
                      refine ⟨more M A, ρ1, es, hmA.mono s46, e5.mono (same_hide s6), w3, fun J1 H7 s7 itd1 => ?_⟩
                      have s47 := s46.trans s7
                      have hA7 : H7 A = some (.lst acc) := s47 _ _ hA
                      have hm7 := hmA.mono s47
                      have e7 : EnvR K C (hide (more M A) H7) (wipe σ5 vs1) (wipeD ρ1 vs1) := (e5.mono (same_hide (s6.trans s7))).wipe vs1
                      -- the second clause; what stood ahead of it at A: whatever the items so far
                      refine ⟨fun j k HH => k = es.length - j ∧ j ≤ es.length ∧ SameM (more M A) H7 HH ∧ Same H1 HH ∧ ∃ acc2 done2 left2, HH A = some (.lst acc2) ∧ TrAll (hide (more M A) HH) acc2 done2 ∧ stD g1 t1 e (wipeD ρ1 vs1) (es.drop j) = some left2 ∧ done2 ++ (left2 ++ left') = res,
                        ⟨es.length, by omega, Nat.zero_le _, Same.refl _, s2.trans s47, acc, done, mid, hA7, TrAll.mono (same_hide s47) hd, by rw [List.drop_zero]; exact w4, hres⟩, ?_⟩
                      rintro j k HH ⟨rfl, hj, s8, s18, acc2, done2, left2, hA8, hd8, hleft2, hres2⟩
                      have hm8 : Hid (more M A) HH := (hm.mono (s1.trans s18)).more hA8
                      obtain ⟨go1, stop1⟩ := itd1 (more M A) rfl j HH s8 hm8
                      by_cases hlt1 : j < es.length
                      · have hdj : es[j]? = some es[j] := List.getElem?_eq_getElem hlt1
                        obtain ⟨g3, g4⟩ := go1 _ hdj
                        rw [drop_get hdj] at hleft2
                        unfold stD at hleft2
                        cases v1 : g1 es[j] (wipeD ρ1 vs1) with
                        | none => rw [v1] at hleft2; cases hleft2
                        | some ρ2 =>
                          rw [v1] at hleft2
                          simp only at hleft2
                          cases v2 : t1 ρ2 with
                          | none => rw [v2] at hleft2; cases hleft2
                          | some b1 =>
                            rw [v2] at hleft2
                            refine .inr ⟨g3, fun HH => SameM (more M A) H7 HH ∧ Same H1 HH ∧ ∃ acc2 done2 left2, HH A = some (.lst acc2) ∧ TrAll (hide (more M A) HH) acc2 done2 ∧ stD g1 t1 e (wipeD ρ1 vs1) (es.drop (j + 1)) = some left2 ∧ done2 ++ (left2 ++ left') = res,
                              fun HH ⟨z1, z2⟩ => ⟨es.length - (j + 1), by omega, rfl, hlt1, z1, z2⟩, fun x1 H9 hy1 => ?_⟩
                            obtain ⟨s9, r9⟩ := g4 x1 H9 hy1
                            refine ⟨more M A, wipeD ρ1 vs1, es[j], ρ2, hm8.mono s9, (e7.mono s8).mono (same_hide s9), r9, v1, fun σ10 H10 s10 e10 w10 => ⟨w10.trans wipe_wipe, ?_⟩⟩
                            have t10 := s9.trans s10
                            refine ⟨more M A, ρ2, b1, hm8.mono t10, e10, v2, fun H11 s11 => ?_⟩
                            have t11 := t10.trans s11
                            have hA11 : H11 A = some (.lst acc2) := t11 _ _ hA8
                            cases b1 with
                            | false =>
                              refine iteF ?_
                              exact ⟨Same.trans s8 (same_hide t11), s18.trans t11, acc2, done2, left2, hA11, TrAll.mono (same_hide t11) hd8, hleft2, hres2⟩
                            | true =>
                              refine iteT ?_
                              simp only at hleft2
                              cases v3 : e ρ2 with
                              | none => rw [v3] at hleft2; cases hleft2
                              | some x0 =>
                                rw [v3] at hleft2
                                · simp only at hleft2
                                  cases v4 : stD g1 t1 e (wipeD ρ1 vs1) (es.drop (j + 1)) with
                                  | none => rw [v4] at hleft2; cases hleft2
                                  | some left3 =>
                                    rw [v4] at hleft2
                                    cases hleft2
                                    refine ⟨more M A, ρ2, x0, hm8.mono t11, e10.mono (same_hide s11), v3, fun yb H12 s12' r12 => ?_⟩
                                    have t12 := t11.trans s12'
                                    have hA12 : H12 A = some (.lst acc2) := t12 _ _ hA8
                                    refine ⟨acc2, hA12, hlen hd8 hres2 (by simp), ?_, ?_, acc2 ++ [.ref yb], done2 ++ [x0], left3, upd_same, ?_, rfl, by rw [List.append_assoc]; exact hres2⟩
                                    · show Same _ (hide (more M A) (upd H12 A _))
                                      rw [more_upd]
                                      exact Same.trans s8 (same_hide t12)
                                    · intro bb oo eb
                                      have ne : bb ≠ A := ne_of_none eb nA
                                      rw [upd_ne ne]
                                      exact t12 _ _ (s18 _ _ eb)
                                    · rw [more_upd]
                                      exact TrAll.app (TrAll.mono (same_hide t12) hd8) (.cons r12 .nil)
                      · have en : j = es.length := by omega
                        subst en
                        rw [List.drop_length] at hleft2
                        cases hleft2
                        exact .inl ⟨stop1 rfl, s18, acc2, done2, left', hA8, hd8, rfl, hres2⟩
        · have en : n = ds.length := by omega
          subst en
          rw [List.drop_length] at hleft
          cases hleft
          rw [List.append_nil] at hres
          subst hres
          refine .inl ⟨stop rfl, k _ H' s12 ?_⟩
          exact ⟨A, acc, rfl, hide_of hA mA, TrAll.mono more_le hd⟩
      · rw [if_neg q2] at hf; cases hf
theorem ds_setSt2 {W : WV} {j : Nat} {y : Str} {py : Pos} (hc : X.calm = true) (hN : X.N.Nodup) (hy : X.N[j]? = some y) (hyl : X.env.scope.names.lookup y = some .local)
    (hsw : swapsWith (.ListComp elt [⟨tg, iter, ifs, 0⟩, ⟨tg1, iter1, ifs1, 0⟩] scope pos) (some (.Name y py)) spos.line X.env = pure true) (hi : DI C X tg iter i) (ok : BlkOk X.N X.env.scope scope own) (hv : ∀ i ∈ vs1, i ∈ own.map (·.2))
    (hg : ∀ (s : Shared) (H : Hp) (L : Addr) (cl : List (Str × Addr)) (fp : List Addr), DG C (X.blk s H scope (compEnvC scope cl L X.env) fp) (own.map (·.2)) tg g)
    (ht : ∀ (s : Shared) (H : Hp) (L : Addr) (cl : List (Str × Addr)) (fp : List Addr), DTs C (X.blk s H scope (compEnvC scope cl L X.env) fp) ifs t)
    (hi1 : ∀ (s : Shared) (H : Hp) (L : Addr) (cl : List (Str × Addr)) (fp : List Addr), DI C (X.blk s H scope (compEnvC scope cl L X.env) fp) tg1 iter1 i1)
    (hg1 : ∀ (s : Shared) (H : Hp) (L : Addr) (cl : List (Str × Addr)) (fp : List Addr), DG C (X.blk s H scope (compEnvC scope cl L X.env) fp) vs1 tg1 g1)
    (ht1 : ∀ (s : Shared) (H : Hp) (L : Addr) (cl : List (Str × Addr)) (fp : List Addr), DTs C (X.blk s H scope (compEnvC scope cl L X.env) fp) ifs1 t1)
    (he : ∀ (s : Shared) (H : Hp) (L : Addr) (cl : List (Str × Addr)) (fp : List Addr), DTr C (X.blk s H scope (compEnvC scope cl L X.env) fp) elt e)
    (hs : ∀ x, foldedSetIterable iter X.env x = pure x := by intro _; rfl) (hs1 : ∀ env x, foldedSetIterable iter1 env x = pure x := by intro _ _; rfl) :
    DS C W X (.Assign [.Name y py] (.ListComp elt [⟨tg, iter, ifs, 0⟩, ⟨tg1, iter1, ifs1, 0⟩] scope pos) spos) (sSet (tgName j) (eSt2 i (own.map (·.2)) g t i1 vs1 g1 t1 e)) :=
  ⟨PS.imp (ps_setLc2 hc hN hy hyl hsw hi.pi ok hv (fun s H L cl fp => (hg s H L cl fp).pg) (fun s H L cl fp => (ht s H L cl fp).pts) (fun s H L cl fp => (hi1 s H L cl fp).pi) (fun s H L cl fp => (hg1 s H L cl fp).pg) (fun s H L cl fp => (ht1 s H L cl fp).pts) (fun s H L cl fp => (he s H L cl fp).pe) hs hs1) (d_set (d_st2 fun _ _ _ q => q))⟩
end
end FF
/-! ## FX -/
namespace FF
open PySem PySem.Spec PyProof.Rows L2 GenW

/-! ### a dict by a comprehension, its keys tuples -/
theorem d_dictSetT {X : Cx} {pins : List (Addr × Obj)} {σ : L2.St} {H : Hp} {s : Shared} {E : Value → Shared → Prop} {D b : Addr} {kvs : List (List L2.Key × V)} {k : List L2.Key} {v : V} {r : Value} {Q : Unit → Shared → Prop} (hu : X.A.units < cLine) (I : Inv X pins σ H s) (e : H D = some (.dT kvs))
    (eb : H b = some (.tup (k.map kV))) (l : kvs.length < sizeLine) (rv : RelV v r) (h : ∀ s', Inv X pins σ (upd H D (.dT (putK kvs k v))) s' → Q () s') : wpAny (model X.prog X.w) X.A (dictSet D (.ref b) r) Q E s := by
  obtain ⟨z, hd, xs, rel, dd⟩ := dt_of I.hok e
  have hz : xs.length ≤ sizeLine := by rw [← Paired.length rel]; exact z
  have hl : (putK kvs k v).length ≤ sizeLine := by have := length_putK kvs k v; omega
  refine wpAny_dictSet_heap (hsz := hz) hu (key_of I.hok eb) dd fun h' dd' hs => h _ ?_
  obtain ⟨q, es, ep, hq, h2, h3, h4, _, h5⟩ := dd'
  refine d_write I (by rw [e]; exact True.intro) hs ⟨q, hq⟩ ⟨hl, hd, _, (rel.put k eb rv).keeps fun c ys ec => ?_, q, es, ep, hq, h2, h3, h4, h5⟩
  rw [upd_ne (ne_of ec e (fun z => nomatch z))]
  exact ec
section
variable {X : Cx}
/-- keys are tracked tuples -/
def tDcT (wi : TI) (g : TG) (tt : TT) (tk tv : TE) (vs : List Nat) : TE := fun σ H Q => wi σ H fun J H1 => ∀ D, H1 D = none → ∃ W : Nat → Nat → Hp → Prop, (∃ m, W 0 m (upd H1 D (.dT []))) ∧ ∀ i m H, W i m H →
  (J.stop i H ∧ Q (.ref D) H) ∨ (J.go i H ∧ ∃ Nx : Hp → Prop, (∀ H', Nx H' → ∃ m', m' < m ∧ W (i + 1) m' H') ∧ ∀ x H', J.yld i H x H' → g x (wipe σ vs) H' fun σ2 H2 => wipe σ2 vs = wipe σ vs ∧ tt σ2 H2 fun b H3 =>
    if b = true then tk σ2 H3 fun y H4 => tv σ2 H4 fun z H5 => ∃ kvs k b, y = .ref b ∧ H5 b = some (.tup (k.map kV)) ∧ H5 D = some (.dT kvs) ∧ kvs.length < sizeLine ∧ Nx (upd H5 D (.dT (putK kvs k z))) else Nx H3)
theorem dcT_core {pins : List (Addr × Obj)} {s : Shared} {σ : L2.St} {H : Hp} {Q : VK} {kx vx tg iter : Expr} {ifs : List Expr} {scope : Scope} {own : List (Str × Nat)} {pos pos' : Pos} {wi : TI} {g : TG} {tt : TT} {tk tv : TE} {use : Option (Value → Sem Unit)} {Qf : Value → Shared → Prop}
    (hu : X.A.units < cLine) (hc : X.calm = true) (hN : X.N.Nodup) (I : Inv X pins σ H s) (hi : PI X tg iter wi) (ok : BlkOk X.N X.env.scope scope own)
    (hg : ∀ (s : Shared) (H : Hp) (L : Addr) (cl : List (Str × Addr)) (fp : List Addr), PG (X.blk s H scope (compEnvC scope cl L X.env) fp) tg g) (ht : ∀ (s : Shared) (H : Hp) (L : Addr) (cl : List (Str × Addr)) (fp : List Addr), PTs (X.blk s H scope (compEnvC scope cl L X.env) fp) ifs tt)
    (hk : ∀ (s : Shared) (H : Hp) (L : Addr) (cl : List (Str × Addr)) (fp : List Addr), PE (X.blk s H scope (compEnvC scope cl L X.env) fp) kx tk)
    (he : ∀ (s : Shared) (H : Hp) (L : Addr) (cl : List (Str × Addr)) (fp : List Addr), PE (X.blk s H scope (compEnvC scope cl L X.env) fp) vx tv) (hs : ∀ x, foldedSetIterable iter X.env x = pure x)
    (h : tDcT wi g tt tk tv (own.map (·.2)) σ H Q)
    (hRR : ∀ D C s' m H', Inv X pins σ H' s' → Q (.ref D) H' → s'.heap.Ns C m → FpOk X pins H' C → compPost (model X.prog X.w) X.A X.xe use Qf (.ref D) C (.ok .next) s') :
    wpAny (model X.prog X.w) X.A (comprehension (.DictComp kx vx [⟨tg, iter, ifs, 0⟩] scope pos) scope X.env pos' newDict false (eval iter X.env) use) Qf X.xe s := by
  have hfree : ∀ y ∈ scope.names, y.2 = .free → ∃ c, X.env.cells.lookup y.1 = some c := fun y hy e => by
    rcases ok.free y hy e with k | k
    · exact I.ok.has _ (.inl k)
    · exact I.ok.has _ (.inr k)
  refine wpAny_comprehension_free (use := use) rfl hs (closure_ok hfree) ok.kind (fun y hy e => by rw [ok.uniq y hy, e])
    (thn (hi.run pins s σ H _ I h) fun xv s1 hx => thn hx fun itv s2 h2 => ?_)
  obtain ⟨it, fp, tn, J, H2, e, I2, T, st2, f2, q⟩ := h2
  subst e
  refine wpAny_newObj_type (newEnv_comp ?_)
  generalize hD : s2.heap.objs.size = D
  have hDn : H2 D = none := I2.hok.fresh (Nat.le_of_eq hD)
  obtain ⟨W, ⟨m0, w0⟩, turn⟩ := q D hDn
  -- the new list
  generalize hs3 : ({ s2 with heap := s2.heap.push { cls := .type "dict", data := .dict #[] } } : Shared) = s3
  have I3 : Inv X pins σ (upd H2 D (.dT [])) s3 := by
    rw [← hs3]
    refine I2.laid (t' := s2.toks) (fun b o e => Heap.get?_push_of_some _ e) (Nat.le_of_eq hD) ?_
    rw [← hD]
    exact dt_empty s2.heap I2.big
  have h3 : s3.heap = s2.heap.push { cls := .type "dict", data := .dict #[] } := by rw [← hs3]
  have sz : ∀ b ∈ fp, b < s2.heap.objs.size := fun b hb => by
    obtain ⟨o, e, _⟩ := T.obj _ _ st2 b hb
    exact Heap.lt_size e
  have f3 : ∀ b ∈ fp, FpOk X pins (upd H2 D (.dT [])) b ∧ b < s3.heap.objs.size := fun b hb => by
    have hlt := sz b hb
    refine ⟨⟨?_, (f2 b hb).2⟩, by rw [h3, Heap.size_push]; exact Nat.lt_succ_of_lt hlt⟩
    rw [upd_ne (by rw [← hD]; exact Nat.ne_of_lt hlt)]
    exact (f2 b hb).1
  have st3 : tn 0 s3.heap := T.keep _ _ _ st2 fun b _ o e => by rw [h3]; exact Heap.get?_push_of_some _ e
  have I4 := block_start I3 ok hN f3
  have pg := hg s3 (upd H2 D (.dT [])) s3.heap.objs.size (cellsFrom (s3.heap.objs.size + 1) scope.names (cloFrom X.env.cells scope.names [])) fp
  have pt := ht s3 (upd H2 D (.dT [])) s3.heap.objs.size (cellsFrom (s3.heap.objs.size + 1) scope.names (cloFrom X.env.cells scope.names [])) fp
  have pk := hk s3 (upd H2 D (.dT [])) s3.heap.objs.size (cellsFrom (s3.heap.objs.size + 1) scope.names (cloFrom X.env.cells scope.names [])) fp
  have pe := he s3 (upd H2 D (.dT [])) s3.heap.objs.size (cellsFrom (s3.heap.objs.size + 1) scope.names (cloFrom X.env.cells scope.names [])) fp
  show codeAny _ _ (.compStart (.DictComp kx vx [⟨tg, iter, ifs, 0⟩] scope pos) 0 (.ref it) (.ref D) (compEnvC scope (cellsFrom (s3.heap.objs.size + 1) scope.names (cloFrom X.env.cells scope.names [])) s3.heap.objs.size X.env)) (compPost (model X.prog X.w) X.A X.xe use Qf (.ref D) s3.heap.objs.size) { s3 with heap := pushCells (s3.heap.push { cls := .type "dict", data := .dict #[] }) scope.names }
  have nfp : ∀ b ∈ fp, (upd H2 D (.dT [])) b = none := fun b hb => (f3 b hb).1.1
  generalize hce : compEnvC scope (cellsFrom (s3.heap.objs.size + 1) scope.names (cloFrom X.env.cells scope.names [])) s3.heap.objs.size X.env = ce at I4 pg pt pk pe ⊢
  have cL : ce.locals = s3.heap.objs.size := by subst hce; rfl
  generalize hH3 : upd H2 D (.dT []) = H3 at I3 I4 pg pt pk pe w0 nfp f3
  generalize hs4 : ({ s3 with heap := pushCells (s3.heap.push { cls := .type "dict", data := .dict #[] }) scope.names } : Shared) = s4 at I4 ⊢
  have st4 : tn 0 s4.heap := T.keep _ _ _ st3 fun b _ o e => by rw [← hs4]; exact pushCells_keeps _ _ _ _ (Heap.get?_push_of_some _ e)
  have stat : ∀ {σ' : L2.St} {H' : Hp} {s' : Shared}, Inv (X.blk s3 H3 scope ce fp) [] σ' H' s' → (∀ b ∈ fp, H' b = none) → ∀ b ∈ fp, FpOk (X.blk s3 H3 scope ce fp) [] H' b := fun {σ' H' s'} I' hn b hb =>
    ⟨hn b hb, (I'.ok.exf b hb).1, I'.ok.exfs b hb, .inl hb, fun x c e => (I'.ok.exf b hb).2 x c e, fun p hp => absurd (show p ∈ ([] : List (Addr × Obj)) ++ [] from hp) (by simp)⟩
  have loop : codeAny (model X.prog X.w) X.A (.compLoop (.DictComp kx vx [⟨tg, iter, ifs, 0⟩] scope pos) 0 (.ref it) (.ref D) ce) (compPost (model X.prog X.w) X.A X.xe use Qf (.ref D) s3.heap.objs.size) s4 := by
    refine compLoop_anyD (fun n s' => ∃ i H', Inv (X.blk s3 H3 scope ce fp) [] (wipe σ (own.map (·.2))) H' s' ∧ tn i s'.heap ∧ (∀ b ∈ fp, H' b = none) ∧ W i n H') ?_ m0 ⟨0, H3, I4, st4, nfp, w0⟩
    rintro n s5 ⟨i, H5, I5, st5, n5, w5⟩
    rcases turn i n H5 w5 with ⟨stop, qq⟩ | ⟨go, Nx, hNx, step⟩
    · have td := T.done (X.blk s3 H3 scope ce fp) rfl rfl rfl hc i [] s5 _ H5 (fun _ _ => False) I5 (stat I5 n5) st5 stop
      refine thnF td fun r s6 ⟨hr, I6⟩ => ?_
      subst hr
      -- back in the def's context
      have I7 : Inv X pins σ H5 s6 := I3.call' (ch := fp) I6.os I6.base I6.hok I6.bare fun b hb => ⟨(f3 b hb).1.2.2.2.1, (f3 b hb).1.2.1, (f3 b hb).1.2.2.2.2.1, (f3 b hb).1.2.2.2.2.2⟩
      have nC : H5 s3.heap.objs.size = none := by
        have z : H5 ce.locals = none := I6.free
        rw [cL] at z
        exact z
      obtain ⟨m, hn, _⟩ := I6.loc
      have hn : s6.heap.Ns ce.locals m := hn
      rw [cL] at hn
      exact hRR D s3.heap.objs.size s6 m H5 I7 qq hn (I3.fpOk (Nat.le_refl _) nC)
    · have ti := T.item (X.blk s3 H3 scope ce fp) rfl rfl rfl hc i [] s5 _ H5 (fun _ _ => False) I5 (stat I5 n5) st5 go
      refine thnF ti fun r s6 ⟨u, hr, h6⟩ => ?_
      subst hr
      refine thnF h6 fun _ s7 ⟨x, H7, I7, r7, y7, st7, n7⟩ => ?_
      have I7' := I7.pinned (stat I7 n7) (T.obj _ _ st7)
      refine thnF (pg.run _ s7 _ H7 x u _ I7' r7 (step x H7 y7)) fun _ s8 ⟨σ8, H8, I8, hw8, q8⟩ => ?_
      refine thnF (pt.run _ s8 σ8 H8 _ I8 q8) fun b s9 ⟨H9, I9, q9⟩ => ?_
      -- the turn's end
      have fin : ∀ {s' : Shared} {H' : Hp}, Inv (X.blk s3 H3 scope ce fp) ([] ++ pinsAt fp s7.heap) σ8 H' s' → Nx H' → ∃ m, m < n ∧ ∃ i H', Inv (X.blk s3 H3 scope ce fp) [] (wipe σ (own.map (·.2))) H' s' ∧ tn i s'.heap ∧ (∀ b ∈ fp, H' b = none) ∧ W i m H' := fun {s' H'} I' nx => by
        obtain ⟨m', hm, w'⟩ := hNx H' nx
        have pin' : ∀ b ∈ fp, ∀ o, s7.heap.get? b = some o → s'.heap.get? b = some o ∧ H' b = none := fun b hb o e =>
          let z := I'.pin (b, o) (List.mem_append_right _ (List.mem_append_right _ (mem_pinsAt hb e)))
          ⟨z.1, z.2.1⟩
        have hl : (wipe σ (own.map (·.2))).length = σ8.length := by rw [← hw8, wipe_length]
        refine ⟨m', hm, i + 1, H', (I'.unpinned (pins := [])).weak hl (fun j v e => ?_), T.keep _ _ _ st7 fun b hb o e => (pin' b hb o e).1, fun b hb => ?_, w'⟩
        · rw [← hw8] at e
          exact (wipe_some e).1
        · obtain ⟨o, e, _⟩ := T.obj _ _ st7 b hb
          exact (pin' b hb o e).2
      cases b with
      | false =>
        simp only [Bool.false_eq_true, if_false] at q9 ⊢
        exact fin I9 q9
      | true =>
        simp only [if_true] at q9 ⊢
        refine thnF (pk.run _ s9 σ8 H9 _ I9 q9) fun z s10 ⟨yk, H10, I10, r10, q10⟩ => ?_
        refine thnF (pe.run _ s10 σ8 H10 _ I10 q10) fun z2 s11 ⟨yv, H11, I11, r11, kvs, k, kb, ek, hkb, hD11, hz11, nx⟩ => ?_
        subst ek
        cases (show z = Value.ref kb from r10)
        exact d_dictSetT (X := X.blk s3 H3 scope ce fp) hu I11 hD11 hkb hz11 r11 fun s12 I12 => fin I12 nx
  exact codeAny_compStart_dict loop (T.self X.A 0 _ _ _ st4 loop)
theorem pe_dcT {kx vx tg iter : Expr} {ifs : List Expr} {scope : Scope} {own : List (Str × Nat)} {pos : Pos} {wi : TI} {g : TG} {tt : TT} {tk tv : TE} (hu : X.A.units < cLine) (hc : X.calm = true) (hN : X.N.Nodup) (hi : PI X tg iter wi) (ok : BlkOk X.N X.env.scope scope own)
    (hg : ∀ (s : Shared) (H : Hp) (L : Addr) (cl : List (Str × Addr)) (fp : List Addr), PG (X.blk s H scope (compEnvC scope cl L X.env) fp) tg g) (ht : ∀ (s : Shared) (H : Hp) (L : Addr) (cl : List (Str × Addr)) (fp : List Addr), PTs (X.blk s H scope (compEnvC scope cl L X.env) fp) ifs tt)
    (hk : ∀ (s : Shared) (H : Hp) (L : Addr) (cl : List (Str × Addr)) (fp : List Addr), PE (X.blk s H scope (compEnvC scope cl L X.env) fp) kx tk)
    (he : ∀ (s : Shared) (H : Hp) (L : Addr) (cl : List (Str × Addr)) (fp : List Addr), PE (X.blk s H scope (compEnvC scope cl L X.env) fp) vx tv) (hs : ∀ x, foldedSetIterable iter X.env x = pure x := by intro _; rfl) :
    PE X (.DictComp kx vx [⟨tg, iter, ifs, 0⟩] scope pos) (tDcT wi g tt tk tv (own.map (·.2))) := by
  refine ⟨fun pins s σ H Q I h => ?_⟩
  rw [arm_eval_DictComp]
  refine dcT_core hu hc hN I hi ok hg ht hk he hs h fun D C s' m H' I' q hn f => ⟨m, hn, fun h'' sb => ?_⟩
  obtain ⟨f0, f1, f2, f3, f4, f5⟩ := f
  exact ⟨.ref D, H', I'.turned (t' := s'.toks) (fun b o hb e => (sb.2 b hb).trans e) f0 f1 f3 f4 f5, rfl, q⟩

end
end FF
/-! ## FY -/
namespace FF
open PySem PySem.Spec PyProof.Rows L2 GenW

/-! ### list(f(..)), f a generator def that hands out states -/
def keysI : List PD → Option (List (List Int))
  | [] => some []
  | .tuple l :: r => match keyI l with
    | none => none
    | some k => match keysI r with
      | none => none
      | some m => some (k :: m)
  | _ => none
theorem keyI_map : ∀ k : List Int, keyI (k.map .int) = some k
  | [] => rfl
  | i :: r => by
    show (match keyI (r.map .int) with | none => none | some t => some (i :: t)) = _
    rw [keyI_map r]
theorem keysI_map : ∀ l : List (List Int), keysI (l.map stP) = some l
  | [] => rfl
  | k :: r => by
    show (match keyI (k.map .int) with | none => none | some k' => match keysI (r.map stP) with | none => none | some m => some (k' :: m)) = _
    rw [keyI_map k, keysI_map r]
def lGen (n : Nat) (m : List D → Option (List PD)) (fs : Ev → Option (List D)) : Ev → Option (List (List Int)) := fun ρ => match fs ρ with
  | none => none
  | some ds => if Nat.beq ds.length n = true then (match m ds with
    | none => none
    | some items => if few items = true then keysI items else none) else none
theorem lgen_some {n : Nat} {m : List D → Option (List PD)} {fs : Ev → Option (List D)} {ρ : Ev} {l : List (List Int)} (h : lGen n m fs ρ = some l) : ∃ ds items, fs ρ = some ds ∧ ds.length = n ∧ m ds = some items ∧ few items = true ∧ keysI items = some l := by
  unfold lGen at h
  cases q : fs ρ with
  | none => rw [q] at h; cases h
  | some ds =>
    rw [q] at h
    simp only at h
    by_cases q2 : Nat.beq ds.length n = true
    · rw [if_pos q2] at h
      cases q3 : m ds with
      | none => rw [q3] at h; cases h
      | some items =>
        rw [q3] at h
        simp only at h
        by_cases q4 : few items = true
        · rw [if_pos q4] at h
          exact ⟨ds, items, rfl, Nat.eq_of_beq_eq_true q2, q3, q4, h⟩
        · rw [if_neg q4] at h; cases h
    · rw [if_neg q2] at h; cases h
def dSt (K : PySem.W.Frag) (C : Addr) (f : Ev → Option (List (List Int))) : TE := fun σ H Q => ∃ (M : Msk) (ρ : Ev) (l : List (List Int)), Hid M H ∧ EnvR K C (hide M H) σ ρ ∧ f ρ = some l ∧ ∀ a xs H', Same H H' → hide M H' a = some (.lst xs) → TrAll (hide M H') xs l → Q (.ref a) H'
section
variable {C : Addr} {X : Cx} {k n : Nat} {f : Addr} {fd : FuncData} {ps : List Str} {m : List D → Option (List PD)} {x nm : Str} {e : Expr} {es : List Expr} {fs : Ev → Option (List D)} {p p2 pos pos2 : Pos}
theorem pe_genS (F : GnOk true X.prog X.w X.K X.mg X.base C k f fd ps n m) (hr : Room (k + 3) X.A) (hg : Gl X x) (hm : X.mg x = some (.ref f)) (hk : PySem.W.keepIn X.K (.ref f) = true) (hb : L2.Binds X.K fd ps []) (hgl : Gl X "list") (hml : X.mg "list" = none)
    (ha : DA C X (e :: es) fs) (hdb : (x == ("__debug__" : Str)) = false := by decide) (he : starEach (e :: es) X.env = (false, eval e X.env) :: starEach es X.env := by rfl) (hpl : (backTo pos (starEach es X.env)).any (·.1) = false := by rfl)
    (he2 : starEach [.Call (.Name x p) (e :: es) [] pos] X.env = (false, eval (.Call (.Name x p) (e :: es) [] pos) X.env) :: starEach [] X.env := by rfl) :
    PE X (.Call (.Name "list" p2) [.Call (.Name x p) (e :: es) [] pos] [] pos2) (dSt X.K C (lGen n m fs)) := by
  refine ⟨fun pins s σ H Q I q => ?_⟩
  obtain ⟨M, ρ, l, hmk, hrr, hf, kq⟩ := q
  obtain ⟨ds, items, h1, h2, h3, h4, h5⟩ := lgen_some hf
  refine wpAny_Call_Name_kw (ld_blt I hgl hml boot_list ?_ (by decide) (by decide))
  refine PyProof.Rows.callWith_type1 ?_ he2 rfl
  rw [he2]
  show wpAny _ _ (spliced ((false, eval (.Call (.Name x p) (e :: es) [] pos) X.env) :: backTo pos2 (starEach [] X.env))) _ _ s
  have inner : wpAny (model X.prog X.w) X.A (eval (.Call (.Name x p) (e :: es) [] pos) X.env) (fun u s2 => ∃ H1 sc, Inv X pins σ H1 sc ∧ Same H H1 ∧ GMd true X.prog X.w X.K k X.stack H1 sc M items u s2) X.xe s := by
    refine wpAny_Call_Name_kw (ld_glob I hg hm ?_ hdb)
    refine PySem.W.callWith_K (h₀ := X.base) I.ok.mod.kin hk (thn (ha.pa.run pos pins s σ H (fun vs H1 => Same H H1 ∧ RpAll X.K C (hide M H1) vs ds) I ⟨M, ρ, ds, hmk, hrr, h1, fun vs H1 s1 r1 => ⟨s1, r1⟩⟩) fun us s1 ⟨vs, H1, I1, r, sm, rs⟩ => ⟨I1.kIn, ?_⟩) he hpl
    exact wpAny_mono (run_gn F (hr.mono (by omega)) hb I1 r (hmk.mono sm) rs h2 h3) (fun u s2 hG => ⟨H1, s1, I1, sm, hG⟩) fun _ _ z => z
  refine Calls.spliced_cons (thn inner fun u s2 ⟨H1, sc, I1, sm, hG⟩ => ?_)
  refine Calls.spliced_nil ?_
  have hN : items.length ≤ sizeLine := Nat.le_of_lt (few_line h4)
  refine call_listO hr I1.ok.frames hG hN (cs_lt I1) fun S s' it F us c L a g hS hlen hP => ?_
  obtain ⟨H', xs, ⟨os, bare, un, hok⟩, ⟨hpn, _⟩, _, sm2, hF, rv, hx⟩ := hP
  obtain ⟨hSo, hSn⟩ := hpn _ (List.mem_singleton.mpr rfl)
  have hlx : xs.length ≤ sizeLine := by rw [DpAll_len hx.dp]; exact hN
  have I2 := I1.drained (out := xs) (ex := []) hS hlx hSo (by simpa using rv) ExOk.nil os bare un hok hSn
  have hm' := hmk.mono (sm.trans sm2)
  obtain ⟨l', e', tr⟩ := hx.st rfl
  rw [e', keysI_map] at h5
  cases h5
  exact ⟨.ref S, _, I2, rfl, kq _ _ _ ((sm.trans sm2).trans (same_new hSn)) (hide_new hm' hSn) (tr.mono (same_hide (same_new hSn)))⟩
end

/-! ### {state: .. for state in ..} -/
def dcM (f : Ev → Option D) (j : Nat) (ρ : Ev) : List (List Int × PD) → List (List Int) → Option (List (List Int × PD))
  | acc, [] => some acc
  | acc, k :: l => match f (put ρ j (.p (stP k))) with
    | some (.p d) => (match findF acc k with
      | none => dcM f j ρ (acc ++ [(k, d)]) l
      | some _ => none)
    | _ => none
theorem findF_none {K : PySem.W.Frag} {H : Hp} {kvs : List (List L2.Key × V)} {c : List (List Int × PD)} {i : List Int} (h : FsOk K H kvs c) (e : findF c i = none) : valV kvs (i.map Sum.inl) = none := by
  induction h with
  | nil => rfl
  | @cons k v d' kvs fs h1 h2 ih =>
    unfold findF at e
    by_cases q : eqIs k i = true
    · rw [if_pos q] at e; cases e
    · rw [if_neg q] at e
      have ek : ¬ k = i := fun z => q (by rw [eqIs_eq]; exact decide_eq_true z)
      have ek2 : ¬ k.map (Sum.inl : Int → L2.Key) = i.map Sum.inl := fun z => ek (map_inl_inj z)
      rw [valV_neg (p := (k.map (Sum.inl : Int → L2.Key), v)) ek2]
      exact ih e
theorem FsOk.snoc {K : PySem.W.Frag} {H : Hp} {kvs : List (List L2.Key × V)} {c : List (List Int × PD)} {k : List Int} {v : V} {d : PD} (h : FsOk K H kvs c) (r : Dp K H v d) : FsOk K H (kvs ++ [(k.map Sum.inl, v)]) (c ++ [(k, d)]) := by
  induction h with
  | nil => exact .cons r .nil
  | cons h1 _ ih => exact .cons h1 ih
theorem d_dcT {K : PySem.W.Frag} {C : Addr} {tl : TE} {j : Nat} {vs : List Nat} {f : Ev → Option D} {σ : L2.St} {H H1 : Hp} {Q : VK} {M : Msk} {ρ : Ev} {a : Addr} {xs : List V} {l : List (List Int)} {res : List (List Int × PD)} (hj : j ∈ vs)
    (hm : Hid M H1) (he : EnvR K C (hide M H1) σ ρ) (ha : hide M H1 a = some (.lst xs)) (hx : TrAll (hide M H1) xs l) (hl : few l = true) (hf : dcM f j (wipeD ρ vs) [] l = some res) (hjl : j < σ.length)
    (hQ : ∀ b kvs H', Same H1 H' → hide M H' b = some (.dT kvs) → FsOk K (hide M H') kvs res → Q (.ref b) H') (ht : ∀ R, R (.ref a) H1 → tl σ H R) :
    tDcT (iList K tl) (gName j) tYes (tVar j) (dE K C f) vs σ H Q := by
  refine ht _ ⟨a, rfl, ⟨xs, seqL_hide (SqL.of ha)⟩, fun Dd nD => ?_⟩
  have mD : M Dd = false := hm.new nD
  have hsame : hide (more M Dd) H1 = hide M H1 := more_new nD
  refine ⟨fun i m H' => m = l.length - i ∧ i ≤ l.length ∧ Same H1 H' ∧ ∃ kvs acc, H' Dd = some (.dT kvs) ∧ kvs.length ≤ i ∧ FsOk K (hide (more M Dd) H') kvs acc ∧ dcM f j (wipeD ρ vs) acc (l.drop i) = some res,
    ⟨l.length, by omega, Nat.zero_le _, same_new nD, [], [], upd_same, Nat.le_refl _, .nil, by rw [List.drop_zero]; exact hf⟩, ?_⟩
  rintro i m H' ⟨rfl, hi, s2, kvs, acc, hD, hk, hacc, hleft⟩
  have hm2 := hm.mono s2
  have hmD : Hid (more M Dd) H' := hm2.more hD
  have hxl := hx.len
  have haH : H' a = some (.lst xs) := s2 _ _ (of_hide ha).2
  have he' : EnvR K C (hide (more M Dd) H') (wipe σ vs) (wipeD ρ vs) := by
    have z := he.wipe vs
    rw [← hsame] at z
    exact z.mono (same_hide s2)
  by_cases hlt : i < l.length
  · have hdi : l[i]? = some l[i] := List.getElem?_eq_getElem hlt
    obtain ⟨b, hxi, hb⟩ := hx.get hdi
    rw [drop_get hdi] at hleft
    unfold dcM at hleft
    split at hleft
    · rename_i d q1
      split at hleft
      · rename_i q2
        refine .inr ⟨⟨xs, .ref b, SqL.of haH, hxi⟩, fun H3 => Same H1 H3 ∧ ∃ kvs acc, H3 Dd = some (.dT kvs) ∧ kvs.length ≤ i + 1 ∧ FsOk K (hide (more M Dd) H3) kvs acc ∧ dcM f j (wipeD ρ vs) acc (l.drop (i + 1)) = some res,
          fun H3 ⟨z1, z2⟩ => ⟨l.length - (i + 1), by omega, rfl, hlt, z1, z2⟩, fun x H4 hy => ?_⟩
        obtain ⟨rfl, hy⟩ := hy
        have hxb := hy xs (SqL.of haH)
        rw [hxi] at hxb
        cases hxb
        refine ⟨wipe_set hj |>.trans wipe_wipe, ?_⟩
        have hbD : hide (more M Dd) H4 b = some (.tup (kI l[i])) := by
          rw [← hsame] at hb
          exact same_hide s2 _ _ hb
        have e1 : EnvR K C (hide (more M Dd) H4) ((wipe σ vs).set j (some (.ref b))) (put (wipeD ρ vs) j (.p (stP l[i]))) := he'.put (stP_dp hbD)
        unfold tYes
        dsimp only
        refine iteT ?_
        refine ⟨.ref b, by rw [List.getElem?_set_self (by rw [wipe_length]; exact hjl)], more M Dd, _, .p d, hmD, e1, q1, fun y H5 s5 r5 => ?_⟩
        have hD5 : H5 Dd = some (.dT kvs) := s5 _ _ hD
        have hln : kvs.length < sizeLine := by
          have := few_line hl
          omega
        refine ⟨kvs, l[i].map Sum.inl, b, rfl, s5 _ _ (of_hide hbD).2, hD5, hln, ?_, _, acc ++ [(l[i], d)], upd_same, ?_, ?_, hleft⟩
        · intro bb oo eb
          rw [upd_ne (ne_of_none eb nD)]
          exact s5 _ _ (s2 _ _ eb)
        · rw [putK_new y (findF_none hacc q2), List.length_append, List.length_singleton]
          omega
        · rw [more_upd, putK_new y (findF_none hacc q2)]
          exact (hacc.mono (same_hide s5)).snoc r5
      · cases hleft
    · cases hleft
  · have en : i = l.length := by omega
    subst en
    rw [List.drop_length] at hleft
    cases hleft
    exact .inl ⟨⟨xs, SqL.of haH, by rw [hxl]; exact Nat.le_refl _⟩, hQ Dd kvs H' s2 (hide_of hD mD) (hacc.mono more_le)⟩
end FF
/-! ## FYA -/
namespace FF
open PySem PySem.Spec PyProof.Rows L2 GenW

/-! ### a look is made -/
abbrev MkM := List D → Option (List PD × List (List Int) × List (List Int × PD))
def spI (K : PySem.W.Frag) (C : Addr) (n : Nat) (mk : MkM) : Sp := fun vs Hc Q _ => vs.length = n + 1 ∧ ∃ (M : Msk) (x dx : Addr) (vs' : List V) (ds : List D) (ws : List PD) (l : List (List Int)) (fs : List (List Int × PD)),
  vs = .ref x :: vs' ∧ Hc x = some (.ins C dx []) ∧ M x = true ∧ Hid M Hc ∧ RpAll K C (hide M Hc) vs' ds ∧ mk ds = some (ws, l, fs) ∧
  ∀ (H2 : Hp) (aw as af : Addr) (xw xs : List V) (kvs : List (List L2.Key × V)), (∀ b o, b ≠ x → Hc b = some o → H2 b = some o) → H2 x = some (.ins C dx [(("list_words" : Str), .ref aw), (("every_state" : Str), .ref as), (("failed" : Str), .ref af)]) →
    hide M H2 aw = some (.lst xw) → DpAll K (hide M H2) xw ws → hide M H2 as = some (.lst xs) → TrAll (hide M H2) xs l → hide M H2 af = some (.dT kvs) → FsOk K (hide M H2) kvs fs → Q .non H2
/-- what the three statements give -/
def mkD (fw : Ev → Option (List PD)) (fst : Ev → Option (List (List Int))) (ff : Ev → Option D) (j : Nat) (vs : List Nat) (e : Nat) : MkM := fun ds => match fw (none :: somes ds (nones e)) with
  | none => none
  | some ws => match fst (none :: somes ds (nones e)) with
    | none => none
    | some l => if few l = true then (match dcM ff j (wipeD (none :: somes ds (nones e)) vs) [] l with
      | none => none
      | some fs => some (ws, l, fs)) else none
theorem hide_upd {M : Msk} {H : Hp} {x : Addr} {o : HO} (h : M x = true) : hide M (upd H x o) = hide M H := by
  funext b
  unfold hide
  by_cases e : b = x
  · subst e
    rw [if_pos h, if_pos h]
  · rw [upd_ne e]
theorem Hid.upd {M : Msk} {H : Hp} {x : Addr} {o : HO} (h : Hid M H) (nt : noTup o = true := by rfl) : Hid M (upd H x o) := fun b m => by
  by_cases e : b = x
  · subst e
    exact ⟨o, upd_same, nt⟩
  · rw [upd_ne e]
    exact h b m
theorem env_startI {K : PySem.W.Frag} {C : Addr} {H : Hp} {N : List Str} {v : V} {vs : List V} {ds : List D} {e n : Nat} (h : RpAll K C H vs ds) (hn : vs.length = n) (he : n + 1 + e = N.length) : EnvR K C H (start N (v :: vs)) (none :: somes ds (nones e)) := by
  cases N with
  | nil => exact absurd he (by simp)
  | cons y N =>
    have z := env_start (N := N) h hn (e := e) (by simp only [List.length_cons] at he; omega)
    have es : start (y :: N) (v :: vs) = some v :: start N vs := by
      unfold L2.start
      simp only [List.length_cons, List.map_cons, List.cons_append, Nat.add_sub_add_right]
    rw [es]
    refine ⟨congrArg Nat.succ z.len, fun i d q => ?_⟩
    cases i with
    | zero => cases q
    | succ i =>
      obtain ⟨u, a, b⟩ := z.get i d q
      exact ⟨u, a, b⟩
theorem initD {P : Program} {w : World} {K : PySem.W.Frag} {mg : Str → Option Value} {base : Heap} {C : Addr} {x qual : Str} {st a1 a2 a3 : Stmt} {f : Addr} {fd : FuncData} {N ps : List Str} {k e n j : Nat} {vs : List Nat} {fw : Ev → Option (List PD)} {fst : Ev → Option (List (List Int))} {ff : Ev → Option D}
    (c : Cls K C) (nW : NoAttr K C "list_words") (nS : NoAttr K C "every_state") (nF : NoAttr K C "failed")
    (F : Fun K x qual st f fd) (S : FnScope N ps (defScope st)) (he : ps.length + e = N.length) (hn : n + 1 = ps.length) (hbody : defBody st = [a1, a2, a3]) (hj : j ∈ vs) (hjN : j < N.length)
    (hb : ∀ (cdv : Value) (A : Around) (outer : List Env) (s : Shared) (H : Hp) (E : XK), Room k (A.deeper (envOfC qual (defScope st) s.heap.objs.size f cdv)) →
      PS (cxOf (L2.CX P w) P w K mg base N qual (defScope st) f cdv A outer s H E).nox a1 (sFld K (tVar 0) (dL K C fw) "list_words") ∧
      PS (cxOf (L2.CX P w) P w K mg base N qual (defScope st) f cdv A outer s H E).nox a2 (sFld K (tVar 0) (dSt K C fst) "every_state") ∧
      PS (cxOf (L2.CX P w) P w K mg base N qual (defScope st) f cdv A outer s H E).nox a3 (sFld K (tVar 0) (tDcT (iList K (tFld K (tVar 0) "every_state")) (gName j) tYes (tVar j) (dE K C ff) vs) "failed")) :
    FnOk P w K mg base (L2.CX P w) (k + 1) f fd ps (spI K C n (mkD fw fst ff j vs e)) := by
  refine F.okX S (fun vs H Q E h => by rw [h.1]; exact hn) (fun cdv A outer s H vs' Q E hr h => ?_)
  obtain ⟨h1, h2, h3⟩ := hb cdv A outer s H E hr
  refine ⟨_, PSs.nox (by rw [hbody]; exact pss_cons h1 (pss_cons h2 (pss_one h3))), ?_⟩
  obtain ⟨hlen, M, x, dx, us, ds, ws, l, fs, rfl, hx, mx, hm, hr, hmk, kq⟩ := h
  unfold mkD at hmk
  cases q1 : fw (none :: somes ds (nones e)) with
  | none => rw [q1] at hmk; cases hmk
  | some ws' =>
    rw [q1] at hmk
    simp only at hmk
    cases q2 : fst (none :: somes ds (nones e)) with
    | none => rw [q2] at hmk; cases hmk
    | some l' =>
      rw [q2] at hmk
      simp only at hmk
      by_cases q3 : few l' = true
      · rw [if_pos q3] at hmk
        cases q4 : dcM ff j (wipeD (none :: somes ds (nones e)) vs) [] l' with
        | none => rw [q4] at hmk; cases hmk
        | some fs' =>
          rw [q4] at hmk
          cases hmk
          have hul : us.length = n := by simpa using hlen
          have e0 : EnvR K C (hide M H) (start N (.ref x :: us)) (none :: somes ds (nones e)) := env_startI hr hul (by omega)
          have s0 : (start N (.ref x :: us))[0]? = some (some (.ref x)) := rfl
          refine ⟨M, _, ws, hm, e0, q1, fun aw xw H1 s1 w1 w2 => ⟨.ref x, s0, x, C, dx, [], rfl, s1 _ _ hx, c, nW, by decide, ?_⟩⟩
          have t1 : hide M (upd H1 x (.ins C dx (putF "list_words" (.ref aw) []))) = hide M H1 := hide_upd mx
          have e1 := e0.mono (same_hide s1)
          rw [← t1] at e1 w1 w2
          refine ⟨M, _, l, (hm.mono s1).upd, e1, q2, fun as xs H2 s2 w3 w4 => ⟨.ref x, s0, x, C, dx, _, rfl, s2 _ _ upd_same, c, nS, by show 1 < 1000; decide, ?_⟩⟩
          have e2 := e1.mono (same_hide s2)
          have w1' := same_hide s2 _ _ w1
          have w2' := DpAll_mono (same_hide s2) _ _ w2
          have t2 : hide M (upd H2 x (.ins C dx (putF "every_state" (.ref as) (putF "list_words" (.ref aw) [])))) = hide M H2 := hide_upd mx
          rw [← t2] at e2 w1' w2' w3 w4
          have ek : (("every_state" : Str) == ("list_words" : Str)) = false := by decide +kernel
          have ekl : ¬ (("list_words" : Str) = ("every_state" : Str)) := by decide +kernel
          have p2 : putF "every_state" (.ref as) (putF "list_words" (.ref aw) []) = [(("list_words" : Str), V.ref aw), (("every_state" : Str), .ref as)] := by
            simp [putF, ekl]
          rw [p2] at e2 w1' w2' w3 w4 ⊢
          have hm2 : Hid M (upd H2 x (.ins C dx [(("list_words" : Str), V.ref aw), (("every_state" : Str), .ref as)])) := (((hm.mono s1).upd).mono s2).upd
          show sFld K (tVar 0) (tDcT (iList K (tFld K (tVar 0) "every_state")) (gName j) tYes (tVar j) (dE K C ff) vs) "failed" { nx := fun _ H' => Q .non H', rt := Q } _ _
          unfold sFld
          refine d_dcT hj hm2 e2 w3 w4 q3 q4 (by unfold L2.start; simp; omega) (fun af kvs H3 s3 w5 w6 => ?_) fun R hR => ?_
          · refine ⟨.ref x, s0, x, C, dx, _, rfl, s3 _ _ upd_same, c, nF, by show 2 < 1000; decide, ?_⟩
            have f1 : ¬ (("list_words" : Str) = ("failed" : Str)) := by decide +kernel
            have f2 : ¬ (("every_state" : Str) = ("failed" : Str)) := by decide +kernel
            have p3 : putF "failed" (.ref af) [(("list_words" : Str), V.ref aw), (("every_state" : Str), .ref as)] = [(("list_words" : Str), V.ref aw), (("every_state" : Str), .ref as), (("failed" : Str), .ref af)] := by
              simp [putF, f1, f2]
            rw [p3]
            have t3 : hide M (upd H3 x (.ins C dx [(("list_words" : Str), V.ref aw), (("every_state" : Str), .ref as), (("failed" : Str), .ref af)])) = hide M H3 := hide_upd mx
            refine kq _ aw as af xw xs kvs (fun b o nb eb => ?_) upd_same ?_ ?_ ?_ ?_ ?_ ?_
            · rw [upd_ne nb]
              refine s3 _ _ ?_
              rw [upd_ne nb]
              refine s2 _ _ ?_
              rw [upd_ne nb]
              exact s1 _ _ eb
            · rw [t3]; exact same_hide s3 _ _ w1'
            · rw [t3]; exact DpAll_mono (same_hide s3) _ _ w2'
            · rw [t3]; exact same_hide s3 _ _ w3
            · rw [t3]; exact w4.mono (same_hide s3)
            · rw [t3]; exact w5
            · rw [t3]; exact w6
          · refine ⟨.ref x, s0, x, C, dx, _, .ref as, rfl, upd_same, c, nS, ?_, hR⟩
            simp [List.lookup, ek]
      · rw [if_neg q3] at hmk; cases hmk

def eMake (n : Nat) (mk : MkM) (fs : Ev → Option (List D)) : Ev → Option D := fun ρ => match fs ρ with
  | none => none
  | some ds => if Nat.beq ds.length n = true then (match mk ds with
    | none => none
    | some (ws, l, fl) => some (.look ws (l.map stP) fl)) else none
theorem emake_some {n : Nat} {mk : MkM} {fs : Ev → Option (List D)} {ρ : Ev} {d : D} (h : eMake n mk fs ρ = some d) : ∃ ds ws l fl, fs ρ = some ds ∧ ds.length = n ∧ mk ds = some (ws, l, fl) ∧ d = .look ws (l.map stP) fl := by
  unfold eMake at h
  cases q : fs ρ with
  | none => rw [q] at h; cases h
  | some ds =>
    rw [q] at h
    simp only at h
    by_cases q2 : Nat.beq ds.length n = true
    · rw [if_pos q2] at h
      cases q3 : mk ds with
      | none => rw [q3] at h; cases h
      | some r =>
        rw [q3] at h
        obtain ⟨ws, l, fl⟩ := r
        cases h
        exact ⟨ds, ws, l, fl, rfl, Nat.eq_of_beq_eq_true q2, q3, rfl⟩
    · rw [if_neg q2] at h; cases h
section
variable {C : Addr} {X : Cx} {k n : Nat} {f : Addr} {fd : FuncData} {ps : List Str} {mk : MkM} {x : Str} {e : Expr} {es : List Expr} {fs : Ev → Option (List D)} {p pos : Pos}
theorem de_make (Mk0 : Mk X.K C f) (F : FnOk X.prog X.w X.K X.mg X.base (L2.CX X.prog X.w) k f fd ps (spI X.K C n mk)) (hr : Room (k + 1) X.A) (hg : Gl X x) (hm : X.mg x = some (.ref C)) (hb : L2.Binds X.K fd ps []) (ha : DA C X (e :: es) fs)
    (hdb : (x == ("__debug__" : Str)) = false := by decide) (he : starEach (e :: es) X.env = (false, eval e X.env) :: starEach es X.env := by rfl) (hpl : (backTo pos (starEach es X.env)).any (·.1) = false := by rfl) :
    DE C X (.Call (.Name x p) (e :: es) [] pos) (eMake n mk fs) := ⟨PE.imp (pe_make Mk0 F hr hg hm hb .nil passL ha.pa hdb he hpl) fun σ H Q q => by
  obtain ⟨M, ρ, d, hm, he, hf, k⟩ := q
  obtain ⟨ds, ws, l, fl, h1, h2, h3, rfl⟩ := emake_some hf
  refine ⟨M, ρ, ds, hm, he, h1, fun vs H1 s1 r1 x dx nx ndx nxd => ?_⟩
  have hm1 := hm.mono s1
  have ndx' : (upd H1 dx (.own x)) x = none := by rw [upd_ne (Ne.symm nxd)]; exact nx
  have sc : Same H1 (upd (upd H1 dx (.own x)) x (.ins C dx [])) := (same_new ndx).trans (same_new ndx')
  refine ⟨?_, more M x, x, dx, vs, ds, ws, l, fl, by rw [List.append_nil], upd_same, more_self M x, (hm1.mono sc).more upd_same, ?_, h3, fun H2 aw as af xw xs kvs k1 k2 k3 k4 k5 k6 k7 k8 => ⟨rfl, ?_⟩⟩
  · simp [r1.len, h2]
  · rw [more_upd]
    refine RpAll.mono (same_hide (same_new ndx)) ?_
    rw [more_new nx]
    exact r1
  · have s12 : Same H1 H2 := fun b o eb => by
      have nb : b ≠ x := ne_of_none eb nx
      exact k1 b o nb (sc _ _ eb)
    refine k _ H2 (s1.trans s12) ⟨x, rfl, ⟨dx, aw, as, af, xw, xs, kvs, hide_of k2 (hm1.new nx), more_le _ _ k3, DpAll_mono more_le _ _ k4, more_le _ _ k5, (k6.mono more_le).dp, more_le _ _ k7, k8.mono more_le⟩⟩⟩
end
end FF
/-! ## FYB -/
namespace FF
open PySem PySem.Spec PyProof.Rows L2

/-! ### a sort that the kernel can run -/
section
variable {α : Type} (le : α → α → Bool)
def insB (x : α) : List α → List α
  | [] => [x]
  | y :: r => if le x y = true then x :: y :: r else y :: insB x r
def isortB : List α → List α
  | [] => []
  | x :: r => insB le x (isortB r)
def lowB (x : α) : List α → Bool
  | [] => true
  | y :: r => if le x y = true then lowB x r else false
def pairB : List α → Bool
  | [] => true
  | x :: r => if lowB le x r = true then pairB r else false
def srtB (l : List α) : Option (List α) := if pairB le (isortB le l) = true then some (isortB le l) else none
theorem insB_perm (x : α) : ∀ l : List α, (insB le x l).Perm (x :: l)
  | [] => List.Perm.refl _
  | y :: r => by
    unfold insB
    by_cases h : le x y = true
    · rw [if_pos h]
    · rw [if_neg h]
      exact ((insB_perm x r).cons y).trans (List.Perm.swap x y r)
theorem isortB_perm : ∀ l : List α, (isortB le l).Perm l
  | [] => List.Perm.refl _
  | x :: r => (insB_perm le x _).trans ((isortB_perm r).cons x)
theorem lowB_all {x : α} : ∀ {l : List α}, lowB le x l = true → ∀ y ∈ l, le x y = true
  | [], _, y, hy => by cases hy
  | z :: r, h, y, hy => by
    unfold lowB at h
    by_cases q : le x z = true
    · rw [if_pos q] at h
      rcases List.mem_cons.mp hy with e | hy
      · rw [e]; exact q
      · exact lowB_all h y hy
    · rw [if_neg q] at h; cases h
theorem pairB_pw : ∀ {l : List α}, pairB le l = true → l.Pairwise fun a b => le a b = true
  | [], _ => .nil
  | x :: r, h => by
    unfold pairB at h
    by_cases q : lowB le x r = true
    · rw [if_pos q] at h
      exact .cons (lowB_all le q) (pairB_pw h)
    · rw [if_neg q] at h; cases h
theorem srtB_some {l m : List α} (h : srtB le l = some m) : m.Perm l ∧ m.Pairwise fun a b => le a b = true := by
  unfold srtB at h
  by_cases q : pairB le (isortB le l) = true
  · rw [if_pos q] at h
    cases h
    exact ⟨isortB_perm le l, pairB_pw le q⟩
  · rw [if_neg q] at h; cases h
theorem srtB_uniq {l m k : List α} (h : srtB le l = some m) (hk : k.Perm l) (hs : k.Pairwise fun a b => le a b = true) (anti : ∀ a b, le a b = true → le b a = true → a = b) : k = m :=
  List.Perm.eq_of_pairwise (fun a b _ _ => anti a b) hs (srtB_some le h).2 (hk.trans (srtB_some le h).1.symm)
end
def leI (a b : Int) : Bool := decide (a ≤ b)
theorem leI_anti (a b : Int) (h1 : leI a b = true) (h2 : leI b a = true) : a = b := by
  have a1 := of_decide_eq_true (p := a ≤ b) h1
  have a2 := of_decide_eq_true (p := b ≤ a) h2
  omega
def leP (p q : Int × Int) : Bool := if leI p.1 q.1 = true then (if leI q.1 p.1 = true then leI p.2 q.2 else true) else false
theorem leP_iff {p q : Int × Int} : leP p q = true ↔ SrtO.lexB q p = false := by
  rw [SrtO.lexB_no]
  unfold leP leI
  by_cases h1 : p.1 ≤ q.1
  · rw [if_pos (decide_eq_true h1)]
    by_cases h2 : q.1 ≤ p.1
    · rw [if_pos (decide_eq_true h2)]
      constructor
      · intro h
        have := of_decide_eq_true h
        omega
      · intro h
        exact decide_eq_true (by omega)
    · rw [if_neg (by simp [h2])]
      constructor
      · intro _; omega
      · intro _; rfl
  · rw [if_neg (by simp [h1])]
    constructor
    · intro h; cases h
    · intro h; omega
theorem leP_anti (p q : Int × Int) (h1 : leP p q = true) (h2 : leP q p = true) : p = q := by
  have a1 := SrtO.lexB_no.mp (leP_iff.mp h1)
  have a2 := SrtO.lexB_no.mp (leP_iff.mp h2)
  exact Prod.ext (by omega) (by omega)

/-! ### sorted -/
section
variable {prog : Program} {w : World} {A : Around} {E : Value → Shared → Prop} {s : Shared}
theorem sorted_coll {u : Value} {P : List Value → Prop} {ltv : Value → Value → Bool} {Q : Value → Shared → Prop} (O : SrtO.Swo ltv)
    (hcol : ∀ R : List Value → Shared → Prop, (∀ h' tk vs, (∀ b o, s.heap.get? b = some o → h'.get? b = some o) → P vs → R vs { s with heap := h', toks := tk }) → wpAny (model prog w) A.in1 (collect u) R E s)
    (hz : ∀ vs, P vs → vs.length ≤ sizeLine)
    (hS : ∀ vs (h₁ : Heap) (tk : Nat) (a : Addr), P vs → 2 ≤ vs.length → h₁.get? a = some (seqObj "list" vs.toArray 0) → (∀ b o, s.heap.get? b = some o → h₁.get? b = some o) → SrtO.SortableO prog w A.in1.in1 { s with heap := h₁, toks := tk } a vs ltv)
    (h : ∀ vs out (h0 h' : Heap) (tk : Nat), P vs → SrtO.Srtd ltv out → SrtO.Stb ltv out vs → (∀ b o, s.heap.get? b = some o → h0.get? b = some o) → (∀ b o, h0.get? b = some o → h'.get? b = some o) → (∃ n, h'.get? h0.objs.size = some (seqObj "list" out.toArray n)) → Q (.ref h0.objs.size) { s with heap := h', toks := tk }) :
    wpAny (model prog w) A (call (.builtin "sorted") [u]) Q E s := by
  refine Calls.call_function_entry PyProof.Rows.kind_sorted PyProof.Rows.plain_sorted PyProof.Rows.entry_sorted (PyProof.Rows.args_sorted1 _) ?_
  unfold Builtin.«sorted»
  refine wpAny_bind (m := checkCount "sorted" 1 1 _) (wpAny_pure ?_)
  refine wpAny_bind (hcol _ fun h' tk vs kp hP => ?_)
  refine wpAny_bind (wpAny_newList ?_ (hz vs hP))
  have hoL : (h'.push (seqObj "list" vs.toArray 0)).get? h'.objs.size = some (seqObj "list" vs.toArray 0) := Heap.get?_push_size _ rfl
  show wpAny _ _ _ _ _ { s with heap := h'.push (seqObj "list" vs.toArray 0), toks := tk }
  refine wpAny_bind (wpAny_holding (wpAny_call_entry PyProof.Rows.slot_list_sort ⟨_, hoL, rfl⟩ PyProof.Rows.entry_list_sort
    (SrtO.list_sort_ord (s := { s with heap := h'.push (seqObj "list" vs.toArray 0), toks := tk }) O hoL (hz vs hP) (fun h2 => hS vs _ tk _ hP h2 hoL fun b o e => Heap.get?_push_of_some _ (kp b o e)) fun out hs hb => ⟨_, rfl, ?_⟩)
    (PyProof.Rows.args_list_sort _)))
  obtain ⟨e', he'⟩ := PyProof.Rows.sortedHeap_at (vs := vs) (out := out.toArray) hoL
  refine wpAny_pure ⟨_, rfl, h vs out h' _ tk hP hs hb kp (fun b o e => ?_) ⟨e', he'⟩⟩
  have hb' : b < h'.objs.size := Heap.lt_size e
  rw [PyProof.Rows.sortedHeap_old (Nat.ne_of_lt hb') (by rw [size_push']; exact Nat.lt_succ_of_lt hb')]
  exact Heap.get?_push_of_some _ e
end
end FF
/-! ## FYC -/
namespace FF
open PySem PySem.Spec PyProof.Rows L2

/-! ### sorted of ints, of pairs of ints -/
def prP (p : Int × Int) : PD := .tuple [.int p.1, .int p.2]
def pairsI : List PD → Option (List (Int × Int))
  | [] => some []
  | .tuple [.int a, .int b] :: r => match pairsI r with
    | none => none
    | some m => some ((a, b) :: m)
  | _ => none
theorem pairsI_eq : ∀ {l : List PD} {ps : List (Int × Int)}, pairsI l = some ps → l = ps.map prP
  | [], _, h => by cases h; rfl
  | d :: r, ps, h => by
    unfold pairsI at h
    split at h
    · rename_i q; cases q
    · rename_i a b r' q
      obtain ⟨rfl, rfl⟩ := List.cons.inj q
      split at h
      · cases h
      · rename_i m q2
        cases h
        rw [pairsI_eq q2]
        rfl
    · cases h
open Classical in
noncomputable def kOf (h : Heap) (v : Value) : Int × Int := if c : ∃ p : Int × Int, Srt.IsPair h v p.1 p.2 then c.choose else (0, 0)
theorem pr_uniq {h : Heap} {v : Value} {x y x' y' : Int} (a : Srt.IsPair h v x y) (b : Srt.IsPair h v x' y') : x = x' ∧ y = y' := by
  obtain ⟨a1, o, t, u, n, e, ho, _, hd⟩ := a
  obtain ⟨a2, o2, t2, u2, n2, e2, ho2, _, hd2⟩ := b
  subst e
  cases e2
  rw [ho] at ho2
  cases ho2
  rw [hd] at hd2
  cases hd2
  exact ⟨rfl, rfl⟩
theorem kOf_eq {h : Heap} {v : Value} {p : Int × Int} (a : Srt.IsPair h v p.1 p.2) : kOf h v = p := by
  have c : ∃ p : Int × Int, Srt.IsPair h v p.1 p.2 := ⟨p, a⟩
  unfold kOf
  rw [dif_pos c]
  obtain ⟨e1, e2⟩ := pr_uniq c.choose_spec a
  exact Prod.ext e1 e2
section
variable {X : Cx} {pins : List (Addr × Obj)} {σ : L2.St} {H H0 : Hp} {s : Shared}
theorem pr_at (I : Inv X pins σ H s) (e : Same H0 H) {y : V} {u : Value} {p : Int × Int} (h : Dp X.K H0 y (prP p)) (r : RelV y u) : ∃ t, y = .ref t ∧ u = .ref t ∧ Srt.IsPair s.heap u p.1 p.2 := by
  unfold prP at h
  cases h with
  | @tup a xs ds hs ha =>
    cases ha with
    | cons h1 h2 =>
      cases h2 with
      | cons h2 h3 =>
        cases h3
        cases h1
        cases h2
        obtain ⟨its, o, n, rv, ho, hc, hd⟩ := sqT_at I.hok I.kIn (seqT e hs)
        obtain ⟨u1, u2, rfl, ri, rj⟩ := vals2 rv
        obtain ⟨t1, rfl⟩ := ri
        obtain ⟨t2, rfl⟩ := rj
        obtain rfl : u = Value.ref a := r
        exact ⟨a, rfl, rfl, a, o, t1, t2, n, rfl, ho, hc, hd⟩
theorem prs_at (I : Inv X pins σ H s) (e : Same H0 H) : ∀ {ys : List V} {its : List Value} {ps : List (Int × Int)}, DpAll X.K H0 ys (ps.map prP) → Vals ys its →
    its.map (kOf s.heap) = ps ∧ ∀ u ∈ its, (∃ t, u = Value.ref t) ∧ Srt.IsPair s.heap u (kOf s.heap u).1 (kOf s.heap u).2 ∧ Dp X.K H0 (backV u) (prP (kOf s.heap u))
  | _, _, [], h, r => by
    cases h
    cases r
    exact ⟨rfl, fun u hu => by cases hu⟩
  | _, _, p :: ps, h, r => by
    cases h with
    | cons h1 h2 =>
      cases r with
      | cons r1 r2 =>
        obtain ⟨t, rfl, rfl, hp⟩ := pr_at I e h1 r1
        obtain ⟨q1, q2⟩ := prs_at I e h2 r2
        have ek := kOf_eq hp
        refine ⟨by rw [List.map_cons, ek, q1], fun u hu => ?_⟩
        rcases List.mem_cons.mp hu with e' | hu
        · subst e'
          rw [ek]
          exact ⟨⟨t, rfl⟩, hp, h1⟩
        · exact q2 u hu
theorem prs_out {K : PySem.W.Frag} {k : Value → Int × Int} : ∀ {out : List Value}, (∀ u ∈ out, Dp K H0 (backV u) (prP (k u))) → DpAll K H0 (out.map backV) ((out.map k).map prP)
  | [], _ => .nil
  | u :: r, h => .cons (h u List.mem_cons_self) (prs_out fun v hv => h v (List.mem_cons_of_mem _ hv))
def rSorts (K : PySem.W.Frag) : List V → Hp → VK → Prop := fun vs H Q => ∃ (a : Addr) (ys : List V), vs = [V.ref a] ∧ (SqL K H a ys ∨ SqT K H a ys) ∧
  ((∃ ns : List Int, ys = ns.map V.int ∧ ∀ (ns' : List Int) (p : Addr), ns'.Perm ns → (ns'.Pairwise fun a b => leI a b = true) → H p = none → Q (.ref p) (upd H p (.lst (ns'.map V.int)))) ∨
  ∃ (H0 : Hp) (ps : List (Int × Int)), Same H0 H ∧ DpAll K H0 ys (ps.map prP) ∧ ∀ (ys' : List V) (ps' : List (Int × Int)) (p : Addr), ps'.Perm ps → (ps'.Pairwise fun a b => leP a b = true) → DpAll K H0 ys' (ps'.map prP) → H p = none → Q (.ref p) (upd H p (.lst ys')))
theorem seq_raw {a : Addr} {ys : List V} (I : Inv X pins σ H s) (hs : SqL X.K H a ys ∨ SqT X.K H a ys) : ∃ (T : String) (its : List Value) (o : Obj) (n : Nat), (T = "list" ∨ T = "tuple") ∧ Vals ys its ∧ s.heap.get? a = some o ∧ o.cls = .type T ∧ o.data = .seq its.toArray n ∧ its.length ≤ sizeLine := by
  rcases hs with hs | hs
  · obtain ⟨its, rv, hp, hz⟩ := I.list hs
    obtain ⟨o, ho, hc, nl, hd⟩ := hp.isList
    exact ⟨"list", its, o, nl, .inl rfl, rv, ho, hc, hd, by rw [← rv.length]; exact hz⟩
  · obtain ⟨its, rv, ht, hz⟩ := I.tuple hs
    obtain ⟨o, ho, hc, nl, hd⟩ := ht
    exact ⟨"tuple", its, o, nl, .inr rfl, rv, ho, hc, hd, by rw [← rv.length]; exact hz⟩
theorem cr_sorts : CallR X (.builtin "sorted") (rSorts X.K) := by
  intro pins s σ H vs us Q I r h
  obtain ⟨a, ys, rfl, hs, hc⟩ := h
  rw [Vals.ref1 r]
  obtain ⟨T, its, o, n, hT, rv, ho, hcl, hd, hz⟩ := seq_raw I hs
  have col : ∀ R : List Value → Shared → Prop, (∀ h' tk vs, (∀ b o, s.heap.get? b = some o → h'.get? b = some o) → vs = its → R vs { s with heap := h', toks := tk }) → wpAny (model X.prog X.w) X.A.in1 (collect (.ref a)) R X.xe s :=
    fun R hR => wpAny_collect_seq a hT ho hcl hd (fun h' hk => hR h' s.toks its hk rfl) (by simpa using hz)
  rcases hc with ⟨ns, rfl, q⟩ | ⟨H0, ps, e0, hd0, q⟩
  · have hi := rv.ints
    refine sorted_coll (P := fun vs => vs = its) SrtO.swo_int col (fun vs e => by rw [e]; exact hz) (fun vs h₁ tk a' e h2 _ _ => ?_) fun vs out h0 h' tk e h1 h2 k0 k1 hn => ?_
    · subst e
      exact SrtO.ints_sortable hi h2
    · subst e
      obtain ⟨m1, m2, m3⟩ := SrtO.ints_out hi h1 h2
      obtain ⟨ep, he'⟩ := hn
      have I0 : Inv X pins σ H { s with heap := h0, toks := tk } := I.kept k0
      have hlen : ((out.map SrtO.iv).map V.int).length ≤ sizeLine := by
        rw [List.length_map, List.length_map, h2.len]
        exact hz
      exact ⟨.ref _, upd H h0.objs.size (.lst ((out.map SrtO.iv).map V.int)), I0.laid (t' := tk) k1 (Nat.le_refl _) ⟨hlen, out, ep, vals_of_ints m1, he'⟩, rfl, q _ _ m2 (m3.imp fun z => decide_eq_true z) (I0.hok.fresh (Nat.le_refl _))⟩
  · obtain ⟨w1, w2⟩ := prs_at I e0 hd0 rv
    refine sorted_coll (P := fun vs => vs = its) (SrtO.swo_lex (kOf s.heap)) col (fun vs e => by rw [e]; exact hz) (fun vs h₁ tk a' e h2 ha k => ?_) fun vs out h0 h' tk e h1 h2 k0 k1 hn => ?_
    · subst e
      refine SrtO.pairs_sortableO (s := { s with heap := h₁, toks := tk }) (by omega) (fun v hv => (w2 v hv).2.1.keeps fun b o e _ => k b o e) fun o e => ?_
      have e' : some o = some (seqObj "list" vs.toArray 0) := e.symm.trans ha
      cases e'
      intro c
      exact absurd (Value.type.inj c) (by decide)
    · subst e
      obtain ⟨ep, he'⟩ := hn
      have hmem : ∀ u ∈ out, u ∈ vs := fun u hu => h2.perm.mem_iff.mp hu
      have I0 : Inv X pins σ H { s with heap := h0, toks := tk } := I.kept k0
      have hlen : (out.map backV).length ≤ sizeLine := by
        rw [List.length_map, h2.len]
        exact hz
      refine ⟨.ref _, upd H h0.objs.size (.lst (out.map backV)), I0.laid (t' := tk) k1 (Nat.le_refl _) ⟨hlen, out, ep, vals_back fun u hu => (w2 u (hmem u hu)).1, he'⟩, rfl, q _ (out.map (kOf s.heap)) _ ?_ ?_ (prs_out fun u hu => (w2 u (hmem u hu)).2.2) (I0.hok.fresh (Nat.le_refl _))⟩
      · rw [← w1]
        exact h2.perm.map _
      · exact List.pairwise_map.mpr (h1.imp fun {x y} z => leP_iff.mpr z)
end
def sortPD (l : List PD) : Option PD := match keyI l with
  | some ns => (match srtB leI ns with
    | none => none
    | some m => some (.list (m.map .int)))
  | none => match pairsI l with
    | none => none
    | some ps => match srtB leP ps with
      | none => none
      | some m => some (.list (m.map prP))
def gSortL : List D → Option D
  | [.p (.list l)] => (match sortPD l with
    | none => none
    | some d => some (.p d))
  | [.p (.tuple l)] => (match sortPD l with
    | none => none
    | some d => some (.p d))
  | _ => none
theorem ints_dp {K : PySem.W.Frag} {H : Hp} : ∀ ns : List Int, DpAll K H (ns.map V.int) (ns.map .int)
  | [] => .nil
  | i :: r => .cons (.int i) (ints_dp r)
theorem sort_fin {K : PySem.W.Frag} {C : Addr} {M : Msk} {H : Hp} {a : Addr} {ys : List V} {l : List PD} {d : PD} {Q : VK} (hm : Hid M H) (hs : SqL K (hide M H) a ys ∨ SqT K (hide M H) a ys) (hd : DpAll K (hide M H) ys l) (e : sortPD l = some d) (k : Then K C M H (.p d) Q) : rSorts K [.ref a] H Q := by
  refine ⟨a, ys, rfl, hs.imp seqL_hide seqT_hide, ?_⟩
  unfold sortPD at e
  split at e
  · rename_i ns q
    split at e
    · cases e
    · rename_i m q2
      cases e
      have ev := keyI_vs q hd
      refine .inl ⟨ns, ?_, fun ns' p h1 h2 n => ?_⟩
      · rw [ev, List.map_map]
        rfl
      · have em := srtB_uniq leI q2 h1 h2 leI_anti
        subst em
        exact k _ _ (same_new n) (new_lst hm n (ints_dp _))
  · split at e
    · cases e
    · rename_i ps q
      split at e
      · cases e
      · rename_i m q2
        cases e
        have el := pairsI_eq q
        subst el
        refine .inr ⟨hide M H, ps, hide_le, hd, fun ys' ps' p h1 h2 h3 n => ?_⟩
        have em := srtB_uniq leP q2 h1 h2 leP_anti
        subst em
        exact k _ _ (same_new n) (new_lst hm n h3)
theorem cld_sorts {K : PySem.W.Frag} {C : Addr} : Cld K C (rSorts K) gSortL := by
  intro M H vs ds d Q hm rs h k
  unfold gSortL at h
  split at h
  · rename_i l
    split at h
    · cases h
    · rename_i d' q
      cases h
      obtain ⟨v, rfl, rv⟩ := rp1 rs
      obtain ⟨a, xs, rfl, h1, h2⟩ := rp_lst rv
      exact sort_fin hm (.inl h1) h2 q k
  · rename_i l
    split at h
    · cases h
    · rename_i d' q
      cases h
      obtain ⟨v, rfl, rv⟩ := rp1 rs
      obtain ⟨a, xs, rfl, h1, h2⟩ := rp_tup rv
      exact sort_fin hm (.inr h1) h2 q k
  · cases h
end FF
/-! ## FYD -/
namespace FF
open PySem PySem.Spec PyProof.Rows L2 Froz

/-! ### a set of texts that can be walked -/
section
variable {P : Program} {w : World} {A : Around} {E : Value → Shared → Prop} {s : Shared}
def TxS (P : Program) (w : World) (h : Heap) (a : Addr) (l : List Str) : Prop := ∃ D : SD, h.get? a = some (sObj "set" D) ∧ TxOk P w D l ∧ Ris D.2.2.place.toList ∧ (w.params.followText "set-order" = true ∨ D.2.2.led = true)
theorem tail_ris {ep : Nat} {es1 : Array (Int × Value)} {t2 : SetTable} {wd : Bool} (r : Ris t2.place.toList) : Ris (tailTx ep es1 t2 wd).2.2.place.toList := by
  unfold tailTx
  by_cases c : (!wd && t2.tooFull) = true
  · rw [if_pos c]
    exact relayAll_ris _ _ _
  · rw [if_neg c]
    exact r
theorem tail_led {ep : Nat} {es1 : Array (Int × Value)} {t2 : SetTable} {wd : Bool} : (tailTx ep es1 t2 wd).2.2.led = t2.led := by
  unfold tailTx
  by_cases c : (!wd && t2.tooFull) = true
  · rw [if_pos c]
    exact relayAll_led _ _ _
  · rw [if_neg c]
theorem addTx_ris (h : Int) (v : Value) (D : SD) (r : Ris D.2.2.place.toList) : Ris (addTx h v D).2.2.place.toList := by
  have r1 := layNew_ris D.2.2 D.1 h v r
  unfold addTx
  refine tail_ris ?_
  by_cases c : (layNew D.2.2 D.1 h v).2.1.plain = true
  · rw [if_pos c]
    exact r1
  · rw [if_neg c]
    exact r1
theorem addTx_led (h : Int) (v : Value) (D : SD) : (addTx h v D).2.2.led = D.2.2.led := by
  have r1 := layNew_led D.2.2 D.1 h v
  unfold addTx
  refine tail_led.trans ?_
  by_cases c : (layNew D.2.2 D.1 h v).2.1.plain = true
  · rw [if_pos c]
    exact r1
  · rw [if_neg c]
    exact r1
theorem TxS.keep {h h' : Heap} {a : Addr} {l : List Str} (x : TxS P w h a l) (k : ∀ o, h.get? a = some o → h'.get? a = some o) : TxS P w h' a l := by
  obtain ⟨D, ho, r⟩ := x
  exact ⟨D, k _ ho, r⟩
theorem txS_fresh {h : Heap} {a : Addr} (ho : h.get? a = some { cls := .type "set", dict := none, data := .set #[] 0 (.fresh 0 0 (!w.params.followText "set-order")) }) : TxS P w h a [] :=
  ⟨(#[], 0, .fresh 0 0 (!w.params.followText "set-order")), ho, TxOk.nil rfl, List.Pairwise.nil, by
    show _ ∨ (!w.params.followText "set-order") = true
    cases w.params.followText "set-order"
    · exact .inr rfl
    · exact .inl rfl⟩
theorem set_update_txt {I : Addr} {fp wr : List Addr} {G : Array GenState → Array GenState → Prop} {n : Nat} {Pv : Nat → Value → Prop} {St : Nat → Shared → Prop} {R : Result → Shared → Prop}
    (W : WalksS P w A.in1 I fp wr G n Pv St) (S : Addr) (hSf : S ∉ fp) (ks : List Str) (hn : n = ks.length) (hfew : ks.length < 64) (hdup : ks.Nodup) (hval : ∀ i v, Pv i v → ∃ p t, ks[i]? = some p ∧ v = .str p t)
    (h0 : Heap) (hS0 : h0.get? S = none) (hw0 : ∀ b ∈ wr, h0.get? b = none) :
    ∀ (k i : Nat) (s : Shared), n - i = k → i ≤ n → St i s → (∀ b o, h0.get? b = some o → s.heap.get? b = some o) → TxS P w s.heap S (ks.take i).reverse →
      (∀ s', Moved (S :: wr) G s s' → TxS P w s'.heap S ks.reverse → (∀ b o, h0.get? b = some o → s'.heap.get? b = some o) → R (.ok (.ret .none)) s') →
      codeAny (model P w) A (.builtin "set.update.loop" ⟨[.ref S, .ref I], []⟩) R s := by
  have hSw : S ∉ wr := fun h => hSf (W.sub _ h)
  have hsub : ∀ b ∈ wr, b ∈ S :: wr := fun b hb => List.mem_cons_of_mem _ hb
  have keepM : ∀ {s s' : Shared}, Moved wr G s s' → (∀ b o, h0.get? b = some o → s.heap.get? b = some o) → ∀ b o, h0.get? b = some o → s'.heap.get? b = some o := fun hm hkp b o e =>
    hm.heap b o (fun hb => by rw [hw0 b hb] at e; cases e) (hkp b o e)
  intro k
  induction k with
  | zero =>
    intro i s hk' hi hst hkp hS hR
    have hin : i = n := by omega
    subst hin
    refine codeAny_builtin F.entry_set_update_loop ?_
    rw [Around.under_plainId F.plain_set_update_loop _]
    show wpAny _ A.in1 (pyNext (.ref I) >>= _) _ _ s
    refine wpAny_bind (W.done s _ _ hst fun s' hm => ?_)
    show wpAny _ A.in1 (ret Value.none) _ _ s'
    refine wpAny_pure (hR s' (hm.mono hsub) ?_ (keepM hm hkp))
    rw [hn, List.take_length] at hS
    exact hS.keep fun o e => hm.heap S o hSw e
  | succ k ih =>
    intro i s hk' hi hst hkp hS hR
    have hlt : i < n := by omega
    refine codeAny_builtin F.entry_set_update_loop ?_
    rw [Around.under_plainId F.plain_set_update_loop _]
    show wpAny _ A.in1 (pyNext (.ref I) >>= _) _ _ s
    refine wpAny_bind (W.item i s _ _ hlt hst fun v s' hP hst' hm => ?_)
    obtain ⟨p, tk, hp, rfl⟩ := hval i v hP
    have hkp' := keepM hm hkp
    obtain ⟨D, ho, F0, r, led⟩ := hS.keep (h' := s'.heap) (fun o e => hm.heap S o hSw e)
    have hil : i < ks.length := by omega
    have hpk : p ∉ (ks.take i).reverse := by
      intro hmem
      rw [List.mem_reverse] at hmem
      obtain ⟨j, hj, ej⟩ := List.mem_take_iff_getElem.mp hmem
      have e2 : ks[i]? = ks[j]? := by
        rw [hp, List.getElem?_eq_getElem (by omega), ej]
      have := (List.getElem?_inj hil hdup).mp e2
      omega
    have htl : ((ks.take i).reverse).length = i := by rw [List.length_reverse, List.length_take]; omega
    show wpAny _ A.in1 (holding [Value.str p tk] (setAdd S (.str p tk)) >>= _) _ _ s'
    refine wpAny_bind (wpAny_holding ?_)
    unfold setAdd
    refine wpAny_holding ?_
    refine wpAny_bind ((strKind P w).pyHash (k := p) (is_str _ _) ?_)
    refine add_x (l := (ks.take i).reverse) (D := D) (s := { s' with toks := s'.toks + 1 }) ho F0 hpk (by rw [htl]; exact Nat.lt_of_le_of_lt (Nat.succ_le_of_lt (Nat.lt_trans hil hfew)) (by decide)) ?_
    have hoS := get_upd (h := s'.heap) (sObj "set" (addTx (hashStr w p) (.str p tk) D)) ho rfl
    have hsb : ∀ b, b ≠ S → (s'.heap.update S (fun _ => sObj "set" (addTx (hashStr w p) (.str p tk) D))).get? b = s'.heap.get? b := fun b hb => Heap.get?_update_other _ _ (Ne.symm hb)
    have hkp2 : ∀ b o, h0.get? b = some o → (s'.heap.update S (fun _ => sObj "set" (addTx (hashStr w p) (.str p tk) D))).get? b = some o := fun b o e => (hsb b (fun z => by rw [z, hS0] at e; cases e)).trans (hkp' b o e)
    have etk : p :: (ks.take i).reverse = (ks.take (i + 1)).reverse := by
      rw [List.take_succ, hp, List.reverse_append]
      rfl
    refine wpAny_pure ⟨plainId_quiet F.plain_set_update_loop _, ih (i + 1) _ (by omega) hlt (W.frame _ s' _ _ hst' (Nat.le_succ _) fun b hb o e => ?_) hkp2 ?_ fun s'' hm'' hS'' hkp'' => ?_⟩
    · rw [hsb b (fun h : b = S => hSf (by rw [← h]; exact hb))]; exact e
    · rw [← etk]
      exact ⟨_, hoS, add_ok tk F0, addTx_ris _ _ _ r, by rw [addTx_led]; exact led⟩
    · refine hR s'' (Moved.trans W.gtrans ((hm.mono hsub).then_heap (Nat.le_succ _) fun b o hb e => ?_) hm'') hS'' hkp''
      rw [hsb b (fun h : b = S => hb (by rw [h]; exact List.mem_cons_self))]; exact e
theorem call_set_txt {l : Addr} {items : Array Value} (ks : List Str) {Q : Value → Shared → Prop} (hh : A.handled = none) (hl : s.heap.IsList l items) (hsz0 : items.size = ks.length) (hit : ∀ (i : Nat) (v : Value), items[i]? = some v → ∃ p t, ks[i]? = some p ∧ v = .str p t)
    (hdup : ks.Nodup) (hfew : ks.length < 64)
    (h : ∀ (h' : Heap) (tk : Nat), TxS P w h' s.heap.objs.size ks.reverse → (∀ b o, s.heap.get? b = some o → h'.get? b = some o) → Q (.ref s.heap.objs.size) { s with heap := h', toks := tk }) :
    wpAny (model P w) A (call (.type "set") [.ref l]) Q E s := by
  have hisz : items.size = ks.length := hsz0
  obtain ⟨c, tl, hmro⟩ := F.called_set.mro
  have hmade := F.called_set.made
  have hsub := F.called_set.sub
  refine wpAny_call (codeAny_of_tree ?_)
  show wpAny _ _ (callAny (.type "set") _) _ _ _
  refine wpAny_pure ⟨Code.quiet_builtin _ (by decide +kernel), codeAny_builtin F.entry_type_call ?_⟩
  rw [Around.under_plain (weight_type_call_type "set" [.ref l] []) rfl]
  have h1 := F.called_set.notType
  have h2 := F.called_set.canCreate
  have hct := F.typeCall_set_1 (.ref l)
  repeat (any_goals (first | assumption | wp_step))

  refine codeAny_mono (code_set_led1 (.ref l) (E := E) (Q₁ := fun obj s₁ => obj = .ref s.heap.objs.size ∧ s₁ = { s with heap := s.heap.push { cls := .type "set", dict := none, data := .set #[] 0 (.fresh 0 0 (!w.params.followText "set-order")) } }) ⟨rfl, rfl⟩) fun r s₁ hr => ?_
  cases r with
  | error e => exact hr
  | ok fl =>
    cases fl with
    | ret obj =>
      obtain ⟨rfl, rfl⟩ := hr
      have hS : (s.heap.push { cls := .type "set", dict := none, data := .set #[] 0 (.fresh 0 0 (!w.params.followText "set-order")) }).get? s.heap.objs.size = some { cls := .type "set", dict := none, data := .set #[] 0 (.fresh 0 0 (!w.params.followText "set-order")) } := Heap.get?_push_size _ rfl
      have hT : Shared.TypeIs { s with heap := s.heap.push { cls := .type "set", dict := none, data := .set #[] 0 (.fresh 0 0 (!w.params.followText "set-order")) } } (.ref s.heap.objs.size) "set" := ⟨_, hS, rfl⟩
      have hli := F.called_set.init.lookup
      have hbi := F.called_set.init.bind (.ref s.heap.objs.size)
      repeat (any_goals (first | assumption | wp_step))

      refine codeAny_mono (codeAny_call_builtin (R := wants (fun r s₂ => r = .none ∧ ∃ h' tk, s₂ = { s with heap := h', toks := tk } ∧ TxS P w h' s.heap.objs.size ks.reverse ∧
          (∀ b o, s.heap.get? b = some o → h'.get? b = some o)) E) F.called_set.init.plain F.entry_set_init (check_set_init_1 hT ?_)) fun r₂ s₂ hr₂ => ?_
      · obtain ⟨ol, hol, hcl, nl, hdl⟩ := hl
        obtain ⟨ocls, odict, odata, oslots⟩ := ol
        simp only at hcl hdl
        subst hcl; subst hdl
        have hol' : (s.heap.push { cls := .type "set", dict := none, data := .set #[] 0 (.fresh 0 0 (!w.params.followText "set-order")) }).get? l = some { cls := .type "list", dict := odict, data := .seq items nl, slots := oslots } := Heap.get?_push_of_some _ hol
        have hsls := F.sub_list_set
        have hslf := F.sub_list_frozenset
        have hne : (Value.type "list" == Value.type "dict") = false := by decide
        have hl1 : (s.heap.push { cls := .type "set", dict := none, data := .set #[] 0 (.fresh 0 0 (!w.params.followText "set-order")) }).IsList l items := ⟨_, hol', rfl, nl, rfl⟩
        unfold Builtin.«set.__init__» noKeywords Builtin.Frozenset.updateFrom
        generalize hPI : pyIter = PI
        wp_walk
        subst hPI

        refine wpAny_pyIter_list hl1 ?_
        refine wpAny_bind (wpAny_runValue ?_)
        have hlS : l < s.heap.objs.size := Heap.lt_size hol
        have hh3 : A.in1.in1.in1.handled = none := by simp [hh]
        have hz1 : (s.heap.push { cls := .type "set", dict := none, data := .set #[] 0 (.fresh 0 0 (!w.params.followText "set-order")) }).objs.size = s.heap.objs.size + 1 := Heap.size_push ..
        have hneI : l ≠ (s.heap.push { cls := .type "set", dict := none, data := .set #[] 0 (.fresh 0 0 (!w.params.followText "set-order")) }).objs.size := by
          rw [Heap.size_push]; exact Nat.ne_of_lt (Nat.lt_succ_of_lt hlS)
        have hSf : s.heap.objs.size ∉ [(s.heap.push { cls := .type "set", dict := none, data := .set #[] 0 (.fresh 0 0 (!w.params.followText "set-order")) }).objs.size, l] := by
          rw [Heap.size_push]; simp only [List.mem_cons, List.mem_singleton, List.not_mem_nil, or_false, not_or]
          exact ⟨Nat.ne_of_lt (Nat.lt_succ_self _), Nat.ne_of_gt hlS⟩
        have hval := hit
        have none_of : ∀ b, s.heap.objs.size ≤ b → s.heap.get? b = none := fun b hb => by
          cases q : s.heap.get? b with
          | none => rfl
          | some o => exact absurd (Nat.lt_of_lt_of_le (Heap.lt_size q) hb) (Nat.lt_irrefl _)
        refine set_update_txt ((Walks.list hh3 _ l hneI items).toS) s.heap.objs.size
          hSf ks hisz hfew hdup hval s.heap (none_of _ (Nat.le_refl _)) (fun b hb => none_of b (by
            rw [List.mem_singleton.mp hb, Heap.size_push]
            exact Nat.le_succ _)) (items.size - 0) 0 _ (by omega) (Nat.zero_le _)
          ⟨⟨_, Heap.get?_push_size _ rfl, rfl, rfl⟩, (hl1.push _)⟩ (fun b o e => Heap.get?_push_of_some _ (Heap.get?_push_of_some _ e)) ?hS0 ?hR
        case hS0 =>
          have hget : ((s.heap.push { cls := .type "set", dict := none, data := .set #[] 0 (.fresh 0 0 (!w.params.followText "set-order")) }).push { cls := .type "list_iterator", data := .fields #[.ref l, .int 0 0] }).get? s.heap.objs.size
              = some { cls := .type "set", dict := none, data := .set #[] 0 (.fresh 0 0 (!w.params.followText "set-order")) } := Heap.get?_push_of_some _ hS
          exact txS_fresh hget
        case hR =>
          intro s' hm hS' hkp
          obtain ⟨h', g2, d', tk', os'⟩ := s'
          have eg : g2 = s.gens := hm.gens
          have ed : d' = s.drawn := hm.drawn
          have eo : os' = s.os := hm.os
          subst eg; subst ed; subst eo
          show wpAny _ _ _ _ _ _
          refine wpAny_pure ?_
          show wpAny _ _ (ret Value.none) _ _ _
          exact wpAny_pure ⟨rfl, h', tk', rfl, hS', hkp⟩

      · cases r₂ with
        | error e => exact hr₂
        | ok fl₂ =>
          cases fl₂ with
          | ret r =>
            obtain ⟨rfl, h', tk, rfl, hS', hk'⟩ := hr₂
            repeat (any_goals (first | assumption | wp_step))
            exact h _ _ hS' hk'
          | _ => exact hr₂.elim
    | _ => exact hr.elim


end
end FF
/-! ## FYE -/
namespace FF
open PySem PySem.Spec PyProof.Rows L2

/-! ### texts in order -/
def leS (a b : Str) : Bool := !ltCps b.cps.toList a.cps.toList
theorem leS_iff {a b : Str} : leS a b = true ↔ a.cps.toList ≤ b.cps.toList := by
  unfold leS
  rw [ltCps_eq]
  constructor
  · intro h
    have h1 : decide (b.cps.toList < a.cps.toList) = false := by
      cases q : decide (b.cps.toList < a.cps.toList) with
      | false => rfl
      | true => rw [q] at h; cases h
    exact List.not_lt.mp (of_decide_eq_false h1)
  · intro h
    have h1 : decide (b.cps.toList < a.cps.toList) = false := decide_eq_false (List.not_lt.mpr h)
    rw [h1]
    rfl
theorem leS_anti (a b : Str) (h1 : leS a b = true) (h2 : leS b a = true) : a = b := by
  have e := List.le_antisymm (leS_iff.mp h1) (leS_iff.mp h2)
  obtain ⟨x⟩ := a
  obtain ⟨y⟩ := b
  have e' : x = y := Array.toList_inj.mp e
  rw [e']
theorem rising_pw : ∀ (p : Str) (r : List Str), risingS p r = true → (p :: r).Pairwise fun a b => leS a b = true
  | p, [], _ => .cons (fun _ h => by cases h) .nil
  | p, x :: r, h => by
    unfold risingS at h
    have h1 : leS p x = true := by
      unfold leS
      cases q : ltCps x.cps.toList p.cps.toList with
      | false => rfl
      | true => rw [q] at h; cases h
    have h2 : risingS x r = true := by
      cases q : risingS x r with
      | true => rfl
      | false => rw [q, Bool.and_false] at h; cases h
    have ih := rising_pw x r h2
    refine .cons (fun y hy => ?_) ih
    rcases List.mem_cons.mp hy with e | hy
    · rw [e]; exact h1
    · have h3 := (List.pairwise_cons.mp ih).1 y hy
      exact leS_iff.mpr (List.le_trans (leS_iff.mp h1) (leS_iff.mp h3))
theorem sorted_pw : ∀ {l : List Str}, sortedS l = true → l.Pairwise fun a b => leS a b = true
  | [], _ => .nil
  | x :: r, h => rising_pw x r h

/-! ### sorted(set(xs)), xs unlike texts -/
def TxO (P : Program) (w : World) (a : Addr) (l : List Str) : HO := .ext fun h => TxS P w h a l
section
variable {X : Cx} {C : Addr}
theorem txO_new {H : Hp} {h : Heap} {a : Addr} {l : List Str} (R : TxS X.prog X.w h a l) : ObjOk X.prog X.w H h a (TxO X.prog X.w a l) := by
  have ⟨D, ho, _⟩ := R
  exact ⟨R, ⟨_, ho⟩, fun h1 h2 p k => TxS.keep p k⟩
def rSetTx (P : Program) (w : World) (K : PySem.W.Frag) : List V → Hp → VK → Prop := fun xs H Q => ∃ (l : Addr) (ks : List Str), xs = [.ref l] ∧ SqL K H l (ks.map V.str) ∧ ks.Nodup ∧ ks.length < 64 ∧ ∀ p, H p = none → Q (.ref p) (upd H p (TxO P w p ks.reverse))
theorem cr_setTx (hc : X.calm = true) : CallR X (.type "set") (rSetTx X.prog X.w X.K) := by
  intro pins s σ H xs us Q I r h
  obtain ⟨l, ks, rfl, hs, hd, h64, q⟩ := h
  rw [Vals.ref1 r]
  obtain ⟨its, rv, pl, hz⟩ := I.list hs
  have hl : its.length = ks.length := by rw [← rv.length, List.length_map]
  refine call_set_txt (P := X.prog) (w := X.w) ks (I.ok.hd hc) pl.isList (by simpa using hl) (fun i v hv => ?_) hd h64 fun h' tk R k => ?_
  · have hv' : its[i]? = some v := by simpa using hv
    have hi : i < ks.length := by rw [← hl]; exact (List.getElem?_eq_some_iff.mp hv').1
    have hx : (ks.map V.str)[i]? = some (V.str ks[i]) := by rw [List.getElem?_map, List.getElem?_eq_getElem hi]; rfl
    obtain ⟨u, hu, ru⟩ := Vals.get rv hx
    rw [hv'] at hu
    cases hu
    obtain ⟨t, rfl⟩ := ru
    exact ⟨ks[i], t, List.getElem?_eq_getElem hi, rfl⟩
  · exact ⟨.ref _, upd H s.heap.objs.size (TxO X.prog X.w s.heap.objs.size ks.reverse), I.laid (t' := tk) k (Nat.le_refl _) (txO_new R), rfl, q _ (I.hok.fresh (Nat.le_refl _))⟩
theorem perm_sub : ∀ (l m : List Str), l.Nodup → (∀ k, k ∈ l → k ∈ m) → m.length = l.length → m.Perm l
  | [], m, _, _, h => by
    have e : m = [] := List.length_eq_zero_iff.mp h
    rw [e]
  | x :: r, m, hd, hs, h => by
    obtain ⟨h1, h2⟩ := List.nodup_cons.mp hd
    have hx := hs x List.mem_cons_self
    have p := List.perm_cons_erase hx
    have hl : (m.erase x).length = r.length := by
      have := p.length_eq
      simp only [List.length_cons] at this h
      omega
    have ih := perm_sub r (m.erase x) h2 (fun k hk => (List.mem_erase_of_ne (fun e => h1 (by rw [← e]; exact hk))).mpr (hs k (List.mem_cons_of_mem _ hk))) hl
    exact p.trans (ih.cons x)
def rSortTx (P : Program) (w : World) : List V → Hp → VK → Prop := fun xs H Q => ∃ (a : Addr) (l : List Str), xs = [.ref a] ∧ H a = some (TxO P w a l) ∧ l.Nodup ∧ l.length < 64 ∧ ∀ (ys : List Str) (p : Addr), ys.Perm l → sortedS ys = true → H p = none → Q (.ref p) (upd H p (.lst (ys.map V.str)))
theorem tx_vals {P : Program} {w : World} {D : Froz.SD} {l : List Str} (F : Froz.TxOk P w D l) (hd : l.Nodup) : ∃ ks : List Str, StrsAre (D.1.toList.map (·.2)) ks ∧ ks.Perm l := by
  have hv : ∀ v, v ∈ D.1.toList.map (·.2) → ∃ x t, v = Value.str x t := fun v hv => by
    obtain ⟨e, he, rfl⟩ := List.mem_map.mp hv
    obtain ⟨⟨k, hk, _⟩, _⟩ := F.el e he
    obtain ⟨t, q⟩ := Value.isStrOf_shape (x := k) (v := e.2) hk
    exact ⟨k, t, q⟩
  have hS := strsAre_map _ hv
  refine ⟨_, hS, ?_⟩
  have hmem : ∀ k, k ∈ l → k ∈ (D.1.toList.map (·.2)).map strOf := fun k hk => by
    obtain ⟨e, he, q⟩ := (F.mem k).mp hk
    obtain ⟨t, q2⟩ := Value.isStrOf_shape (x := k) (v := e.2) q
    refine List.mem_map.mpr ⟨e.2, List.mem_map.mpr ⟨e, he, rfl⟩, ?_⟩
    rw [q2]
    rfl
  have hlen : ((D.1.toList.map (·.2)).map strOf).length = l.length := by
    rw [List.length_map, List.length_map, Array.length_toList]
    exact F.sz
  exact perm_sub l _ hd hmem hlen
theorem cr_sortTx (hc : X.calm = true) : CallR X (.builtin "sorted") (rSortTx X.prog X.w) := by
  intro pins s σ H xs us Q I r h
  obtain ⟨a, l, rfl, ha, hnd, h64, q⟩ := h
  rw [Vals.ref1 r]
  obtain ⟨D, ho, F0, hr, hl⟩ : TxS X.prog X.w s.heap a l := (I.hok a _ ha).1
  obtain ⟨ks, hS, hp⟩ := tx_vals F0 hnd
  have hsz : D.1.size = l.length := F0.sz
  refine Calls.call_function_entry PyProof.Rows.kind_sorted PyProof.Rows.plain_sorted PyProof.Rows.entry_sorted (PyProof.Rows.args_sorted1 _) ?_
  unfold Builtin.«sorted»
  refine wpAny_bind (m := checkCount "sorted" 1 1 _) (wpAny_pure ?_)
  refine wpAny_bind (collect_set (A := X.A.in1) (I.ok.hd hc) ⟨_, ho, rfl, rfl⟩ F0.fit (by rw [hsz]; exact Nat.lt_trans h64 (by decide)) hr hl fun s1 vs k1 hz g1 o1 pm => ?_)
  have hvl : vs.length = l.length := by rw [pm.length_eq, List.length_map, Array.length_toList]; exact hsz
  have hv : ∀ v, v ∈ vs → ∃ x t, v = Value.str x t := fun v hv => hS.all v (pm.mem_iff.mp hv)
  have hS1 := strsAre_map vs hv
  have hp1 : (vs.map strOf).Perm l := by
    have q1 := pm.map strOf
    rw [hS.strs] at q1
    exact q1.trans hp
  refine wpAny_bind (wpAny_newList ?_ (by rw [hvl, sizeLine_eq]; omega))
  have hoL : (s1.heap.push (seqObj "list" vs.toArray 0)).get? s1.heap.objs.size = some (seqObj "list" vs.toArray 0) := Heap.get?_push_size _ rfl
  show wpAny _ _ _ _ _ { s1 with heap := s1.heap.push (seqObj "list" vs.toArray 0) }
  refine wpAny_bind (wpAny_holding (wpAny_call_entry PyProof.Rows.slot_list_sort ⟨_, hoL, rfl⟩ PyProof.Rows.entry_list_sort
    (list_sort_treeK strKind_oneLt (s := { s1 with heap := s1.heap.push (seqObj "list" vs.toArray 0) }) hoL hS1.keysOf (fun v₁ v₂ rest e => keyKind_strs (by rw [← e]; exact hS1)) (by rw [hvl]; exact h64) fun st' hp' hs => ⟨_, rfl, ?_⟩)
    (PyProof.Rows.args_list_sort _)))
  obtain ⟨ys, w1, w2, w3⟩ := sorted_out_str hS1 hp' hs
  obtain ⟨e', he'⟩ := PyProof.Rows.sortedHeap_at (vs := vs) (out := (arrOf st').map (·.2)) hoL
  have hlen : (ys.map V.str).length ≤ sizeLine := by
    rw [List.length_map, w2.length_eq, List.length_map, hvl]
    exact Nat.le_trans (Nat.le_of_lt h64) (by decide)
  have kk : ∀ b o, s.heap.get? b = some o → (sortedHeap (s1.heap.push (seqObj "list" vs.toArray 0)) s1.heap.objs.size vs ((arrOf st').map (·.2))).get? b = some o := fun b o e => by
    have hb : b < s1.heap.objs.size := Heap.lt_size (k1 b o e)
    rw [PyProof.Rows.sortedHeap_old (Nat.ne_of_lt hb) (by rw [size_push']; exact Nat.lt_succ_of_lt hb)]
    exact Heap.get?_push_of_some _ (k1 b o e)
  have hn : H s1.heap.objs.size = none := I.hok.fresh hz
  have J : Inv X pins σ (upd H s1.heap.objs.size (.lst (ys.map V.str))) { s with heap := sortedHeap (s1.heap.push (seqObj "list" vs.toArray 0)) s1.heap.objs.size vs ((arrOf st').map (·.2)), gens := s1.gens, drawn := s1.drawn, toks := s1.toks } :=
    I.call (ch := []) (Un.laid kk hz hn) (I.hok.laid kk hz ⟨hlen, ((arrOf st').map (·.2)).toList, e', vals_of_strs w1, by rw [Array.toArray_toList]; exact he'⟩) (by rw [g1]; exact I.bare) (fun _ z => nomatch z)
  refine wpAny_pure ⟨_, rfl, ?_⟩
  have e : ({ s1 with heap := sortedHeap (s1.heap.push (seqObj "list" vs.toArray 0)) s1.heap.objs.size vs ((arrOf st').map (·.2)) } : Shared) = { s with heap := sortedHeap (s1.heap.push (seqObj "list" vs.toArray 0)) s1.heap.objs.size vs ((arrOf st').map (·.2)), gens := s1.gens, drawn := s1.drawn, toks := s1.toks } := by
    cases s1
    cases s
    cases o1
    rfl
  show EP X pins σ Q _ _
  rw [e]
  exact ⟨.ref _, _, J, rfl, q ys _ (w2.trans hp1) w3 hn⟩
def strsL : List PD → Option (List Str)
  | [] => some []
  | .str x :: r => match strsL r with
    | none => none
    | some m => some (x :: m)
  | _ => none
theorem strsL_eq : ∀ {l : List PD} {ks : List Str}, strsL l = some ks → l = ks.map .str
  | [], _, h => by cases h; rfl
  | d :: r, ks, h => by
    unfold strsL at h
    split at h
    · rename_i q; cases q
    · rename_i a r' q
      obtain ⟨rfl, rfl⟩ := List.cons.inj q
      split at h
      · cases h
      · rename_i m q2
        cases h
        rw [strsL_eq q2]
        rfl
    · cases h
theorem strs_dp {K : PySem.W.Frag} {H : Hp} : ∀ ks : List Str, DpAll K H (ks.map V.str) (ks.map .str)
  | [] => .nil
  | i :: r => .cons (.str i) (strs_dp r)
theorem strs_of_dp {K : PySem.W.Frag} {H : Hp} : ∀ {ks : List Str} {xs : List V}, DpAll K H xs (ks.map .str) → xs = ks.map V.str
  | [], _, h => by cases h; rfl
  | k :: r, _, h => by
    cases h with
    | cons h1 h2 =>
      cases h1
      rw [strs_of_dp h2]
      rfl
def unlikeB : List Str → Bool
  | [] => true
  | x :: r => if decide (x ∈ r) = true then false else unlikeB r
theorem unlike_nd : ∀ {l : List Str}, unlikeB l = true → l.Nodup
  | [], _ => .nil
  | x :: r, h => by
    unfold unlikeB at h
    by_cases q : decide (x ∈ r) = true
    · rw [if_pos q] at h; cases h
    · rw [if_neg q] at h
      exact List.nodup_cons.mpr ⟨fun z => q (decide_eq_true z), unlike_nd h⟩
def gSortSet : D → Option D
  | .p (.list l) => (match strsL l with
    | none => none
    | some ks => if unlikeB ks = true then (if Nat.ble ks.length 63 = true then (match srtB leS ks with
      | none => none
      | some m => some (.p (.list (m.map .str)))) else none) else none)
  | _ => none
variable {e : Expr} {f : Ev → Option D} {p p2 pos pos2 : Pos}
theorem de_sortSet (hc : X.calm = true) (g1 : Gl X "sorted") (m1 : X.mg "sorted" = none) (g2 : Gl X "set") (m2 : X.mg "set" = none) (he : DE C X e f) (h1 : starEach [e] X.env = (false, eval e X.env) :: starEach [] X.env := by rfl)
    (h2 : starEach [.Call (.Name "set" p2) [e] [] pos2] X.env = (false, eval (.Call (.Name "set" p2) [e] [] pos2) X.env) :: starEach [] X.env := by rfl) :
    DE C X (.Call (.Name "sorted" p) [.Call (.Name "set" p2) [e] [] pos2] [] pos) (e1 gSortSet f) :=
  ⟨PE.imp (pe_callB (cr_sortTx hc) g1 m1 (by decide +kernel) (pa_cons (pe_callTy (cr_setTx hc) g2 m2 (by decide +kernel) (pa_cons he.pe pa_nil (hs := h1)) (by decide) (by decide) h1 rfl) pa_nil) (by decide) (by decide) h2 rfl) fun σ H Q q => by
    obtain ⟨M, ρ, d, hm, he, hf, k⟩ := q
    obtain ⟨x, q1, q2⟩ := e1_some hf
    unfold gSortSet at q2
    split at q2
    · rename_i l
      split at q2
      · cases q2
      · rename_i ks q3
        by_cases q4 : unlikeB ks = true
        · rw [if_pos q4] at q2
          by_cases q5 : Nat.ble ks.length 63 = true
          · rw [if_pos q5] at q2
            split at q2
            · cases q2
            · rename_i m q6
              cases q2
              have hl : ks.length < 64 := Nat.lt_succ_of_le (Nat.le_of_ble_eq_true q5)
              have hnd := unlike_nd q4
              refine ⟨M, ρ, _, hm, he, q1, fun v H1 s1 r1 => ?_⟩
              obtain ⟨a, xs, rfl, hs, hd⟩ := rp_lst r1
              have el := strsL_eq q3
              subst el
              have ex := strs_of_dp hd
              subst ex
              refine ⟨a, ks, rfl, seqL_hide hs, hnd, hl, fun b nb => ?_⟩
              refine ⟨b, ks.reverse, rfl, upd_same, ((List.reverse_perm ks).nodup_iff.mpr hnd), by rw [List.length_reverse]; exact hl, fun ys p w1 w2 np => ?_⟩
              have em := srtB_uniq leS q6 (w1.trans (List.reverse_perm ks)) (sorted_pw w2) leS_anti
              subst em
              exact k _ _ ((s1.trans (same_new nb)).trans (same_new np)) (new_lst ((hm.mono s1).mono (same_new nb)) np (strs_dp _))
          · rw [if_neg q5] at q2; cases q2
        · rw [if_neg q4] at q2; cases q2
    · cases q2⟩
end
end FF
/-! ## FYF -/
namespace FF
open PySem PySem.Spec PyProof.Rows L2

/-! ### sorted(d), d a dict whose keys are pairs of ints -/
def pK (p : Int × Int) : List L2.Key := [.inl p.1, .inl p.2]
theorem keys_dp {K : PySem.W.Frag} {H0 H : Hp} (f : ∀ b xs, H b = some (.tup xs) → H0 b = some (.tup xs)) {kvs : List (List L2.Key × V)} {bs : List Addr} (h : IsKeys H kvs bs) : ∀ {ps : List (Int × Int)}, kvs.map (·.1) = ps.map pK → DpAll K H0 (bs.map V.ref) (ps.map prP) := by
  unfold IsKeys at h
  induction h with
  | nil =>
    intro ps e
    cases ps with
    | nil => exact .nil
    | cons _ _ => cases e
  | @cons a b as bs h1 _ ih =>
    intro ps e
    cases ps with
    | nil => cases e
    | cons p ps =>
      rw [List.map_cons, List.map_cons] at e
      obtain ⟨e1, e2⟩ := List.cons.inj e
      refine .cons (.tup (.inl (.inl (f _ _ h1))) ?_) (ih e2)
      rw [e1]
      exact .cons (.int p.1) (.cons (.int p.2) .nil)
section
variable {X : Cx}
def rSortDT (K : PySem.W.Frag) : List V → Hp → VK → Prop := fun xs H Q => ∃ (d : Addr) (kvs : List (List L2.Key × V)) (ps : List (Int × Int)) (H0 : Hp), xs = [.ref d] ∧ H d = some (.dT kvs) ∧ kvs.map (·.1) = ps.map pK ∧ Same H0 H ∧ (∀ b xs, H b = some (.tup xs) → H0 b = some (.tup xs)) ∧
  ∀ (ys' : List V) (ps' : List (Int × Int)) (p : Addr), ps'.Perm ps → (ps'.Pairwise fun a b => leP a b = true) → DpAll K H0 ys' (ps'.map prP) → H p = none → Q (.ref p) (upd H p (.lst ys'))
theorem cr_sortDT (hc : X.calm = true) : CallR X (.builtin "sorted") (rSortDT X.K) := by
  intro pins s σ H xs us Q I r h
  obtain ⟨d, kvs, ps, H0, rfl, hd, hk, e0, hf, q⟩ := h
  rw [Vals.ref1 r]
  obtain ⟨z, hs, ks, pr, o, es, ep, ho, hx, hdt, he, hn⟩ := (show ObjOk X.prog X.w H s.heap d (.dT kvs) from I.hok d _ hd)
  have l1 : es.size = ks.length := size_of_entries he
  have l2 : kvs.length = ks.length := Paired.length pr
  have hbs := isKeys_of pr
  have hdp := keys_dp (K := X.K) hf hbs hk
  have rv : Vals ((ks.map fun x => x.2.1).map V.ref) ((ks.map fun x => x.2.1).map Value.ref) := vals_refs _
  obtain ⟨w1, w2⟩ := prs_at I e0 hdp rv
  have hz : ((ks.map fun x => x.2.1).map Value.ref).length ≤ sizeLine := by rw [List.length_map, List.length_map]; omega
  have col : ∀ R : List Value → Shared → Prop, (∀ h' tk vs, (∀ b o, s.heap.get? b = some o → h'.get? b = some o) → vs = (ks.map fun x => x.2.1).map Value.ref → R vs { s with heap := h', toks := tk }) → wpAny (model X.prog X.w) X.A.in1 (collect (.ref d)) R X.xe s := by
    intro R hR
    refine PySem.W.kdu_collect (kdl_raw hs hx hdt) (I.ok.hd hc) ho (by omega) fun h' tk acc' kp it => hR h' tk _ kp ?_
    rw [List.map_map]
    have hl : acc'.toList.length = ks.length := by rw [Array.length_toList, it.1]; exact l1
    apply List.ext_getElem?
    intro j
    rw [List.getElem?_map]
    cases hj : acc'.toList[j]? with
    | none =>
      have h1 := List.getElem?_eq_none_iff.mp hj
      rw [List.getElem?_eq_none (by omega)]
      all_goals rfl
    | some v =>
      obtain ⟨en, hen, hv⟩ := it.2 j v (by rw [← Array.getElem?_toList]; exact hj)
      have qe := entry_at he j
      rw [hen] at qe
      cases hb : ks[j]? with
      | none =>
        rw [hb] at qe
        exact nomatch (show some en = none from qe)
      | some b =>
        rw [hb] at qe
        have e2 : en = entryOfKey (tupleKind (mixKind X.prog X.w)) b := Option.some.inj qe
        rw [hv, e2]
        all_goals rfl
  refine sorted_coll (P := fun vs => vs = (ks.map fun x => x.2.1).map Value.ref) (SrtO.swo_lex (kOf s.heap)) col (fun vs e => by rw [e]; exact hz) (fun vs h₁ tk a' e h2 ha k => ?_) fun vs out h0 h' tk e h1 h2 k0 k1 hn => ?_
  · subst e
    refine SrtO.pairs_sortableO (s := { s with heap := h₁, toks := tk }) (by omega) (fun v hv => (w2 v hv).2.1.keeps fun b o e _ => k b o e) fun o e => ?_
    have e' : some o = some (seqObj "list" _ 0) := e.symm.trans ha
    cases e'
    intro c
    exact absurd (Value.type.inj c) (by decide)
  · subst e
    obtain ⟨ep, he'⟩ := hn
    have hmem : ∀ u ∈ out, u ∈ (ks.map fun x => x.2.1).map Value.ref := fun u hu => h2.perm.mem_iff.mp hu
    have I0 : Inv X pins σ H { s with heap := h0, toks := tk } := I.kept k0
    have hlen : (out.map backV).length ≤ sizeLine := by
      rw [List.length_map, h2.len]
      exact hz
    refine ⟨.ref _, upd H h0.objs.size (.lst (out.map backV)), I0.laid (t' := tk) k1 (Nat.le_refl _) ⟨hlen, out, ep, vals_back fun u hu => (w2 u (hmem u hu)).1, he'⟩, rfl, q _ (out.map (kOf s.heap)) _ ?_ ?_ (prs_out fun u hu => (w2 u (hmem u hu)).2.2) (I0.hok.fresh (Nat.le_refl _))⟩
    · rw [← w1]
      exact h2.perm.map _
    · exact List.pairwise_map.mpr (h1.imp fun {x y} z => leP_iff.mpr z)
end

/-! ### statements that fill a dict of pairs -/
def hasP : List (Int × Int) → Int → Int → Bool
  | [], _, _ => false
  | p :: r, a, b => if ieq p.1 a = true then (if ieq p.2 b = true then true else hasP r a b) else hasP r a b
def insP (l : List (Int × Int)) (a b : Int) : List (Int × Int) := if hasP l a b = true then l else l ++ [(a, b)]
theorem pK_inj {p q : Int × Int} (h : pK p = pK q) : p = q := by
  unfold pK at h
  simp only [List.cons.injEq, Sum.inl.injEq, and_true] at h
  exact Prod.ext h.1 h.2
theorem hasP_iff : ∀ (l : List (Int × Int)) (a b : Int), hasP l a b = true ↔ (a, b) ∈ l
  | [], a, b => by simp [hasP]
  | p :: r, a, b => by
    unfold hasP
    have ih := hasP_iff r a b
    by_cases h1 : ieq p.1 a = true
    · rw [if_pos h1]
      rw [ieq_eq] at h1
      have h1 := of_decide_eq_true h1
      by_cases h2 : ieq p.2 b = true
      · rw [if_pos h2]
        rw [ieq_eq] at h2
        have h2 := of_decide_eq_true h2
        constructor
        · intro _
          have : p = (a, b) := Prod.ext h1 h2
          rw [this]
          exact List.mem_cons_self
        · intro _; rfl
      · rw [if_neg h2]
        rw [ieq_eq] at h2
        rw [ih]
        constructor
        · exact fun h => List.mem_cons_of_mem _ h
        · intro h
          rcases List.mem_cons.mp h with e | h
          · exfalso
            apply h2
            rw [← e]
            exact decide_eq_true rfl
          · exact h
    · rw [if_neg h1]
      rw [ieq_eq] at h1
      rw [ih]
      constructor
      · exact fun h => List.mem_cons_of_mem _ h
      · intro h
        rcases List.mem_cons.mp h with e | h
        · exfalso
          apply h1
          rw [← e]
          exact decide_eq_true rfl
        · exact h
theorem put_pK {kvs : List (List L2.Key × V)} {l : List (Int × Int)} {a b : Int} {v : V} (h : kvs.map (·.1) = l.map pK) : (putK kvs (pK (a, b)) v).map (·.1) = (insP l a b).map pK := by
  have hany : (kvs.any fun kv => decide (kv.1 = pK (a, b))) = hasP l a b := by
    rw [Bool.eq_iff_iff, hasP_iff, List.any_eq_true]
    constructor
    · rintro ⟨kv, hkv, e⟩
      have e := of_decide_eq_true e
      have hm : kv.1 ∈ l.map pK := by rw [← h]; exact List.mem_map.mpr ⟨kv, hkv, rfl⟩
      obtain ⟨p, hp, e2⟩ := List.mem_map.mp hm
      have : p = (a, b) := pK_inj (e2.trans e)
      rw [← this]
      exact hp
    · intro hm
      have hm2 : pK (a, b) ∈ kvs.map (·.1) := by rw [h]; exact List.mem_map.mpr ⟨_, hm, rfl⟩
      obtain ⟨kv, hkv, e⟩ := List.mem_map.mp hm2
      exact ⟨kv, hkv, decide_eq_true e⟩
  unfold putK insP
  rw [hany]
  by_cases q : hasP l a b = true
  · rw [if_pos q, if_pos q, List.map_map, ← h]
    apply List.map_congr_left
    intro kv _
    show (if kv.1 = pK (a, b) then (kv.1, v) else kv).1 = kv.1
    split <;> rfl
  · rw [if_neg q, if_neg q, List.map_append, List.map_append, h]
    rfl
/-! ### statements that fill a dict, as functions -/
abbrev LP := List (Int × Int)
def SB (a : Addr) (H H' : Hp) : Prop := ∀ b o, b ≠ a → H b = some o → H' b = some o
theorem SB.trans {a : Addr} {H H' H'' : Hp} (x : SB a H H') (y : SB a H' H'') : SB a H H'' := fun b o n e => y b o n (x b o n e)
theorem Same.sb {a : Addr} {H H' : Hp} (x : Same H H') : SB a H H' := fun b o _ e => x b o e
theorem SB.hide {a : Addr} {M : Msk} {H H' : Hp} (x : SB a H H') (m : M a = true) : Same (hide M H) (hide M H') := fun b o e => by
  obtain ⟨h1, h2⟩ := of_hide e
  exact hide_of (x b o (fun z => by rw [z, m] at h1; cases h1) h2) h1
theorem SB.hid {a : Addr} {M : Msk} {H H' : Hp} {kvs : List (List L2.Key × V)} (x : SB a H H') (h : Hid M H) (e : H' a = some (.dT kvs)) : Hid M H' := fun b m => by
  by_cases z : b = a
  · subst z
    exact ⟨_, e, rfl⟩
  · obtain ⟨o, e1, n⟩ := h b m
    exact ⟨o, x b o z e1, n⟩
def dSd (K : PySem.W.Frag) (C : Addr) (j : Nat) (u : Ev → LP → Option (Ev × LP)) : TS := fun E σ H => ∃ (M : Msk) (ρ : Ev) (l : LP) (a : Addr) (kvs : List (List L2.Key × V)) (ρ' : Ev) (l' : LP), Hid M H ∧ M a = true ∧ H a = some (.dT kvs) ∧ kvs.map (·.1) = l.map pK ∧ σ[j]? = some (some (.ref a)) ∧ EnvR K C (hide M H) σ ρ ∧ u ρ l = some (ρ', l') ∧
  ∀ σ' H' kvs', SB a H H' → H' a = some (.dT kvs') → kvs'.map (·.1) = l'.map pK → σ'[j]? = some (some (.ref a)) → EnvR K C (hide M H') σ' ρ' → E.nx σ' H'
def uPut (fs : Ev → Option (List D)) : Ev → LP → Option (Ev × LP) := fun ρ l => match fs ρ with
  | some [.p (.int a), .p (.int b)] => if few l = true then some (ρ, insP l a b) else none
  | _ => none
def forM (g : D → Ev → Option Ev) (b : Ev → LP → Option (Ev × LP)) : List D → Ev → LP → Option (Ev × LP)
  | [], ρ, l => some (ρ, l)
  | d :: ds, ρ, l => match g d ρ with
    | none => none
    | some ρ1 => match b ρ1 l with
      | none => none
      | some (ρ2, l2) => forM g b ds ρ2 l2
def uFor (i : Ev → Option (List D)) (g : D → Ev → Option Ev) (b : Ev → LP → Option (Ev × LP)) : Ev → LP → Option (Ev × LP) := fun ρ l => match i ρ with
  | none => none
  | some ds => forM g b ds ρ l
section
variable {X : Cx} {C : Addr} {j : Nat} {x : Str} {es : List Expr} {fs : Ev → Option (List D)} {p p1 p2 p3 pos : Pos} {kk : Nat} {tg iter : Expr} {body : List Stmt} {i : Ev → Option (List D)} {g : D → Ev → Option Ev} {b : Ev → LP → Option (Ev × LP)} {vs : List Nat}
theorem dput_m {v : Expr} (hu : X.A.units + 1 < cLine) (hj : PE X (.Name x p) (tVar j)) (ha : DA C X es fs) (hv : DE C X v (eC (.p (.bool true)))) (hs : swapsWith v (some (.Subscript (.Name x p) (.Tuple es kk p1) p2)) pos.line X.env = pure false := by rfl) :
    PS X (.Assign [.Subscript (.Name x p) (.Tuple es kk p1) p2] v pos) (dSd X.K C j (uPut fs)) := PS.imp (ps_dput hu hj (pe_tup ha.pa) hv.pe hs) fun E σ H q => by
  obtain ⟨M, ρ, l, a, kvs, ρ', l', hm, ma, hd, hk, hsj, he, hf, k⟩ := q
  unfold uPut at hf
  split at hf
  · rename_i y z q1
    by_cases q2 : few l = true
    · rw [if_pos q2] at hf
      cases hf
      refine ⟨M, ρ, _, hm, he, rfl, fun v H1 s1 r1 => ⟨.ref a, hsj, M, ρ, _, hm.mono s1, he.mono (same_hide s1), q1, fun ws H2 s2 r2 => ?_⟩⟩
      have s12 := s1.trans s2
      cases r2 with
      | cons r3 r4 =>
        cases r4 with
        | cons r4 r5 =>
          cases r5
          rw [rp_int r3, rp_int r4]
          refine ⟨by show 2 ≤ sizeLine; rw [sizeLine_eq]; decide, fun t nt => ?_⟩
          have st := same_new (o := HO.tup [V.int y, V.int z]) nt
          have hlen : kvs.length < sizeLine := by
            have e := congrArg List.length hk
            rw [List.length_map, List.length_map] at e
            rw [e]
            exact few_line q2
          have hd2 : (upd H2 t (.tup [V.int y, V.int z])) a = some (.dT kvs) := st _ _ (s12 _ _ hd)
          refine ⟨a, _, rfl, DPut.t (k := pK (y, z)) hd2 upd_same hlen, ?_⟩
          refine k σ _ _ (fun bb oo nb eb => ?_) upd_same (put_pK hk) hsj ?_
          · rw [upd_ne nb]
            exact st _ _ (s12 _ _ eb)
          · rw [hide_upd ma]
            exact he.mono (same_hide (s12.trans st))
    · rw [if_neg q2] at hf; cases hf
  · cases hf
theorem for_m (hi : DI C X tg iter i) (hg : DG C X vs tg g) (hb : PSs X body (dSd X.K C j b)) (hjv : j ∉ vs) (hp : PassesOwn (model X.prog X.w) X.A X.env X.xe) (hc : X.calm = true := by rfl) (hs : ∀ x, foldedSetIterable iter X.env x = pure x := by intro _; rfl) :
    PS X (.For tg iter body [] pos) (dSd X.K C j (uFor i g b)) := PS.imp (ps_for hp hc hi.pi hg.pg hb hs) fun E σ H q => by
  obtain ⟨M, ρ, l, a, kvs, ρ', l', hm, ma, hd, hk, hsj, he, hf, k⟩ := q
  unfold uFor at hf
  cases q1 : i ρ with
  | none => rw [q1] at hf; cases hf
  | some ds =>
    rw [q1] at hf
    simp only at hf
    refine ⟨M, ρ, ds, hm, he, q1, fun J H1 s1 itd => ?_⟩
    refine ⟨fun n m σ' H' => m = ds.length - n ∧ n ≤ ds.length ∧ SB a H1 H' ∧ ∃ kvs1 l1 ρ1, H' a = some (.dT kvs1) ∧ kvs1.map (·.1) = l1.map pK ∧ σ'[j]? = some (some (.ref a)) ∧ EnvR X.K C (hide M H') σ' ρ1 ∧ forM g b (ds.drop n) ρ1 l1 = some (ρ', l'),
      ⟨ds.length, by omega, Nat.zero_le _, fun _ _ _ e => e, kvs, l, ρ, s1 _ _ hd, hk, hsj, he.mono (same_hide s1), by rw [List.drop_zero]; exact hf⟩, ?_⟩
    rintro n m σ' H' ⟨rfl, hn, s2, kvs1, l1, ρ1, hd1, hk1, hj1, he1, hf1⟩
    have hm1 : Hid M H' := s2.hid (hm.mono s1) hd1
    obtain ⟨go, stop⟩ := itd M rfl n H' (s2.hide ma) hm1
    by_cases hlt : n < ds.length
    · have hdn : ds[n]? = some ds[n] := List.getElem?_eq_getElem hlt
      obtain ⟨g1, g2⟩ := go _ hdn
      rw [drop_get hdn] at hf1
      unfold forM at hf1
      cases q2 : g ds[n] ρ1 with
      | none => rw [q2] at hf1; cases hf1
      | some ρ2 =>
        rw [q2] at hf1
        simp only at hf1
        cases q3 : b ρ2 l1 with
        | none => rw [q3] at hf1; cases hf1
        | some r =>
          obtain ⟨ρ3, l3⟩ := r
          rw [q3] at hf1
          simp only at hf1
          refine .inr ⟨g1, fun σ3 H3 => SB a H1 H3 ∧ ∃ kvs1 l1 ρ1, H3 a = some (.dT kvs1) ∧ kvs1.map (·.1) = l1.map pK ∧ σ3[j]? = some (some (.ref a)) ∧ EnvR X.K C (hide M H3) σ3 ρ1 ∧ forM g b (ds.drop (n + 1)) ρ1 l1 = some (ρ', l'), fun σ3 H3 ⟨z1, z2⟩ => ⟨ds.length - (n + 1), by omega, rfl, hlt, z1, z2⟩, fun x H4 hy => ?_⟩
          obtain ⟨s4, r4⟩ := g2 x H4 hy
          refine ⟨M, ρ1, ds[n], ρ2, hm1.mono s4, he1.mono (same_hide s4), r4, q2, fun σ5 H5 s5 e5 w5 => ?_⟩
          have s45 := s4.trans s5
          have hj5 : σ5[j]? = some (some (.ref a)) := by
            have z := congrArg (fun y : L2.St => y[j]?) w5
            simp only [wipe_at, if_neg hjv] at z
            rw [z]
            exact hj1
          exact ⟨M, ρ2, l1, a, kvs1, ρ3, l3, hm1.mono s45, ma, s45 _ _ hd1, hk1, hj5, e5, q3, fun σ6 H6 kvs6 sb d6 k6 j6 e6 => ⟨s2.trans ((Same.sb s45).trans sb), kvs6, l3, ρ3, d6, k6, j6, e6, hf1⟩⟩
    · have en : n = ds.length := by omega
      subst en
      rw [List.drop_length] at hf1
      cases hf1
      exact .inl ⟨stop rfl, k σ' H' kvs1 ((Same.sb s1).trans s2) hd1 hk1 hj1 he1⟩
end

/-! ### look, found = Look(..), {}; a loop that fills found; return tuple(sorted(found)) -/
theorem EnvR.unsee {K : PySem.W.Frag} {C : Addr} {H : Hp} {σ : L2.St} {ρ : Ev} {j : Nat} {v : Option V} (h : EnvR K C H σ ρ) : EnvR K C H (σ.set j v) (FF.forget ρ j) := by
  refine ⟨by rw [List.length_set, forget_len]; exact h.len, fun i e q => ?_⟩
  obtain ⟨ne, q⟩ := lk_forget ρ j i e q
  obtain ⟨u, a, b⟩ := h.get i e q
  exact ⟨u, by rw [List.getElem?_set_ne (Ne.symm ne)]; exact a, b⟩
def mustD (fmk : Ev → Option D) (i j : Nat) (u : Ev → LP → Option (Ev × LP)) (e : Nat) (ds : List D) : Option D := match fmk (somes ds (nones e)) with
  | none => none
  | some d => match u (forget (put (somes ds (nones e)) i d) j) [] with
    | none => none
    | some (_, l) => match srtB leP l with
      | none => none
      | some m => some (.p (.tuple (m.map prP)))
theorem mustOk {P : Program} {w : World} {K : PySem.W.Frag} {mg : Str → Option Value} {base : Heap} {C : Addr} {x qual : Str} {st a1 a2 a3 : Stmt} {f : Addr} {fd : FuncData} {N ps : List Str} {k e i j : Nat} {fmk : Ev → Option D} {u : Ev → LP → Option (Ev × LP)}
    (F : Fun K x qual st f fd) (S : FnScope N ps (defScope st)) (he : ps.length + e = N.length) (hbody : defBody st = [a1, a2, a3]) (hjN : j < N.length) (hij : i ≠ j)
    (hb : ∀ (cdv : Value) (A : Around) (outer : List Env) (s : Shared) (H : Hp) (E : XK), Room k (A.deeper (envOfC qual (defScope st) s.heap.objs.size f cdv)) →
      PS (cxOf (L2.CX P w) P w K mg base N qual (defScope st) f cdv A outer s H E).nox a1 (tPar i j (tCons (dE K C fmk) (tCons tDNewT tNil))) ∧
      PS (cxOf (L2.CX P w) P w K mg base N qual (defScope st) f cdv A outer s H E).nox a2 (dSd K C j u) ∧
      PS (cxOf (L2.CX P w) P w K mg base N qual (defScope st) f cdv A outer s H E).nox a3 (tRet (tCB (fun xs H Q => ∃ p ys, xs = [.ref p] ∧ ((SqL K H p ys ∧ ∀ l, H l = none → Q (.ref l) (upd H l (.tup ys))) ∨ (SqT K H p ys ∧ Q (.ref p) H))) (tCons (tCB (rSortDT K) (tCons (tVar j) tNil)) tNil)))) :
    FnOk P w K mg base (L2.CX P w) (k + 1) f fd ps (spD K C ps.length (mustD fmk i j u e)) := by
  refine F.okX S (fun vs H Q E h => h.1) (fun cdv A outer s H vs Q E hr h => ?_)
  obtain ⟨h1, h2, h3⟩ := hb cdv A outer s H E hr
  refine ⟨_, PSs.nox (by rw [hbody]; exact pss_cons h1 (pss_cons h2 (pss_one h3))), ?_⟩
  obtain ⟨hn, M, ds, d, hm, r, hf, kq⟩ := h
  unfold mustD at hf
  cases q1 : fmk (somes ds (nones e)) with
  | none => rw [q1] at hf; cases hf
  | some dl =>
    rw [q1] at hf
    simp only at hf
    cases q2 : u (forget (put (somes ds (nones e)) i dl) j) [] with
    | none => rw [q2] at hf; cases hf
    | some rr =>
      obtain ⟨ρ', l'⟩ := rr
      rw [q2] at hf
      simp only at hf
      cases q3 : srtB leP l' with
      | none => rw [q3] at hf; cases hf
      | some m =>
        rw [q3] at hf
        cases hf
        have e0 := env_start (N := N) r hn he
        have hsl : (start N vs).length = N.length := by
          rw [e0.len]
          have z := e0.len
          unfold L2.start at z
          rw [← z]
          simp [hn]
          omega
        refine ⟨M, _, dl, hm, e0, q1, fun v H1 s1 r1 => fun p np => ⟨v, .ref p, rfl, ?_⟩⟩
        have sp := same_new (o := HO.dT []) np
        have hmp : Hid (more M p) (upd H1 p (.dT [])) := ((hm.mono s1).mono sp).more upd_same
        have hsame : hide (more M p) (upd H1 p (.dT [])) = hide M H1 := more_upd.trans (more_new np)
        have e1 : EnvR K C (hide (more M p) (upd H1 p (.dT []))) (((start N vs).set i (some v)).set j (some (.ref p))) (forget (put (somes ds (nones e)) i dl) j) := by
          rw [hsame]
          exact ((e0.mono (same_hide s1)).put r1).unsee
        have hj1 : (((start N vs).set i (some v)).set j (some (V.ref p)))[j]? = some (some (.ref p)) := by
          rw [List.getElem?_set_self]
          rw [List.length_set, hsl]
          exact hjN
        refine ⟨more M p, _, [], p, [], ρ', l', hmp, more_self M p, upd_same, rfl, hj1, e1, q2, fun σ' H' kvs' sb d' k' j' e' => ?_⟩
        have hm' : Hid (more M p) H' := sb.hid hmp d'
        have sH : Same H H' := fun b o eb => by
          have nb : b ≠ p := ne_of_none (s1 _ _ eb) np
          exact sb b o nb (sp _ _ (s1 _ _ eb))
        refine ⟨.ref p, j', p, kvs', l', hide (more M p) H', rfl, d', k', hide_le, fun b xs eb => hm'.tup eb, fun ys' ps' q w1 w2 w3 nq => ?_⟩
        have em := srtB_uniq leP q3 w1 w2 leP_anti
        subst em
        refine ⟨q, ys', rfl, .inl ⟨SqL.of upd_same, fun t nt => ?_⟩⟩
        have sq := same_new (o := HO.lst ys') nq
        have st' := same_new (o := HO.tup ys') nt
        have hmf : Hid M (upd H' q (.lst ys')) := (hm.mono sH).mono sq
        exact kq _ _ (sH.trans (sq.trans st')) (new_tup hmf nt (DpAll_mono (fun b o eb => same_hide sq _ _ (more_le _ _ eb)) _ _ w3))
end FF
/-! ## FYG -/
namespace FF
open PySem PySem.Spec PyProof.Rows L2

/-! ### repr of a tuple of ints, no repr under way -/
def rRepr (K : PySem.W.Frag) : List V → Hp → VK → Prop := fun xs H Q => ∃ (a : Addr) (k : List Int), xs = [.ref a] ∧ SqT K H a (kI k) ∧ (PyData.tuple (k.map .int)).showable = true ∧ (PyData.tuple (k.map .int)).hasDict = false ∧ (PyData.tuple (k.map .int)).depth ≤ 8 ∧ (PyData.tuple (k.map .int)).shown.length ≤ sizeLine ∧
  Q (.str (PyData.tuple (k.map .int)).shown) H
theorem reads_ints {h : Heap} : ∀ {k : List Int} {its : List Value}, Vals (kI k) its → ∃ as, ReadsAll h its (k.map .int) as
  | [], _, r => by cases r; exact ⟨[], .nil⟩
  | i :: k, _, r => by
    cases r with
    | cons r1 r2 =>
      obtain ⟨t, rfl⟩ := r1
      obtain ⟨as, q⟩ := reads_ints (k := k) r2
      exact ⟨[] ++ as, .cons (.int i t) q⟩
section
variable {X : Cx}
theorem cr_repr (hG : X.A.guards = some []) (hu : X.A.units + 64 < cLine) : CallR X (.builtin "repr") (rRepr X.K) := by
  intro pins s σ H xs us Q I r h
  obtain ⟨a, k, rfl, hs, h1, h2, h3, h4, q⟩ := h
  rw [Vals.ref1 r]
  obtain ⟨its, o, n, rv, ho, hc, hd⟩ := sqT_at I.hok I.kIn hs
  obtain ⟨as, ra⟩ := reads_ints (h := s.heap) rv
  have rd : Reads s.heap (.ref a) (.tuple (k.map .int)) as := Reads.tuple ho hc hd (by simpa using ra)
  exact repr_of_reads' rd h1 (fun z => by rw [h2] at z; cases z) hG (by omega) (fun _ _ e => e) (fun h' u tk hk => ⟨.str _, H, I.kept hk, ⟨u, rfl⟩, q⟩) h4
end
def gRepr : List D → Option D
  | [.p (.tuple l)] => (match keyI l with
    | none => none
    | some k => if (PyData.tuple (k.map .int)).showable = true then (if (PyData.tuple (k.map .int)).hasDict = true then none else if Nat.ble (PyData.tuple (k.map .int)).depth 8 = true then (if Nat.ble (PyData.tuple (k.map .int)).shown.length 100000 = true then some (.p (.str (PyData.tuple (k.map .int)).shown)) else none) else none) else none)
  | _ => none
theorem cld_repr {K : PySem.W.Frag} {C : Addr} : Cld K C (rRepr K) gRepr := by
  intro M H vs ds d Q hm rs h k
  unfold gRepr at h
  split at h
  · rename_i l
    split at h
    · cases h
    · rename_i ks q
      by_cases q1 : (PyData.tuple (ks.map .int)).showable = true
      · rw [if_pos q1] at h
        by_cases q2 : (PyData.tuple (ks.map .int)).hasDict = true
        · rw [if_pos q2] at h; cases h
        · rw [if_neg q2] at h
          by_cases q3 : Nat.ble (PyData.tuple (ks.map .int)).depth 8 = true
          · rw [if_pos q3] at h
            by_cases q4 : Nat.ble (PyData.tuple (ks.map .int)).shown.length 100000 = true
            · rw [if_pos q4] at h
              cases h
              obtain ⟨v, rfl, rv⟩ := rp1 rs
              obtain ⟨a, xs, rfl, h1, h2⟩ := rp_tup rv
              have ev := keyI_vs q h2
              subst ev
              exact ⟨a, ks, rfl, seqT_hide h1, q1, by simpa using q2, Nat.le_of_ble_eq_true q3, Nat.le_trans (Nat.le_of_ble_eq_true q4) (Nat.le_of_lt (Nat.lt_trans (by decide) line_big)), k _ H (Same.refl H) (.str _)⟩
            · rw [if_neg q4] at h; cases h
          · rw [if_neg q3] at h; cases h
      · rw [if_neg q1] at h; cases h
  · cases h

/-! ### defs that are called with no repr under way -/
structure FnG (P : Program) (w : World) (K : PySem.W.Frag) (mg : Str → Option Value) (base : Heap) (k : Nat) (f : Addr) (fd : FuncData) (ps : List Str) (sp : Sp) : Prop where
  len : ∀ vs H Q E, sp vs H Q E → vs.length = ps.length
  run : ∀ (A : Around) (outer : List Env) (s : Shared) (H : Hp) (args : Args) (us : List Value) (vs : List V) (Q : VK) (E : XK), A.guards = some [] → Room k A → Env0 P w K mg base A outer s H → BindsTo s fd args (ps.zip us) → Vals vs us → sp vs H Q E →
    codeAny (model P w) A (.call (.ref f) args) (CR (L2.CX P w) outer P w H s Q E) s
theorem fnG_of {P : Program} {w : World} {K : PySem.W.Frag} {mg : Str → Option Value} {base : Heap} {x qual : Str} {st : Stmt} {f : Addr} {fd : FuncData} {N ps : List Str} {k : Nat} {sp : Sp} (F : Fun K x qual st f fd) (S : FnScope N ps (defScope st)) (len : ∀ vs H Q E, sp vs H Q E → vs.length = ps.length)
    (hbody : ∀ (cdv : Value) (A : Around) (outer : List Env) (s : Shared) (H : Hp) (vs : List V) (Q : VK) (E : XK), A.guards = some [] → Room k (A.deeper (envOfC qual (defScope st) s.heap.objs.size f cdv)) → sp vs H Q E →
      ∃ t, PSs (cxOf (L2.CX P w) P w K mg base N qual (defScope st) f cdv A outer s H E) (defBody st) t ∧ t { nx := fun _ H' => Q .non H', rt := Q } (start N vs) H) : FnG P w K mg base (k + 1) f fd ps sp := by
  obtain ⟨oc, od, kV, doc, pm, an, cdv, ct, osl, rfl, lk, hcd⟩ := F.ex
  refine ⟨len, fun A outer s H args us vs Q E hG hr e0 hb r hsp => ?_⟩
  have hl := len _ _ _ _ hsp
  have KX : K.In s.heap := e0.mod.kin.keeps fun b o e => (e0.bs b o e).1
  have lim : s.heap.NoLimit := e0.mod.nolimit.keeps fun b o e => (e0.bs b o e).1
  have hkind : ∀ y ∈ ps.zip us, (defScope st).names.lookup y.1 = some .local ∨ ((defScope st).names.lookup y.1 = some .cell ∧ ((cellsFrom (s.heap.objs.size + 1) (defScope st).names []).lookup y.1).isSome = true) := fun ⟨n, v⟩ hy => by
    rcases S.par n (List.of_mem_zip hy).1 with q | q
    · exact .inl q
    · exact .inr ⟨q, PySem.W.cellsFrom_some _ _ _ (.inl q)⟩
  refine codeAny_call_function hr.depth (KX _ _ lk) rfl S.co S.gen rfl (PySem.W.codeRec_of KX hcd) (hb _ _ _ _ ?_)
  refine wpAny_newFunctionEnv_cells S.kind hkind fun env he s1 x => ?_
  subst he
  refine ⟨lim.keeps x.toInCall.keep, codeAny_func ?_⟩
  obtain ⟨t, ht, hq⟩ := hbody cdv A outer s H vs Q E hG (hr.deeper _) hsp
  have I : Inv (cxOf (L2.CX P w) P w K mg base N qual (defScope st) f cdv A outer s H E) [] (start N vs) H s1 := inv_start S hr.hd e0 hl r x
  refine wpAny_mono (ht.run [] s1 (start N vs) H _ I hq) (fun fl s' hs => ?_) fun e s' hs => hs
  have fin : ∀ {σ' : L2.St} {H' : Hp} {v : V} {u : Value}, Inv (cxOf (L2.CX P w) P w K mg base N qual (defScope st) f cdv A outer s H E) [] σ' H' s' → RelV v u → Q v H' → CE outer P w H s Q u s' :=
    fun {σ' H' v u} J rv q => ⟨v, H', J.os, J.bare, J.base, J.hok, rv, q⟩
  cases fl with
  | ret u =>
    obtain ⟨v, σ', H', J, rv, q⟩ := hs
    exact fin J rv q
  | next =>
    obtain ⟨σ', H', J, q⟩ := hs
    exact fin (v := V.non) (u := Value.none) J rfl q
  | brk =>
    obtain ⟨_, _, _, q⟩ := hs
    exact False.elim q
  | cont =>
    obtain ⟨_, _, _, q⟩ := hs
    exact False.elim q
theorem FnOk.toG {P : Program} {w : World} {K : PySem.W.Frag} {mg : Str → Option Value} {base : Heap} {k : Nat} {f : Addr} {fd : FuncData} {ps : List Str} {sp : Sp} (F : FnOk P w K mg base (L2.CX P w) k f fd ps sp) : FnG P w K mg base k f fd ps sp :=
  ⟨F.len, fun A outer s H args us vs Q E _ => F.run A outer s H args us vs Q E⟩
theorem fnDG {P : Program} {w : World} {K : PySem.W.Frag} {mg : Str → Option Value} {base : Heap} {C : Addr} {x qual : Str} {st : Stmt} {f : Addr} {fd : FuncData} {N ps : List Str} {k e : Nat} {u : Ev → Option Out} (F : Fun K x qual st f fd) (S : FnScope N ps (defScope st)) (he : ps.length + e = N.length)
    (hb : ∀ (cdv : Value) (A : Around) (outer : List Env) (s : Shared) (H : Hp) (E : XK), (A.deeper (envOfC qual (defScope st) s.heap.objs.size f cdv)).guards = some [] → Room k (A.deeper (envOfC qual (defScope st) s.heap.objs.size f cdv)) →
      DSs C (fun _ _ _ => False) (cxOf (L2.CX P w) P w K mg base N qual (defScope st) f cdv A outer s H E).nox (defBody st) u) : FnG P w K mg base (k + 1) f fd ps (spD K C ps.length (runD e u)) := by
  refine fnG_of F S (fun vs H Q E h => h.1) (fun cdv A outer s H vs Q E hG hr h => ⟨_, PSs.nox (hb cdv A outer s H E hG hr).pss, ?_⟩)
  obtain ⟨hn, M, ds, d, hm, r, hf, k⟩ := h
  unfold runD at hf
  cases q : u (somes ds (nones e)) with
  | none => rw [q] at hf; cases hf
  | some o =>
    rw [q] at hf
    refine ⟨M, _, o, hm, env_start r hn he, q, ?_⟩
    cases o with
    | nx ρ => cases hf; exact fun σ' H' s' _ => k _ H' s' .non
    | ret d' => cases hf; exact k
    | bk ρ => cases hf
    | ct ρ => cases hf
    | ex w a => cases hf
section
variable {C : Addr} {X : Cx} {x : Str} {e : Expr} {es : List Expr} {p pos : Pos} {fs : Ev → Option (List D)} {k n : Nat} {f : Addr} {fd : FuncData} {ps : List Str} {mm : List D → Option D}
theorem pe_callG {sp : Sp} {E : XK} {t : TA} (F : FnG X.prog X.w X.K X.mg X.base k f fd ps sp) (hG : X.A.guards = some []) (hr : Room k X.A) (hg : Gl X x) (hm : X.mg x = some (.ref f)) (hk : PySem.W.keepIn X.K (.ref f) = true) (hb : Binds X.K fd ps []) (hx : Passes (L2.CX X.prog X.w) X E)
    (ha : PA X (e :: es) t) (hdb : (x == ("__debug__" : Str)) = false := by decide) (he : starEach (e :: es) X.env = (false, eval e X.env) :: starEach es X.env := by rfl) (hpl : (backTo pos (starEach es X.env)).any (·.1) = false := by rfl) :
    PE X (.Call (.Name x p) (e :: es) [] pos) (tCall sp [] E t) := by
  refine ⟨fun pins s σ H Q I h => ?_⟩
  refine wpAny_Call_Name_kw (ld_glob I hg hm ?_ hdb)
  refine PySem.W.callWith_K (h₀ := X.base) I.ok.mod.kin hk (thn (ha.run pos pins s σ H _ I h) fun us s1 ⟨vs, H1, I1, r, q⟩ => ⟨I1.kIn, ?_⟩) he hpl
  have r2 : Vals (vs ++ []) (us ++ []) := r.append .nil
  have hl : (us ++ []).length = ps.length := by rw [← r2.length]; exact F.len _ _ _ _ q
  refine wpAny_call (codeAny_mono (F.run X.A X.stack s1 H1 ⟨us, []⟩ (us ++ []) (vs ++ []) Q E hG hr I1.env0 (hb s1 us I1.kIn hl) r2 q) fun r s' hq => ?_)
  cases r with
  | error e => exact hx pins σ H1 s1 e s' I1 hq
  | ok fl =>
    cases fl with
    | ret u => exact I1.after hq
    | next => exact False.elim hq
    | brk => exact False.elim hq
    | cont => exact False.elim hq
theorem de_callG (F : FnG X.prog X.w X.K X.mg X.base k f fd ps (spD X.K C n mm)) (hG : X.A.guards = some []) (hr : Room k X.A) (hg : Gl X x) (hm : X.mg x = some (.ref f)) (hk : PySem.W.keepIn X.K (.ref f) = true) (hb : Binds X.K fd ps [])
    (ha : DA C X (e :: es) fs) (hdb : (x == ("__debug__" : Str)) = false := by decide) (he : starEach (e :: es) X.env = (false, eval e X.env) :: starEach es X.env := by rfl) (hpl : (backTo pos (starEach es X.env)).any (·.1) = false := by rfl) :
    DE C X (.Call (.Name x p) (e :: es) [] pos) (eFn n mm fs) := ⟨PE.imp (pe_callG F hG hr hg hm hk hb passL ha.pa hdb he hpl) fun σ H Q q => by
  obtain ⟨M, ρ, d, hm, he, hf, k⟩ := q
  obtain ⟨ds, h1, h2, h3⟩ := efn_some hf
  refine ⟨M, ρ, ds, hm, he, h1, fun vs H1 s1 r1 => ?_⟩
  show spD X.K C n mm (vs ++ []) H1 Q E0
  rw [List.append_nil]
  exact ⟨r1.len.trans h2, M, ds, d, hm.mono s1, r1, h3, fun v H2 s2 r2 => k v H2 (s1.trans s2) r2⟩⟩
end
end FF
/-! ## GA -/
namespace FF
open PySem PySem.Spec PyProof.Rows L2
def top (i : Nat) : Stmt := PySem.Challenge.pw_firstfault_k49_whole_lists_by_hand.main.body.getD i (.Pass ⟨0, 0, 0, 0⟩)
abbrev s_is_integer : Stmt := top 8
abbrev N_is_integer : List Str := ["thing"]
abbrev P_is_integer : List Str := ["thing"]
abbrev s_is_number : Stmt := top 9
abbrev N_is_number : List Str := ["thing"]
abbrev P_is_number : List Str := ["thing"]
abbrev s_are_integers : Stmt := top 10
abbrev N_are_integers : List Str := ["thing", "one"]
abbrev P_are_integers : List Str := ["thing"]
abbrev s_is_state : Stmt := top 11
abbrev N_is_state : List Str := ["items", "thing", "name", "low", "high", "number"]
abbrev P_is_state : List Str := ["items", "thing"]
abbrev s_place_of : Stmt := top 13
abbrev N_place_of : List Str := ["items", "name", "own"]
abbrev P_place_of : List Str := ["items", "name"]
abbrev s_value_in : Stmt := top 14
abbrev N_value_in : List Str := ["items", "state", "count", "word", "first", "rest", "one", "other"]
abbrev P_value_in : List Str := ["items", "state", "count"]
abbrev s_holds_in : Stmt := top 15
abbrev N_holds_in : List Str := ["items", "state", "condition", "word", "first", "rest", "one", "other"]
abbrev P_holds_in : List Str := ["items", "state", "condition"]
abbrev s_states_of : Stmt := top 17
abbrev N_states_of : List Str := ["items", "found", "name", "low", "high", "state", "own"]
abbrev P_states_of : List Str := ["items"]
abbrev s_ListLook_init : Stmt := inClass (top 19) 0
abbrev N_ListLook_init : List Str := ["self", "items", "checks", "check", "state"]
abbrev P_ListLook_init : List Str := ["self", "items", "checks"]
abbrev s_ListLook_told_by : Stmt := inClass (top 19) 1
abbrev N_ListLook_told_by : List Str := ["self", "state", "order", "k"]
abbrev P_ListLook_told_by : List Str := ["self", "state", "order"]
abbrev s_ListLook_whole_order : Stmt := inClass (top 19) 2
abbrev N_ListLook_whole_order : List Str := ["self"]
abbrev P_ListLook_whole_order : List Str := ["self"]
abbrev s_ListLook_due : Stmt := inClass (top 19) 3
abbrev N_ListLook_due : List Str := ["self", "state"]
abbrev P_ListLook_due : List Str := ["self", "state"]
abbrev s_ListLook_parting : Stmt := inClass (top 19) 4
abbrev N_ListLook_parting : List Str := ["self", "order", "state"]
abbrev P_ListLook_parting : List Str := ["self", "order"]
abbrev s_ListLook_region_of : Stmt := inClass (top 19) 5
abbrev N_ListLook_region_of : List Str := ["self", "k", "state"]
abbrev P_ListLook_region_of : List Str := ["self", "k"]
abbrev s_failed_there : Stmt := top 20
abbrev N_failed_there : List Str := ["items", "checks", "state", "k", "check"]
abbrev P_failed_there : List Str := ["items", "checks", "state"]
abbrev s_first_failing : Stmt := top 21
abbrev N_first_failing : List Str := ["items", "checks", "state", "failed"]
abbrev P_first_failing : List Str := ["items", "checks", "state"]
abbrev s_regions : Stmt := top 22
abbrev N_regions : List Str := ["items", "checks", "look", "k"]
abbrev P_regions : List Str := ["items", "checks"]
abbrev s_words_of_list : Stmt := top 23
abbrev N_words_of_list : List Str := ["items", "checks", "look", "told", "state", "word"]
abbrev P_words_of_list : List Str := ["items", "checks"]
abbrev s_idle_checks : Stmt := top 24
abbrev N_idle_checks : List Str := ["items", "checks", "k", "region"]
abbrev P_idle_checks : List Str := ["items", "checks"]
abbrev s_least_list : Stmt := top 25
abbrev N_least_list : List Str := ["items", "checks", "check", "region"]
abbrev P_least_list : List Str := ["items", "checks"]
abbrev s_require : Stmt := top 27
abbrev N_require : List Str := ["condition", "word", "at"]
abbrev P_require : List Str := ["condition", "word", "at"]
abbrev s_is_entry : Stmt := top 29
abbrev N_is_entry : List Str := ["thing"]
abbrev P_is_entry : List Str := ["thing"]
abbrev s_check_idle : Stmt := top 30
abbrev N_check_idle : List Str := ["look", "k", "rows", "some", "n", "state"]
abbrev P_check_idle : List Str := ["look", "k", "rows"]
abbrev s_lets_list : Stmt := top 31
abbrev N_lets_list : List Str := ["items", "checks", "thing", "look", "k", "word", "own", "one", "state", "entry"]
abbrev P_lets_list : List Str := ["items", "checks", "thing"]
abbrev s_need_order : Stmt := top 33
abbrev N_need_order : List Str := ["checks", "order", "k"]
abbrev P_need_order : List Str := ["checks", "order"]
abbrev s_must_ahead : Stmt := top 34
abbrev N_must_ahead : List Str := ["items", "checks", "look", "found", "state", "j"]
abbrev P_must_ahead : List Str := ["items", "checks"]
abbrev s_may_order : Stmt := top 35
abbrev N_may_order : List Str := ["items", "checks", "order"]
abbrev P_may_order : List Str := ["items", "checks", "order"]
abbrev s_can_begin : Stmt := top 36
abbrev N_can_begin : List Str := ["look", "order", "told", "state", "word", "due"]
abbrev P_can_begin : List Str := ["look", "order"]
abbrev s_orders : Stmt := top 37
abbrev N_orders : List Str := ["items", "checks", "look", "found", "turn", "longer", "order", "k"]
abbrev P_orders : List Str := ["items", "checks"]
abbrev s_asked_in : Stmt := top 38
abbrev N_asked_in : List Str := ["look", "state", "order", "places", "place", "k"]
abbrev P_asked_in : List Str := ["look", "state", "order"]
abbrev s_work_of : Stmt := top 39
abbrev N_work_of : List Str := ["look", "order", "state"]
abbrev P_work_of : List Str := ["look", "order"]
abbrev s_work : Stmt := top 40
abbrev N_work : List Str := ["items", "checks", "look"]
abbrev P_work : List Str := ["items", "checks"]
abbrev s_least_work : Stmt := top 41
abbrev N_least_work : List Str := ["items", "checks", "look", "rows", "least", "order", "number"]
abbrev P_least_work : List Str := ["items", "checks"]
abbrev s_law_source : Stmt := top 43
abbrev N_law_source : List Str := ["_law_script"]
abbrev P_law_source : List Str := ["_law_script"]
abbrev s_law_draw : Stmt := top 44
abbrev N_law_draw : List Str := ["_law_source_here", "_law_bound", "_law_turn", "_law_digit", "_law_at", "_law_cell", "_law_mixed"]
abbrev P_law_draw : List Str := ["_law_source_here", "_law_bound"]
abbrev s_law_till : Stmt := top 45
abbrev N_law_till : List Str := ["_law_low", "_law_coins", "_law_shelf", "_law_asks"]
abbrev P_law_till : List Str := ["_law_low"]
abbrev s_law_is_till_right : Stmt := top 46
abbrev N_law_is_till_right : List Str := ["_law_low", "_law_shelf", "_law_asks", "_law_first", "_law_n", "_law_spots"]
abbrev P_law_is_till_right : List Str := ["_law_low"]
abbrev s_law_is_stair_right : Stmt := top 47
abbrev N_law_is_stair_right : List Str := ["_law_many", "_law_is_same", "_law_coins", "_law_shelf", "_law_signs", "_law_asks", "_law_pairs", "_law_n", "_law_line", "_law_count", "_law_back", "_law_areas", "_law_m"]
abbrev P_law_is_stair_right : List Str := ["_law_many", "_law_is_same"]
abbrev s_law_are_apart_right : Stmt := top 48
abbrev N_law_are_apart_right : List Str := ["_law_many", "_law_coins", "_law_shelf", "_law_signs", "_law_asks", "_law_n"]
abbrev P_law_are_apart_right : List Str := ["_law_many"]
abbrev s_law_all : Stmt := top 49
abbrev N_law_all : List Str := ["_law_many", "_law_found", "_law_lap", "_law_longer", "_law_early", "_law_k"]
abbrev P_law_all : List Str := ["_law_many"]
abbrev s_law_are_chains_right : Stmt := top 50
abbrev N_law_are_chains_right : List Str := ["_law_coins", "_law_shelf", "_law_signs", "_law_asks", "_law_every", "_law_low", "_law_best", "_law_line", "_law_n"]
abbrev P_law_are_chains_right : List Str := []
abbrev s_law_are_rows_right : Stmt := top 51
abbrev N_law_are_rows_right : List Str := ["_law_shelf", "_law_total", "_law_asks", "_law_found", "e"]
abbrev P_law_are_rows_right : List Str := []
abbrev s_law_are_many_right : Stmt := top 52
abbrev N_law_are_many_right : List Str := ["_law_shelf", "_law_one", "_law_two", "_law_signs", "_law_asks", "_law_sizes", "_law_every", "_law_papers", "_law_n", "_law_area"]
abbrev P_law_are_many_right : List Str := []
abbrev s_law_sum : Stmt := top 53
abbrev N_law_sum : List Str := ["_law_areas", "_law_found", "_law_area"]
abbrev P_law_sum : List Str := ["_law_areas"]
abbrev s_law : Stmt := top 54
abbrev N_law : List Str := ["_law_script", "_law_source_here", "_law_low", "_law_many"]
abbrev P_law : List Str := ["_law_script"]
theorem sc_is_integer : FnScope N_is_integer P_is_integer (defScope s_is_integer) := ⟨rfl, rfl, rfl, by decide +kernel, rfl, by decide +kernel, by decide +kernel⟩
theorem sc_is_number : FnScope N_is_number P_is_number (defScope s_is_number) := ⟨rfl, rfl, rfl, by decide +kernel, rfl, by decide +kernel, by decide +kernel⟩
theorem sc_are_integers : FnScope N_are_integers P_are_integers (defScope s_are_integers) := ⟨rfl, rfl, rfl, by decide +kernel, rfl, by decide +kernel, by decide +kernel⟩
theorem sc_is_state : FnScope N_is_state P_is_state (defScope s_is_state) := ⟨rfl, rfl, rfl, by decide +kernel, rfl, by decide +kernel, by decide +kernel⟩
theorem sc_place_of : FnScope N_place_of P_place_of (defScope s_place_of) := ⟨rfl, rfl, rfl, by decide +kernel, rfl, by decide +kernel, by decide +kernel⟩
theorem sc_value_in : FnScope N_value_in P_value_in (defScope s_value_in) := ⟨rfl, rfl, rfl, by decide +kernel, rfl, by decide +kernel, by decide +kernel⟩
theorem sc_holds_in : FnScope N_holds_in P_holds_in (defScope s_holds_in) := ⟨rfl, rfl, rfl, by decide +kernel, rfl, by decide +kernel, by decide +kernel⟩
theorem sc_ListLook_init : FnScope N_ListLook_init P_ListLook_init (defScope s_ListLook_init) := ⟨rfl, rfl, rfl, by decide +kernel, rfl, by decide +kernel, by decide +kernel⟩
theorem sc_ListLook_told_by : FnScope N_ListLook_told_by P_ListLook_told_by (defScope s_ListLook_told_by) := ⟨rfl, rfl, rfl, by decide +kernel, rfl, by decide +kernel, by decide +kernel⟩
theorem sc_ListLook_whole_order : FnScope N_ListLook_whole_order P_ListLook_whole_order (defScope s_ListLook_whole_order) := ⟨rfl, rfl, rfl, by decide +kernel, rfl, by decide +kernel, by decide +kernel⟩
theorem sc_ListLook_due : FnScope N_ListLook_due P_ListLook_due (defScope s_ListLook_due) := ⟨rfl, rfl, rfl, by decide +kernel, rfl, by decide +kernel, by decide +kernel⟩
theorem sc_ListLook_parting : FnScope N_ListLook_parting P_ListLook_parting (defScope s_ListLook_parting) := ⟨rfl, rfl, rfl, by decide +kernel, rfl, by decide +kernel, by decide +kernel⟩
theorem sc_ListLook_region_of : FnScope N_ListLook_region_of P_ListLook_region_of (defScope s_ListLook_region_of) := ⟨rfl, rfl, rfl, by decide +kernel, rfl, by decide +kernel, by decide +kernel⟩
theorem sc_failed_there : FnScope N_failed_there P_failed_there (defScope s_failed_there) := ⟨rfl, rfl, rfl, by decide +kernel, rfl, by decide +kernel, by decide +kernel⟩
theorem sc_first_failing : FnScope N_first_failing P_first_failing (defScope s_first_failing) := ⟨rfl, rfl, rfl, by decide +kernel, rfl, by decide +kernel, by decide +kernel⟩
theorem sc_regions : FnScope N_regions P_regions (defScope s_regions) := ⟨rfl, rfl, rfl, by decide +kernel, rfl, by decide +kernel, by decide +kernel⟩
theorem sc_words_of_list : FnScope N_words_of_list P_words_of_list (defScope s_words_of_list) := ⟨rfl, rfl, rfl, by decide +kernel, rfl, by decide +kernel, by decide +kernel⟩
theorem sc_idle_checks : FnScope N_idle_checks P_idle_checks (defScope s_idle_checks) := ⟨rfl, rfl, rfl, by decide +kernel, rfl, by decide +kernel, by decide +kernel⟩
theorem sc_least_list : FnScope N_least_list P_least_list (defScope s_least_list) := ⟨rfl, rfl, rfl, by decide +kernel, rfl, by decide +kernel, by decide +kernel⟩
theorem sc_require : FnScope N_require P_require (defScope s_require) := ⟨rfl, rfl, rfl, by decide +kernel, rfl, by decide +kernel, by decide +kernel⟩
theorem sc_is_entry : FnScope N_is_entry P_is_entry (defScope s_is_entry) := ⟨rfl, rfl, rfl, by decide +kernel, rfl, by decide +kernel, by decide +kernel⟩
theorem sc_check_idle : FnScope N_check_idle P_check_idle (defScope s_check_idle) := ⟨rfl, rfl, rfl, by decide +kernel, rfl, by decide +kernel, by decide +kernel⟩
theorem sc_lets_list : FnScope N_lets_list P_lets_list (defScope s_lets_list) := ⟨rfl, rfl, rfl, by decide +kernel, rfl, by decide +kernel, by decide +kernel⟩
theorem sc_need_order : FnScope N_need_order P_need_order (defScope s_need_order) := ⟨rfl, rfl, rfl, by decide +kernel, rfl, by decide +kernel, by decide +kernel⟩
theorem sc_must_ahead : FnScope N_must_ahead P_must_ahead (defScope s_must_ahead) := ⟨rfl, rfl, rfl, by decide +kernel, rfl, by decide +kernel, by decide +kernel⟩
theorem sc_may_order : FnScope N_may_order P_may_order (defScope s_may_order) := ⟨rfl, rfl, rfl, by decide +kernel, rfl, by decide +kernel, by decide +kernel⟩
theorem sc_can_begin : FnScope N_can_begin P_can_begin (defScope s_can_begin) := ⟨rfl, rfl, rfl, by decide +kernel, rfl, by decide +kernel, by decide +kernel⟩
theorem sc_asked_in : FnScope N_asked_in P_asked_in (defScope s_asked_in) := ⟨rfl, rfl, rfl, by decide +kernel, rfl, by decide +kernel, by decide +kernel⟩
theorem sc_work_of : FnScope N_work_of P_work_of (defScope s_work_of) := ⟨rfl, rfl, rfl, by decide +kernel, rfl, by decide +kernel, by decide +kernel⟩
theorem sc_work : FnScope N_work P_work (defScope s_work) := ⟨rfl, rfl, rfl, by decide +kernel, rfl, by decide +kernel, by decide +kernel⟩
theorem sc_least_work : FnScope N_least_work P_least_work (defScope s_least_work) := ⟨rfl, rfl, rfl, by decide +kernel, rfl, by decide +kernel, by decide +kernel⟩
theorem sc_law_source : FnScope N_law_source P_law_source (defScope s_law_source) := ⟨rfl, rfl, rfl, by decide +kernel, rfl, by decide +kernel, by decide +kernel⟩
theorem sc_law_draw : FnScope N_law_draw P_law_draw (defScope s_law_draw) := ⟨rfl, rfl, rfl, by decide +kernel, rfl, by decide +kernel, by decide +kernel⟩
theorem sc_law_till : FnScope N_law_till P_law_till (defScope s_law_till) := ⟨rfl, rfl, rfl, by decide +kernel, rfl, by decide +kernel, by decide +kernel⟩
theorem sc_law_is_till_right : FnScope N_law_is_till_right P_law_is_till_right (defScope s_law_is_till_right) := ⟨rfl, rfl, rfl, by decide +kernel, rfl, by decide +kernel, by decide +kernel⟩
theorem sc_law_is_stair_right : FnScope N_law_is_stair_right P_law_is_stair_right (defScope s_law_is_stair_right) := ⟨rfl, rfl, rfl, by decide +kernel, rfl, by decide +kernel, by decide +kernel⟩
theorem sc_law_are_apart_right : FnScope N_law_are_apart_right P_law_are_apart_right (defScope s_law_are_apart_right) := ⟨rfl, rfl, rfl, by decide +kernel, rfl, by decide +kernel, by decide +kernel⟩
theorem sc_law_all : FnScope N_law_all P_law_all (defScope s_law_all) := ⟨rfl, rfl, rfl, by decide +kernel, rfl, by decide +kernel, by decide +kernel⟩
theorem sc_law_are_chains_right : FnScope N_law_are_chains_right P_law_are_chains_right (defScope s_law_are_chains_right) := ⟨rfl, rfl, rfl, by decide +kernel, rfl, by decide +kernel, by decide +kernel⟩
theorem sc_law_are_rows_right : FnScope N_law_are_rows_right P_law_are_rows_right (defScope s_law_are_rows_right) := ⟨rfl, rfl, rfl, by decide +kernel, rfl, by decide +kernel, by decide +kernel⟩
theorem sc_law_are_many_right : FnScope N_law_are_many_right P_law_are_many_right (defScope s_law_are_many_right) := ⟨rfl, rfl, rfl, by decide +kernel, rfl, by decide +kernel, by decide +kernel⟩
theorem sc_law_sum : FnScope N_law_sum P_law_sum (defScope s_law_sum) := ⟨rfl, rfl, rfl, by decide +kernel, rfl, by decide +kernel, by decide +kernel⟩
theorem sc_law : FnScope N_law P_law (defScope s_law) := ⟨rfl, rfl, rfl, by decide +kernel, rfl, by decide +kernel, by decide +kernel⟩
structure Df (K : PySem.W.Frag) (mg : Str → Option Value) (x qual : Str) (st : Stmt) (ps : List Str) where
  f : Addr
  fd : FuncData
  F : Fun K x qual st f fd
  g : mg x = some (.ref f)
  k : PySem.W.keepIn K (.ref f) = true
  b : L2.Binds K fd ps []
structure Md (K : PySem.W.Frag) (C : Addr) (x qual : Str) (st : Stmt) (ps : List Str) where
  f : Addr
  fd : FuncData
  F : Fun K x qual st f fd
  m : Meth K C x f
  b : L2.Binds K fd ps []
structure Kit (K : PySem.W.Frag) (mg : Str → Option Value) where
  C : Addr
  cl : Cls K C
  nS : NoAttr K C "every_state"
  nW : NoAttr K C "list_words"
  nF : NoAttr K C "failed"
  g_C : mg "ListLook" = some (.ref C)
  n_len : mg "len" = none
  n_all : mg "all" = none
  n_sum : mg "sum" = none
  n_min : mg "min" = none
  n_list : mg "list" = none
  n_tuple : mg "tuple" = none
  n_range : mg "range" = none
  n_enumerate : mg "enumerate" = none
  n_zip : mg "zip" = none
  n_isinstance : mg "isinstance" = none
  n_sorted : mg "sorted" = none
  n_set : mg "set" = none
  n_repr : mg "repr" = none
  n_int : mg "int" = none
  n_bool : mg "bool" = none
  n_str : mg "str" = none
  d_is_integer : Df K mg "is_integer" "is_integer" s_is_integer P_is_integer
  d_is_number : Df K mg "is_number" "is_number" s_is_number P_is_number
  d_are_integers : Df K mg "are_integers" "are_integers" s_are_integers P_are_integers
  d_is_state : Df K mg "is_state" "is_state" s_is_state P_is_state
  d_place_of : Df K mg "place_of" "place_of" s_place_of P_place_of
  d_value_in : Df K mg "value_in" "value_in" s_value_in P_value_in
  d_holds_in : Df K mg "holds_in" "holds_in" s_holds_in P_holds_in
  d_states_of : Df K mg "states_of" "states_of" s_states_of P_states_of
  d_ListLook_init : Md K C "__init__" "ListLook.__init__" s_ListLook_init P_ListLook_init
  mkL : Mk K C d_ListLook_init.f
  d_ListLook_told_by : Md K C "told_by" "ListLook.told_by" s_ListLook_told_by P_ListLook_told_by
  d_ListLook_whole_order : Md K C "whole_order" "ListLook.whole_order" s_ListLook_whole_order P_ListLook_whole_order
  d_ListLook_due : Md K C "due" "ListLook.due" s_ListLook_due P_ListLook_due
  d_ListLook_parting : Md K C "parting" "ListLook.parting" s_ListLook_parting P_ListLook_parting
  d_ListLook_region_of : Md K C "region_of" "ListLook.region_of" s_ListLook_region_of P_ListLook_region_of
  d_failed_there : Df K mg "failed_there" "failed_there" s_failed_there P_failed_there
  d_first_failing : Df K mg "first_failing" "first_failing" s_first_failing P_first_failing
  d_regions : Df K mg "regions" "regions" s_regions P_regions
  d_words_of_list : Df K mg "words_of_list" "words_of_list" s_words_of_list P_words_of_list
  d_idle_checks : Df K mg "idle_checks" "idle_checks" s_idle_checks P_idle_checks
  d_least_list : Df K mg "least_list" "least_list" s_least_list P_least_list
  d_require : Df K mg "require" "require" s_require P_require
  d_is_entry : Df K mg "is_entry" "is_entry" s_is_entry P_is_entry
  d_check_idle : Df K mg "check_idle" "check_idle" s_check_idle P_check_idle
  d_lets_list : Df K mg "lets_list" "lets_list" s_lets_list P_lets_list
  d_need_order : Df K mg "need_order" "need_order" s_need_order P_need_order
  d_must_ahead : Df K mg "must_ahead" "must_ahead" s_must_ahead P_must_ahead
  d_may_order : Df K mg "may_order" "may_order" s_may_order P_may_order
  d_can_begin : Df K mg "can_begin" "can_begin" s_can_begin P_can_begin
  d_orders : Df K mg "orders" "orders" s_orders P_orders
  d_asked_in : Df K mg "asked_in" "asked_in" s_asked_in P_asked_in
  d_work_of : Df K mg "work_of" "work_of" s_work_of P_work_of
  d_work : Df K mg "work" "work" s_work P_work
  d_least_work : Df K mg "least_work" "least_work" s_least_work P_least_work
  d_law_source : Df K mg "_law_source" "_law_source" s_law_source P_law_source
  d_law_draw : Df K mg "_law_draw" "_law_draw" s_law_draw P_law_draw
  d_law_till : Df K mg "_law_till" "_law_till" s_law_till P_law_till
  d_law_is_till_right : Df K mg "_law_is_till_right" "_law_is_till_right" s_law_is_till_right P_law_is_till_right
  d_law_is_stair_right : Df K mg "_law_is_stair_right" "_law_is_stair_right" s_law_is_stair_right P_law_is_stair_right
  d_law_are_apart_right : Df K mg "_law_are_apart_right" "_law_are_apart_right" s_law_are_apart_right P_law_are_apart_right
  d_law_all : Df K mg "_law_all" "_law_all" s_law_all P_law_all
  d_law_are_chains_right : Df K mg "_law_are_chains_right" "_law_are_chains_right" s_law_are_chains_right P_law_are_chains_right
  d_law_are_rows_right : Df K mg "_law_are_rows_right" "_law_are_rows_right" s_law_are_rows_right P_law_are_rows_right
  d_law_are_many_right : Df K mg "_law_are_many_right" "_law_are_many_right" s_law_are_many_right P_law_are_many_right
  d_law_sum : Df K mg "_law_sum" "_law_sum" s_law_sum P_law_sum
  d_law : Df K mg "law" "law" s_law P_law
def z_item : Str := ⟨#[105, 116, 101, 109]⟩
theorem ez_item : ("item" : Str) = z_item := by decide +kernel
def z_1 : Str := ⟨#[43]⟩
theorem ez_1 : ("+" : Str) = z_1 := by decide +kernel
def z_2 : Str := ⟨#[45]⟩
theorem ez_2 : ("-" : Str) = z_2 := by decide +kernel
def z_or : Str := ⟨#[111, 114]⟩
theorem ez_or : ("or" : Str) = z_or := by decide +kernel
def z_and : Str := ⟨#[97, 110, 100]⟩
theorem ez_and : ("and" : Str) = z_and := by decide +kernel
def z_not : Str := ⟨#[110, 111, 116]⟩
theorem ez_not : ("not" : Str) = z_not := by decide +kernel
def z_in : Str := ⟨#[105, 110]⟩
theorem ez_in : ("in" : Str) = z_in := by decide +kernel
def z_7 : Str := ⟨#[61]⟩
theorem ez_7 : ("=" : Str) = z_7 := by decide +kernel
def z_first : Str := ⟨#[102, 105, 114, 115, 116]⟩
theorem ez_first : ("first" : Str) = z_first := by decide +kernel
def z_idle : Str := ⟨#[105, 100, 108, 101]⟩
theorem ez_idle : ("idle" : Str) = z_idle := by decide +kernel
def z_coins : Str := ⟨#[99, 111, 105, 110, 115]⟩
theorem ez_coins : ("coins" : Str) = z_coins := by decide +kernel
def z_11 : Str := ⟨#[60]⟩
theorem ez_11 : ("<" : Str) = z_11 := by decide +kernel
def z_none : Str := ⟨#[110, 111, 110, 101]⟩
theorem ez_none : ("none" : Str) = z_none := by decide +kernel
def z_check : Str := ⟨#[99, 104, 101, 99, 107]⟩
theorem ez_check : ("check" : Str) = z_check := by decide +kernel
def z_full : Str := ⟨#[102, 117, 108, 108]⟩
theorem ez_full : ("full" : Str) = z_full := by decide +kernel
def z_low : Str := ⟨#[108, 111, 119]⟩
theorem ez_low : ("low" : Str) = z_low := by decide +kernel
def z_zero : Str := ⟨#[122, 101, 114, 111]⟩
theorem ez_zero : ("zero" : Str) = z_zero := by decide +kernel
def z_end : Str := ⟨#[101, 110, 100]⟩
theorem ez_end : ("end" : Str) = z_end := by decide +kernel
def z_dry : Str := ⟨#[100, 114, 121]⟩
theorem ez_dry : ("dry" : Str) = z_dry := by decide +kernel
def z_cut : Str := ⟨#[99, 117, 116]⟩
theorem ez_cut : ("cut" : Str) = z_cut := by decide +kernel
def z_bad : Str := ⟨#[98, 97, 100]⟩
theorem ez_bad : ("bad" : Str) = z_bad := by decide +kernel
def z_ale : Str := ⟨#[97, 108, 101]⟩
theorem ez_ale : ("ale" : Str) = z_ale := by decide +kernel
def z_far : Str := ⟨#[102, 97, 114]⟩
theorem ez_far : ("far" : Str) = z_far := by decide +kernel
def z_rows : Str := ⟨#[114, 111, 119, 115]⟩
theorem ez_rows : ("rows" : Str) = z_rows := by decide +kernel
def z_ahead : Str := ⟨#[97, 104, 101, 97, 100]⟩
theorem ez_ahead : ("ahead" : Str) = z_ahead := by decide +kernel
def z_shape : Str := ⟨#[115, 104, 97, 112, 101]⟩
theorem ez_shape : ("shape" : Str) = z_shape := by decide +kernel
def z_many : Str := ⟨#[109, 97, 110, 121]⟩
theorem ez_many : ("many" : Str) = z_many := by decide +kernel
def z_state : Str := ⟨#[115, 116, 97, 116, 101]⟩
theorem ez_state : ("state" : Str) = z_state := by decide +kernel
def z_y : Str := ⟨#[121]⟩
theorem ez_y : ("y" : Str) = z_y := by decide +kernel
def z_x : Str := ⟨#[120]⟩
theorem ez_x : ("x" : Str) = z_x := by decide +kernel
def z_hot : Str := ⟨#[104, 111, 116]⟩
theorem ez_hot : ("hot" : Str) = z_hot := by decide +kernel
def z_gap : Str := ⟨#[103, 97, 112]⟩
theorem ez_gap : ("gap" : Str) = z_gap := by decide +kernel
end FF
/-! ## GB -/
namespace FF
open PySem PySem.Spec PyProof.Rows L2
section
variable {P : Program} {w : World} {K : PySem.W.Frag} {mg : Str → Option Value} {base : Heap}

def u_is_integer : Ev → Option Out := sRet (eAnd (e1 (gIsi .int) (eVar 0)) (eNot (e1 (gIsi .bool) (eVar 0))))
def m_is_integer : List D → Option D := runD 0 u_is_integer
theorem ok_is_integer (T : Kit K mg) : FnOk P w K mg base (L2.CX P w) 1 T.d_is_integer.f T.d_is_integer.fd P_is_integer (spD K T.C 1 m_is_integer) := fnD T.d_is_integer.F sc_is_integer rfl fun cdv A outer s H E hr => by
  have nd : N_is_integer.Nodup := sc_is_integer.nd
  have hu1 := hu_of hr
  have hu64 := hr.units
  exact dss_one (ds_ret (de_and (de_isi .int (by rfl) T.n_isinstance (by rfl) T.n_int (by decide +kernel) (de_v (pv 0))) (de_one (de_not (de_isi .bool (by rfl) T.n_isinstance (by rfl) T.n_bool (by decide +kernel) (de_v (pv 0)))))))


def u_is_number : Ev → Option Out := sRet (eAnd (eFn 1 m_is_integer (aCons (eVar 0) (aNil))) (op2 gGe (eVar 0) (eC (.p (.int (Int.ofNat 0))))))
def m_is_number : List D → Option D := runD 0 u_is_number
theorem ok_is_number (T : Kit K mg) : FnOk P w K mg base (L2.CX P w) 2 T.d_is_number.f T.d_is_number.fd P_is_number (spD K T.C 1 m_is_number) := fnD T.d_is_number.F sc_is_number rfl fun cdv A outer s H E hr => by
  have nd : N_is_number.Nodup := sc_is_number.nd
  have hu1 := hu_of hr
  have hu64 := hr.units
  exact dss_one (ds_ret (de_and (de_call (ok_is_integer T) (hr.mono (by omega)) (by rfl) T.d_is_integer.g T.d_is_integer.k T.d_is_integer.b (da_cons (de_v (pv 0)) (da_nil))) (de_one (de_cmp op_ge opd_ge (de_v (pv 0)) (de_int) rfl))))


def u_are_integers : Ev → Option Out := sRet (eAnd (e1 (gIsi .tuple) (eVar 0)) (eCall gAll (aCons (eLc (iSeqT (eVar 0)) [1] (tgName 1) (bYes) (eFn 1 m_is_integer (aCons (eVar 1) (aNil)))) (aNil))))
def m_are_integers : List D → Option D := runD 1 u_are_integers
theorem ok_are_integers (T : Kit K mg) : FnOk P w K mg base (L2.CX P w) 2 T.d_are_integers.f T.d_are_integers.fd P_are_integers (spD K T.C 1 m_are_integers) := fnD T.d_are_integers.F sc_are_integers rfl fun cdv A outer s H E hr => by
  have nd : N_are_integers.Nodup := sc_are_integers.nd
  have hu1 := hu_of hr
  have hu64 := hr.units
  exact dss_one (ds_ret (de_and (de_isi .tuple (by rfl) T.n_isinstance (by rfl) T.n_tuple (by decide +kernel) (de_v (pv 0))) (de_one (de_callB (cr_all rfl) cld_all (by rfl) T.n_all (by decide +kernel) (da_cons (de_lc (own := [("one", 1)]) rfl nd (di_tup (de_v (pv 0))) (blkOk_by (N := N_are_integers) (sc := defScope s_are_integers) (by decide +kernel)) (fun _ _ _ _ _ => dg_name (pg_name (i := 1) nd rfl (Or.inl rfl))) (fun _ _ _ _ _ => dts_nil) (fun _ _ _ _ _ => de_call (ok_is_integer T) (hr.mono (by omega)) (by rfl) T.d_is_integer.g T.d_is_integer.k T.d_is_integer.b (da_cons (de_v (pv 1)) (da_nil)))) (da_nil))))))


def u_is_state : Ev → Option Out := sSeq (sIf (bOr (bNot (tB (eFn 1 m_are_integers (aCons (eVar 1) (aNil))))) (tB (op2 gNe (eCall gLen (aCons (eVar 1) (aNil))) (eCall gLen (aCons (eVar 0) (aNil)))))) (sRet (eC (.p (.bool false)))) (sNext)) (sRet (eCall gAll (aCons (eLc (iZip (eVar 0) (eVar 1)) [2, 3, 4, 5] (tgTup (tgCons (tgTup (tgCons (tgName 2) (tgCons (tgName 3) (tgCons (tgName 4) (tgNil))))) (tgCons (tgName 5) (tgNil)))) (bYes) (eChain gLe gLe (eVar 3) (eVar 5) (eVar 4))) (aNil))))
def m_is_state : List D → Option D := runD 4 u_is_state
theorem ok_is_state (T : Kit K mg) : FnOk P w K mg base (L2.CX P w) 3 T.d_is_state.f T.d_is_state.fd P_is_state (spD K T.C 2 m_is_state) := fnD T.d_is_state.F sc_is_state rfl fun cdv A outer s H E hr => by
  have nd : N_is_state.Nodup := sc_is_state.nd
  have hu1 := hu_of hr
  have hu64 := hr.units
  exact dss_cons (ds_if (dt_w (dw_or (dt_not (dt_val (de_call (ok_are_integers T) (hr.mono (by omega)) (by rfl) T.d_are_integers.g T.d_are_integers.k T.d_are_integers.b (da_cons (de_v (pv 1)) (da_nil))))) (dw_or1 (dt_cmp (op_ne.or (op_neD hu64)) opd_ne (de_callB call_len_seq cld_len (by rfl) T.n_len (by decide +kernel) (da_cons (de_v (pv 1)) (da_nil))) (de_callB call_len_seq cld_len (by rfl) T.n_len (by decide +kernel) (da_cons (de_v (pv 0)) (da_nil))) rfl)))) (dss_one (ds_ret (de_bool))) (dss_nil)) (dss_one (ds_ret (de_callB (cr_all rfl) cld_all (by rfl) T.n_all (by decide +kernel) (da_cons (de_lc (own := [("name", 2), ("low", 3), ("high", 4), ("number", 5)]) rfl nd (di_zip (de_v (pv 0)) (de_v (pv 1)) (by rfl) T.n_zip) (blkOk_by (N := N_is_state) (sc := defScope s_is_state) (by decide +kernel)) (fun _ _ _ _ _ => dg_tup (dgs_cons (dg_tup (dgs_cons (dg_name (pg_name (i := 2) nd rfl (Or.inl rfl))) (dgs_cons (dg_name (pg_name (i := 3) nd rfl (Or.inl rfl))) (dgs_cons (dg_name (pg_name (i := 4) nd rfl (Or.inl rfl))) (dgs_nil)))) rfl rfl rfl (tgs_len (tgs_len (tgs_len tgs_len0)))) (dgs_cons (dg_name (pg_name (i := 5) nd rfl (Or.inl rfl))) (dgs_nil))) rfl rfl rfl (tgs_len (tgs_len tgs_len0))) (fun _ _ _ _ _ => dts_nil) (fun _ _ _ _ _ => de_chain op_le op_le opd_le opd_le (de_v (pv 3)) (de_v (pv 5)) (de_v (pv 4)))) (da_nil)))))


def u_place_of : Ev → Option Out := sRet (eIdx (eLc (iSeqT (eVar 0)) [2] (tgName 2) (bYes) (op2 gIx (eVar 2) (eC (.p (.int (Int.ofNat 0)))))) (eVar 1))
def m_place_of : List D → Option D := runD 1 u_place_of
theorem ok_place_of (T : Kit K mg) : FnOk P w K mg base (L2.CX P w) 1 T.d_place_of.f T.d_place_of.fd P_place_of (spD K T.C 2 m_place_of) := fnD T.d_place_of.F sc_place_of rfl fun cdv A outer s H E hr => by
  have nd : N_place_of.Nodup := sc_place_of.nd
  have hu1 := hu_of hr
  have hu64 := hr.units
  exact dss_one (ds_ret (de_index (de_lc (own := [("own", 2)]) rfl nd (di_tup (de_v (pv 0))) (blkOk_by (N := N_place_of) (sc := defScope s_place_of) (by decide +kernel)) (fun _ _ _ _ _ => dg_name (pg_name (i := 2) nd rfl (Or.inl rfl))) (fun _ _ _ _ _ => dts_nil) (fun _ _ _ _ _ => de_ix ix_seq opd_ix (de_v (pv 2)) (de_int) (fun _ _ => rfl))) (de_v (pv 1))))


def u_value_in (m_rec : List D → Option D) : Ev → Option Out := sSeq (sIf (tB (eFn 1 m_is_integer (aCons (eVar 2) (aNil)))) (sRet (eVar 2)) (sNext)) (sSeq (sSet (tgStar 2 (tgCons (tgName 3) (tgCons (tgName 4) (tgCons (tgName 5) (tgNil))))) (eVar 2)) (sSeq (sIf (tB (op2 gEq (eVar 3) (eC (.p (.str z_item))))) (sRet (op2 gIx (eVar 1) (eFn 2 m_place_of (aCons (eVar 0) (aCons (eVar 4) (aNil)))))) (sNext)) (sSeq (sPar 6 7 (aCons (eFn 3 m_rec (aCons (eVar 0) (aCons (eVar 1) (aCons (eVar 4) (aNil))))) (aCons (eFn 3 m_rec (aCons (eVar 0) (aCons (eVar 1) (aCons (op2 gIx (eVar 5) (eC (.p (.int (Int.ofNat 0))))) (aNil))))) (aNil)))) (sSeq (sIf (tB (op2 gEq (eVar 3) (eC (.p (.str z_1))))) (sRet (op2 gCat (eVar 6) (eVar 7))) (sNext)) (sRet (eIf (tB (op2 gEq (eVar 3) (eC (.p (.str z_2))))) (op2 gSub (eVar 6) (eVar 7)) (op2 gMul (eVar 6) (eVar 7))))))))
def m_value_in : Nat → List D → Option D
  | 0 => fun _ => none
  | n + 1 => runD 5 (u_value_in (m_value_in n))
theorem ok_value_in (T : Kit K mg) : ∀ n : Nat, FnOk P w K mg base (L2.CX P w) (n + 5) T.d_value_in.f T.d_value_in.fd P_value_in (spD K T.C 3 (m_value_in n))
  | 0 => fn_none T.d_value_in.F sc_value_in rfl
  | n + 1 => fnD T.d_value_in.F sc_value_in rfl fun cdv A outer s H E hr => by
    have nd : N_value_in.Nodup := sc_value_in.nd
    have hu1 := hu_of hr
    have hu64 := hr.units
    exact dss_cons (ds_if (dt_val (de_call (ok_is_integer T) (hr.mono (by omega)) (by rfl) T.d_is_integer.g T.d_is_integer.k T.d_is_integer.b (da_cons (de_v (pv 2)) (da_nil)))) (dss_one (ds_ret (de_v (pv 2)))) (dss_nil)) (dss_cons (ds_asg (vs := [3, 4, 5]) (de_v (pv 2)) (dg_star (dgs_cons (dg_name (pg_name (i := 3) nd rfl (Or.inl rfl))) (dgs_cons (dg_name (pg_name (i := 4) nd rfl (Or.inl rfl))) (dgs_consStar (dg_name (pg_name (i := 5) nd rfl (Or.inl rfl))) (dgs_nil)))))) (dss_cons (ds_if (dt_cmp (op_eq.or (op_eqD hu64)) opd_eq (de_v (pv 3)) (de_str ez_item) rfl) (dss_one (ds_ret (de_ix ix_seq opd_ix (de_v (pv 1)) (de_call (ok_place_of T) (hr.mono (by omega)) (by rfl) T.d_place_of.g T.d_place_of.k T.d_place_of.b (da_cons (de_v (pv 0)) (da_cons (de_v (pv 4)) (da_nil)))) (fun _ _ => rfl)))) (dss_nil)) (dss_cons (ds_par (ps_par (i := 6) (j := 7) rfl nd rfl rfl (by decide) rfl rfl (DA.pa (da_cons (de_call (ok_value_in T n) (hr.mono (by omega)) (by rfl) T.d_value_in.g T.d_value_in.k T.d_value_in.b (da_cons (de_v (pv 0)) (da_cons (de_v (pv 1)) (da_cons (de_v (pv 4)) (da_nil))))) (da_cons (de_call (ok_value_in T n) (hr.mono (by omega)) (by rfl) T.d_value_in.g T.d_value_in.k T.d_value_in.b (da_cons (de_v (pv 0)) (da_cons (de_v (pv 1)) (da_cons (de_ix ix_seq opd_ix (de_v (pv 5)) (de_int) (fun _ _ => rfl)) (da_nil))))) (da_nil)))) (by rfl))) (dss_cons (ds_if (dt_cmp (op_eq.or (op_eqD hu64)) opd_eq (de_v (pv 3)) (de_str ez_1) rfl) (dss_one (ds_ret (de_bin (op_add.or op_catA) opd_cat (de_v (pv 6)) (de_v (pv 7))))) (dss_nil)) (dss_one (ds_ret (de_if (dt_cmp (op_eq.or (op_eqD hu64)) opd_eq (de_v (pv 3)) (de_str ez_2) rfl) (de_bin op_sub opd_sub (de_v (pv 6)) (de_v (pv 7))) (de_bin (op_mul.or op_repT) opd_mul (de_v (pv 6)) (de_v (pv 7))))))))))


def u_holds_in (m_rec : List D → Option D) : Ev → Option Out := sSeq (sSet (tgStar 2 (tgCons (tgName 3) (tgCons (tgName 4) (tgCons (tgName 5) (tgNil))))) (eVar 2)) (sSeq (sMatch (eVar 3) ((z_in, sRet (op2 gIn (eVar 1) (eVar 4))) :: (z_not, sRet (eNot (eFn 3 m_rec (aCons (eVar 0) (aCons (eVar 1) (aCons (eVar 4) (aNil))))))) :: (z_and, sRet (eAnd (eFn 3 m_rec (aCons (eVar 0) (aCons (eVar 1) (aCons (eVar 4) (aNil))))) (eFn 3 m_rec (aCons (eVar 0) (aCons (eVar 1) (aCons (op2 gIx (eVar 5) (eC (.p (.int (Int.ofNat 0))))) (aNil))))))) :: (z_or, sRet (eOr (eFn 3 m_rec (aCons (eVar 0) (aCons (eVar 1) (aCons (eVar 4) (aNil))))) (eFn 3 m_rec (aCons (eVar 0) (aCons (eVar 1) (aCons (op2 gIx (eVar 5) (eC (.p (.int (Int.ofNat 0))))) (aNil))))))) :: [])) (sSeq (sPar 6 7 (aCons (eFn 3 (m_value_in 4) (aCons (eVar 0) (aCons (eVar 1) (aCons (eVar 4) (aNil))))) (aCons (eFn 3 (m_value_in 4) (aCons (eVar 0) (aCons (eVar 1) (aCons (op2 gIx (eVar 5) (eC (.p (.int (Int.ofNat 0))))) (aNil))))) (aNil)))) (sRet (eIf (tB (op2 gEq (eVar 3) (eC (.p (.str z_7))))) (op2 gEq (eVar 6) (eVar 7)) (op2 gLt (eVar 6) (eVar 7))))))
def m_holds_in : Nat → List D → Option D
  | 0 => fun _ => none
  | n + 1 => runD 5 (u_holds_in (m_holds_in n))
theorem ok_holds_in (T : Kit K mg) : ∀ n : Nat, FnOk P w K mg base (L2.CX P w) (n + 20) T.d_holds_in.f T.d_holds_in.fd P_holds_in (spD K T.C 3 (m_holds_in n))
  | 0 => fn_none T.d_holds_in.F sc_holds_in rfl
  | n + 1 => fnD T.d_holds_in.F sc_holds_in rfl fun cdv A outer s H E hr => by
    have nd : N_holds_in.Nodup := sc_holds_in.nd
    have hu1 := hu_of hr
    have hu64 := hr.units
    exact dss_cons (ds_asg (vs := [3, 4, 5]) (de_v (pv 2)) (dg_star (dgs_cons (dg_name (pg_name (i := 3) nd rfl (Or.inl rfl))) (dgs_cons (dg_name (pg_name (i := 4) nd rfl (Or.inl rfl))) (dgs_consStar (dg_name (pg_name (i := 5) nd rfl (Or.inl rfl))) (dgs_nil)))))) (dss_cons (ds_match (de_v (pv 3)) (.cons ez_in (dss_one (ds_ret (de_cmp op_in_seq opd_in (de_v (pv 1)) (de_v (pv 4)) rfl))) (.cons ez_not (dss_one (ds_ret (de_not (de_call (ok_holds_in T n) (hr.mono (by omega)) (by rfl) T.d_holds_in.g T.d_holds_in.k T.d_holds_in.b (da_cons (de_v (pv 0)) (da_cons (de_v (pv 1)) (da_cons (de_v (pv 4)) (da_nil)))))))) (.cons ez_and (dss_one (ds_ret (de_and (de_call (ok_holds_in T n) (hr.mono (by omega)) (by rfl) T.d_holds_in.g T.d_holds_in.k T.d_holds_in.b (da_cons (de_v (pv 0)) (da_cons (de_v (pv 1)) (da_cons (de_v (pv 4)) (da_nil))))) (de_one (de_call (ok_holds_in T n) (hr.mono (by omega)) (by rfl) T.d_holds_in.g T.d_holds_in.k T.d_holds_in.b (da_cons (de_v (pv 0)) (da_cons (de_v (pv 1)) (da_cons (de_ix ix_seq opd_ix (de_v (pv 5)) (de_int) (fun _ _ => rfl)) (da_nil))))))))) (.cons ez_or (dss_one (ds_ret (de_or (de_call (ok_holds_in T n) (hr.mono (by omega)) (by rfl) T.d_holds_in.g T.d_holds_in.k T.d_holds_in.b (da_cons (de_v (pv 0)) (da_cons (de_v (pv 1)) (da_cons (de_v (pv 4)) (da_nil))))) (de_one (de_call (ok_holds_in T n) (hr.mono (by omega)) (by rfl) T.d_holds_in.g T.d_holds_in.k T.d_holds_in.b (da_cons (de_v (pv 0)) (da_cons (de_v (pv 1)) (da_cons (de_ix ix_seq opd_ix (de_v (pv 5)) (de_int) (fun _ _ => rfl)) (da_nil))))))))) (.nil)))))) (dss_cons (ds_par (ps_par (i := 6) (j := 7) rfl nd rfl rfl (by decide) rfl rfl (DA.pa (da_cons (de_call (ok_value_in T 4) (hr.mono (by omega)) (by rfl) T.d_value_in.g T.d_value_in.k T.d_value_in.b (da_cons (de_v (pv 0)) (da_cons (de_v (pv 1)) (da_cons (de_v (pv 4)) (da_nil))))) (da_cons (de_call (ok_value_in T 4) (hr.mono (by omega)) (by rfl) T.d_value_in.g T.d_value_in.k T.d_value_in.b (da_cons (de_v (pv 0)) (da_cons (de_v (pv 1)) (da_cons (de_ix ix_seq opd_ix (de_v (pv 5)) (de_int) (fun _ _ => rfl)) (da_nil))))) (da_nil)))) (by rfl))) (dss_one (ds_ret (de_if (dt_cmp (op_eq.or (op_eqD hu64)) opd_eq (de_v (pv 3)) (de_str ez_7) rfl) (de_cmp (op_eq.or (op_eqD hu64)) opd_eq (de_v (pv 6)) (de_v (pv 7)) rfl) (de_cmp op_lt opd_lt (de_v (pv 6)) (de_v (pv 7)) rfl))))))


def u_failed_there : Ev → Option Out := sRet (eCall gTuple (aCons (eLc (iEnT (eVar 1)) [3, 4] (tgTup (tgCons (tgName 3) (tgCons (tgName 4) (tgNil)))) (bNot (tB (eFn 3 (m_holds_in 4) (aCons (eVar 0) (aCons (eVar 2) (aCons (op2 gIx (eVar 4) (eC (.p (.int (Int.ofNat 2))))) (aNil))))))) (eVar 3)) (aNil)))
def m_failed_there : List D → Option D := runD 2 u_failed_there
theorem ok_failed_there (T : Kit K mg) : FnOk P w K mg base (L2.CX P w) 40 T.d_failed_there.f T.d_failed_there.fd P_failed_there (spD K T.C 3 m_failed_there) := fnD T.d_failed_there.F sc_failed_there rfl fun cdv A outer s H E hr => by
  have nd : N_failed_there.Nodup := sc_failed_there.nd
  have hu1 := hu_of hr
  have hu64 := hr.units
  exact dss_one (ds_ret (de_callTy call_tuple_of cld_tuple (by rfl) T.n_tuple (by decide +kernel) (da_cons (de_lc (own := [("k", 3), ("check", 4)]) rfl nd (di_enumT (de_v (pv 1)) (by rfl) T.n_enumerate) (blkOk_by (N := N_failed_there) (sc := defScope s_failed_there) (by decide +kernel)) (fun _ _ _ _ _ => dg_tup (dgs_cons (dg_name (pg_name (i := 3) nd rfl (Or.inl rfl))) (dgs_cons (dg_name (pg_name (i := 4) nd rfl (Or.inl rfl))) (dgs_nil))) rfl rfl rfl (tgs_len (tgs_len tgs_len0))) (fun _ _ _ _ _ => dts_one (dt_not (dt_val (de_call (ok_holds_in T 4) (hr.mono (by omega)) (by rfl) T.d_holds_in.g T.d_holds_in.k T.d_holds_in.b (da_cons (de_v (pv 0)) (da_cons (de_v (pv 2)) (da_cons (de_ix ix_seq opd_ix (de_v (pv 4)) (de_int) (fun _ _ => rfl)) (da_nil)))))))) (fun _ _ _ _ _ => de_v (pv 3))) (da_nil))))


def u_ListLook_told_by : Ev → Option Out := sSeq (sFor (iSeqT (eVar 2)) (tgName 3) (sIf (tB (op2 gIn (eVar 3) (eFailed (eVar 0) (eVar 1)))) (sRet (op2 gIx (eWords (eVar 0)) (eVar 3))) (sNext))) (sRet (eC (.p .none)))
def m_ListLook_told_by : List D → Option D := runD 1 u_ListLook_told_by
theorem ok_ListLook_told_by (T : Kit K mg) : FnOk P w K mg base (L2.CX P w) 1 T.d_ListLook_told_by.f T.d_ListLook_told_by.fd P_ListLook_told_by (spD K T.C 3 m_ListLook_told_by) := fnD T.d_ListLook_told_by.F sc_ListLook_told_by rfl fun cdv A outer s H E hr => by
  have nd : N_ListLook_told_by.Nodup := sc_ListLook_told_by.nd
  have hu1 := hu_of hr
  have hu64 := hr.units
  exact dss_cons (ds_for (vs := [3]) (di_tup (de_v (pv 2))) (dg_name (pg_name (i := 3) nd rfl (Or.inl rfl))) (dss_one (ds_if (dt_cmp op_in_seq opd_in (de_v (pv 3)) (de_failed hu1 (de_v (pv 0)) (de_v (pv 1)) T.cl T.nF (fun _ _ => rfl)) rfl) (dss_one (ds_ret (de_ix ix_seq opd_ix (de_words (de_v (pv 0)) T.cl T.nW) (de_v (pv 3)) (fun _ _ => rfl)))) (dss_nil))) PassesOwn.never) (dss_one (ds_ret (de_none)))


def u_ListLook_whole_order : Ev → Option Out := sRet (eCall gTuple (aCons (eRgL (eCall gLen (aCons (eWords (eVar 0)) (aNil)))) (aNil)))
def m_ListLook_whole_order : List D → Option D := runD 0 u_ListLook_whole_order
theorem ok_ListLook_whole_order (T : Kit K mg) : FnOk P w K mg base (L2.CX P w) 1 T.d_ListLook_whole_order.f T.d_ListLook_whole_order.fd P_ListLook_whole_order (spD K T.C 1 m_ListLook_whole_order) := fnD T.d_ListLook_whole_order.F sc_ListLook_whole_order rfl fun cdv A outer s H E hr => by
  have nd : N_ListLook_whole_order.Nodup := sc_ListLook_whole_order.nd
  have hu1 := hu_of hr
  have hu64 := hr.units
  exact dss_one (ds_ret (de_callTy call_tuple_of cld_tuple (by rfl) T.n_tuple (by decide +kernel) (da_cons (de_rgL rfl (by rfl) T.n_list (by rfl) T.n_range (de_callB call_len_seq cld_len (by rfl) T.n_len (by decide +kernel) (da_cons (de_words (de_v (pv 0)) T.cl T.nW) (da_nil)))) (da_nil))))


def u_ListLook_due : Ev → Option Out := sRet (eMeth 3 m_ListLook_told_by (eVar 0) (aCons (eVar 1) (aCons (eMeth 1 m_ListLook_whole_order (eVar 0) aNil) (aNil))))
def m_ListLook_due : List D → Option D := runD 0 u_ListLook_due
theorem ok_ListLook_due (T : Kit K mg) : FnOk P w K mg base (L2.CX P w) 3 T.d_ListLook_due.f T.d_ListLook_due.fd P_ListLook_due (spD K T.C 2 m_ListLook_due) := fnD T.d_ListLook_due.F sc_ListLook_due rfl fun cdv A outer s H E hr => by
  have nd : N_ListLook_due.Nodup := sc_ListLook_due.nd
  have hu1 := hu_of hr
  have hu64 := hr.units
  exact dss_one (ds_ret (de_meth (de_v (pv 0)) T.cl T.d_ListLook_told_by.m (ok_ListLook_told_by T) (hr.mono (by omega)) T.d_ListLook_told_by.b (by decide +kernel) (da_cons (de_v (pv 1)) (da_cons (de_meth0 (de_v (pv 0)) T.cl T.d_ListLook_whole_order.m (ok_ListLook_whole_order T) (hr.mono (by omega)) T.d_ListLook_whole_order.b (by decide +kernel)) (da_nil)))))


def u_ListLook_parting : Ev → Option Out := sSeq (sFor (iSeqL (eStates (eVar 0))) (tgName 2) (sIf (tB (op2 gNe (eMeth 3 m_ListLook_told_by (eVar 0) (aCons (eVar 2) (aCons (eVar 1) (aNil)))) (eMeth 2 m_ListLook_due (eVar 0) (aCons (eVar 2) (aNil))))) (sRet (eVar 2)) (sNext))) (sRet (eC (.p .none)))
def m_ListLook_parting : List D → Option D := runD 1 u_ListLook_parting
theorem ok_ListLook_parting (T : Kit K mg) : FnOk P w K mg base (L2.CX P w) 5 T.d_ListLook_parting.f T.d_ListLook_parting.fd P_ListLook_parting (spD K T.C 2 m_ListLook_parting) := fnD T.d_ListLook_parting.F sc_ListLook_parting rfl fun cdv A outer s H E hr => by
  have nd : N_ListLook_parting.Nodup := sc_ListLook_parting.nd
  have hu1 := hu_of hr
  have hu64 := hr.units
  exact dss_cons (ds_for (vs := [2]) (di_list (de_states (de_v (pv 0)) T.cl T.nS)) (dg_name (pg_name (i := 2) nd rfl (Or.inl rfl))) (dss_one (ds_if (dt_cmp (op_ne.or (op_neD hu64)) opd_ne (de_meth (de_v (pv 0)) T.cl T.d_ListLook_told_by.m (ok_ListLook_told_by T) (hr.mono (by omega)) T.d_ListLook_told_by.b (by decide +kernel) (da_cons (de_v (pv 2)) (da_cons (de_v (pv 1)) (da_nil)))) (de_meth (de_v (pv 0)) T.cl T.d_ListLook_due.m (ok_ListLook_due T) (hr.mono (by omega)) T.d_ListLook_due.b (by decide +kernel) (da_cons (de_v (pv 2)) (da_nil))) rfl) (dss_one (ds_ret (de_v (pv 2)))) (dss_nil))) PassesOwn.never) (dss_one (ds_ret (de_none)))


def u_ListLook_region_of : Ev → Option Out := sRet (eCall gTuple (aCons (eLc (iSeqL (eStates (eVar 0))) [2] (tgName 2) (tB (op2 gEq (e1 (gCut none (some (Int.ofNat 1))) (eFailed (eVar 0) (eVar 2))) (eTup (aCons (eVar 1) (aNil))))) (eVar 2)) (aNil)))
def m_ListLook_region_of : List D → Option D := runD 1 u_ListLook_region_of
theorem ok_ListLook_region_of (T : Kit K mg) : FnOk P w K mg base (L2.CX P w) 1 T.d_ListLook_region_of.f T.d_ListLook_region_of.fd P_ListLook_region_of (spD K T.C 2 m_ListLook_region_of) := fnD T.d_ListLook_region_of.F sc_ListLook_region_of rfl fun cdv A outer s H E hr => by
  have nd : N_ListLook_region_of.Nodup := sc_ListLook_region_of.nd
  have hu1 := hu_of hr
  have hu64 := hr.units
  exact dss_one (ds_ret (de_callTy call_tuple_of cld_tuple (by rfl) T.n_tuple (by decide +kernel) (da_cons (de_lc (own := [("state", 2)]) rfl nd (di_list (de_states (de_v (pv 0)) T.cl T.nS)) (blkOk_by (N := N_ListLook_region_of) (sc := defScope s_ListLook_region_of) (by decide +kernel)) (fun _ _ _ _ _ => dg_name (pg_name (i := 2) nd rfl (Or.inl rfl))) (fun _ _ _ _ _ => dts_one (dt_cmp (op_eq.or (op_eqD hu64)) opd_eq (de_cut (de_failed hu1 (de_v (pv 0)) (de_v (pv 2)) T.cl T.nF (fun _ _ => rfl)) do_none do_int) (de_tup (da_cons (de_v (pv 1)) (da_nil))) rfl)) (fun _ _ _ _ _ => de_v (pv 2))) (da_nil))))


def u_is_entry : Ev → Option Out := sSeq (sIf (bOr (bNot (tB (e1 (gIsi .tuple) (eVar 0)))) (bOr (tB (op2 gNe (eCall gLen (aCons (eVar 0) (aNil))) (eC (.p (.int (Int.ofNat 2)))))) (bNot (tB (e1 (gIsi .str) (op2 gIx (eVar 0) (eC (.p (.int (Int.ofNat 0)))))))))) (sRet (eC (.p (.bool false)))) (sNext)) (sRet (eOr (op2 gEq (op2 gIx (eVar 0) (eC (.p (.int (Int.ofNat 0))))) (eC (.p (.str z_first)))) (eAnd (op2 gEq (op2 gIx (eVar 0) (eC (.p (.int (Int.ofNat 0))))) (eC (.p (.str z_idle)))) (e1 (gIsi .tuple) (op2 gIx (eVar 0) (eC (.p (.int (Int.ofNat 1)))))))))
def m_is_entry : List D → Option D := runD 0 u_is_entry
theorem ok_is_entry (T : Kit K mg) : FnOk P w K mg base (L2.CX P w) 1 T.d_is_entry.f T.d_is_entry.fd P_is_entry (spD K T.C 1 m_is_entry) := fnD T.d_is_entry.F sc_is_entry rfl fun cdv A outer s H E hr => by
  have nd : N_is_entry.Nodup := sc_is_entry.nd
  have hu1 := hu_of hr
  have hu64 := hr.units
  exact dss_cons (ds_if (dt_w (dw_or (dt_not (dt_val (de_isi .tuple (by rfl) T.n_isinstance (by rfl) T.n_tuple (by decide +kernel) (de_v (pv 0))))) (dw_or (dt_cmp (op_ne.or (op_neD hu64)) opd_ne (de_callB call_len_seq cld_len (by rfl) T.n_len (by decide +kernel) (da_cons (de_v (pv 0)) (da_nil))) (de_int) rfl) (dw_or1 (dt_not (dt_val (de_isi .str (by rfl) T.n_isinstance (by rfl) T.n_str (by decide +kernel) (de_ix ix_seq opd_ix (de_v (pv 0)) (de_int) (fun _ _ => rfl))))))))) (dss_one (ds_ret (de_bool))) (dss_nil)) (dss_one (ds_ret (de_or (de_cmp (op_eq.or (op_eqD hu64)) opd_eq (de_ix ix_seq opd_ix (de_v (pv 0)) (de_int) (fun _ _ => rfl)) (de_str ez_first) rfl) (de_one (de_and (de_cmp (op_eq.or (op_eqD hu64)) opd_eq (de_ix ix_seq opd_ix (de_v (pv 0)) (de_int) (fun _ _ => rfl)) (de_str ez_idle) rfl) (de_one (de_isi .tuple (by rfl) T.n_isinstance (by rfl) T.n_tuple (by decide +kernel) (de_ix ix_seq opd_ix (de_v (pv 0)) (de_int) (fun _ _ => rfl)))))))))


def u_can_begin : Ev → Option Out := sSeq (sSet (tgName 2) (eLc (iSeqL (eStates (eVar 0))) [3] (tgName 3) (bYes) (eTup (aCons (eMeth 3 m_ListLook_told_by (eVar 0) (aCons (eVar 3) (aCons (eVar 1) (aNil)))) (aCons (eMeth 2 m_ListLook_due (eVar 0) (aCons (eVar 3) (aNil))) (aNil)))))) (sRet (eCall gAll (aCons (eLc (iSeqL (eVar 2)) [4, 5] (tgTup (tgCons (tgName 4) (tgCons (tgName 5) (tgNil)))) (bYes) (eOr (op2 gIs (eVar 4) (eC (.p .none))) (op2 gEq (eVar 4) (eVar 5)))) (aNil))))
def m_can_begin : List D → Option D := runD 4 u_can_begin
theorem ok_can_begin (T : Kit K mg) : FnOk P w K mg base (L2.CX P w) 5 T.d_can_begin.f T.d_can_begin.fd P_can_begin (spD K T.C 2 m_can_begin) := fnD T.d_can_begin.F sc_can_begin rfl fun cdv A outer s H E hr => by
  have nd : N_can_begin.Nodup := sc_can_begin.nd
  have hu1 := hu_of hr
  have hu64 := hr.units
  exact dss_cons (ds_setLc (j := 2) (own := [("state", 3)]) rfl nd rfl rfl (sw_true rfl rfl rfl (by decide +kernel)) (di_list (de_states (de_v (pv 0)) T.cl T.nS)) (blkOk_by (N := N_can_begin) (sc := defScope s_can_begin) (by decide +kernel)) (fun _ _ _ _ _ => dg_name (pg_name (i := 3) nd rfl (Or.inl rfl))) (fun _ _ _ _ _ => dts_nil) (fun _ _ _ _ _ => de_tup (da_cons (de_meth (de_v (pv 0)) T.cl T.d_ListLook_told_by.m (ok_ListLook_told_by T) (hr.mono (by omega)) T.d_ListLook_told_by.b (by decide +kernel) (da_cons (de_v (pv 3)) (da_cons (de_v (pv 1)) (da_nil)))) (da_cons (de_meth (de_v (pv 0)) T.cl T.d_ListLook_due.m (ok_ListLook_due T) (hr.mono (by omega)) T.d_ListLook_due.b (by decide +kernel) (da_cons (de_v (pv 3)) (da_nil))) (da_nil))))) (dss_one (ds_ret (de_callB (cr_all rfl) cld_all (by rfl) T.n_all (by decide +kernel) (da_cons (de_lc (own := [("word", 4), ("due", 5)]) rfl nd (di_list (de_v (pv 2))) (blkOk_by (N := N_can_begin) (sc := defScope s_can_begin) (by decide +kernel)) (fun _ _ _ _ _ => dg_tup (dgs_cons (dg_name (pg_name (i := 4) nd rfl (Or.inl rfl))) (dgs_cons (dg_name (pg_name (i := 5) nd rfl (Or.inl rfl))) (dgs_nil))) rfl rfl rfl (tgs_len (tgs_len tgs_len0))) (fun _ _ _ _ _ => dts_nil) (fun _ _ _ _ _ => de_or (de_cmp op_isN opd_is (de_v (pv 4)) (de_none) rfl) (de_one (de_cmp (op_eq.or (op_eqD hu64)) opd_eq (de_v (pv 4)) (de_v (pv 5)) rfl)))) (da_nil)))))


def u_asked_in : Ev → Option Out := sSeq (sSet (tgName 3) (eLc (iEnT (eVar 2)) [4, 5] (tgTup (tgCons (tgName 4) (tgCons (tgName 5) (tgNil)))) (tB (op2 gIn (eVar 5) (eFailed (eVar 0) (eVar 1)))) (eVar 4))) (sRet (eIf (tB (op2 gNe (eVar 3) (eLst (aNil)))) (op2 gCat (op2 gIx (eVar 3) (eC (.p (.int (Int.ofNat 0))))) (eC (.p (.int (Int.ofNat 1))))) (eCall gLen (aCons (eVar 2) (aNil)))))
def m_asked_in : List D → Option D := runD 3 u_asked_in
theorem ok_asked_in (T : Kit K mg) : FnOk P w K mg base (L2.CX P w) 1 T.d_asked_in.f T.d_asked_in.fd P_asked_in (spD K T.C 3 m_asked_in) := fnD T.d_asked_in.F sc_asked_in rfl fun cdv A outer s H E hr => by
  have nd : N_asked_in.Nodup := sc_asked_in.nd
  have hu1 := hu_of hr
  have hu64 := hr.units
  exact dss_cons (ds_setLc (j := 3) (own := [("place", 4), ("k", 5)]) rfl nd rfl rfl (sw_true rfl rfl rfl (by decide +kernel)) (di_enumT (de_v (pv 2)) (by rfl) T.n_enumerate) (blkOk_by (N := N_asked_in) (sc := defScope s_asked_in) (by decide +kernel)) (fun _ _ _ _ _ => dg_tup (dgs_cons (dg_name (pg_name (i := 4) nd rfl (Or.inl rfl))) (dgs_cons (dg_name (pg_name (i := 5) nd rfl (Or.inl rfl))) (dgs_nil))) rfl rfl rfl (tgs_len (tgs_len tgs_len0))) (fun _ _ _ _ _ => dts_one (dt_cmp op_in_seq opd_in (de_v (pv 5)) (de_failed hu1 (de_v (pv 0)) (de_v (pv 1)) T.cl T.nF (fun _ _ => rfl)) rfl)) (fun _ _ _ _ _ => de_v (pv 4))) (dss_one (ds_ret (de_if (dt_cmp (op_ne.or (op_neD hu64)) opd_ne (de_v (pv 3)) (de_lst (da_nil)) rfl) (de_bin (op_add.or op_catA) opd_cat (de_ix ix_seq opd_ix (de_v (pv 3)) (de_int) (fun _ _ => rfl)) (de_int)) (de_callB call_len_seq cld_len (by rfl) T.n_len (by decide +kernel) (da_cons (de_v (pv 2)) (da_nil))))))


def u_work_of : Ev → Option Out := sRet (eCall gSum (aCons (eLc (iSeqL (eStates (eVar 0))) [2] (tgName 2) (bYes) (eFn 3 m_asked_in (aCons (eVar 0) (aCons (eVar 2) (aCons (eVar 1) (aNil)))))) (aNil)))
def m_work_of : List D → Option D := runD 1 u_work_of
theorem ok_work_of (T : Kit K mg) : FnOk P w K mg base (L2.CX P w) 3 T.d_work_of.f T.d_work_of.fd P_work_of (spD K T.C 2 m_work_of) := fnD T.d_work_of.F sc_work_of rfl fun cdv A outer s H E hr => by
  have nd : N_work_of.Nodup := sc_work_of.nd
  have hu1 := hu_of hr
  have hu64 := hr.units
  exact dss_one (ds_ret (de_callB (cr_sum rfl) cld_sum (by rfl) T.n_sum (by decide +kernel) (da_cons (de_lc (own := [("state", 2)]) rfl nd (di_list (de_states (de_v (pv 0)) T.cl T.nS)) (blkOk_by (N := N_work_of) (sc := defScope s_work_of) (by decide +kernel)) (fun _ _ _ _ _ => dg_name (pg_name (i := 2) nd rfl (Or.inl rfl))) (fun _ _ _ _ _ => dts_nil) (fun _ _ _ _ _ => de_call (ok_asked_in T) (hr.mono (by omega)) (by rfl) T.d_asked_in.g T.d_asked_in.k T.d_asked_in.b (da_cons (de_v (pv 0)) (da_cons (de_v (pv 2)) (da_cons (de_v (pv 1)) (da_nil)))))) (da_nil))))

end
end FF
/-! ## GC -/
namespace FF
open PySem PySem.Spec PyProof.Rows L2
section
variable {P : Program} {w : World} {K : PySem.W.Frag} {mg : Str → Option Value} {base : Heap}
theorem gsc_states_of : GScope N_states_of P_states_of (defScope s_states_of) := ⟨rfl, rfl, rfl, by decide +kernel, rfl, by decide +kernel, by decide +kernel⟩
def u1_states_of : Ev → Option Out := sSet (tgName 1) (eC (.sts [[]]))
def u2_states_of : Ev → Option Out := sFor (iSeqT (eVar 0)) (tgTup (tgCons (tgName 2) (tgCons (tgName 3) (tgCons (tgName 4) (tgNil))))) (sSet (tgName 1) (eSt2 (iSts (eVar 1)) [5, 6] (tgName 5) (bYes) (iRg2 (eVar 3) (op2 gCat (eVar 4) (eC (.p (.int (Int.ofNat 1)))))) [6] (tgName 6) (bYes) (eTrT (aStar (eVar 5) (aCons (eVar 6) (aNil))))))
def m_states_of : List D → Option (List PD) := runY 6 1 u1_states_of u2_states_of
theorem ok_states_of (T : Kit K mg) : GnOk true P w K mg base T.C 3 T.d_states_of.f T.d_states_of.fd P_states_of 1 m_states_of := gnY T.d_states_of.F gsc_states_of rfl rfl rfl rfl (.inl (by decide +kernel)) (by decide +kernel) (by decide +kernel) fun cdv A outer s H pn hr => by
  have nd : N_states_of.Nodup := gsc_states_of.nd
  have hu1 := hu_of hr
  have hu64 := hr.units
  exact ⟨ds_set (ps_set (i := 1) nd rfl (Or.inl rfl) (DE.pe de_sts0)), ds_for (vs := [2, 3, 4]) (di_tup (de_v (pv 0))) (dg_tup (dgs_cons (dg_name (pg_name (i := 2) nd rfl (Or.inl rfl))) (dgs_cons (dg_name (pg_name (i := 3) nd rfl (Or.inr rfl))) (dgs_cons (dg_name (pg_name (i := 4) nd rfl (Or.inr rfl))) (dgs_nil)))) rfl rfl rfl (tgs_len (tgs_len (tgs_len tgs_len0)))) (dss_one (ds_setSt2 (j := 1) (vs1 := [6]) (own := [("state", 5), ("own", 6)]) rfl nd rfl rfl (sw_true rfl rfl rfl (by decide +kernel)) (di_sts (de_v (pv 1))) (blkOk_by (N := N_states_of) (sc := defScope s_states_of) (by decide +kernel)) (by decide) (fun _ _ _ _ _ => dg_name (pg_name (i := 5) nd rfl (Or.inl rfl))) (fun _ _ _ _ _ => dts_nil) (fun _ _ _ _ _ => di_range2 (de_v (pv 3)) (de_bin (op_add.or op_catA) opd_cat (de_v (pv 4)) (de_int)) (by rfl) T.n_range) (fun _ _ _ _ _ => dg_name (pg_name (i := 6) nd rfl (Or.inl rfl))) (fun _ _ _ _ _ => dts_nil) (fun _ _ _ _ _ => dtr_tup (da_star (de_v (pv 5)) (da_cons (de_v (pv 6)) (da_nil)))))) PassesOwn.never⟩

def fw_mk : Ev → Option (List PD) := lcE (iSeqT (eVar 2)) [3] (tgName 3) (bYes) (op2 gIx (eVar 3) (eC (.p (.int (Int.ofNat 1)))))
def fst_mk : Ev → Option (List (List Int)) := lGen 1 m_states_of (aCons (eVar 1) (aNil))
def ff_mk : Ev → Option D := eFn 3 m_failed_there (aCons (eVar 1) (aCons (eVar 2) (aCons (eVar 4) (aNil))))
def m_mk : MkM := mkD fw_mk fst_mk ff_mk 4 [4] 2
theorem ok_mk (T : Kit K mg) : FnOk P w K mg base (L2.CX P w) 45 T.d_ListLook_init.f T.d_ListLook_init.fd P_ListLook_init (spI K T.C 2 m_mk) := initD T.cl T.nW T.nS T.nF T.d_ListLook_init.F sc_ListLook_init rfl rfl rfl (by decide) (by decide) fun cdv A outer s H E hr => by
  have nd : N_ListLook_init.Nodup := sc_ListLook_init.nd
  have hu1 := hu_of hr
  have hu64 := hr.units
  exact ⟨ps_fld (pv 0) (DL.pe (dl_lc (own := [("check", 3)]) rfl nd (di_tup (de_v (pv 2))) (blkOk_by (N := N_ListLook_init) (sc := defScope s_ListLook_init) (by decide +kernel)) (fun _ _ _ _ _ => dg_name (pg_name (i := 3) nd rfl (Or.inl rfl))) (fun _ _ _ _ _ => dts_nil) (fun _ _ _ _ _ => de_ix ix_seq opd_ix (de_v (pv 3)) (de_int) (fun _ _ => rfl)))) rfl, ps_fld (pv 0) (pe_genS (ok_states_of T) (hr.mono (by omega)) (by rfl) T.d_states_of.g T.d_states_of.k T.d_states_of.b (by rfl) T.n_list (da_cons (de_v (pv 1)) (da_nil))) rfl, ps_fld (pv 0) (pe_dcT (own := [("state", 4)]) (Nat.lt_of_succ_lt hu1) rfl nd (pi_list (pe_fld (pv 0) rfl)) (blkOk_by (N := N_ListLook_init) (sc := defScope s_ListLook_init) (by decide +kernel)) (fun _ _ _ _ _ => (pg_name (i := 4) nd rfl (Or.inl rfl))) (fun _ _ _ _ _ => pts_nil) (fun _ _ _ _ _ => pv 4) (fun _ _ _ _ _ => DE.pe (de_call (ok_failed_there T) (hr.mono (by omega)) (by rfl) T.d_failed_there.g T.d_failed_there.k T.d_failed_there.b (da_cons (de_v (pv 1)) (da_cons (de_v (pv 2)) (da_cons (de_v (pv 4)) (da_nil))))))) rfl⟩

theorem gsc_orders : GScope N_orders P_orders (defScope s_orders) := ⟨rfl, rfl, rfl, by decide +kernel, rfl, by decide +kernel, by decide +kernel⟩
def u1_orders : Ev → Option Out := sTupAsg (aCons (eMake 2 m_mk (aCons (eVar 0) (aCons (eVar 1) (aNil)))) (aCons (eLst (aCons (eTup (aNil)) (aNil))) (aNil))) (dgCons (tgName 2) (dgCons (tgName 3) (dgNil)))
def u2_orders : Ev → Option Out := sFor (iRg1 (eCall gLen (aCons (eVar 1) (aNil)))) (tgName 4) (sSeq (sSet (tgName 5) (eLc2 (iSeqL (eVar 3)) [6, 7] (tgName 6) (bYes) (iSeqT (eMeth 1 m_ListLook_whole_order (eVar 2) aNil)) [7] (tgName 7) (tB (op2 gNotIn (eVar 7) (eVar 6))) (eTup (aStar (eVar 6) (aCons (eVar 7) (aNil)))))) (sSet (tgName 3) (eLc (iSeqL (eVar 5)) [6] (tgName 6) (tB (eFn 2 m_can_begin (aCons (eVar 2) (aCons (eVar 6) (aNil))))) (eVar 6))))
def m_orders : List D → Option (List PD) := runG 6 3 u1_orders u2_orders
theorem ok_orders (T : Kit K mg) : GnOk false P w K mg base T.C 50 T.d_orders.f T.d_orders.fd P_orders 2 m_orders := gnD T.d_orders.F gsc_orders rfl rfl rfl (by decide +kernel) (by decide +kernel) rfl (.inl (by decide +kernel)) (by decide +kernel) (by decide +kernel) fun cdv A outer s H pn hr => by
  have nd : N_orders.Nodup := gsc_orders.nd
  have hu1 := hu_of hr
  have hu64 := hr.units
  exact ⟨ds_tupAsg (vs := [2, 3]) (da_cons (de_make T.mkL (ok_mk T) (hr.mono (by omega)) (by rfl) T.g_C T.d_ListLook_init.b (da_cons (de_v (pv 0)) (da_cons (de_v (pv 1)) (da_nil)))) (da_cons (de_lst (da_cons (de_tup (da_nil)) (da_nil))) (da_nil))) (dgd_cons (dg_name (pg_name (i := 2) nd rfl (Or.inr rfl))) (dgd_cons (dg_name (pg_name (i := 3) nd rfl (Or.inl rfl))) (dgd_nil))) (hlen := (dgs_len (dgs_len dgs_len0))), ds_for (vs := [4]) (di_range1 (de_callB call_len_seq cld_len (by rfl) T.n_len (by decide +kernel) (da_cons (de_v (pv 1)) (da_nil))) (by rfl) T.n_range) (dg_name (pg_name (i := 4) nd rfl (Or.inl rfl))) (dss_cons (ds_setLc2 (j := 5) (vs1 := [7]) (own := [("order", 6), ("k", 7)]) rfl nd rfl rfl (sw_true rfl rfl rfl (by decide +kernel)) (di_list (de_v (pv 3))) (blkOk_by (N := N_orders) (sc := defScope s_orders) (by decide +kernel)) (by decide) (fun _ _ _ _ _ => dg_name (pg_name (i := 6) nd rfl (Or.inl rfl))) (fun _ _ _ _ _ => dts_nil) (fun _ _ _ _ _ => di_tup (de_meth0 (de_v (pv 2)) T.cl T.d_ListLook_whole_order.m (ok_ListLook_whole_order T) (hr.mono (by omega)) T.d_ListLook_whole_order.b (by decide +kernel))) (fun _ _ _ _ _ => dg_name (pg_name (i := 7) nd rfl (Or.inl rfl))) (fun _ _ _ _ _ => dts_one (dt_cmp op_notIn_seq opd_notIn (de_v (pv 7)) (de_v (pv 6)) rfl)) (fun _ _ _ _ _ => de_tup (da_star (de_v (pv 6)) (da_cons (de_v (pv 7)) (da_nil))))) (dss_one (ds_setLc (j := 3) (own := [("order", 6)]) rfl nd rfl rfl (sw_true rfl rfl rfl (by decide +kernel)) (di_list (de_v (pv 5))) (blkOk_by (N := N_orders) (sc := defScope s_orders) (by decide +kernel)) (fun _ _ _ _ _ => dg_name (pg_name (i := 6) nd rfl (Or.inl rfl))) (fun _ _ _ _ _ => dts_one (dt_val (de_call (ok_can_begin T) (hr.mono (by omega)) (by rfl) T.d_can_begin.g T.d_can_begin.k T.d_can_begin.b (da_cons (de_v (pv 2)) (da_cons (de_v (pv 6)) (da_nil)))))) (fun _ _ _ _ _ => de_v (pv 6))))) PassesOwn.never⟩

end
end FF
/-! ## GD -/
namespace FF
open PySem PySem.Spec PyProof.Rows L2
section
variable {P : Program} {w : World} {K : PySem.W.Frag} {mg : Str → Option Value} {base : Heap}

def u_first_failing : Ev → Option Out := sSeq (sIf (bNot (tB (eFn 2 m_is_state (aCons (eVar 0) (aCons (eVar 2) (aNil)))))) (sNo) (sNext)) (sSeq (sSet (tgName 3) (eFn 3 m_failed_there (aCons (eVar 0) (aCons (eVar 1) (aCons (eVar 2) (aNil)))))) (sRet (eIf (tB (op2 gNe (eVar 3) (eTup (aNil)))) (op2 gIx (eVar 3) (eC (.p (.int (Int.ofNat 0))))) (eC (.p .none)))))
def m_first_failing : List D → Option D := runD 1 u_first_failing
theorem ok_first_failing (T : Kit K mg) : FnOk P w K mg base (L2.CX P w) 41 T.d_first_failing.f T.d_first_failing.fd P_first_failing (spD K T.C 3 m_first_failing) := fnD T.d_first_failing.F sc_first_failing rfl fun cdv A outer s H E hr => by
  have nd : N_first_failing.Nodup := sc_first_failing.nd
  have hu1 := hu_of hr
  have hu64 := hr.units
  exact dss_cons (ds_if (dt_not (dt_val (de_call (ok_is_state T) (hr.mono (by omega)) (by rfl) T.d_is_state.g T.d_is_state.k T.d_is_state.b (da_cons (de_v (pv 0)) (da_cons (de_v (pv 2)) (da_nil)))))) (dss_no) (dss_nil)) (dss_cons (ds_set (ps_set (i := 3) nd rfl (Or.inl rfl) (DE.pe (de_call (ok_failed_there T) (hr.mono (by omega)) (by rfl) T.d_failed_there.g T.d_failed_there.k T.d_failed_there.b (da_cons (de_v (pv 0)) (da_cons (de_v (pv 1)) (da_cons (de_v (pv 2)) (da_nil)))))))) (dss_one (ds_ret (de_if (dt_cmp (op_ne.or (op_neD hu64)) opd_ne (de_v (pv 3)) (de_tup (da_nil)) rfl) (de_ix ix_seq opd_ix (de_v (pv 3)) (de_int) (fun _ _ => rfl)) (de_none)))))


def u_regions : Ev → Option Out := sSeq (sSet (tgName 2) (eMake 2 m_mk (aCons (eVar 0) (aCons (eVar 1) (aNil))))) (sRet (eCall gTuple (aCons (eLc (iSeqT (eMeth 1 m_ListLook_whole_order (eVar 2) aNil)) [3] (tgName 3) (bYes) (eMeth 2 m_ListLook_region_of (eVar 2) (aCons (eVar 3) (aNil)))) (aNil))))
def m_regions : List D → Option D := runD 2 u_regions
theorem ok_regions (T : Kit K mg) : FnOk P w K mg base (L2.CX P w) 50 T.d_regions.f T.d_regions.fd P_regions (spD K T.C 2 m_regions) := fnD T.d_regions.F sc_regions rfl fun cdv A outer s H E hr => by
  have nd : N_regions.Nodup := sc_regions.nd
  have hu1 := hu_of hr
  have hu64 := hr.units
  exact dss_cons (ds_set (ps_set (i := 2) nd rfl (Or.inr rfl) (DE.pe (de_make T.mkL (ok_mk T) (hr.mono (by omega)) (by rfl) T.g_C T.d_ListLook_init.b (da_cons (de_v (pv 0)) (da_cons (de_v (pv 1)) (da_nil))))))) (dss_one (ds_ret (de_callTy call_tuple_of cld_tuple (by rfl) T.n_tuple (by decide +kernel) (da_cons (de_lc (own := [("k", 3)]) rfl nd (di_tup (de_meth0 (de_v (pv 2)) T.cl T.d_ListLook_whole_order.m (ok_ListLook_whole_order T) (hr.mono (by omega)) T.d_ListLook_whole_order.b (by decide +kernel))) (blkOk_by (N := N_regions) (sc := defScope s_regions) (by decide +kernel)) (fun _ _ _ _ _ => dg_name (pg_name (i := 3) nd rfl (Or.inl rfl))) (fun _ _ _ _ _ => dts_nil) (fun _ _ _ _ _ => de_meth (de_v (pv 2)) T.cl T.d_ListLook_region_of.m (ok_ListLook_region_of T) (hr.mono (by omega)) T.d_ListLook_region_of.b (by decide +kernel) (da_cons (de_v (pv 3)) (da_nil)))) (da_nil)))))


def u_idle_checks : Ev → Option Out := sRet (eCall gTuple (aCons (eLc (iEnT (eFn 2 m_regions (aCons (eVar 0) (aCons (eVar 1) (aNil))))) [2, 3] (tgTup (tgCons (tgName 2) (tgCons (tgName 3) (tgNil)))) (tB (op2 gEq (eVar 3) (eTup (aNil)))) (eVar 2)) (aNil)))
def m_idle_checks : List D → Option D := runD 2 u_idle_checks
theorem ok_idle_checks (T : Kit K mg) : FnOk P w K mg base (L2.CX P w) 52 T.d_idle_checks.f T.d_idle_checks.fd P_idle_checks (spD K T.C 2 m_idle_checks) := fnD T.d_idle_checks.F sc_idle_checks rfl fun cdv A outer s H E hr => by
  have nd : N_idle_checks.Nodup := sc_idle_checks.nd
  have hu1 := hu_of hr
  have hu64 := hr.units
  exact dss_one (ds_ret (de_callTy call_tuple_of cld_tuple (by rfl) T.n_tuple (by decide +kernel) (da_cons (de_lc (own := [("k", 2), ("region", 3)]) rfl nd (di_enumT (de_call (ok_regions T) (hr.mono (by omega)) (by rfl) T.d_regions.g T.d_regions.k T.d_regions.b (da_cons (de_v (pv 0)) (da_cons (de_v (pv 1)) (da_nil)))) (by rfl) T.n_enumerate) (blkOk_by (N := N_idle_checks) (sc := defScope s_idle_checks) (by decide +kernel)) (fun _ _ _ _ _ => dg_tup (dgs_cons (dg_name (pg_name (i := 2) nd rfl (Or.inl rfl))) (dgs_cons (dg_name (pg_name (i := 3) nd rfl (Or.inl rfl))) (dgs_nil))) rfl rfl rfl (tgs_len (tgs_len tgs_len0))) (fun _ _ _ _ _ => dts_one (dt_cmp (op_eq.or (op_eqD hu64)) opd_eq (de_v (pv 3)) (de_tup (da_nil)) rfl)) (fun _ _ _ _ _ => de_v (pv 2))) (da_nil))))


def u_least_list : Ev → Option Out := sRet (eCall gTuple (aCons (eLc (iZip (eVar 1) (eFn 2 m_regions (aCons (eVar 0) (aCons (eVar 1) (aNil))))) [2, 3] (tgTup (tgCons (tgName 2) (tgCons (tgName 3) (tgNil)))) (tB (op2 gNe (eVar 3) (eTup (aNil)))) (eVar 2)) (aNil)))
def m_least_list : List D → Option D := runD 2 u_least_list
theorem ok_least_list (T : Kit K mg) : FnOk P w K mg base (L2.CX P w) 52 T.d_least_list.f T.d_least_list.fd P_least_list (spD K T.C 2 m_least_list) := fnD T.d_least_list.F sc_least_list rfl fun cdv A outer s H E hr => by
  have nd : N_least_list.Nodup := sc_least_list.nd
  have hu1 := hu_of hr
  have hu64 := hr.units
  exact dss_one (ds_ret (de_callTy call_tuple_of cld_tuple (by rfl) T.n_tuple (by decide +kernel) (da_cons (de_lc (own := [("check", 2), ("region", 3)]) rfl nd (di_zip (de_v (pv 1)) (de_call (ok_regions T) (hr.mono (by omega)) (by rfl) T.d_regions.g T.d_regions.k T.d_regions.b (da_cons (de_v (pv 0)) (da_cons (de_v (pv 1)) (da_nil)))) (by rfl) T.n_zip) (blkOk_by (N := N_least_list) (sc := defScope s_least_list) (by decide +kernel)) (fun _ _ _ _ _ => dg_tup (dgs_cons (dg_name (pg_name (i := 2) nd rfl (Or.inl rfl))) (dgs_cons (dg_name (pg_name (i := 3) nd rfl (Or.inl rfl))) (dgs_nil))) rfl rfl rfl (tgs_len (tgs_len tgs_len0))) (fun _ _ _ _ _ => dts_one (dt_cmp (op_ne.or (op_neD hu64)) opd_ne (de_v (pv 3)) (de_tup (da_nil)) rfl)) (fun _ _ _ _ _ => de_v (pv 2))) (da_nil))))


def u_work : Ev → Option Out := sSeq (sSet (tgName 2) (eMake 2 m_mk (aCons (eVar 0) (aCons (eVar 1) (aNil))))) (sRet (eFn 2 m_work_of (aCons (eVar 2) (aCons (eMeth 1 m_ListLook_whole_order (eVar 2) aNil) (aNil)))))
def m_work : List D → Option D := runD 1 u_work
theorem ok_work (T : Kit K mg) : FnOk P w K mg base (L2.CX P w) 52 T.d_work.f T.d_work.fd P_work (spD K T.C 2 m_work) := fnD T.d_work.F sc_work rfl fun cdv A outer s H E hr => by
  have nd : N_work.Nodup := sc_work.nd
  have hu1 := hu_of hr
  have hu64 := hr.units
  exact dss_cons (ds_set (ps_set (i := 2) nd rfl (Or.inl rfl) (DE.pe (de_make T.mkL (ok_mk T) (hr.mono (by omega)) (by rfl) T.g_C T.d_ListLook_init.b (da_cons (de_v (pv 0)) (da_cons (de_v (pv 1)) (da_nil))))))) (dss_one (ds_ret (de_call (ok_work_of T) (hr.mono (by omega)) (by rfl) T.d_work_of.g T.d_work_of.k T.d_work_of.b (da_cons (de_v (pv 2)) (da_cons (de_meth0 (de_v (pv 2)) T.cl T.d_ListLook_whole_order.m (ok_ListLook_whole_order T) (hr.mono (by omega)) T.d_ListLook_whole_order.b (by decide +kernel)) (da_nil))))))


def u_least_work : Ev → Option Out := sSeq (sSet (tgName 2) (eMake 2 m_mk (aCons (eVar 0) (aCons (eVar 1) (aNil))))) (sSeq (sSet (tgName 3) (asL (lcGE 2 m_orders (aCons (eVar 0) (aCons (eVar 1) (aNil))) [5] (tgName 5) (bYes) (eTup (aCons (eFn 2 m_work_of (aCons (eVar 2) (aCons (eVar 5) (aNil)))) (aCons (eVar 5) (aNil))))))) (sSeq (sSet (tgName 4) (eCall gMin (aCons (eLc (iSeqL (eVar 3)) [6, 5] (tgTup (tgCons (tgName 6) (tgCons (tgName 5) (tgNil)))) (bYes) (eVar 6)) (aNil)))) (sRet (eTup (aCons (eVar 4) (aCons (eCall gTuple (aCons (eLc (iSeqL (eVar 3)) [6, 5] (tgTup (tgCons (tgName 6) (tgCons (tgName 5) (tgNil)))) (tB (op2 gEq (eVar 6) (eVar 4))) (eVar 5)) (aNil))) (aNil)))))))
def m_least_work : List D → Option D := runD 5 u_least_work
theorem ok_least_work (T : Kit K mg) : FnOk P w K mg base (L2.CX P w) 55 T.d_least_work.f T.d_least_work.fd P_least_work (spD K T.C 2 m_least_work) := fnD T.d_least_work.F sc_least_work rfl fun cdv A outer s H E hr => by
  have nd : N_least_work.Nodup := sc_least_work.nd
  have hu1 := hu_of hr
  have hu64 := hr.units
  exact dss_cons (ds_set (ps_set (i := 2) nd rfl (Or.inr rfl) (DE.pe (de_make T.mkL (ok_mk T) (hr.mono (by omega)) (by rfl) T.g_C T.d_ListLook_init.b (da_cons (de_v (pv 0)) (da_cons (de_v (pv 1)) (da_nil))))))) (dss_cons (ds_setLcG (j := 3) (own := [("order", 5)]) rfl nd rfl rfl (sw_true rfl rfl rfl (by decide +kernel)) (blkOk_by (N := N_least_work) (sc := defScope s_least_work) (by decide +kernel)) (by decide +kernel) (ok_orders T) (hr.mono (by omega)) (by rfl) T.d_orders.g T.d_orders.k T.d_orders.b (da_cons (de_v (pv 0)) (da_cons (de_v (pv 1)) (da_nil))) (fun _ _ _ _ _ => dg_name (pg_name (i := 5) nd rfl (Or.inl rfl))) (fun _ _ _ _ _ => dts_nil) (fun _ _ _ _ _ => de_tup (da_cons (de_call (ok_work_of T) (hr.mono (by omega)) (by rfl) T.d_work_of.g T.d_work_of.k T.d_work_of.b (da_cons (de_v (pv 2)) (da_cons (de_v (pv 5)) (da_nil)))) (da_cons (de_v (pv 5)) (da_nil))))) (dss_cons (ds_set (ps_set (i := 4) nd rfl (Or.inr rfl) (DE.pe (de_callB (cr_min rfl) cld_min (by rfl) T.n_min (by decide +kernel) (da_cons (de_lc (own := [("number", 6), ("order", 5)]) rfl nd (di_list (de_v (pv 3))) (blkOk_by (N := N_least_work) (sc := defScope s_least_work) (by decide +kernel)) (fun _ _ _ _ _ => dg_tup (dgs_cons (dg_name (pg_name (i := 6) nd rfl (Or.inl rfl))) (dgs_cons (dg_name (pg_name (i := 5) nd rfl (Or.inl rfl))) (dgs_nil))) rfl rfl rfl (tgs_len (tgs_len tgs_len0))) (fun _ _ _ _ _ => dts_nil) (fun _ _ _ _ _ => de_v (pv 6))) (da_nil)))))) (dss_one (ds_ret (de_tup (da_cons (de_v (pv 4)) (da_cons (de_callTy call_tuple_of cld_tuple (by rfl) T.n_tuple (by decide +kernel) (da_cons (de_lc (own := [("number", 6), ("order", 5)]) rfl nd (di_list (de_v (pv 3))) (blkOk_by (N := N_least_work) (sc := defScope s_least_work) (by decide +kernel)) (fun _ _ _ _ _ => dg_tup (dgs_cons (dg_name (pg_name (i := 6) nd rfl (Or.inl rfl))) (dgs_cons (dg_name (pg_name (i := 5) nd rfl (Or.inl rfl))) (dgs_nil))) rfl rfl rfl (tgs_len (tgs_len tgs_len0))) (fun _ _ _ _ _ => dts_one (dt_cmp (op_eq.or (op_eqD hu64)) opd_eq (de_v (pv 6)) (de_v (pv 4)) rfl)) (fun _ _ _ _ _ => de_v (pv 5))) (da_nil))) (da_nil))))))))


def u_law_till : Ev → Option Out := sSeq (sPar 1 2 (aCons (eTup (aCons (eC (.p (.str z_item))) (aCons (eC (.p (.str z_coins))) (aNil)))) (aCons (eTup (aCons (eTup (aCons (eC (.p (.str z_coins))) (aCons (eVar 0) (aCons (op2 gCat (eVar 0) (eC (.p (.int (Int.ofNat 4))))) (aNil))))) (aNil))) (aNil)))) (sSeq (sSet (tgName 3) (eTup (aCons (eTup (aCons (eC (.p (.str z_check))) (aCons (eC (.p (.str z_full))) (aCons (eTup (aCons (eC (.p (.str z_11))) (aCons (eVar 1) (aCons (op2 gCat (eVar 0) (eC (.p (.int (Int.ofNat 4))))) (aNil))))) (aNil))))) (aCons (eTup (aCons (eC (.p (.str z_check))) (aCons (eC (.p (.str z_none))) (aCons (eTup (aCons (eC (.p (.str z_11))) (aCons (eVar 0) (aCons (eVar 1) (aNil))))) (aNil))))) (aNil))))) (sSeq (sSet (tgName 3) (op2 gCat (eVar 3) (eTup (aCons (eTup (aCons (eC (.p (.str z_check))) (aCons (eC (.p (.str z_low))) (aCons (eTup (aCons (eC (.p (.str z_11))) (aCons (op2 gCat (eVar 0) (eC (.p (.int (Int.ofNat 1))))) (aCons (eVar 1) (aNil))))) (aNil))))) (aNil))))) (sSeq (sSet (tgName 3) (op2 gCat (eVar 3) (eTup (aCons (eTup (aCons (eC (.p (.str z_check))) (aCons (eC (.p (.str z_zero))) (aCons (eTup (aCons (eC (.p (.str z_not))) (aCons (eTup (aCons (eC (.p (.str z_7))) (aCons (eVar 1) (aCons (eVar 0) (aNil))))) (aNil)))) (aNil))))) (aNil))))) (sRet (eTup (aCons (eVar 2) (aCons (eVar 3) (aNil))))))))
def m_law_till : List D → Option D := runD 3 u_law_till
theorem ok_law_till (T : Kit K mg) : FnOk P w K mg base (L2.CX P w) 1 T.d_law_till.f T.d_law_till.fd P_law_till (spD K T.C 1 m_law_till) := fnD T.d_law_till.F sc_law_till rfl fun cdv A outer s H E hr => by
  have nd : N_law_till.Nodup := sc_law_till.nd
  have hu1 := hu_of hr
  have hu64 := hr.units
  exact dss_cons (ds_par (ps_par (i := 1) (j := 2) rfl nd rfl rfl (by decide) rfl rfl (DA.pa (da_cons (de_tup (da_cons (de_str ez_item) (da_cons (de_str ez_coins) (da_nil)))) (da_cons (de_tup (da_cons (de_tup (da_cons (de_str ez_coins) (da_cons (de_v (pv 0)) (da_cons (de_bin (op_add.or op_catA) opd_cat (de_v (pv 0)) (de_int)) (da_nil))))) (da_nil))) (da_nil)))) (by rfl))) (dss_cons (ds_set (ps_set (i := 3) nd rfl (Or.inl rfl) (DE.pe (de_tup (da_cons (de_tup (da_cons (de_str ez_check) (da_cons (de_str ez_full) (da_cons (de_tup (da_cons (de_str ez_11) (da_cons (de_v (pv 1)) (da_cons (de_bin (op_add.or op_catA) opd_cat (de_v (pv 0)) (de_int)) (da_nil))))) (da_nil))))) (da_cons (de_tup (da_cons (de_str ez_check) (da_cons (de_str ez_none) (da_cons (de_tup (da_cons (de_str ez_11) (da_cons (de_v (pv 0)) (da_cons (de_v (pv 1)) (da_nil))))) (da_nil))))) (da_nil))))))) (dss_cons (ds_set (ps_set (i := 3) nd rfl (Or.inl rfl) (DE.pe (de_bin (op_add.or op_catA) opd_cat (de_v (pv 3)) (de_tup (da_cons (de_tup (da_cons (de_str ez_check) (da_cons (de_str ez_low) (da_cons (de_tup (da_cons (de_str ez_11) (da_cons (de_bin (op_add.or op_catA) opd_cat (de_v (pv 0)) (de_int)) (da_cons (de_v (pv 1)) (da_nil))))) (da_nil))))) (da_nil))))))) (dss_cons (ds_set (ps_set (i := 3) nd rfl (Or.inl rfl) (DE.pe (de_bin (op_add.or op_catA) opd_cat (de_v (pv 3)) (de_tup (da_cons (de_tup (da_cons (de_str ez_check) (da_cons (de_str ez_zero) (da_cons (de_tup (da_cons (de_str ez_not) (da_cons (de_tup (da_cons (de_str ez_7) (da_cons (de_v (pv 1)) (da_cons (de_v (pv 0)) (da_nil))))) (da_nil)))) (da_nil))))) (da_nil))))))) (dss_one (ds_ret (de_tup (da_cons (de_v (pv 2)) (da_cons (de_v (pv 3)) (da_nil)))))))))


def u_law_all : Ev → Option Out := sSeq (sSet (tgName 1) (eLst (aCons (eTup (aNil)) (aNil)))) (sSeq (sFor (iRg1 (eVar 0)) (tgName 2) (sSeq (sExt 3 (iSeqL (eVar 1)) (tgName 4) (lcE (iRg1 (eVar 0)) [5] (tgName 5) (tB (op2 gNotIn (eVar 5) (eVar 4))) (op2 gCat (eVar 4) (eTup (aCons (eVar 5) (aNil)))))) (sSet (tgName 1) (eCall gList (aCons (eVar 3) (aNil)))))) (sRet (eVar 1)))
def m_law_all : List D → Option D := runD 5 u_law_all
theorem ok_law_all (T : Kit K mg) : FnOk P w K mg base (L2.CX P w) 1 T.d_law_all.f T.d_law_all.fd P_law_all (spD K T.C 1 m_law_all) := fnD T.d_law_all.F sc_law_all rfl fun cdv A outer s H E hr => by
  have nd : N_law_all.Nodup := sc_law_all.nd
  have hu1 := hu_of hr
  have hu64 := hr.units
  exact dss_cons (ds_set (ps_set (i := 1) nd rfl (Or.inl rfl) (DE.pe (de_lst (da_cons (de_tup (da_nil)) (da_nil)))))) (dss_cons (ds_for (vs := [2]) (di_range1 (de_v (pv 0)) (by rfl) T.n_range) (dg_name (pg_name (i := 2) nd rfl (Or.inl rfl))) (dss_ext (vs := [4]) (j := 3) (ps_set (i := 3) nd rfl (Or.inl rfl) (pe_lst pa_nil)) (di_list (de_v (pv 1))) (dg_name (pg_name (i := 4) nd rfl (Or.inr rfl))) (pv 3) (dl_lc (own := [("_law_k", 5)]) rfl nd (di_range1 (de_v (pv 0)) (by rfl) T.n_range) (blkOk_by (N := N_law_all) (sc := defScope s_law_all) (by decide +kernel)) (fun _ _ _ _ _ => dg_name (pg_name (i := 5) nd rfl (Or.inl rfl))) (fun _ _ _ _ _ => dts_one (dt_cmp op_notIn_seq opd_notIn (de_v (pv 5)) (de_v (pv 4)) rfl)) (fun _ _ _ _ _ => de_bin (op_add.or op_catA) opd_cat (de_v (pv 4)) (de_tup (da_cons (de_v (pv 5)) (da_nil))))) (dss_one (ds_set (ps_set (i := 1) nd rfl (Or.inl rfl) (DE.pe (de_callTy call_list_of cld_list (by rfl) T.n_list (by decide +kernel) (da_cons (de_v (pv 3)) (da_nil))))))) PassesOwn.never) PassesOwn.never) (dss_one (ds_ret (de_v (pv 1)))))


def u_law_sum : Ev → Option Out := sSeq (sExt 1 (iSeqT (eVar 0)) (tgName 2) (lOf (eVar 2))) (sRet (eVar 1))
def m_law_sum : List D → Option D := runD 2 u_law_sum
theorem ok_law_sum (T : Kit K mg) : FnOk P w K mg base (L2.CX P w) 1 T.d_law_sum.f T.d_law_sum.fd P_law_sum (spD K T.C 1 m_law_sum) := fnD T.d_law_sum.F sc_law_sum rfl fun cdv A outer s H E hr => by
  have nd : N_law_sum.Nodup := sc_law_sum.nd
  have hu1 := hu_of hr
  have hu64 := hr.units
  exact dss_ext (vs := [2]) (j := 1) (ps_set (i := 1) nd rfl (Or.inl rfl) (pe_lst pa_nil)) (di_tup (de_v (pv 0))) (dg_name (pg_name (i := 2) nd rfl (Or.inl rfl))) (pv 1) (dl_list (by rfl) T.n_list (de_v (pv 2))) (dss_one (ds_ret (de_v (pv 1)))) PassesOwn.never

end
end FF
/-! ## GE -/
namespace FF
open PySem PySem.Spec PyProof.Rows L2
section
variable {P : Program} {w : World} {K : PySem.W.Frag} {mg : Str → Option Value} {base : Heap}

def u_words_of_list : Ev → Option Out := sSeq (sSet (tgName 2) (eMake 2 m_mk (aCons (eVar 0) (aCons (eVar 1) (aNil))))) (sSeq (sSet (tgName 3) (eLc (iSeqL (eStates (eVar 2))) [4] (tgName 4) (bYes) (eMeth 2 m_ListLook_due (eVar 2) (aCons (eVar 4) (aNil))))) (sRet (eCall gTuple (aCons (e1 gSortSet (eLc (iSeqL (eVar 3)) [5] (tgName 5) (tB (op2 gIsNot (eVar 5) (eC (.p .none)))) (eVar 5))) (aNil)))))
def m_words_of_list : List D → Option D := runD 4 u_words_of_list
theorem ok_words_of_list (T : Kit K mg) : FnOk P w K mg base (L2.CX P w) 50 T.d_words_of_list.f T.d_words_of_list.fd P_words_of_list (spD K T.C 2 m_words_of_list) := fnD T.d_words_of_list.F sc_words_of_list rfl fun cdv A outer s H E hr => by
  have nd : N_words_of_list.Nodup := sc_words_of_list.nd
  have hu1 := hu_of hr
  have hu64 := hr.units
  exact dss_cons (ds_set (ps_set (i := 2) nd rfl (Or.inr rfl) (DE.pe (de_make T.mkL (ok_mk T) (hr.mono (by omega)) (by rfl) T.g_C T.d_ListLook_init.b (da_cons (de_v (pv 0)) (da_cons (de_v (pv 1)) (da_nil))))))) (dss_cons (ds_setLc (j := 3) (own := [("state", 4)]) rfl nd rfl rfl (sw_true rfl rfl rfl (by decide +kernel)) (di_list (de_states (de_v (pv 2)) T.cl T.nS)) (blkOk_by (N := N_words_of_list) (sc := defScope s_words_of_list) (by decide +kernel)) (fun _ _ _ _ _ => dg_name (pg_name (i := 4) nd rfl (Or.inl rfl))) (fun _ _ _ _ _ => dts_nil) (fun _ _ _ _ _ => de_meth (de_v (pv 2)) T.cl T.d_ListLook_due.m (ok_ListLook_due T) (hr.mono (by omega)) T.d_ListLook_due.b (by decide +kernel) (da_cons (de_v (pv 4)) (da_nil)))) (dss_one (ds_ret (de_callTy call_tuple_of cld_tuple (by rfl) T.n_tuple (by decide +kernel) (da_cons (de_sortSet rfl (by rfl) T.n_sorted (by rfl) T.n_set (de_lc (own := [("word", 5)]) rfl nd (di_list (de_v (pv 3))) (blkOk_by (N := N_words_of_list) (sc := defScope s_words_of_list) (by decide +kernel)) (fun _ _ _ _ _ => dg_name (pg_name (i := 5) nd rfl (Or.inl rfl))) (fun _ _ _ _ _ => dts_one (dt_cmp op_notN opd_isnot (de_v (pv 5)) (de_none) rfl)) (fun _ _ _ _ _ => de_v (pv 5)))) (da_nil))))))


def u_need_order : Ev → Option Out := sSeq (sIf (bOr (bNot (tB (e1 (gIsi .tuple) (eVar 1)))) (bNot (tB (eCall gAll (aCons (eLc (iSeqT (eVar 1)) [2] (tgName 2) (bYes) (eFn 1 m_is_number (aCons (eVar 2) (aNil)))) (aNil)))))) (sNo) (sNext)) (sIf (tB (op2 gNe (eCall gSortL (aCons (eVar 1) (aNil))) (eRgL (eCall gLen (aCons (eVar 0) (aNil)))))) (sNo) (sNext))
def m_need_order : List D → Option D := runD 1 u_need_order
theorem ok_need_order (T : Kit K mg) : FnOk P w K mg base (L2.CX P w) 3 T.d_need_order.f T.d_need_order.fd P_need_order (spD K T.C 2 m_need_order) := fnD T.d_need_order.F sc_need_order rfl fun cdv A outer s H E hr => by
  have nd : N_need_order.Nodup := sc_need_order.nd
  have hu1 := hu_of hr
  have hu64 := hr.units
  exact dss_cons (ds_if (dt_w (dw_or (dt_not (dt_val (de_isi .tuple (by rfl) T.n_isinstance (by rfl) T.n_tuple (by decide +kernel) (de_v (pv 1))))) (dw_or1 (dt_not (dt_val (de_callB (cr_all rfl) cld_all (by rfl) T.n_all (by decide +kernel) (da_cons (de_lc (own := [("k", 2)]) rfl nd (di_tup (de_v (pv 1))) (blkOk_by (N := N_need_order) (sc := defScope s_need_order) (by decide +kernel)) (fun _ _ _ _ _ => dg_name (pg_name (i := 2) nd rfl (Or.inl rfl))) (fun _ _ _ _ _ => dts_nil) (fun _ _ _ _ _ => de_call (ok_is_number T) (hr.mono (by omega)) (by rfl) T.d_is_number.g T.d_is_number.k T.d_is_number.b (da_cons (de_v (pv 2)) (da_nil)))) (da_nil)))))))) (dss_no) (dss_nil)) (dss_one (ds_if (dt_cmp (op_ne.or (op_neD hu64)) opd_ne (de_callB cr_sorts cld_sorts (by rfl) T.n_sorted (by decide +kernel) (da_cons (de_v (pv 1)) (da_nil))) (de_rgL rfl (by rfl) T.n_list (by rfl) T.n_range (de_callB call_len_seq cld_len (by rfl) T.n_len (by decide +kernel) (da_cons (de_v (pv 0)) (da_nil)))) rfl) (dss_no) (dss_nil)))


def u_may_order : Ev → Option Out := sSeq (sDrop (eFn 2 m_need_order (aCons (eVar 1) (aCons (eVar 2) (aNil))))) (sRet (op2 gIs (eMeth 2 m_ListLook_parting (eMake 2 m_mk (aCons (eVar 0) (aCons (eVar 1) (aNil)))) (aCons (eVar 2) (aNil))) (eC (.p .none))))
def m_may_order : List D → Option D := runD 0 u_may_order
theorem ok_may_order (T : Kit K mg) : FnOk P w K mg base (L2.CX P w) 50 T.d_may_order.f T.d_may_order.fd P_may_order (spD K T.C 3 m_may_order) := fnD T.d_may_order.F sc_may_order rfl fun cdv A outer s H E hr => by
  have nd : N_may_order.Nodup := sc_may_order.nd
  have hu1 := hu_of hr
  have hu64 := hr.units
  exact dss_cons (ds_expr (de_call (ok_need_order T) (hr.mono (by omega)) (by rfl) T.d_need_order.g T.d_need_order.k T.d_need_order.b (da_cons (de_v (pv 1)) (da_cons (de_v (pv 2)) (da_nil))))) (dss_one (ds_ret (de_cmp op_isN opd_is (de_meth (de_make T.mkL (ok_mk T) (hr.mono (by omega)) (by rfl) T.g_C T.d_ListLook_init.b (da_cons (de_v (pv 0)) (da_cons (de_v (pv 1)) (da_nil)))) T.cl T.d_ListLook_parting.m (ok_ListLook_parting T) (hr.mono (by omega)) T.d_ListLook_parting.b (by decide +kernel) (da_cons (de_v (pv 2)) (da_nil))) (de_none) rfl)))

def fmk_must : Ev → Option D := eMake 2 m_mk (aCons (eVar 0) (aCons (eVar 1) (aNil)))
def u_must : Ev → LP → Option (Ev × LP) := uFor (iSeqL (eStates (eVar 2))) (tgName 4) (uFor (iSeqT (e1 (gCut (some (Int.ofNat 1)) none) (eFailed (eVar 2) (eVar 4)))) (tgName 5) (uPut (aCons (op2 gIx (eFailed (eVar 2) (eVar 4)) (eC (.p (.int (Int.ofNat 0))))) (aCons (eVar 5) (aNil)))))
def m_must_ahead : List D → Option D := mustD fmk_must 2 3 u_must 4
theorem ok_must_ahead (T : Kit K mg) : FnOk P w K mg base (L2.CX P w) 50 T.d_must_ahead.f T.d_must_ahead.fd P_must_ahead (spD K T.C 2 m_must_ahead) := mustOk T.d_must_ahead.F sc_must_ahead rfl rfl (by decide) (by decide) fun cdv A outer s H E hr => by
  have nd : N_must_ahead.Nodup := sc_must_ahead.nd
  have hu1 := hu_of hr
  have hu64 := hr.units
  exact ⟨ps_par (i := 2) (j := 3) rfl nd rfl rfl (by decide) rfl rfl (pa_cons (DE.pe (de_make T.mkL (ok_mk T) (hr.mono (by omega)) (by rfl) T.g_C T.d_ListLook_init.b (da_cons (de_v (pv 0)) (da_cons (de_v (pv 1)) (da_nil))))) (pa_cons pe_dnewT pa_nil)) (by rfl), for_m (vs := [4]) (di_list (de_states (de_v (pv 2)) T.cl T.nS)) (dg_name (pg_name (i := 4) nd rfl (Or.inl rfl))) (pss_one (for_m (vs := [5]) (di_tup (de_cut (de_failed hu1 (de_v (pv 2)) (de_v (pv 4)) T.cl T.nF (fun _ _ => rfl)) do_int do_none)) (dg_name (pg_name (i := 5) nd rfl (Or.inl rfl))) (pss_one (dput_m hu1 (pv 3) (da_cons (de_ix ix_seq opd_ix (de_failed hu1 (de_v (pv 2)) (de_v (pv 4)) T.cl T.nF (fun _ _ => rfl)) (de_int) (fun _ _ => rfl)) (da_cons (de_v (pv 5)) (da_nil))) de_bool)) (by decide) PassesOwn.never)) (by decide) PassesOwn.never, ps_ret (pe_callTy call_tuple_of (by rfl) T.n_tuple (by decide +kernel) (pa_cons (pe_callB (cr_sortDT rfl) (by rfl) T.n_sorted (by decide +kernel) (pa_cons (pv 3) pa_nil)) pa_nil))⟩

end
end FF
/-! ## GF -/
namespace FF
open PySem PySem.Spec PyProof.Rows L2
section
variable {P : Program} {w : World} {K : PySem.W.Frag} {mg : Str → Option Value} {base : Heap}

def u_law_is_stair_right : Ev → Option Out := sSeq (sTupAsg (aCons (eTup (aCons (eC (.p (.str z_item))) (aCons (eC (.p (.str z_coins))) (aNil)))) (aCons (eTup (aCons (eTup (aCons (eC (.p (.str z_coins))) (aCons (eC (.p (.int (Int.ofNat 0)))) (aCons (eVar 0) (aNil))))) (aNil))) (aNil))) (dgCons (tgName 2) (dgCons (tgName 3) (dgNil)))) (sSeq (sSet (tgName 4) (eTup (aCons (eC (.p (.str z_ale))) (aCons (eC (.p (.str z_bad))) (aCons (eC (.p (.str z_cut))) (aCons (eC (.p (.str z_dry))) (aCons (eC (.p (.str z_end))) (aNil)))))))) (sSeq (sSet (tgName 5) (eCall gTuple (aCons (eLc (iRg1 (eVar 0)) [7] (tgName 7) (bYes) (eTup (aCons (eC (.p (.str z_check))) (aCons (eIf (tB (eVar 1)) (op2 gIx (eVar 4) (eC (.p (.int (Int.ofNat 0))))) (op2 gIx (eVar 4) (eVar 7))) (aCons (eTup (aCons (eC (.p (.str z_11))) (aCons (eVar 7) (aCons (eVar 2) (aNil))))) (aNil)))))) (aNil)))) (sSeq (sIf (bOr (tB (op2 gNe (eFn 2 m_regions (aCons (eVar 3) (aCons (eVar 5) (aNil)))) (eCall gTuple (aCons (eLc (iRg1 (eVar 0)) [7] (tgName 7) (bYes) (eTup (aCons (eTup (aCons (eVar 7) (aNil))) (aNil)))) (aNil))))) (tB (op2 gNe (eFn 2 m_idle_checks (aCons (eVar 3) (aCons (eVar 5) (aNil)))) (eTup (aNil))))) (sRet (eC (.p (.bool false)))) (sNext)) (sSeq (sExt 6 (iRg1 (eVar 0)) (tgName 7) (lcE (iRg2 (op2 gCat (eVar 7) (eC (.p (.int (Int.ofNat 1))))) (eVar 0)) [12] (tgName 12) (bYes) (eTup (aCons (eVar 7) (aCons (eVar 12) (aNil)))))) (sSeq (sIf (tB (op2 gNe (eFn 2 m_must_ahead (aCons (eVar 3) (aCons (eVar 5) (aNil)))) (eCall gTuple (aCons (eVar 6) (aNil))))) (sRet (eC (.p (.bool false)))) (sNext)) (sSeq (sSet (tgName 8) (eRgT (eVar 0))) (sSeq (sSet (tgName 9) (eC (.p (.int (Int.ofNat 1))))) (sSeq (sFor (iRg2 (eC (.p (.int (Int.ofNat 2)))) (op2 gCat (eVar 0) (eC (.p (.int (Int.ofNat 1)))))) (tgName 7) (sSet (tgName 9) (op2 gMul (eVar 9) (eVar 7)))) (sSeq (sIf (bOr (tB (op2 gNe (eCall gLen (aCons (eGen 2 m_orders (aCons (eVar 3) (aCons (eVar 5) (aNil)))) (aNil))) (eIf (tB (eVar 1)) (eVar 9) (eC (.p (.int (Int.ofNat 1))))))) (bNot (tB (eFn 3 m_may_order (aCons (eVar 3) (aCons (eVar 5) (aCons (eVar 8) (aNil)))))))) (sRet (eC (.p (.bool false)))) (sNext)) (sSeq (sIf (bOr (tB (op2 gNe (eFn 3 m_may_order (aCons (eVar 3) (aCons (eVar 5) (aCons (e1 gRevT (eVar 8)) (aNil))))) (eVar 1))) (tB (op2 gNe (eFn 2 m_work (aCons (eVar 3) (aCons (eVar 5) (aNil)))) (op2 gFdiv (op2 gMul (eVar 0) (op2 gCat (eVar 0) (eC (.p (.int (Int.ofNat 3)))))) (eC (.p (.int (Int.ofNat 2)))))))) (sRet (eC (.p (.bool false)))) (sNext)) (sSeq (sSet (tgName 10) (eCall gTuple (aCons (e1 gRevT (eVar 5)) (aNil)))) (sSeq (sSet (tgName 11) (op2 gCat (eTup (aCons (eCall gTuple (aCons (eLc (iRg1 (eVar 0)) [7] (tgName 7) (bYes) (eTup (aCons (eVar 7) (aNil)))) (aNil))) (aNil))) (op2 gMul (eTup (aCons (eTup (aNil)) (aNil))) (op2 gSub (eVar 0) (eC (.p (.int (Int.ofNat 1)))))))) (sSeq (sIf (bOr (tB (op2 gNe (eFn 2 m_regions (aCons (eVar 3) (aCons (eVar 10) (aNil)))) (eVar 11))) (tB (op2 gNe (eFn 2 m_work (aCons (eVar 3) (aCons (eVar 10) (aNil)))) (op2 gMul (eC (.p (.int (Int.ofNat 2)))) (eVar 0))))) (sRet (eC (.p (.bool false)))) (sNext)) (sRet (op2 gEq (op2 gIx (eFn 2 m_least_work (aCons (eVar 3) (aCons (eVar 5) (aNil)))) (eC (.p (.int (Int.ofNat 0))))) (eIf (tB (eVar 1)) (op2 gMul (eC (.p (.int (Int.ofNat 2)))) (eVar 0)) (op2 gFdiv (op2 gMul (eVar 0) (op2 gCat (eVar 0) (eC (.p (.int (Int.ofNat 3)))))) (eC (.p (.int (Int.ofNat 2)))))))))))))))))))))
def m_law_is_stair_right : List D → Option D := runD 11 u_law_is_stair_right
theorem ok_law_is_stair_right (T : Kit K mg) : FnOk P w K mg base (L2.CX P w) 60 T.d_law_is_stair_right.f T.d_law_is_stair_right.fd P_law_is_stair_right (spD K T.C 2 m_law_is_stair_right) := fnD T.d_law_is_stair_right.F sc_law_is_stair_right rfl fun cdv A outer s H E hr => by
  have nd : N_law_is_stair_right.Nodup := sc_law_is_stair_right.nd
  have hu1 := hu_of hr
  have hu64 := hr.units
  exact dss_cons (ds_tupAsg (vs := [2, 3]) (da_cons (de_tup (da_cons (de_str ez_item) (da_cons (de_str ez_coins) (da_nil)))) (da_cons (de_tup (da_cons (de_tup (da_cons (de_str ez_coins) (da_cons (de_int) (da_cons (de_v (pv 0)) (da_nil))))) (da_nil))) (da_nil))) (dgd_cons (dg_name (pg_name (i := 2) nd rfl (Or.inr rfl))) (dgd_cons (dg_name (pg_name (i := 3) nd rfl (Or.inl rfl))) (dgd_nil))) (hlen := (dgs_len (dgs_len dgs_len0)))) (dss_cons (ds_set (ps_set (i := 4) nd rfl (Or.inr rfl) (DE.pe (de_tup (da_cons (de_str ez_ale) (da_cons (de_str ez_bad) (da_cons (de_str ez_cut) (da_cons (de_str ez_dry) (da_cons (de_str ez_end) (da_nil)))))))))) (dss_cons (ds_set (ps_set (i := 5) nd rfl (Or.inl rfl) (DE.pe (de_callTy call_tuple_of cld_tuple (by rfl) T.n_tuple (by decide +kernel) (da_cons (de_lc (own := [("_law_n", 7)]) rfl nd (di_range1 (de_v (pv 0)) (by rfl) T.n_range) (blkOk_by (N := N_law_is_stair_right) (sc := defScope s_law_is_stair_right) (by decide +kernel)) (fun _ _ _ _ _ => dg_name (pg_name (i := 7) nd rfl (Or.inl rfl))) (fun _ _ _ _ _ => dts_nil) (fun _ _ _ _ _ => de_tup (da_cons (de_str ez_check) (da_cons (de_if (dt_val (de_v (pv 1))) (de_ix ix_seq opd_ix (de_v (pv 4)) (de_int) (fun _ _ => rfl)) (de_ix ix_seq opd_ix (de_v (pv 4)) (de_v (pv 7)) (fun _ _ => rfl))) (da_cons (de_tup (da_cons (de_str ez_11) (da_cons (de_v (pv 7)) (da_cons (de_v (pv 2)) (da_nil))))) (da_nil)))))) (da_nil)))))) (dss_cons (ds_if (dt_w (dw_or (dt_cmp (op_ne.or (op_neD hu64)) opd_ne (de_call (ok_regions T) (hr.mono (by omega)) (by rfl) T.d_regions.g T.d_regions.k T.d_regions.b (da_cons (de_v (pv 3)) (da_cons (de_v (pv 5)) (da_nil)))) (de_callTy call_tuple_of cld_tuple (by rfl) T.n_tuple (by decide +kernel) (da_cons (de_lc (own := [("_law_n", 7)]) rfl nd (di_range1 (de_v (pv 0)) (by rfl) T.n_range) (blkOk_by (N := N_law_is_stair_right) (sc := defScope s_law_is_stair_right) (by decide +kernel)) (fun _ _ _ _ _ => dg_name (pg_name (i := 7) nd rfl (Or.inl rfl))) (fun _ _ _ _ _ => dts_nil) (fun _ _ _ _ _ => de_tup (da_cons (de_tup (da_cons (de_v (pv 7)) (da_nil))) (da_nil)))) (da_nil))) rfl) (dw_or1 (dt_cmp (op_ne.or (op_neD hu64)) opd_ne (de_call (ok_idle_checks T) (hr.mono (by omega)) (by rfl) T.d_idle_checks.g T.d_idle_checks.k T.d_idle_checks.b (da_cons (de_v (pv 3)) (da_cons (de_v (pv 5)) (da_nil)))) (de_tup (da_nil)) rfl)))) (dss_one (ds_ret (de_bool))) (dss_nil)) (dss_ext (vs := [7]) (j := 6) (ps_set (i := 6) nd rfl (Or.inl rfl) (pe_lst pa_nil)) (di_range1 (de_v (pv 0)) (by rfl) T.n_range) (dg_name (pg_name (i := 7) nd rfl (Or.inr rfl))) (pv 6) (dl_lc (own := [("_law_m", 12)]) rfl nd (di_range2 (de_bin (op_add.or op_catA) opd_cat (de_v (pv 7)) (de_int)) (de_v (pv 0)) (by rfl) T.n_range) (blkOk_by (N := N_law_is_stair_right) (sc := defScope s_law_is_stair_right) (by decide +kernel)) (fun _ _ _ _ _ => dg_name (pg_name (i := 12) nd rfl (Or.inl rfl))) (fun _ _ _ _ _ => dts_nil) (fun _ _ _ _ _ => de_tup (da_cons (de_v (pv 7)) (da_cons (de_v (pv 12)) (da_nil))))) (dss_cons (ds_if (dt_cmp (op_ne.or (op_neD hu64)) opd_ne (de_call (ok_must_ahead T) (hr.mono (by omega)) (by rfl) T.d_must_ahead.g T.d_must_ahead.k T.d_must_ahead.b (da_cons (de_v (pv 3)) (da_cons (de_v (pv 5)) (da_nil)))) (de_callTy call_tuple_of cld_tuple (by rfl) T.n_tuple (by decide +kernel) (da_cons (de_v (pv 6)) (da_nil))) rfl) (dss_one (ds_ret (de_bool))) (dss_nil)) (dss_cons (ds_set (ps_set (i := 8) nd rfl (Or.inl rfl) (DE.pe (de_rgT rfl (by rfl) T.n_tuple (by rfl) T.n_range (de_v (pv 0)))))) (dss_cons (ds_set (ps_set (i := 9) nd rfl (Or.inl rfl) (DE.pe (de_int)))) (dss_cons (ds_for (vs := [7]) (di_range2 (de_int) (de_bin (op_add.or op_catA) opd_cat (de_v (pv 0)) (de_int)) (by rfl) T.n_range) (dg_name (pg_name (i := 7) nd rfl (Or.inr rfl))) (dss_one (ds_set (ps_set (i := 9) nd rfl (Or.inl rfl) (DE.pe (de_bin (op_mul.or op_repT) opd_mul (de_v (pv 9)) (de_v (pv 7))))))) PassesOwn.never) (dss_cons (ds_if (dt_w (dw_or (dt_cmp (op_ne.or (op_neD hu64)) opd_ne (de_callB call_len_seq cld_len (by rfl) T.n_len (by decide +kernel) (da_cons (de_gen (ok_orders T) (hr.mono (by omega)) (by rfl) T.d_orders.g T.d_orders.k T.d_orders.b (by rfl) T.n_list (da_cons (de_v (pv 3)) (da_cons (de_v (pv 5)) (da_nil)))) (da_nil))) (de_if (dt_val (de_v (pv 1))) (de_v (pv 9)) (de_int)) rfl) (dw_or1 (dt_not (dt_val (de_call (ok_may_order T) (hr.mono (by omega)) (by rfl) T.d_may_order.g T.d_may_order.k T.d_may_order.b (da_cons (de_v (pv 3)) (da_cons (de_v (pv 5)) (da_cons (de_v (pv 8)) (da_nil)))))))))) (dss_one (ds_ret (de_bool))) (dss_nil)) (dss_cons (ds_if (dt_w (dw_or (dt_cmp (op_ne.or (op_neD hu64)) opd_ne (de_call (ok_may_order T) (hr.mono (by omega)) (by rfl) T.d_may_order.g T.d_may_order.k T.d_may_order.b (da_cons (de_v (pv 3)) (da_cons (de_v (pv 5)) (da_cons (de_rev (de_v (pv 8))) (da_nil))))) (de_v (pv 1)) rfl) (dw_or1 (dt_cmp (op_ne.or (op_neD hu64)) opd_ne (de_call (ok_work T) (hr.mono (by omega)) (by rfl) T.d_work.g T.d_work.k T.d_work.b (da_cons (de_v (pv 3)) (da_cons (de_v (pv 5)) (da_nil)))) (de_bin op_fdiv opd_fdiv (de_bin (op_mul.or op_repT) opd_mul (de_v (pv 0)) (de_bin (op_add.or op_catA) opd_cat (de_v (pv 0)) (de_int))) (de_int)) rfl)))) (dss_one (ds_ret (de_bool))) (dss_nil)) (dss_cons (ds_set (ps_set (i := 10) nd rfl (Or.inl rfl) (DE.pe (de_callTy call_tuple_of cld_tuple (by rfl) T.n_tuple (by decide +kernel) (da_cons (de_rev (de_v (pv 5))) (da_nil)))))) (dss_cons (ds_set (ps_set (i := 11) nd rfl (Or.inl rfl) (DE.pe (de_bin (op_add.or op_catA) opd_cat (de_tup (da_cons (de_callTy call_tuple_of cld_tuple (by rfl) T.n_tuple (by decide +kernel) (da_cons (de_lc (own := [("_law_n", 7)]) rfl nd (di_range1 (de_v (pv 0)) (by rfl) T.n_range) (blkOk_by (N := N_law_is_stair_right) (sc := defScope s_law_is_stair_right) (by decide +kernel)) (fun _ _ _ _ _ => dg_name (pg_name (i := 7) nd rfl (Or.inl rfl))) (fun _ _ _ _ _ => dts_nil) (fun _ _ _ _ _ => de_tup (da_cons (de_v (pv 7)) (da_nil)))) (da_nil))) (da_nil))) (de_bin (op_mul.or op_repT) opd_mul (de_tup (da_cons (de_tup (da_nil)) (da_nil))) (de_bin op_sub opd_sub (de_v (pv 0)) (de_int))))))) (dss_cons (ds_if (dt_w (dw_or (dt_cmp (op_ne.or (op_neD hu64)) opd_ne (de_call (ok_regions T) (hr.mono (by omega)) (by rfl) T.d_regions.g T.d_regions.k T.d_regions.b (da_cons (de_v (pv 3)) (da_cons (de_v (pv 10)) (da_nil)))) (de_v (pv 11)) rfl) (dw_or1 (dt_cmp (op_ne.or (op_neD hu64)) opd_ne (de_call (ok_work T) (hr.mono (by omega)) (by rfl) T.d_work.g T.d_work.k T.d_work.b (da_cons (de_v (pv 3)) (da_cons (de_v (pv 10)) (da_nil)))) (de_bin (op_mul.or op_repT) opd_mul (de_int) (de_v (pv 0))) rfl)))) (dss_one (ds_ret (de_bool))) (dss_nil)) (dss_one (ds_ret (de_cmp (op_eq.or (op_eqD hu64)) opd_eq (de_ix ix_seq opd_ix (de_call (ok_least_work T) (hr.mono (by omega)) (by rfl) T.d_least_work.g T.d_least_work.k T.d_least_work.b (da_cons (de_v (pv 3)) (da_cons (de_v (pv 5)) (da_nil)))) (de_int) (fun _ _ => rfl)) (de_if (dt_val (de_v (pv 1))) (de_bin (op_mul.or op_repT) opd_mul (de_int) (de_v (pv 0))) (de_bin op_fdiv opd_fdiv (de_bin (op_mul.or op_repT) opd_mul (de_v (pv 0)) (de_bin (op_add.or op_catA) opd_cat (de_v (pv 0)) (de_int))) (de_int))) rfl)))))))))))) PassesOwn.never))))


def u_law_are_apart_right : Ev → Option Out := sSeq (sTupAsg (aCons (eTup (aCons (eC (.p (.str z_item))) (aCons (eC (.p (.str z_coins))) (aNil)))) (aCons (eTup (aCons (eTup (aCons (eC (.p (.str z_coins))) (aCons (eC (.p (.int (Int.ofNat 0)))) (aCons (eVar 0) (aNil))))) (aNil))) (aNil))) (dgCons (tgName 1) (dgCons (tgName 2) (dgNil)))) (sSeq (sSet (tgName 3) (eTup (aCons (eC (.p (.str z_ale))) (aCons (eC (.p (.str z_bad))) (aCons (eC (.p (.str z_cut))) (aCons (eC (.p (.str z_dry))) (aCons (eC (.p (.str z_end))) (aNil)))))))) (sSeq (sSet (tgName 4) (eCall gTuple (aCons (eLc (iRg1 (eVar 0)) [5] (tgName 5) (bYes) (eTup (aCons (eC (.p (.str z_check))) (aCons (op2 gIx (eVar 3) (eVar 5)) (aCons (eTup (aCons (eC (.p (.str z_not))) (aCons (eTup (aCons (eC (.p (.str z_7))) (aCons (eVar 1) (aCons (eVar 5) (aNil))))) (aNil)))) (aNil)))))) (aNil)))) (sSeq (sIf (bOr (tB (op2 gNe (eFn 2 m_must_ahead (aCons (eVar 2) (aCons (eVar 4) (aNil)))) (eTup (aNil)))) (tB (op2 gNe (op2 gIx (eFn 2 m_least_work (aCons (eVar 2) (aCons (eVar 4) (aNil)))) (eC (.p (.int (Int.ofNat 0))))) (op2 gFdiv (op2 gMul (eVar 0) (op2 gCat (eVar 0) (eC (.p (.int (Int.ofNat 3)))))) (eC (.p (.int (Int.ofNat 2)))))))) (sRet (eC (.p (.bool false)))) (sNext)) (sRet (eChain gEq gEq (eCall gLen (aCons (op2 gIx (eFn 2 m_least_work (aCons (eVar 2) (aCons (eVar 4) (aNil)))) (eC (.p (.int (Int.ofNat 1))))) (aNil))) (eCall gLen (aCons (eGen 2 m_orders (aCons (eVar 2) (aCons (eVar 4) (aNil)))) (aNil))) (eCall gLen (aCons (eFn 1 m_law_all (aCons (eVar 0) (aNil))) (aNil))))))))
def m_law_are_apart_right : List D → Option D := runD 5 u_law_are_apart_right
theorem ok_law_are_apart_right (T : Kit K mg) : FnOk P w K mg base (L2.CX P w) 60 T.d_law_are_apart_right.f T.d_law_are_apart_right.fd P_law_are_apart_right (spD K T.C 1 m_law_are_apart_right) := fnD T.d_law_are_apart_right.F sc_law_are_apart_right rfl fun cdv A outer s H E hr => by
  have nd : N_law_are_apart_right.Nodup := sc_law_are_apart_right.nd
  have hu1 := hu_of hr
  have hu64 := hr.units
  exact dss_cons (ds_tupAsg (vs := [1, 2]) (da_cons (de_tup (da_cons (de_str ez_item) (da_cons (de_str ez_coins) (da_nil)))) (da_cons (de_tup (da_cons (de_tup (da_cons (de_str ez_coins) (da_cons (de_int) (da_cons (de_v (pv 0)) (da_nil))))) (da_nil))) (da_nil))) (dgd_cons (dg_name (pg_name (i := 1) nd rfl (Or.inr rfl))) (dgd_cons (dg_name (pg_name (i := 2) nd rfl (Or.inl rfl))) (dgd_nil))) (hlen := (dgs_len (dgs_len dgs_len0)))) (dss_cons (ds_set (ps_set (i := 3) nd rfl (Or.inr rfl) (DE.pe (de_tup (da_cons (de_str ez_ale) (da_cons (de_str ez_bad) (da_cons (de_str ez_cut) (da_cons (de_str ez_dry) (da_cons (de_str ez_end) (da_nil)))))))))) (dss_cons (ds_set (ps_set (i := 4) nd rfl (Or.inl rfl) (DE.pe (de_callTy call_tuple_of cld_tuple (by rfl) T.n_tuple (by decide +kernel) (da_cons (de_lc (own := [("_law_n", 5)]) rfl nd (di_range1 (de_v (pv 0)) (by rfl) T.n_range) (blkOk_by (N := N_law_are_apart_right) (sc := defScope s_law_are_apart_right) (by decide +kernel)) (fun _ _ _ _ _ => dg_name (pg_name (i := 5) nd rfl (Or.inl rfl))) (fun _ _ _ _ _ => dts_nil) (fun _ _ _ _ _ => de_tup (da_cons (de_str ez_check) (da_cons (de_ix ix_seq opd_ix (de_v (pv 3)) (de_v (pv 5)) (fun _ _ => rfl)) (da_cons (de_tup (da_cons (de_str ez_not) (da_cons (de_tup (da_cons (de_str ez_7) (da_cons (de_v (pv 1)) (da_cons (de_v (pv 5)) (da_nil))))) (da_nil)))) (da_nil)))))) (da_nil)))))) (dss_cons (ds_if (dt_w (dw_or (dt_cmp (op_ne.or (op_neD hu64)) opd_ne (de_call (ok_must_ahead T) (hr.mono (by omega)) (by rfl) T.d_must_ahead.g T.d_must_ahead.k T.d_must_ahead.b (da_cons (de_v (pv 2)) (da_cons (de_v (pv 4)) (da_nil)))) (de_tup (da_nil)) rfl) (dw_or1 (dt_cmp (op_ne.or (op_neD hu64)) opd_ne (de_ix ix_seq opd_ix (de_call (ok_least_work T) (hr.mono (by omega)) (by rfl) T.d_least_work.g T.d_least_work.k T.d_least_work.b (da_cons (de_v (pv 2)) (da_cons (de_v (pv 4)) (da_nil)))) (de_int) (fun _ _ => rfl)) (de_bin op_fdiv opd_fdiv (de_bin (op_mul.or op_repT) opd_mul (de_v (pv 0)) (de_bin (op_add.or op_catA) opd_cat (de_v (pv 0)) (de_int))) (de_int)) rfl)))) (dss_one (ds_ret (de_bool))) (dss_nil)) (dss_one (ds_ret (de_chain (op_eq.or (op_eqD hu64)) (op_eq.or (op_eqD hu64)) opd_eq opd_eq (de_callB call_len_seq cld_len (by rfl) T.n_len (by decide +kernel) (da_cons (de_ix ix_seq opd_ix (de_call (ok_least_work T) (hr.mono (by omega)) (by rfl) T.d_least_work.g T.d_least_work.k T.d_least_work.b (da_cons (de_v (pv 2)) (da_cons (de_v (pv 4)) (da_nil)))) (de_int) (fun _ _ => rfl)) (da_nil))) (de_callB call_len_seq cld_len (by rfl) T.n_len (by decide +kernel) (da_cons (de_gen (ok_orders T) (hr.mono (by omega)) (by rfl) T.d_orders.g T.d_orders.k T.d_orders.b (by rfl) T.n_list (da_cons (de_v (pv 2)) (da_cons (de_v (pv 4)) (da_nil)))) (da_nil))) (de_callB call_len_seq cld_len (by rfl) T.n_len (by decide +kernel) (da_cons (de_call (ok_law_all T) (hr.mono (by omega)) (by rfl) T.d_law_all.g T.d_law_all.k T.d_law_all.b (da_cons (de_v (pv 0)) (da_nil))) (da_nil)))))))))


def u_law_are_chains_right : Ev → Option Out := sSeq (sTupAsg (aCons (eTup (aCons (eC (.p (.str z_item))) (aCons (eC (.p (.str z_coins))) (aNil)))) (aCons (eTup (aCons (eTup (aCons (eC (.p (.str z_coins))) (aCons (eC (.p (.int (Int.ofNat 0)))) (aCons (eC (.p (.int (Int.ofNat 9)))) (aNil))))) (aNil))) (aNil))) (dgCons (tgName 0) (dgCons (tgName 1) (dgNil)))) (sSeq (sSet (tgName 2) (eTup (aCons (eC (.p (.str z_ale))) (aCons (eC (.p (.str z_bad))) (aCons (eC (.p (.str z_cut))) (aCons (eC (.p (.str z_dry))) (aCons (eC (.p (.str z_end))) (aCons (eC (.p (.str z_far))) (aNil))))))))) (sSeq (sSet (tgName 3) (eCall gTuple (aCons (eLc (iRg1 (eC (.p (.int (Int.ofNat 3))))) [8] (tgName 8) (bYes) (eTup (aCons (eC (.p (.str z_check))) (aCons (op2 gIx (eVar 2) (eVar 8)) (aCons (eTup (aCons (eC (.p (.str z_11))) (aCons (op2 gCat (eVar 8) (eC (.p (.int (Int.ofNat 2))))) (aCons (eVar 0) (aNil))))) (aNil)))))) (aNil)))) (sSeq (sSet (tgName 3) (op2 gCat (eVar 3) (eCall gTuple (aCons (eLc (iRg1 (eC (.p (.int (Int.ofNat 3))))) [8] (tgName 8) (bYes) (eTup (aCons (eC (.p (.str z_check))) (aCons (op2 gIx (eVar 2) (op2 gCat (eVar 8) (eC (.p (.int (Int.ofNat 3)))))) (aCons (eTup (aCons (eC (.p (.str z_11))) (aCons (eVar 0) (aCons (op2 gSub (eC (.p (.int (Int.ofNat 9)))) (eVar 8)) (aNil))))) (aNil)))))) (aNil))))) (sSeq (sIf (tB (op2 gNe (eFn 2 m_must_ahead (aCons (eVar 1) (aCons (eVar 3) (aNil)))) (eTup (aCons (eTup (aCons (eC (.p (.int (Int.ofNat 0)))) (aCons (eC (.p (.int (Int.ofNat 1)))) (aNil)))) (aCons (eTup (aCons (eC (.p (.int (Int.ofNat 0)))) (aCons (eC (.p (.int (Int.ofNat 2)))) (aNil)))) (aCons (eTup (aCons (eC (.p (.int (Int.ofNat 1)))) (aCons (eC (.p (.int (Int.ofNat 2)))) (aNil)))) (aCons (eTup (aCons (eC (.p (.int (Int.ofNat 3)))) (aCons (eC (.p (.int (Int.ofNat 4)))) (aNil)))) (aCons (eTup (aCons (eC (.p (.int (Int.ofNat 3)))) (aCons (eC (.p (.int (Int.ofNat 5)))) (aNil)))) (aCons (eTup (aCons (eC (.p (.int (Int.ofNat 4)))) (aCons (eC (.p (.int (Int.ofNat 5)))) (aNil)))) (aNil)))))))))) (sRet (eC (.p (.bool false)))) (sNext)) (sSeq (sSet (tgName 4) (eGen 2 m_orders (aCons (eVar 1) (aCons (eVar 3) (aNil))))) (sSeq (sIf (bOr (tB (op2 gNe (eCall gLen (aCons (eVar 4) (aNil))) (eC (.p (.int (Int.ofNat 20)))))) (bOr (tB (op2 gNe (op2 gIx (eVar 4) (eC (.p (.int (Int.ofNat 0))))) (eTup (aCons (eC (.p (.int (Int.ofNat 0)))) (aCons (eC (.p (.int (Int.ofNat 1)))) (aCons (eC (.p (.int (Int.ofNat 2)))) (aCons (eC (.p (.int (Int.ofNat 3)))) (aCons (eC (.p (.int (Int.ofNat 4)))) (aCons (eC (.p (.int (Int.ofNat 5)))) (aNil)))))))))) (tB (op2 gNe (op2 gIx (eVar 4) (eC (.p (.int (Int.negSucc 0))))) (eTup (aCons (eC (.p (.int (Int.ofNat 3)))) (aCons (eC (.p (.int (Int.ofNat 4)))) (aCons (eC (.p (.int (Int.ofNat 5)))) (aCons (eC (.p (.int (Int.ofNat 0)))) (aCons (eC (.p (.int (Int.ofNat 1)))) (aCons (eC (.p (.int (Int.ofNat 2)))) (aNil)))))))))))) (sRet (eC (.p (.bool false)))) (sNext)) (sSeq (sSet (tgTup (tgCons (tgName 5) (tgCons (tgName 6) (tgNil)))) (eFn 2 m_least_work (aCons (eVar 1) (aCons (eVar 3) (aNil))))) (sSeq (sIf (bOr (tB (op2 gNe (eVar 5) (eC (.p (.int (Int.ofNat 35)))))) (bOr (tB (op2 gNe (eCall gList (aCons (eVar 6) (aNil))) (eLc (iSeqL (eVar 4)) [7] (tgName 7) (tB (op2 gEq (op2 gIx (eVar 7) (eC (.p (.int (Int.ofNat 0))))) (eC (.p (.int (Int.ofNat 0)))))) (eVar 7)))) (tB (op2 gNe (eCall gLen (aCons (eVar 6) (aNil))) (eC (.p (.int (Int.ofNat 10)))))))) (sRet (eC (.p (.bool false)))) (sNext)) (sSeq (sForB 2 m_orders (aCons (eVar 1) (aCons (eVar 3) (aNil))) (tgName 7)) (sRet (eAnd (op2 gEq (eVar 7) (op2 gIx (eVar 4) (eC (.p (.int (Int.ofNat 0)))))) (eAnd (op2 gEq (eFn 2 m_work (aCons (eVar 1) (aCons (eVar 3) (aNil)))) (eC (.p (.int (Int.ofNat 35))))) (op2 gEq (eGen 2 m_orders (aCons (eVar 1) (aCons (eVar 3) (aNil)))) (eVar 4))))))))))))))
def m_law_are_chains_right : List D → Option D := runD 9 u_law_are_chains_right
theorem ok_law_are_chains_right (T : Kit K mg) : FnOk P w K mg base (L2.CX P w) 60 T.d_law_are_chains_right.f T.d_law_are_chains_right.fd P_law_are_chains_right (spD K T.C 0 m_law_are_chains_right) := fnD T.d_law_are_chains_right.F sc_law_are_chains_right rfl fun cdv A outer s H E hr => by
  have nd : N_law_are_chains_right.Nodup := sc_law_are_chains_right.nd
  have hu1 := hu_of hr
  have hu64 := hr.units
  exact dss_cons (ds_tupAsg (vs := [0, 1]) (da_cons (de_tup (da_cons (de_str ez_item) (da_cons (de_str ez_coins) (da_nil)))) (da_cons (de_tup (da_cons (de_tup (da_cons (de_str ez_coins) (da_cons (de_int) (da_cons (de_int) (da_nil))))) (da_nil))) (da_nil))) (dgd_cons (dg_name (pg_name (i := 0) nd rfl (Or.inr rfl))) (dgd_cons (dg_name (pg_name (i := 1) nd rfl (Or.inl rfl))) (dgd_nil))) (hlen := (dgs_len (dgs_len dgs_len0)))) (dss_cons (ds_set (ps_set (i := 2) nd rfl (Or.inr rfl) (DE.pe (de_tup (da_cons (de_str ez_ale) (da_cons (de_str ez_bad) (da_cons (de_str ez_cut) (da_cons (de_str ez_dry) (da_cons (de_str ez_end) (da_cons (de_str ez_far) (da_nil))))))))))) (dss_cons (ds_set (ps_set (i := 3) nd rfl (Or.inl rfl) (DE.pe (de_callTy call_tuple_of cld_tuple (by rfl) T.n_tuple (by decide +kernel) (da_cons (de_lc (own := [("_law_n", 8)]) rfl nd (di_range1 (de_int) (by rfl) T.n_range) (blkOk_by (N := N_law_are_chains_right) (sc := defScope s_law_are_chains_right) (by decide +kernel)) (fun _ _ _ _ _ => dg_name (pg_name (i := 8) nd rfl (Or.inl rfl))) (fun _ _ _ _ _ => dts_nil) (fun _ _ _ _ _ => de_tup (da_cons (de_str ez_check) (da_cons (de_ix ix_seq opd_ix (de_v (pv 2)) (de_v (pv 8)) (fun _ _ => rfl)) (da_cons (de_tup (da_cons (de_str ez_11) (da_cons (de_bin (op_add.or op_catA) opd_cat (de_v (pv 8)) (de_int)) (da_cons (de_v (pv 0)) (da_nil))))) (da_nil)))))) (da_nil)))))) (dss_cons (ds_set (ps_set (i := 3) nd rfl (Or.inl rfl) (DE.pe (de_bin (op_add.or op_catA) opd_cat (de_v (pv 3)) (de_callTy call_tuple_of cld_tuple (by rfl) T.n_tuple (by decide +kernel) (da_cons (de_lc (own := [("_law_n", 8)]) rfl nd (di_range1 (de_int) (by rfl) T.n_range) (blkOk_by (N := N_law_are_chains_right) (sc := defScope s_law_are_chains_right) (by decide +kernel)) (fun _ _ _ _ _ => dg_name (pg_name (i := 8) nd rfl (Or.inl rfl))) (fun _ _ _ _ _ => dts_nil) (fun _ _ _ _ _ => de_tup (da_cons (de_str ez_check) (da_cons (de_ix ix_seq opd_ix (de_v (pv 2)) (de_bin (op_add.or op_catA) opd_cat (de_v (pv 8)) (de_int)) (fun _ _ => rfl)) (da_cons (de_tup (da_cons (de_str ez_11) (da_cons (de_v (pv 0)) (da_cons (de_bin op_sub opd_sub (de_int) (de_v (pv 8))) (da_nil))))) (da_nil)))))) (da_nil))))))) (dss_cons (ds_if (dt_cmp (op_ne.or (op_neD hu64)) opd_ne (de_call (ok_must_ahead T) (hr.mono (by omega)) (by rfl) T.d_must_ahead.g T.d_must_ahead.k T.d_must_ahead.b (da_cons (de_v (pv 1)) (da_cons (de_v (pv 3)) (da_nil)))) (de_tup (da_cons (de_tup (da_cons (de_int) (da_cons (de_int) (da_nil)))) (da_cons (de_tup (da_cons (de_int) (da_cons (de_int) (da_nil)))) (da_cons (de_tup (da_cons (de_int) (da_cons (de_int) (da_nil)))) (da_cons (de_tup (da_cons (de_int) (da_cons (de_int) (da_nil)))) (da_cons (de_tup (da_cons (de_int) (da_cons (de_int) (da_nil)))) (da_cons (de_tup (da_cons (de_int) (da_cons (de_int) (da_nil)))) (da_nil)))))))) rfl) (dss_one (ds_ret (de_bool))) (dss_nil)) (dss_cons (ds_set (ps_set (i := 4) nd rfl (Or.inl rfl) (DE.pe (de_gen (ok_orders T) (hr.mono (by omega)) (by rfl) T.d_orders.g T.d_orders.k T.d_orders.b (by rfl) T.n_list (da_cons (de_v (pv 1)) (da_cons (de_v (pv 3)) (da_nil))))))) (dss_cons (ds_if (dt_w (dw_or (dt_cmp (op_ne.or (op_neD hu64)) opd_ne (de_callB call_len_seq cld_len (by rfl) T.n_len (by decide +kernel) (da_cons (de_v (pv 4)) (da_nil))) (de_int) rfl) (dw_or (dt_cmp (op_ne.or (op_neD hu64)) opd_ne (de_ix ix_seq opd_ix (de_v (pv 4)) (de_int) (fun _ _ => rfl)) (de_tup (da_cons (de_int) (da_cons (de_int) (da_cons (de_int) (da_cons (de_int) (da_cons (de_int) (da_cons (de_int) (da_nil)))))))) rfl) (dw_or1 (dt_cmp (op_ne.or (op_neD hu64)) opd_ne (de_ix ix_seq opd_ix (de_v (pv 4)) ((de_neg (i := 1))) (fun _ _ => rfl)) (de_tup (da_cons (de_int) (da_cons (de_int) (da_cons (de_int) (da_cons (de_int) (da_cons (de_int) (da_cons (de_int) (da_nil)))))))) rfl))))) (dss_one (ds_ret (de_bool))) (dss_nil)) (dss_cons (ds_asg (vs := [5, 6]) (de_call (ok_least_work T) (hr.mono (by omega)) (by rfl) T.d_least_work.g T.d_least_work.k T.d_least_work.b (da_cons (de_v (pv 1)) (da_cons (de_v (pv 3)) (da_nil)))) (dg_tup (dgs_cons (dg_name (pg_name (i := 5) nd rfl (Or.inl rfl))) (dgs_cons (dg_name (pg_name (i := 6) nd rfl (Or.inl rfl))) (dgs_nil))) rfl rfl rfl (tgs_len (tgs_len tgs_len0)))) (dss_cons (ds_if (dt_w (dw_or (dt_cmp (op_ne.or (op_neD hu64)) opd_ne (de_v (pv 5)) (de_int) rfl) (dw_or (dt_cmp (op_ne.or (op_neD hu64)) opd_ne (de_callTy call_list_of cld_list (by rfl) T.n_list (by decide +kernel) (da_cons (de_v (pv 6)) (da_nil))) (de_lc (own := [("_law_line", 7)]) rfl nd (di_list (de_v (pv 4))) (blkOk_by (N := N_law_are_chains_right) (sc := defScope s_law_are_chains_right) (by decide +kernel)) (fun _ _ _ _ _ => dg_name (pg_name (i := 7) nd rfl (Or.inl rfl))) (fun _ _ _ _ _ => dts_one (dt_cmp (op_eq.or (op_eqD hu64)) opd_eq (de_ix ix_seq opd_ix (de_v (pv 7)) (de_int) (fun _ _ => rfl)) (de_int) rfl)) (fun _ _ _ _ _ => de_v (pv 7))) rfl) (dw_or1 (dt_cmp (op_ne.or (op_neD hu64)) opd_ne (de_callB call_len_seq cld_len (by rfl) T.n_len (by decide +kernel) (da_cons (de_v (pv 6)) (da_nil))) (de_int) rfl))))) (dss_one (ds_ret (de_bool))) (dss_nil)) (dss_cons (ds_forB (vs := [7]) (ok_orders T) (hr.mono (by omega)) (by rfl) T.d_orders.g T.d_orders.k T.d_orders.b (da_cons (de_v (pv 1)) (da_cons (de_v (pv 3)) (da_nil))) (dg_name (pg_name (i := 7) nd rfl (Or.inl rfl))) PassesOwn.never) (dss_one (ds_ret (de_and (de_cmp (op_eq.or (op_eqD hu64)) opd_eq (de_v (pv 7)) (de_ix ix_seq opd_ix (de_v (pv 4)) (de_int) (fun _ _ => rfl)) rfl) (de_and (de_cmp (op_eq.or (op_eqD hu64)) opd_eq (de_call (ok_work T) (hr.mono (by omega)) (by rfl) T.d_work.g T.d_work.k T.d_work.b (da_cons (de_v (pv 1)) (da_cons (de_v (pv 3)) (da_nil)))) (de_int) rfl) (de_one (de_cmp (op_eq.or (op_eqD hu64)) opd_eq (de_gen (ok_orders T) (hr.mono (by omega)) (by rfl) T.d_orders.g T.d_orders.k T.d_orders.b (by rfl) T.n_list (da_cons (de_v (pv 1)) (da_cons (de_v (pv 3)) (da_nil)))) (de_v (pv 4)) rfl)))))))))))))))

end
end FF
/-! ## GG -/
namespace FF
open PySem PySem.Spec PyProof.Rows L2
section
variable {P : Program} {w : World} {K : PySem.W.Frag} {mg : Str → Option Value} {base : Heap}

def u_require : Ev → Option Out := sIf (bNot (tB (eVar 0))) (sNo) (sNext)
def m_require : List D → Option D := runD 0 u_require
theorem ok_require (T : Kit K mg) : FnOk P w K mg base (L2.CX P w) 1 T.d_require.f T.d_require.fd P_require (spD K T.C 3 m_require) := fnD T.d_require.F sc_require rfl fun cdv A outer s H E hr => by
  have nd : N_require.Nodup := sc_require.nd
  have hu1 := hu_of hr
  have hu64 := hr.units
  exact dss_one (ds_if (dt_not (dt_val (de_v (pv 0)))) (dss_no) (dss_nil))


def u_check_idle : Ev → Option Out := sSeq (sSet (tgName 3) (eLc (iSeqL (eStates (eVar 0))) [5] (tgName 5) (tB (op2 gIn (eVar 1) (eFailed (eVar 0) (eVar 5)))) (eVar 5))) (sSeq (sDrop (eFn 3 m_require (aCons (op2 gEq (eCall gLen (aCons (eVar 2) (aNil))) (eCall gLen (aCons (eVar 3) (aNil)))) (aCons (eC (.p (.str z_rows))) (aCons (eVar 1) (aNil)))))) (sFor (iEnL (eVar 3)) (tgTup (tgCons (tgName 4) (tgCons (tgName 5) (tgNil)))) (sDrop (eFn 3 m_require (aCons (eAnd (eFn 1 m_is_number (aCons (op2 gIx (eVar 2) (eVar 4)) (aNil))) (eAnd (op2 gLt (op2 gIx (eVar 2) (eVar 4)) (eVar 1)) (op2 gIn (op2 gIx (eVar 2) (eVar 4)) (eFailed (eVar 0) (eVar 5))))) (aCons (eC (.p (.str z_ahead))) (aCons (eTup (aCons (eVar 1) (aCons (eVar 4) (aNil)))) (aNil))))))))
def m_check_idle : List D → Option D := runD 3 u_check_idle
theorem ok_check_idle (T : Kit K mg) : FnOk P w K mg base (L2.CX P w) 5 T.d_check_idle.f T.d_check_idle.fd P_check_idle (spD K T.C 3 m_check_idle) := fnD T.d_check_idle.F sc_check_idle rfl fun cdv A outer s H E hr => by
  have nd : N_check_idle.Nodup := sc_check_idle.nd
  have hu1 := hu_of hr
  have hu64 := hr.units
  exact dss_cons (ds_setLc (j := 3) (own := [("state", 5)]) rfl nd rfl rfl (sw_true rfl rfl rfl (by decide +kernel)) (di_list (de_states (de_v (pv 0)) T.cl T.nS)) (blkOk_by (N := N_check_idle) (sc := defScope s_check_idle) (by decide +kernel)) (fun _ _ _ _ _ => dg_name (pg_name (i := 5) nd rfl (Or.inl rfl))) (fun _ _ _ _ _ => dts_one (dt_cmp op_in_seq opd_in (de_v (pv 1)) (de_failed hu1 (de_v (pv 0)) (de_v (pv 5)) T.cl T.nF (fun _ _ => rfl)) rfl)) (fun _ _ _ _ _ => de_v (pv 5))) (dss_cons (ds_expr (de_call (ok_require T) (hr.mono (by omega)) (by rfl) T.d_require.g T.d_require.k T.d_require.b (da_cons (de_cmp (op_eq.or (op_eqD hu64)) opd_eq (de_callB call_len_seq cld_len (by rfl) T.n_len (by decide +kernel) (da_cons (de_v (pv 2)) (da_nil))) (de_callB call_len_seq cld_len (by rfl) T.n_len (by decide +kernel) (da_cons (de_v (pv 3)) (da_nil))) rfl) (da_cons (de_str ez_rows) (da_cons (de_v (pv 1)) (da_nil)))))) (dss_one (ds_for (vs := [4, 5]) (di_enumL (de_v (pv 3)) (by rfl) T.n_enumerate) (dg_tup (dgs_cons (dg_name (pg_name (i := 4) nd rfl (Or.inl rfl))) (dgs_cons (dg_name (pg_name (i := 5) nd rfl (Or.inl rfl))) (dgs_nil))) rfl rfl rfl (tgs_len (tgs_len tgs_len0))) (dss_one (ds_expr (de_call (ok_require T) (hr.mono (by omega)) (by rfl) T.d_require.g T.d_require.k T.d_require.b (da_cons (de_and (de_call (ok_is_number T) (hr.mono (by omega)) (by rfl) T.d_is_number.g T.d_is_number.k T.d_is_number.b (da_cons (de_ix ix_seq opd_ix (de_v (pv 2)) (de_v (pv 4)) (fun _ _ => rfl)) (da_nil))) (de_and (de_cmp op_lt opd_lt (de_ix ix_seq opd_ix (de_v (pv 2)) (de_v (pv 4)) (fun _ _ => rfl)) (de_v (pv 1)) rfl) (de_one (de_cmp op_in_seq opd_in (de_ix ix_seq opd_ix (de_v (pv 2)) (de_v (pv 4)) (fun _ _ => rfl)) (de_failed hu1 (de_v (pv 0)) (de_v (pv 5)) T.cl T.nF (fun _ _ => rfl)) rfl)))) (da_cons (de_str ez_ahead) (da_cons (de_tup (da_cons (de_v (pv 1)) (da_cons (de_v (pv 4)) (da_nil)))) (da_nil))))))) PassesOwn.never)))


def u_lets_list : Ev → Option Out := sSeq (sDrop (eFn 3 m_require (aCons (eAnd (e1 (gIsi .tuple) (eVar 2)) (eCall gAll (aCons (eLc (iSeqT (eVar 2)) [7] (tgName 7) (bYes) (eFn 1 m_is_entry (aCons (eVar 7) (aNil)))) (aNil)))) (aCons (eC (.p (.str z_shape))) (aCons (eC (.p (.int (Int.negSucc 0)))) (aNil)))))) (sSeq (sDrop (eFn 3 m_require (aCons (op2 gEq (eCall gLen (aCons (eVar 2) (aNil))) (eCall gLen (aCons (eVar 1) (aNil)))) (aCons (eC (.p (.str z_many))) (aCons (eC (.p (.int (Int.negSucc 0)))) (aNil)))))) (sSeq (sSet (tgName 3) (eMake 2 m_mk (aCons (eVar 0) (aCons (eVar 1) (aNil))))) (sSeq (sFor (iEnT (eVar 2)) (tgTup (tgCons (tgName 4) (tgCons (tgTup (tgCons (tgName 5) (tgCons (tgName 6) (tgNil)))) (tgNil)))) (sIf (tB (op2 gEq (eVar 5) (eC (.p (.str z_first))))) (sDrop (eFn 3 m_require (aCons (op2 gIn (eCall gRepr (aCons (eVar 6) (aNil))) (eLc (iSeqT (eMeth 2 m_ListLook_region_of (eVar 3) (aCons (eVar 4) (aNil)))) [8] (tgName 8) (bYes) (eCall gRepr (aCons (eVar 8) (aNil))))) (aCons (eC (.p (.str z_state))) (aCons (eVar 4) (aNil)))))) (sDrop (eFn 3 m_check_idle (aCons (eVar 3) (aCons (eVar 4) (aCons (eVar 6) (aNil)))))))) (sRet (eCall gTuple (aCons (eLc (iEnT (eVar 2)) [4, 9] (tgTup (tgCons (tgName 4) (tgCons (tgName 9) (tgNil)))) (tB (op2 gEq (op2 gIx (eVar 9) (eC (.p (.int (Int.ofNat 0))))) (eC (.p (.str z_idle))))) (eVar 4)) (aNil)))))))
def m_lets_list : List D → Option D := runD 7 u_lets_list
theorem ok_lets_list (T : Kit K mg) : FnG P w K mg base 55 T.d_lets_list.f T.d_lets_list.fd P_lets_list (spD K T.C 3 m_lets_list) := fnDG T.d_lets_list.F sc_lets_list rfl fun cdv A outer s H E hG hr => by
  have nd : N_lets_list.Nodup := sc_lets_list.nd
  have hu1 := hu_of hr
  have hu64 := hr.units
  exact dss_cons (ds_expr (de_call (ok_require T) (hr.mono (by omega)) (by rfl) T.d_require.g T.d_require.k T.d_require.b (da_cons (de_and (de_isi .tuple (by rfl) T.n_isinstance (by rfl) T.n_tuple (by decide +kernel) (de_v (pv 2))) (de_one (de_callB (cr_all rfl) cld_all (by rfl) T.n_all (by decide +kernel) (da_cons (de_lc (own := [("one", 7)]) rfl nd (di_tup (de_v (pv 2))) (blkOk_by (N := N_lets_list) (sc := defScope s_lets_list) (by decide +kernel)) (fun _ _ _ _ _ => dg_name (pg_name (i := 7) nd rfl (Or.inl rfl))) (fun _ _ _ _ _ => dts_nil) (fun _ _ _ _ _ => de_call (ok_is_entry T) (hr.mono (by omega)) (by rfl) T.d_is_entry.g T.d_is_entry.k T.d_is_entry.b (da_cons (de_v (pv 7)) (da_nil)))) (da_nil))))) (da_cons (de_str ez_shape) (da_cons ((de_neg (i := 1))) (da_nil)))))) (dss_cons (ds_expr (de_call (ok_require T) (hr.mono (by omega)) (by rfl) T.d_require.g T.d_require.k T.d_require.b (da_cons (de_cmp (op_eq.or (op_eqD hu64)) opd_eq (de_callB call_len_seq cld_len (by rfl) T.n_len (by decide +kernel) (da_cons (de_v (pv 2)) (da_nil))) (de_callB call_len_seq cld_len (by rfl) T.n_len (by decide +kernel) (da_cons (de_v (pv 1)) (da_nil))) rfl) (da_cons (de_str ez_many) (da_cons ((de_neg (i := 1))) (da_nil)))))) (dss_cons (ds_set (ps_set (i := 3) nd rfl (Or.inl rfl) (DE.pe (de_make T.mkL (ok_mk T) (hr.mono (by omega)) (by rfl) T.g_C T.d_ListLook_init.b (da_cons (de_v (pv 0)) (da_cons (de_v (pv 1)) (da_nil))))))) (dss_cons (ds_for (vs := [4, 5, 6]) (di_enumT (de_v (pv 2)) (by rfl) T.n_enumerate) (dg_tup (dgs_cons (dg_name (pg_name (i := 4) nd rfl (Or.inl rfl))) (dgs_cons (dg_tup (dgs_cons (dg_name (pg_name (i := 5) nd rfl (Or.inl rfl))) (dgs_cons (dg_name (pg_name (i := 6) nd rfl (Or.inl rfl))) (dgs_nil))) rfl rfl rfl (tgs_len (tgs_len tgs_len0))) (dgs_nil))) rfl rfl rfl (tgs_len (tgs_len tgs_len0))) (dss_one (ds_if (dt_cmp (op_eq.or (op_eqD hu64)) opd_eq (de_v (pv 5)) (de_str ez_first) rfl) (dss_one (ds_expr (de_call (ok_require T) (hr.mono (by omega)) (by rfl) T.d_require.g T.d_require.k T.d_require.b (da_cons (de_cmp op_in_seq opd_in (de_callB (cr_repr hG hu64) cld_repr (by rfl) T.n_repr (by decide +kernel) (da_cons (de_v (pv 6)) (da_nil))) (de_lc (own := [("state", 8)]) rfl nd (di_tup (de_meth (de_v (pv 3)) T.cl T.d_ListLook_region_of.m (ok_ListLook_region_of T) (hr.mono (by omega)) T.d_ListLook_region_of.b (by decide +kernel) (da_cons (de_v (pv 4)) (da_nil)))) (blkOk_by (N := N_lets_list) (sc := defScope s_lets_list) (by decide +kernel)) (fun _ _ _ _ _ => dg_name (pg_name (i := 8) nd rfl (Or.inl rfl))) (fun _ _ _ _ _ => dts_nil) (fun _ _ _ _ _ => de_callB (cr_repr hG hu64) cld_repr (by rfl) T.n_repr (by decide +kernel) (da_cons (de_v (pv 8)) (da_nil)))) rfl) (da_cons (de_str ez_state) (da_cons (de_v (pv 4)) (da_nil))))))) (dss_one (ds_expr (de_call (ok_check_idle T) (hr.mono (by omega)) (by rfl) T.d_check_idle.g T.d_check_idle.k T.d_check_idle.b (da_cons (de_v (pv 3)) (da_cons (de_v (pv 4)) (da_cons (de_v (pv 6)) (da_nil))))))))) PassesOwn.never) (dss_one (ds_ret (de_callTy call_tuple_of cld_tuple (by rfl) T.n_tuple (by decide +kernel) (da_cons (de_lc (own := [("k", 4), ("entry", 9)]) rfl nd (di_enumT (de_v (pv 2)) (by rfl) T.n_enumerate) (blkOk_by (N := N_lets_list) (sc := defScope s_lets_list) (by decide +kernel)) (fun _ _ _ _ _ => dg_tup (dgs_cons (dg_name (pg_name (i := 4) nd rfl (Or.inl rfl))) (dgs_cons (dg_name (pg_name (i := 9) nd rfl (Or.inl rfl))) (dgs_nil))) rfl rfl rfl (tgs_len (tgs_len tgs_len0))) (fun _ _ _ _ _ => dts_one (dt_cmp (op_eq.or (op_eqD hu64)) opd_eq (de_ix ix_seq opd_ix (de_v (pv 9)) (de_int) (fun _ _ => rfl)) (de_str ez_idle) rfl)) (fun _ _ _ _ _ => de_v (pv 4))) (da_nil))))))))


def u_law_is_till_right : Ev → Option Out := sSeq (sSet (tgTup (tgCons (tgName 1) (tgCons (tgName 2) (tgNil)))) (eFn 1 m_law_till (aCons (eVar 0) (aNil)))) (sSeq (sIf (bOr (tB (op2 gNe (eFn 2 m_regions (aCons (eVar 1) (aCons (eVar 2) (aNil)))) (eTup (aCons (eTup (aCons (eTup (aCons (op2 gCat (eVar 0) (eC (.p (.int (Int.ofNat 4))))) (aNil))) (aNil))) (aCons (eTup (aCons (eTup (aCons (eVar 0) (aNil))) (aNil))) (aCons (eTup (aCons (eTup (aCons (op2 gCat (eVar 0) (eC (.p (.int (Int.ofNat 1))))) (aNil))) (aNil))) (aCons (eTup (aNil)) (aNil)))))))) (tB (op2 gNe (eFn 2 m_idle_checks (aCons (eVar 1) (aCons (eVar 2) (aNil)))) (eTup (aCons (eC (.p (.int (Int.ofNat 3)))) (aNil)))))) (sRet (eC (.p (.bool false)))) (sNext)) (sSeq (sIf (bOr (tB (op2 gNe (eFn 2 m_words_of_list (aCons (eVar 1) (aCons (eVar 2) (aNil)))) (eTup (aCons (eC (.p (.str z_full))) (aCons (eC (.p (.str z_low))) (aCons (eC (.p (.str z_none))) (aNil))))))) (tB (op2 gNe (eFn 2 m_least_list (aCons (eVar 1) (aCons (eVar 2) (aNil)))) (e1 (gCut none (some (Int.ofNat 3))) (eVar 2))))) (sRet (eC (.p (.bool false)))) (sNext)) (sSeq (sIf (tB (op2 gNe (eLc (iRg1 (eC (.p (.int (Int.ofNat 5))))) [4] (tgName 4) (bYes) (eFn 3 m_first_failing (aCons (eVar 1) (aCons (eVar 2) (aCons (eTup (aCons (op2 gCat (eVar 0) (eVar 4)) (aNil))) (aNil)))))) (eLst (aCons (eC (.p (.int (Int.ofNat 1)))) (aCons (eC (.p (.int (Int.ofNat 2)))) (aCons (eC (.p .none)) (aCons (eC (.p .none)) (aCons (eC (.p (.int (Int.ofNat 0)))) (aNil))))))))) (sRet (eC (.p (.bool false)))) (sNext)) (sSeq (sIf (bOr (tB (op2 gNe (eFn 2 m_must_ahead (aCons (eVar 1) (aCons (eVar 2) (aNil)))) (eTup (aCons (eTup (aCons (eC (.p (.int (Int.ofNat 1)))) (aCons (eC (.p (.int (Int.ofNat 2)))) (aNil)))) (aCons (eTup (aCons (eC (.p (.int (Int.ofNat 1)))) (aCons (eC (.p (.int (Int.ofNat 3)))) (aNil)))) (aNil)))))) (tB (op2 gNe (eLst (aCons (eFn 2 m_work (aCons (eVar 1) (aCons (eVar 2) (aNil)))) (aCons (eFn 2 m_work (aCons (eVar 1) (aCons (e1 (gCut none (some (Int.ofNat 3))) (eVar 2)) (aNil)))) (aNil)))) (eLst (aCons (eC (.p (.int (Int.ofNat 14)))) (aCons (eC (.p (.int (Int.ofNat 12)))) (aNil))))))) (sRet (eC (.p (.bool false)))) (sNext)) (sSeq (sIf (tB (op2 gNe (eFn 2 m_least_work (aCons (eVar 1) (aCons (e1 (gCut none (some (Int.ofNat 3))) (eVar 2)) (aNil)))) (eTup (aCons (eC (.p (.int (Int.ofNat 12)))) (aCons (eTup (aCons (eTup (aCons (eC (.p (.int (Int.ofNat 0)))) (aCons (eC (.p (.int (Int.ofNat 1)))) (aCons (eC (.p (.int (Int.ofNat 2)))) (aNil))))) (aCons (eTup (aCons (eC (.p (.int (Int.ofNat 1)))) (aCons (eC (.p (.int (Int.ofNat 0)))) (aCons (eC (.p (.int (Int.ofNat 2)))) (aNil))))) (aCons (eTup (aCons (eC (.p (.int (Int.ofNat 1)))) (aCons (eC (.p (.int (Int.ofNat 2)))) (aCons (eC (.p (.int (Int.ofNat 0)))) (aNil))))) (aNil))))) (aNil)))))) (sRet (eC (.p (.bool false)))) (sNext)) (sSeq (sIf (bOr (tB (op2 gNe (eGen 2 m_orders (aCons (eVar 1) (aCons (e1 (gCut none (some (Int.ofNat 3))) (eVar 2)) (aNil)))) (eLst (aCons (eTup (aCons (eC (.p (.int (Int.ofNat 0)))) (aCons (eC (.p (.int (Int.ofNat 1)))) (aCons (eC (.p (.int (Int.ofNat 2)))) (aNil))))) (aCons (eTup (aCons (eC (.p (.int (Int.ofNat 1)))) (aCons (eC (.p (.int (Int.ofNat 0)))) (aCons (eC (.p (.int (Int.ofNat 2)))) (aNil))))) (aCons (eTup (aCons (eC (.p (.int (Int.ofNat 1)))) (aCons (eC (.p (.int (Int.ofNat 2)))) (aCons (eC (.p (.int (Int.ofNat 0)))) (aNil))))) (aNil))))))) (tB (eFn 3 m_may_order (aCons (eVar 1) (aCons (eVar 2) (aCons (eTup (aCons (eC (.p (.int (Int.ofNat 3)))) (aCons (eC (.p (.int (Int.ofNat 1)))) (aCons (eC (.p (.int (Int.ofNat 2)))) (aCons (eC (.p (.int (Int.ofNat 0)))) (aNil)))))) (aNil))))))) (sRet (eC (.p (.bool false)))) (sNext)) (sSeq (sSet (tgName 3) (eCall gTuple (aCons (eLc (iSeqT (e1 (gCut none (some (Int.ofNat 3))) (eFn 2 m_regions (aCons (eVar 1) (aCons (eVar 2) (aNil)))))) [5] (tgName 5) (bYes) (eTup (aCons (eC (.p (.str z_first))) (aCons (op2 gIx (eVar 5) (eC (.p (.int (Int.ofNat 0))))) (aNil))))) (aNil)))) (sRet (op2 gEq (eFn 3 m_lets_list (aCons (eVar 1) (aCons (eVar 2) (aCons (op2 gCat (eVar 3) (eTup (aCons (eTup (aCons (eC (.p (.str z_idle))) (aCons (eTup (aCons (eC (.p (.int (Int.ofNat 1)))) (aNil))) (aNil)))) (aNil)))) (aNil))))) (eTup (aCons (eC (.p (.int (Int.ofNat 3)))) (aNil))))))))))))
def m_law_is_till_right : List D → Option D := runD 5 u_law_is_till_right
theorem ok_law_is_till_right (T : Kit K mg) : FnG P w K mg base 60 T.d_law_is_till_right.f T.d_law_is_till_right.fd P_law_is_till_right (spD K T.C 1 m_law_is_till_right) := fnDG T.d_law_is_till_right.F sc_law_is_till_right rfl fun cdv A outer s H E hG hr => by
  have nd : N_law_is_till_right.Nodup := sc_law_is_till_right.nd
  have hu1 := hu_of hr
  have hu64 := hr.units
  exact dss_cons (ds_asg (vs := [1, 2]) (de_call (ok_law_till T) (hr.mono (by omega)) (by rfl) T.d_law_till.g T.d_law_till.k T.d_law_till.b (da_cons (de_v (pv 0)) (da_nil))) (dg_tup (dgs_cons (dg_name (pg_name (i := 1) nd rfl (Or.inr rfl))) (dgs_cons (dg_name (pg_name (i := 2) nd rfl (Or.inr rfl))) (dgs_nil))) rfl rfl rfl (tgs_len (tgs_len tgs_len0)))) (dss_cons (ds_if (dt_w (dw_or (dt_cmp (op_ne.or (op_neD hu64)) opd_ne (de_call (ok_regions T) (hr.mono (by omega)) (by rfl) T.d_regions.g T.d_regions.k T.d_regions.b (da_cons (de_v (pv 1)) (da_cons (de_v (pv 2)) (da_nil)))) (de_tup (da_cons (de_tup (da_cons (de_tup (da_cons (de_bin (op_add.or op_catA) opd_cat (de_v (pv 0)) (de_int)) (da_nil))) (da_nil))) (da_cons (de_tup (da_cons (de_tup (da_cons (de_v (pv 0)) (da_nil))) (da_nil))) (da_cons (de_tup (da_cons (de_tup (da_cons (de_bin (op_add.or op_catA) opd_cat (de_v (pv 0)) (de_int)) (da_nil))) (da_nil))) (da_cons (de_tup (da_nil)) (da_nil)))))) rfl) (dw_or1 (dt_cmp (op_ne.or (op_neD hu64)) opd_ne (de_call (ok_idle_checks T) (hr.mono (by omega)) (by rfl) T.d_idle_checks.g T.d_idle_checks.k T.d_idle_checks.b (da_cons (de_v (pv 1)) (da_cons (de_v (pv 2)) (da_nil)))) (de_tup (da_cons (de_int) (da_nil))) rfl)))) (dss_one (ds_ret (de_bool))) (dss_nil)) (dss_cons (ds_if (dt_w (dw_or (dt_cmp (op_ne.or (op_neD hu64)) opd_ne (de_call (ok_words_of_list T) (hr.mono (by omega)) (by rfl) T.d_words_of_list.g T.d_words_of_list.k T.d_words_of_list.b (da_cons (de_v (pv 1)) (da_cons (de_v (pv 2)) (da_nil)))) (de_tup (da_cons (de_str ez_full) (da_cons (de_str ez_low) (da_cons (de_str ez_none) (da_nil))))) rfl) (dw_or1 (dt_cmp (op_ne.or (op_neD hu64)) opd_ne (de_call (ok_least_list T) (hr.mono (by omega)) (by rfl) T.d_least_list.g T.d_least_list.k T.d_least_list.b (da_cons (de_v (pv 1)) (da_cons (de_v (pv 2)) (da_nil)))) (de_cut (de_v (pv 2)) do_none do_int) rfl)))) (dss_one (ds_ret (de_bool))) (dss_nil)) (dss_cons (ds_if (dt_cmp (op_ne.or (op_neD hu64)) opd_ne (de_lc (own := [("_law_n", 4)]) rfl nd (di_range1 (de_int) (by rfl) T.n_range) (blkOk_by (N := N_law_is_till_right) (sc := defScope s_law_is_till_right) (by decide +kernel)) (fun _ _ _ _ _ => dg_name (pg_name (i := 4) nd rfl (Or.inl rfl))) (fun _ _ _ _ _ => dts_nil) (fun _ _ _ _ _ => de_call (ok_first_failing T) (hr.mono (by omega)) (by rfl) T.d_first_failing.g T.d_first_failing.k T.d_first_failing.b (da_cons (de_v (pv 1)) (da_cons (de_v (pv 2)) (da_cons (de_tup (da_cons (de_bin (op_add.or op_catA) opd_cat (de_v (pv 0)) (de_v (pv 4))) (da_nil))) (da_nil)))))) (de_lst (da_cons (de_int) (da_cons (de_int) (da_cons (de_none) (da_cons (de_none) (da_cons (de_int) (da_nil))))))) rfl) (dss_one (ds_ret (de_bool))) (dss_nil)) (dss_cons (ds_if (dt_w (dw_or (dt_cmp (op_ne.or (op_neD hu64)) opd_ne (de_call (ok_must_ahead T) (hr.mono (by omega)) (by rfl) T.d_must_ahead.g T.d_must_ahead.k T.d_must_ahead.b (da_cons (de_v (pv 1)) (da_cons (de_v (pv 2)) (da_nil)))) (de_tup (da_cons (de_tup (da_cons (de_int) (da_cons (de_int) (da_nil)))) (da_cons (de_tup (da_cons (de_int) (da_cons (de_int) (da_nil)))) (da_nil)))) rfl) (dw_or1 (dt_cmp (op_ne.or (op_neD hu64)) opd_ne (de_lst (da_cons (de_call (ok_work T) (hr.mono (by omega)) (by rfl) T.d_work.g T.d_work.k T.d_work.b (da_cons (de_v (pv 1)) (da_cons (de_v (pv 2)) (da_nil)))) (da_cons (de_call (ok_work T) (hr.mono (by omega)) (by rfl) T.d_work.g T.d_work.k T.d_work.b (da_cons (de_v (pv 1)) (da_cons (de_cut (de_v (pv 2)) do_none do_int) (da_nil)))) (da_nil)))) (de_lst (da_cons (de_int) (da_cons (de_int) (da_nil)))) rfl)))) (dss_one (ds_ret (de_bool))) (dss_nil)) (dss_cons (ds_if (dt_cmp (op_ne.or (op_neD hu64)) opd_ne (de_call (ok_least_work T) (hr.mono (by omega)) (by rfl) T.d_least_work.g T.d_least_work.k T.d_least_work.b (da_cons (de_v (pv 1)) (da_cons (de_cut (de_v (pv 2)) do_none do_int) (da_nil)))) (de_tup (da_cons (de_int) (da_cons (de_tup (da_cons (de_tup (da_cons (de_int) (da_cons (de_int) (da_cons (de_int) (da_nil))))) (da_cons (de_tup (da_cons (de_int) (da_cons (de_int) (da_cons (de_int) (da_nil))))) (da_cons (de_tup (da_cons (de_int) (da_cons (de_int) (da_cons (de_int) (da_nil))))) (da_nil))))) (da_nil)))) rfl) (dss_one (ds_ret (de_bool))) (dss_nil)) (dss_cons (ds_if (dt_w (dw_or (dt_cmp (op_ne.or (op_neD hu64)) opd_ne (de_gen (ok_orders T) (hr.mono (by omega)) (by rfl) T.d_orders.g T.d_orders.k T.d_orders.b (by rfl) T.n_list (da_cons (de_v (pv 1)) (da_cons (de_cut (de_v (pv 2)) do_none do_int) (da_nil)))) (de_lst (da_cons (de_tup (da_cons (de_int) (da_cons (de_int) (da_cons (de_int) (da_nil))))) (da_cons (de_tup (da_cons (de_int) (da_cons (de_int) (da_cons (de_int) (da_nil))))) (da_cons (de_tup (da_cons (de_int) (da_cons (de_int) (da_cons (de_int) (da_nil))))) (da_nil))))) rfl) (dw_or1 (dt_val (de_call (ok_may_order T) (hr.mono (by omega)) (by rfl) T.d_may_order.g T.d_may_order.k T.d_may_order.b (da_cons (de_v (pv 1)) (da_cons (de_v (pv 2)) (da_cons (de_tup (da_cons (de_int) (da_cons (de_int) (da_cons (de_int) (da_cons (de_int) (da_nil)))))) (da_nil))))))))) (dss_one (ds_ret (de_bool))) (dss_nil)) (dss_cons (ds_set (ps_set (i := 3) nd rfl (Or.inl rfl) (DE.pe (de_callTy call_tuple_of cld_tuple (by rfl) T.n_tuple (by decide +kernel) (da_cons (de_lc (own := [("_law_spots", 5)]) rfl nd (di_tup (de_cut (de_call (ok_regions T) (hr.mono (by omega)) (by rfl) T.d_regions.g T.d_regions.k T.d_regions.b (da_cons (de_v (pv 1)) (da_cons (de_v (pv 2)) (da_nil)))) do_none do_int)) (blkOk_by (N := N_law_is_till_right) (sc := defScope s_law_is_till_right) (by decide +kernel)) (fun _ _ _ _ _ => dg_name (pg_name (i := 5) nd rfl (Or.inl rfl))) (fun _ _ _ _ _ => dts_nil) (fun _ _ _ _ _ => de_tup (da_cons (de_str ez_first) (da_cons (de_ix ix_seq opd_ix (de_v (pv 5)) (de_int) (fun _ _ => rfl)) (da_nil))))) (da_nil)))))) (dss_one (ds_ret (de_cmp (op_eq.or (op_eqD hu64)) opd_eq (de_callG (ok_lets_list T) hG (hr.mono (by omega)) (by rfl) T.d_lets_list.g T.d_lets_list.k T.d_lets_list.b (da_cons (de_v (pv 1)) (da_cons (de_v (pv 2)) (da_cons (de_bin (op_add.or op_catA) opd_cat (de_v (pv 3)) (de_tup (da_cons (de_tup (da_cons (de_str ez_idle) (da_cons (de_tup (da_cons (de_int) (da_nil))) (da_nil)))) (da_nil)))) (da_nil))))) (de_tup (da_cons (de_int) (da_nil))) rfl))))))))))


def u_law_are_many_right : Ev → Option Out := sSeq (sTupAsg (aCons (eTup (aCons (eTup (aCons (eC (.p (.str z_x))) (aCons (eC (.p (.int (Int.ofNat 0)))) (aCons (eC (.p (.int (Int.ofNat 5)))) (aNil))))) (aCons (eTup (aCons (eC (.p (.str z_y))) (aCons (eC (.p (.int (Int.ofNat 0)))) (aCons (eC (.p (.int (Int.ofNat 5)))) (aNil))))) (aNil)))) (aCons (eTup (aCons (eC (.p (.str z_item))) (aCons (eC (.p (.str z_x))) (aNil)))) (aCons (eTup (aCons (eC (.p (.str z_item))) (aCons (eC (.p (.str z_y))) (aNil)))) (aNil)))) (dgCons (tgName 0) (dgCons (tgName 1) (dgCons (tgName 2) (dgNil))))) (sSeq (sSet (tgName 3) (eTup (aCons (eC (.p (.str z_ale))) (aCons (eC (.p (.str z_bad))) (aCons (eC (.p (.str z_cut))) (aCons (eC (.p (.str z_dry))) (aCons (eC (.p (.str z_end))) (aCons (eC (.p (.str z_far))) (aCons (eC (.p (.str z_gap))) (aCons (eC (.p (.str z_hot))) (aNil))))))))))) (sSeq (sSet (tgName 4) (eCall gTuple (aCons (eLc (iRg1 (eC (.p (.int (Int.ofNat 8))))) [8] (tgName 8) (bYes) (eTup (aCons (eC (.p (.str z_check))) (aCons (op2 gIx (eVar 3) (eVar 8)) (aCons (eTup (aCons (eC (.p (.str z_11))) (aCons (eTup (aCons (eC (.p (.str z_1))) (aCons (eVar 1) (aCons (eVar 2) (aNil))))) (aCons (op2 gSub (eC (.p (.int (Int.ofNat 10)))) (eVar 8)) (aNil))))) (aNil)))))) (aNil)))) (sSeq (sSet (tgName 5) (eLc (iSeqT (eFn 2 m_regions (aCons (eVar 0) (aCons (eVar 4) (aNil))))) [9] (tgName 9) (bYes) (eCall gLen (aCons (eVar 9) (aNil))))) (sSeq (sIf (bOr (tB (op2 gNe (eVar 5) (eLst (aCons (eC (.p (.int (Int.ofNat 1)))) (aCons (eC (.p (.int (Int.ofNat 2)))) (aCons (eC (.p (.int (Int.ofNat 3)))) (aCons (eC (.p (.int (Int.ofNat 4)))) (aCons (eC (.p (.int (Int.ofNat 5)))) (aCons (eC (.p (.int (Int.ofNat 6)))) (aCons (eC (.p (.int (Int.ofNat 5)))) (aCons (eC (.p (.int (Int.ofNat 4)))) (aNil)))))))))))) (tB (op2 gNe (eFn 2 m_idle_checks (aCons (eVar 0) (aCons (eVar 4) (aNil)))) (eTup (aNil))))) (sRet (eC (.p (.bool false)))) (sNext)) (sSeq (sIf (tB (op2 gNe (eFn 2 m_work (aCons (eVar 0) (aCons (eVar 4) (aNil)))) (op2 gCat (op2 gCat (op2 gCat (op2 gCat (op2 gCat (op2 gCat (op2 gCat (op2 gCat (eC (.p (.int (Int.ofNat 1)))) (eC (.p (.int (Int.ofNat 4))))) (eC (.p (.int (Int.ofNat 9))))) (eC (.p (.int (Int.ofNat 16))))) (eC (.p (.int (Int.ofNat 25))))) (eC (.p (.int (Int.ofNat 36))))) (eC (.p (.int (Int.ofNat 35))))) (eC (.p (.int (Int.ofNat 32))))) (op2 gMul (eC (.p (.int (Int.ofNat 8)))) (eC (.p (.int (Int.ofNat 6)))))))) (sRet (eC (.p (.bool false)))) (sNext)) (sSeq (sSet (tgName 6) (eCall gTuple (aCons (eCall gSortL (aCons (eFn 1 m_law_sum (aCons (eFn 2 m_regions (aCons (eVar 0) (aCons (eVar 4) (aNil)))) (aNil))) (aNil))) (aNil)))) (sSeq (sIf (bOr (tB (op2 gNe (eCall gLen (aCons (eFn 2 m_must_ahead (aCons (eVar 0) (aCons (eVar 4) (aNil)))) (aNil))) (eC (.p (.int (Int.ofNat 28)))))) (tB (op2 gNe (op2 gIx (eFn 2 m_regions (aCons (eVar 0) (aCons (e1 gRevT (eVar 4)) (aNil)))) (eC (.p (.int (Int.ofNat 0))))) (eVar 6)))) (sRet (eC (.p (.bool false)))) (sNext)) (sSeq (sSet (tgName 7) (eCall gTuple (aCons (eLc (iSeqT (eFn 2 m_regions (aCons (eVar 0) (aCons (eVar 4) (aNil))))) [9] (tgName 9) (bYes) (eTup (aCons (eC (.p (.str z_first))) (aCons (op2 gIx (eVar 9) (eC (.p (.int (Int.negSucc 0))))) (aNil))))) (aNil)))) (sRet (op2 gEq (eFn 3 m_lets_list (aCons (eVar 0) (aCons (eVar 4) (aCons (eVar 7) (aNil))))) (eTup (aNil))))))))))))
def m_law_are_many_right : List D → Option D := runD 10 u_law_are_many_right
theorem ok_law_are_many_right (T : Kit K mg) : FnG P w K mg base 60 T.d_law_are_many_right.f T.d_law_are_many_right.fd P_law_are_many_right (spD K T.C 0 m_law_are_many_right) := fnDG T.d_law_are_many_right.F sc_law_are_many_right rfl fun cdv A outer s H E hG hr => by
  have nd : N_law_are_many_right.Nodup := sc_law_are_many_right.nd
  have hu1 := hu_of hr
  have hu64 := hr.units
  exact dss_cons (ds_tupAsg (vs := [0, 1, 2]) (da_cons (de_tup (da_cons (de_tup (da_cons (de_str ez_x) (da_cons (de_int) (da_cons (de_int) (da_nil))))) (da_cons (de_tup (da_cons (de_str ez_y) (da_cons (de_int) (da_cons (de_int) (da_nil))))) (da_nil)))) (da_cons (de_tup (da_cons (de_str ez_item) (da_cons (de_str ez_x) (da_nil)))) (da_cons (de_tup (da_cons (de_str ez_item) (da_cons (de_str ez_y) (da_nil)))) (da_nil)))) (dgd_cons (dg_name (pg_name (i := 0) nd rfl (Or.inl rfl))) (dgd_cons (dg_name (pg_name (i := 1) nd rfl (Or.inr rfl))) (dgd_cons (dg_name (pg_name (i := 2) nd rfl (Or.inr rfl))) (dgd_nil)))) (hlen := (dgs_len (dgs_len (dgs_len dgs_len0))))) (dss_cons (ds_set (ps_set (i := 3) nd rfl (Or.inr rfl) (DE.pe (de_tup (da_cons (de_str ez_ale) (da_cons (de_str ez_bad) (da_cons (de_str ez_cut) (da_cons (de_str ez_dry) (da_cons (de_str ez_end) (da_cons (de_str ez_far) (da_cons (de_str ez_gap) (da_cons (de_str ez_hot) (da_nil))))))))))))) (dss_cons (ds_set (ps_set (i := 4) nd rfl (Or.inl rfl) (DE.pe (de_callTy call_tuple_of cld_tuple (by rfl) T.n_tuple (by decide +kernel) (da_cons (de_lc (own := [("_law_n", 8)]) rfl nd (di_range1 (de_int) (by rfl) T.n_range) (blkOk_by (N := N_law_are_many_right) (sc := defScope s_law_are_many_right) (by decide +kernel)) (fun _ _ _ _ _ => dg_name (pg_name (i := 8) nd rfl (Or.inl rfl))) (fun _ _ _ _ _ => dts_nil) (fun _ _ _ _ _ => de_tup (da_cons (de_str ez_check) (da_cons (de_ix ix_seq opd_ix (de_v (pv 3)) (de_v (pv 8)) (fun _ _ => rfl)) (da_cons (de_tup (da_cons (de_str ez_11) (da_cons (de_tup (da_cons (de_str ez_1) (da_cons (de_v (pv 1)) (da_cons (de_v (pv 2)) (da_nil))))) (da_cons (de_bin op_sub opd_sub (de_int) (de_v (pv 8))) (da_nil))))) (da_nil)))))) (da_nil)))))) (dss_cons (ds_setLc (j := 5) (own := [("_law_area", 9)]) rfl nd rfl rfl (sw_true rfl rfl rfl (by decide +kernel)) (di_tup (de_call (ok_regions T) (hr.mono (by omega)) (by rfl) T.d_regions.g T.d_regions.k T.d_regions.b (da_cons (de_v (pv 0)) (da_cons (de_v (pv 4)) (da_nil))))) (blkOk_by (N := N_law_are_many_right) (sc := defScope s_law_are_many_right) (by decide +kernel)) (fun _ _ _ _ _ => dg_name (pg_name (i := 9) nd rfl (Or.inl rfl))) (fun _ _ _ _ _ => dts_nil) (fun _ _ _ _ _ => de_callB call_len_seq cld_len (by rfl) T.n_len (by decide +kernel) (da_cons (de_v (pv 9)) (da_nil)))) (dss_cons (ds_if (dt_w (dw_or (dt_cmp (op_ne.or (op_neD hu64)) opd_ne (de_v (pv 5)) (de_lst (da_cons (de_int) (da_cons (de_int) (da_cons (de_int) (da_cons (de_int) (da_cons (de_int) (da_cons (de_int) (da_cons (de_int) (da_cons (de_int) (da_nil)))))))))) rfl) (dw_or1 (dt_cmp (op_ne.or (op_neD hu64)) opd_ne (de_call (ok_idle_checks T) (hr.mono (by omega)) (by rfl) T.d_idle_checks.g T.d_idle_checks.k T.d_idle_checks.b (da_cons (de_v (pv 0)) (da_cons (de_v (pv 4)) (da_nil)))) (de_tup (da_nil)) rfl)))) (dss_one (ds_ret (de_bool))) (dss_nil)) (dss_cons (ds_if (dt_cmp (op_ne.or (op_neD hu64)) opd_ne (de_call (ok_work T) (hr.mono (by omega)) (by rfl) T.d_work.g T.d_work.k T.d_work.b (da_cons (de_v (pv 0)) (da_cons (de_v (pv 4)) (da_nil)))) (de_bin (op_add.or op_catA) opd_cat (de_bin (op_add.or op_catA) opd_cat (de_bin (op_add.or op_catA) opd_cat (de_bin (op_add.or op_catA) opd_cat (de_bin (op_add.or op_catA) opd_cat (de_bin (op_add.or op_catA) opd_cat (de_bin (op_add.or op_catA) opd_cat (de_bin (op_add.or op_catA) opd_cat (de_int) (de_int)) (de_int)) (de_int)) (de_int)) (de_int)) (de_int)) (de_int)) (de_bin (op_mul.or op_repT) opd_mul (de_int) (de_int))) rfl) (dss_one (ds_ret (de_bool))) (dss_nil)) (dss_cons (ds_set (ps_set (i := 6) nd rfl (Or.inl rfl) (DE.pe (de_callTy call_tuple_of cld_tuple (by rfl) T.n_tuple (by decide +kernel) (da_cons (de_callB cr_sorts cld_sorts (by rfl) T.n_sorted (by decide +kernel) (da_cons (de_call (ok_law_sum T) (hr.mono (by omega)) (by rfl) T.d_law_sum.g T.d_law_sum.k T.d_law_sum.b (da_cons (de_call (ok_regions T) (hr.mono (by omega)) (by rfl) T.d_regions.g T.d_regions.k T.d_regions.b (da_cons (de_v (pv 0)) (da_cons (de_v (pv 4)) (da_nil)))) (da_nil))) (da_nil))) (da_nil)))))) (dss_cons (ds_if (dt_w (dw_or (dt_cmp (op_ne.or (op_neD hu64)) opd_ne (de_callB call_len_seq cld_len (by rfl) T.n_len (by decide +kernel) (da_cons (de_call (ok_must_ahead T) (hr.mono (by omega)) (by rfl) T.d_must_ahead.g T.d_must_ahead.k T.d_must_ahead.b (da_cons (de_v (pv 0)) (da_cons (de_v (pv 4)) (da_nil)))) (da_nil))) (de_int) rfl) (dw_or1 (dt_cmp (op_ne.or (op_neD hu64)) opd_ne (de_ix ix_seq opd_ix (de_call (ok_regions T) (hr.mono (by omega)) (by rfl) T.d_regions.g T.d_regions.k T.d_regions.b (da_cons (de_v (pv 0)) (da_cons (de_rev (de_v (pv 4))) (da_nil)))) (de_int) (fun _ _ => rfl)) (de_v (pv 6)) rfl)))) (dss_one (ds_ret (de_bool))) (dss_nil)) (dss_cons (ds_set (ps_set (i := 7) nd rfl (Or.inl rfl) (DE.pe (de_callTy call_tuple_of cld_tuple (by rfl) T.n_tuple (by decide +kernel) (da_cons (de_lc (own := [("_law_area", 9)]) rfl nd (di_tup (de_call (ok_regions T) (hr.mono (by omega)) (by rfl) T.d_regions.g T.d_regions.k T.d_regions.b (da_cons (de_v (pv 0)) (da_cons (de_v (pv 4)) (da_nil))))) (blkOk_by (N := N_law_are_many_right) (sc := defScope s_law_are_many_right) (by decide +kernel)) (fun _ _ _ _ _ => dg_name (pg_name (i := 9) nd rfl (Or.inl rfl))) (fun _ _ _ _ _ => dts_nil) (fun _ _ _ _ _ => de_tup (da_cons (de_str ez_first) (da_cons (de_ix ix_seq opd_ix (de_v (pv 9)) ((de_neg (i := 1))) (fun _ _ => rfl)) (da_nil))))) (da_nil)))))) (dss_one (ds_ret (de_cmp (op_eq.or (op_eqD hu64)) opd_eq (de_callG (ok_lets_list T) hG (hr.mono (by omega)) (by rfl) T.d_lets_list.g T.d_lets_list.k T.d_lets_list.b (da_cons (de_v (pv 0)) (da_cons (de_v (pv 4)) (da_cons (de_v (pv 7)) (da_nil))))) (de_tup (da_nil)) rfl)))))))))))

end
end FF
/-! ## LA -/
namespace FF
open PySem PySem.Spec PyProof.Rows L2
/-! ### what the law draws -/
def spSrc (K : PySem.W.Frag) : Sp := fun vs H Q _ => ∃ (b : Addr) (ns : List Int), vs = [.ref b] ∧ SqL K H b (ns.map V.int) ∧
  ∀ (a L : Addr) (ms : List Int) (H' : Hp), Same H H' → H' a = some (.lst [.ref L, .int 0, .int 0, .int 0]) → H' L = some (.lst (ms.map V.int)) → H a = none → Q (.ref a) H'
theorem cut_ints (ns : List Int) (lo hi : Option Int) : ∃ ms : List Int, cutV (ns.map V.int) lo hi = ms.map V.int := by
  unfold cutV
  exact ⟨_, by rw [← List.map_drop, ← List.map_take]⟩
section
variable {P : Program} {w : World} {K : PySem.W.Frag} {mg : Str → Option Value} {base : Heap}
theorem ok_law_source (T : Kit K mg) : FnOk P w K mg base (L2.CX P w) 1 T.d_law_source.f T.d_law_source.fd P_law_source (spSrc K) := by
  refine T.d_law_source.F.okX sc_law_source (fun vs H Q E h => ?_) (fun cdv A outer s H vs Q E hr h => ?_)
  · obtain ⟨b, ns, rfl, _⟩ := h
    rfl
  · refine ⟨_, pss_one (ps_ret (pe_lst (pa_cons (pe_slice sl_list (pv 0) (DO.po do_none) (DO.po do_int)) (pa_cons pe_int (pa_cons pe_int (pa_cons pe_int pa_nil)))))), ?_⟩
    obtain ⟨b, ns, rfl, hs, k⟩ := h
    obtain ⟨ms, hms⟩ := cut_ints ns none (some 63)
    refine ⟨_, rfl, b, _, rfl, hs, fun p np => ⟨by show 4 ≤ sizeLine; rw [sizeLine_eq]; decide, fun q nq => ?_⟩⟩
    rw [show cutV (ns.map V.int) none (some 63) = ms.map V.int from hms] at nq ⊢
    have qp : q ≠ p := fun z => by rw [z, upd_same] at nq; cases nq
    refine k q p ms _ ((same_new np).trans (same_new nq)) upd_same ?_ ?_
    · rw [upd_ne (Ne.symm qp), upd_same]
    · rw [upd_ne qp] at nq
      exact nq
theorem okDs_ints : ∀ (n : Nat) (ns : List Int), okDs (n + 1) (ns.map PyData.int) = true
  | _, [] => rfl
  | n, i :: ns => by
    show (if okD (n + 1) (.int i) = true then okDs (n + 1) (ns.map PyData.int) else false) = true
    rw [if_pos (by simp [okD]), okDs_ints n ns]
theorem shaped_ints (ns : List Int) : SeqAt.shaped (.list (ns.map .int)) = true := okD_shaped (show okD 8 (.list (ns.map .int)) = true from okDs_ints 6 ns)
theorem iffT {c : Bool} {A B : Prop} (h : c = true) (x : A) : if c = true then A else B := by rw [if_pos h]; exact x
theorem iffF {c : Bool} {A B : Prop} (h : c = false) (x : B) : if c = true then A else B := by rw [if_neg (by rw [h]; exact Bool.false_ne_true)]; exact x
def spDraw : Sp := fun vs H Q _ => ∃ (a L : Addr) (b i r t : Int) (ns : List Int), vs = [.ref a, .int b] ∧ 0 < b ∧ b < 1073741824 ∧ H a = some (.lst [.ref L, .int i, .int r, .int t]) ∧ H L = some (.lst (ns.map V.int)) ∧ L ≠ a ∧ 0 ≤ t ∧ t ≤ 1000 ∧
  ∀ (d i' r' : Int) (H' : Hp), 0 ≤ d → d < b → SB a H H' → H' a = some (.lst [.ref L, .int i', .int r', .int (t + 1)]) → Q (.int d) H'
theorem ok_law_draw (T : Kit K mg) : FnOk P w K mg base (L2.CX P w) 1 T.d_law_draw.f T.d_law_draw.fd P_law_draw spDraw := by
  refine T.d_law_draw.F.okX sc_law_draw (fun vs H Q E h => ?_) (fun cdv A outer s H vs Q E hr h => ?_)
  · obtain ⟨a, L, b, i, r, t, ns, rfl, _⟩ := h
    rfl
  · have nd : N_law_draw.Nodup := sc_law_draw.nd
    have hu1 := hu_of hr
    have hu64 := hr.units
    refine ⟨_, pss_cons (ps_set (i := 2) nd rfl (Or.inl rfl) (pe_op op_add (pe_ix ix_list (pv 0) pe_int (fun _ _ => rfl)) pe_int))
      (pss_cons (ps_asg (pv 2) (pg_sub (pv 0) pe_int set_list))
      (pss_cons (ps_if (pt_cmpR op_gt (pe_ix ix_list (pv 0) pe_int (fun _ _ => rfl)) pe_int (nomark _))
        (pss_cons (ps_set (i := 3) nd rfl (Or.inl rfl) (pe_op op_mod (pe_callTy call_int1 (by rfl) T.n_int (by decide +kernel) (pa_cons (pe_ix ix_list (pv 0) pe_int (fun _ _ => rfl)) pa_nil)) (pv 1)))
          (pss_cons (ps_asg (pe_op op_fdiv (pe_ix ix_list (pv 0) pe_int (fun _ _ => rfl)) (pv 1)) (pg_sub (pv 0) pe_int set_list))
            (pss_one (ps_ret (pv 3))))) pss_nil)
      (pss_cons (ps_set (i := 4) nd rfl (Or.inl rfl) (pe_ix ix_list (pv 0) pe_int (fun _ _ => rfl)))
      (pss_cons (ps_asg (pe_op op_add (pv 4) pe_int) (pg_sub (pv 0) pe_int set_list))
      (pss_cons (ps_set (i := 5) nd rfl (Or.inl rfl) (pe_ifExp (pt_cmpR (op_ne.or (op_neD hu64)) (pe_ix ix_list (pv 0) pe_int (fun _ _ => rfl)) (pe_lst pa_nil) (nomark _))
          (pe_ix ix_list (pe_ix ix_list (pv 0) pe_int (fun _ _ => rfl)) (pe_op op_mod (pe_callTy call_int1 (by rfl) T.n_int (by decide +kernel) (pa_cons (pv 4) pa_nil)) (pe_callB call_len_seq (by rfl) T.n_len (by decide +kernel) (pa_cons (pe_ix ix_list (pv 0) pe_int (fun _ _ => rfl)) pa_nil))) (fun _ _ => rfl)) pe_int))
      (pss_cons (ps_if (PW.pt (pw_and (pt_cmpR op_ge (pv 5) (pe_op op_pow pe_int pe_int) (nomark _)) (pw_and1 (pt_cmpR op_lt (pv 4) (pe_callB call_len_seq (by rfl) T.n_len (by decide +kernel) (pa_cons (pe_ix ix_list (pv 0) pe_int (fun _ _ => rfl)) pa_nil)) (nomark _)))))
        (pss_cons (ps_asg (pe_op op_fdiv (pv 5) (pv 1)) (pg_sub (pv 0) pe_int set_list))
          (pss_one (ps_ret (pe_op op_mod (pe_callTy call_int1 (by rfl) T.n_int (by decide +kernel) (pa_cons (pv 5) pa_nil)) (pv 1))))) pss_nil)
      (pss_cons (ps_set (i := 6) nd rfl (Or.inl rfl) (pe_op op_mod (pe_callTy call_int1 (by rfl) T.n_int (by decide +kernel) (pa_cons (pe_op op_pow (pe_op op_add (pe_op op_add (pe_op op_mod (pe_callTy call_int1 (by rfl) T.n_int (by decide +kernel) (pa_cons (pv 5) pa_nil)) pe_int) (pe_op op_mul pe_int (pv 2))) pe_int) pe_int) pa_nil)) pe_int))
      (pss_one (ps_ret (pe_op op_mod (pe_callTy call_int1 (by rfl) T.n_int (by decide +kernel) (pa_cons (pe_op op_fdiv (pe_op op_mod (pe_callTy call_int1 (by rfl) T.n_int (by decide +kernel) (pa_cons (pe_op op_pow (pe_op op_add (pv 6) (pe_op op_mul pe_int (pv 2))) pe_int) pa_nil)) pe_int) pe_int) pa_nil)) (pv 1)))))))))))
      , ?_⟩
    obtain ⟨a, L, b, i, r, t, ns, rfl, hb0, hb1, ha, hL, hLa, ht0, ht1, k⟩ := h
    -- turn = src[3] + 1; src[3] = turn
    refine ⟨_, rfl, a, _, 3, _, rfl, rfl, SqL.of ha, rfl, t, 1, rfl, rfl, ?_⟩
    refine ⟨_, rfl, _, rfl, a, _, 3, 3, rfl, rfl, ha, rfl, ?_⟩
    have sb1 : SB a H (upd H a (.lst [.ref L, .int i, .int r, .int (t + 1)])) := fun c o n e => by rw [upd_ne n]; exact e
    have ha1 : (upd H a (.lst [.ref L, .int i, .int r, .int (t + 1)])) a = some (.lst [.ref L, .int i, .int r, .int (t + 1)]) := upd_same
    have hL1 := sb1 _ _ hLa hL
    refine ⟨_, rfl, a, _, 2, _, rfl, rfl, SqL.of ha1, rfl, r, 0, rfl, rfl, _, rfl, ?_⟩
    by_cases c1 : (0 : Int) < r
    · refine iffT (decide_eq_true c1) ?_
      refine ⟨_, rfl, a, _, 2, _, rfl, rfl, SqL.of ha1, rfl, .inl ⟨r, rfl, _, rfl, r, b, rfl, rfl, hb0, ?_⟩⟩
      refine ⟨_, rfl, a, _, 2, _, rfl, rfl, SqL.of ha1, rfl, _, rfl, r, b, rfl, rfl, ⟨hb0, hb1⟩, ?_⟩
      refine ⟨_, rfl, a, _, 2, 2, rfl, rfl, ha1, rfl, ?_⟩
      refine ⟨_, rfl, ?_⟩
      exact k _ i (r / b) _ (Int.emod_nonneg _ (by omega)) (Int.emod_lt_of_pos _ hb0) (sb1.trans fun c o n e => by rw [upd_ne n]; exact e) upd_same
    · refine iffF (decide_eq_false c1) ?_
      -- at = src[1]; src[1] = at + 1
      refine ⟨_, rfl, a, _, 1, _, rfl, rfl, SqL.of ha1, rfl, ?_⟩
      refine ⟨_, rfl, i, 1, rfl, rfl, ?_⟩
      refine ⟨_, rfl, a, _, 1, 1, rfl, rfl, ha1, rfl, ?_⟩
      have sb2 : SB a H (upd (upd H a (.lst [.ref L, .int i, .int r, .int (t + 1)])) a (.lst [.ref L, .int (i + 1), .int r, .int (t + 1)])) := sb1.trans fun c o n e => by rw [upd_ne n]; exact e
      have ha2 : (upd (upd H a (.lst [.ref L, .int i, .int r, .int (t + 1)])) a (.lst [.ref L, .int (i + 1), .int r, .int (t + 1)])) a = some (.lst [.ref L, .int (i + 1), .int r, .int (t + 1)]) := upd_same
      have hL2 := sb2 _ _ hLa hL
      have hdp : Dp K (upd (upd H a (.lst [.ref L, .int i, .int r, .int (t + 1)])) a (.lst [.ref L, .int (i + 1), .int r, .int (t + 1)])) (.ref L) (.list (ns.map .int)) := .lst (SqL.of hL2) (ints_dp ns)
      refine ⟨_, rfl, a, _, 0, _, rfl, rfl, SqL.of ha2, rfl, by show 0 ≤ sizeLine; rw [sizeLine_eq]; decide, fun p np => ?_⟩
      have sp := same_new (o := HO.lst []) np
      have sb3 := sb2.trans (Same.sb (a := a) sp)
      have ha3 := sp _ _ ha2
      have hL3 := sp _ _ hL2
      have hde : Dp K (upd (upd (upd H a (.lst [.ref L, .int i, .int r, .int (t + 1)])) a (.lst [.ref L, .int (i + 1), .int r, .int (t + 1)])) p (.lst [])) (.ref p) (.list []) := .lst (SqL.of upd_same) .nil
      refine .inr ⟨_, _, Dp_mono sp _ _ hdp, hde, shaped_ints ns, rfl, _, rfl, ?_⟩
      cases ns with
      | nil =>
        refine iffF rfl ?_
        have cm := Int.emod_nonneg (49) (show (1000357 : Int) ≠ 0 by decide)
        have cn := Int.emod_lt_of_pos (49) (show (0 : Int) < 1000357 by decide)
        refine ⟨_, rfl, 10, 18, rfl, rfl, ⟨by decide, by decide, by decide⟩, 49, _, rfl, rfl, _, rfl, ?_⟩
        by_cases c2 : ((10 : Int) ^ (18 : Int).toNat) ≤ (49)
        · refine iffT (decide_eq_true c2) ?_
          refine ⟨_, rfl, _, rfl, a, _, 0, _, rfl, rfl, SqL.of ha3, rfl, L, _, rfl, .inl (SqL.of hL3), i, _, rfl, rfl, _, rfl, ?_⟩
          by_cases c3 : i < ((([] : List Int).map V.int).length : Int)
          · refine iffT (decide_eq_true c3) ?_
            refine ⟨_, rfl, _, rfl, 49, b, rfl, rfl, ⟨hb0, hb1⟩, ?_⟩
            refine ⟨_, rfl, a, _, 2, 2, rfl, rfl, ha3, rfl, ?_⟩
            refine ⟨_, rfl, .inl ⟨49, rfl, _, rfl, 49, b, rfl, rfl, hb0, ?_⟩⟩
            exact k _ (i + 1) ((49) / b) _ (Int.emod_nonneg _ (by omega)) (Int.emod_lt_of_pos _ hb0) (sb3.trans fun c o n e => by rw [upd_ne n]; exact e) upd_same
          · refine iffF (decide_eq_false c3) ?_
            have p1 : CPow ((49) % 1000357 + 8753 * (t + 1) + 109) 3 := ⟨by decide, by decide, by omega⟩
            refine ⟨_, rfl, .inl ⟨49, rfl, 49, 1000357, rfl, rfl, (show (0 : Int) < 1000357 by decide), _, rfl, 8753, t + 1, rfl, rfl, .inl ⟨by decide, by decide⟩, _, _, rfl, rfl, _, _, rfl, rfl, _, 3, rfl, rfl, p1, .inl ⟨_, rfl, _, 2147483647, rfl, rfl, (show (0 : Int) < 2147483647 by decide), ?_⟩⟩⟩
            generalize (((49) % 1000357 + 8753 * (t + 1) + 109) ^ (3 : Int).toNat) = z
            have p2 : CPow (z % 2147483647 + 70891 * (t + 1)) 3 := by
              have h1 := Int.emod_nonneg z (show (2147483647 : Int) ≠ 0 by decide)
              have h2 := Int.emod_lt_of_pos z (show (0 : Int) < 2147483647 by decide)
              exact ⟨by decide, by decide, by omega⟩
            refine ⟨_, rfl, _, rfl, 70891, t + 1, rfl, rfl, .inl ⟨by decide, by decide⟩, _, _, rfl, rfl, _, 3, rfl, rfl, p2, .inl ⟨_, rfl, _, 2147483587, rfl, rfl, (show (0 : Int) < 2147483587 by decide), _, 128, rfl, rfl, ⟨by decide, by decide⟩, .inl ⟨_, rfl, _, rfl, _, b, rfl, rfl, hb0, ?_⟩⟩⟩
            exact k _ (i + 1) r _ (Int.emod_nonneg _ (by omega)) (Int.emod_lt_of_pos _ hb0) sb3 ha3
        · refine iffF (decide_eq_false c2) ?_
          refine iffF rfl ?_
          have p1 : CPow ((49) % 1000357 + 8753 * (t + 1) + 109) 3 := ⟨by decide, by decide, by omega⟩
          refine ⟨_, rfl, .inl ⟨49, rfl, 49, 1000357, rfl, rfl, (show (0 : Int) < 1000357 by decide), _, rfl, 8753, t + 1, rfl, rfl, .inl ⟨by decide, by decide⟩, _, _, rfl, rfl, _, _, rfl, rfl, _, 3, rfl, rfl, p1, .inl ⟨_, rfl, _, 2147483647, rfl, rfl, (show (0 : Int) < 2147483647 by decide), ?_⟩⟩⟩
          generalize (((49) % 1000357 + 8753 * (t + 1) + 109) ^ (3 : Int).toNat) = z
          have p2 : CPow (z % 2147483647 + 70891 * (t + 1)) 3 := by
            have h1 := Int.emod_nonneg z (show (2147483647 : Int) ≠ 0 by decide)
            have h2 := Int.emod_lt_of_pos z (show (0 : Int) < 2147483647 by decide)
            exact ⟨by decide, by decide, by omega⟩
          refine ⟨_, rfl, _, rfl, 70891, t + 1, rfl, rfl, .inl ⟨by decide, by decide⟩, _, _, rfl, rfl, _, 3, rfl, rfl, p2, .inl ⟨_, rfl, _, 2147483587, rfl, rfl, (show (0 : Int) < 2147483587 by decide), _, 128, rfl, rfl, ⟨by decide, by decide⟩, .inl ⟨_, rfl, _, rfl, _, b, rfl, rfl, hb0, ?_⟩⟩⟩
          exact k _ (i + 1) r _ (Int.emod_nonneg _ (by omega)) (Int.emod_lt_of_pos _ hb0) sb3 ha3
      | cons n ns =>
        refine iffT rfl ?_
        have hlen : (0 : Int) < (((n :: ns).map V.int).length : Int) := by simp
        have g0 := Int.emod_nonneg i (show (((n :: ns).map V.int).length : Int) ≠ 0 by omega)
        have g1 := Int.emod_lt_of_pos i hlen
        obtain ⟨cell, hcell⟩ : ∃ c : Int, atI ((n :: ns).map V.int) (i % (((n :: ns).map V.int).length : Int)) = some (V.int c) := by
          unfold atI ixN
          rw [if_pos g0, if_pos g1]
          have hj : (i % (((n :: ns).map V.int).length : Int)).toNat < (n :: ns).length := by
            rw [List.length_map] at g0 g1 ⊢
            omega
          refine ⟨(n :: ns)[(i % (((n :: ns).map V.int).length : Int)).toNat], ?_⟩
          show ((n :: ns).map V.int)[_]? = _
          rw [List.getElem?_map, List.getElem?_eq_getElem hj]
          rfl
        refine ⟨_, rfl, a, _, 0, _, rfl, rfl, SqL.of ha3, rfl, _, rfl, .inl ⟨i, rfl, _, rfl, a, _, 0, _, rfl, rfl, SqL.of ha3, rfl, L, _, rfl, .inl (SqL.of hL3), i, _, rfl, rfl, hlen, L, _, _, _, rfl, rfl, SqL.of hL3, hcell, ?_⟩⟩
        have cm := Int.emod_nonneg (cell) (show (1000357 : Int) ≠ 0 by decide)
        have cn := Int.emod_lt_of_pos (cell) (show (0 : Int) < 1000357 by decide)
        refine ⟨_, rfl, 10, 18, rfl, rfl, ⟨by decide, by decide, by decide⟩, cell, _, rfl, rfl, _, rfl, ?_⟩
        by_cases c2 : ((10 : Int) ^ (18 : Int).toNat) ≤ (cell)
        · refine iffT (decide_eq_true c2) ?_
          refine ⟨_, rfl, _, rfl, a, _, 0, _, rfl, rfl, SqL.of ha3, rfl, L, _, rfl, .inl (SqL.of hL3), i, _, rfl, rfl, _, rfl, ?_⟩
          by_cases c3 : i < (((n :: ns).map V.int).length : Int)
          · refine iffT (decide_eq_true c3) ?_
            refine ⟨_, rfl, _, rfl, cell, b, rfl, rfl, ⟨hb0, hb1⟩, ?_⟩
            refine ⟨_, rfl, a, _, 2, 2, rfl, rfl, ha3, rfl, ?_⟩
            refine ⟨_, rfl, .inl ⟨cell, rfl, _, rfl, cell, b, rfl, rfl, hb0, ?_⟩⟩
            exact k _ (i + 1) ((cell) / b) _ (Int.emod_nonneg _ (by omega)) (Int.emod_lt_of_pos _ hb0) (sb3.trans fun c o n e => by rw [upd_ne n]; exact e) upd_same
          · refine iffF (decide_eq_false c3) ?_
            have p1 : CPow ((cell) % 1000357 + 8753 * (t + 1) + 109) 3 := ⟨by decide, by decide, by omega⟩
            refine ⟨_, rfl, .inl ⟨cell, rfl, cell, 1000357, rfl, rfl, (show (0 : Int) < 1000357 by decide), _, rfl, 8753, t + 1, rfl, rfl, .inl ⟨by decide, by decide⟩, _, _, rfl, rfl, _, _, rfl, rfl, _, 3, rfl, rfl, p1, .inl ⟨_, rfl, _, 2147483647, rfl, rfl, (show (0 : Int) < 2147483647 by decide), ?_⟩⟩⟩
            generalize (((cell) % 1000357 + 8753 * (t + 1) + 109) ^ (3 : Int).toNat) = z
            have p2 : CPow (z % 2147483647 + 70891 * (t + 1)) 3 := by
              have h1 := Int.emod_nonneg z (show (2147483647 : Int) ≠ 0 by decide)
              have h2 := Int.emod_lt_of_pos z (show (0 : Int) < 2147483647 by decide)
              exact ⟨by decide, by decide, by omega⟩
            refine ⟨_, rfl, _, rfl, 70891, t + 1, rfl, rfl, .inl ⟨by decide, by decide⟩, _, _, rfl, rfl, _, 3, rfl, rfl, p2, .inl ⟨_, rfl, _, 2147483587, rfl, rfl, (show (0 : Int) < 2147483587 by decide), _, 128, rfl, rfl, ⟨by decide, by decide⟩, .inl ⟨_, rfl, _, rfl, _, b, rfl, rfl, hb0, ?_⟩⟩⟩
            exact k _ (i + 1) r _ (Int.emod_nonneg _ (by omega)) (Int.emod_lt_of_pos _ hb0) sb3 ha3
        · refine iffF (decide_eq_false c2) ?_
          refine iffF rfl ?_
          have p1 : CPow ((cell) % 1000357 + 8753 * (t + 1) + 109) 3 := ⟨by decide, by decide, by omega⟩
          refine ⟨_, rfl, .inl ⟨cell, rfl, cell, 1000357, rfl, rfl, (show (0 : Int) < 1000357 by decide), _, rfl, 8753, t + 1, rfl, rfl, .inl ⟨by decide, by decide⟩, _, _, rfl, rfl, _, _, rfl, rfl, _, 3, rfl, rfl, p1, .inl ⟨_, rfl, _, 2147483647, rfl, rfl, (show (0 : Int) < 2147483647 by decide), ?_⟩⟩⟩
          generalize (((cell) % 1000357 + 8753 * (t + 1) + 109) ^ (3 : Int).toNat) = z
          have p2 : CPow (z % 2147483647 + 70891 * (t + 1)) 3 := by
            have h1 := Int.emod_nonneg z (show (2147483647 : Int) ≠ 0 by decide)
            have h2 := Int.emod_lt_of_pos z (show (0 : Int) < 2147483647 by decide)
            exact ⟨by decide, by decide, by omega⟩
          refine ⟨_, rfl, _, rfl, 70891, t + 1, rfl, rfl, .inl ⟨by decide, by decide⟩, _, _, rfl, rfl, _, 3, rfl, rfl, p2, .inl ⟨_, rfl, _, 2147483587, rfl, rfl, (show (0 : Int) < 2147483587 by decide), _, 128, rfl, rfl, ⟨by decide, by decide⟩, .inl ⟨_, rfl, _, rfl, _, b, rfl, rfl, hb0, ?_⟩⟩⟩
          exact k _ (i + 1) r _ (Int.emod_nonneg _ (by omega)) (Int.emod_lt_of_pos _ hb0) sb3 ha3
end
end FF
/-! ## FYH -/
namespace FF
open PySem PySem.Spec PyProof.Rows L2

/-! ### Base.__init__(self, ..), Base a class of the text whose __init__ is the built-in one -/
structure BaseI (K : PySem.W.Frag) (C0 : Addr) : Prop where
  rd : PySem.W.readsIn K C0 (.type "type") = true
  ga : PySem.W.specialIn K (.ref C0) "__getattribute__" = some (some (.builtin "type.__getattribute__"))
  fi : PySem.W.findCls K (.ref C0) (.type "type") "__init__" = some (.val (.builtin "ValueError.__init__"))
section
variable {X : Cx} {o e : Expr} {es : List Expr} {to te : TE} {ta : TA} {f x : Str} {p p' p1 p2 pos : Pos} {C0 : Addr}
theorem pe_baseInit {pl : Sem Bool} (hg : Gl X x) (hm : X.mg x = some (.ref C0)) (B : BaseI X.K C0) (ha : PA X (e :: es) ta)
    (hc : eval (.Call (.Attribute (.Name x p1) "__init__" p2) (e :: es) [] pos) X.env = (do
      let ov ← eval (.Name x p1) X.env
      standAt p2.atName
      let (f, first) ← holding [ov] (getMethod ov "__init__" pl)
      callWith pos f first (backTo pos (starEach (e :: es) X.env)) (backToKw pos (keywordEach [] X.env))) := by rfl) (hdb : (x == ("__debug__" : Str)) = false := by decide)
    (he : starEach (e :: es) X.env = (false, eval e X.env) :: starEach es X.env := by rfl) (hpl : (backTo pos (starEach es X.env)).any (·.1) = false := by rfl) :
    PE X (.Call (.Attribute (.Name x p1) "__init__" p2) (e :: es) [] pos) (tVeI X.K ta) := by
  refine ⟨fun pins s σ H Q I h => ?_⟩
  refine PySem.W.methodCall_KW (ld_glob I hg hm ?_ hdb) hc
  refine PySem.W.method_cls I.kIn B.ga (PySem.W.cls_value I.kIn B.rd B.fi rfl ?_)
  show wpAny _ _ (callWith pos (Value.builtin "ValueError.__init__") [] (backTo pos (starEach (e :: es) X.env)) []) _ _ _
  refine PyProof.Rows.callWith_method1 (thn (ha.run pos pins _ σ H _ (I.tok _) h) fun us s1 ⟨vs, H1, I1, r1, a, C, ws, ev, hl, T, ea, q⟩ => ?_) he hpl
  subst ev
  cases r1 with
  | @cons _ u0 _ ur ra rw' =>
    obtain rfl : u0 = Value.ref a := ra
    have hlen : ur.length ≤ sizeLine := by
      rw [← Paired.length rw', sizeLine_eq]
      omega
    exact oinit_ok T I1 ea hlen fun s' J => ⟨.non, H1, J, rfl, q⟩
end
end FF
/-! ## LB -/
namespace FF
open PySem PySem.Spec PyProof.Rows L2
abbrev s_IP : Stmt := inClass (top 4) 0
abbrev N_IP : List Str := ["self", "word", "at"]
theorem sc_IP : FnScope N_IP N_IP (defScope s_IP) := ⟨rfl, rfl, rfl, by decide +kernel, rfl, by decide +kernel, by decide +kernel⟩
structure Pap (K : PySem.W.Frag) (mg : Str → Option Value) where
  C : Addr
  C0 : Addr
  g0 : mg "PaperError" = some (.ref C0)
  B : BaseI K C0
  gC : mg "InvalidPaper" = some (.ref C)
  T : OexC K C
  nW : PySem.W.findIn K (.ref C) "word" = some none
  nA : PySem.W.findIn K (.ref C) "at" = some none
  f : Addr
  fd : FuncData
  F : Fun K "__init__" "InvalidPaper.__init__" s_IP f fd
  b : L2.Binds K fd N_IP []
  iC : PySem.W.findIn K (.ref C) "__init__" = some (some (.ref f))
  tI : PySem.W.typeIn K (.ref f) = some (.type "function")
  xf : XfC K C
  te : PySem.W.exmOne K (.ref C) (.ref C) = some true
section
variable {P : Program} {w : World} {K : PySem.W.Frag} {mg : Str → Option Value} {base : Heap}
def paperH (H : Hp) (C a d : Addr) (x y : V) : Hp := upd (upd (upd H d (exd d [(("word" : Str), x)])) a (exo a C (some d))) d (exd d [(("at" : Str), y), (("word" : Str), x)])
def spIP (C : Addr) : Sp := fun vs H Q _ => ∃ (a : Addr) (x y : V), vs = [.ref a, x, y] ∧ H a = some (exo a C none) ∧ ∀ d, H d = none → d ≠ a → Q .non (paperH H C a d x y)
theorem ok_IP (Z : Pap K mg) : FnOk P w K mg base (L2.CX P w) 1 Z.f Z.fd N_IP (spIP Z.C) := by
  refine Z.F.okX sc_IP (fun vs H Q E h => ?_) (fun cdv A outer s H vs Q E hr h => ?_)
  · obtain ⟨a, x, y, rfl, _⟩ := h
    rfl
  · refine ⟨_, pss_cons (ps_expr (pe_baseInit (by rfl) Z.g0 Z.B (pa_cons (pv 0) (pa_cons pe_str pa_nil)))) (pss_cons (ps_ost (pv 0) (pv 1)) (pss_one (ps_ost (pv 0) (pv 2)))), ?_⟩
    obtain ⟨a, x, y, rfl, ha, k⟩ := h
    refine ⟨_, rfl, a, Z.C, _, rfl, by decide, Z.T, ha, ?_⟩
    refine ⟨_, rfl, _, rfl, a, Z.C, rfl, Z.T, Z.nW, .inl ⟨ha, fun d nd nda => ?_⟩⟩
    have e1 : (upd (upd H d (exd d [(("word" : Str), x)])) a (exo a Z.C (some d))) d = some (exd d [(("word" : Str), x)]) := by
      rw [upd_ne nda, upd_same]
    refine ⟨_, rfl, _, rfl, a, Z.C, rfl, Z.T, Z.nA, .inr ⟨d, _, upd_same, e1, by show 1 ≤ 900; decide, ?_⟩⟩
    exact k d nd nda
end
end FF
/-! ## LC -/
namespace FF
open PySem PySem.Spec PyProof.Rows L2
/-! ### raise InvalidPaper(word, at) -/
def WE0 (CP : Addr) (E : XK) : WV := fun x y H' => ∀ (d : Addr) (H'' : Hp), Same H' H'' → H'' d = some (.xd [(("at" : Str), y), (("word" : Str), x)]) → E (.ref CP) (some d) H''
def sRaise (fs : Ev → Option (List D)) : Ev → Option Out := fun ρ => match fs ρ with
  | some [.p w, .p a] => some (.ex w a)
  | _ => none
section
variable {C : Addr} {X : Cx} {E : XK} {e : Expr} {es : List Expr} {fs : Ev → Option (List D)} {p pos pos2 : Pos}
theorem ds_raiseIP (Z : Pap X.K X.mg) (hc : X.calm = true) (tk : Takes X (fun cls d _ H => E cls d H)) (F1 : FnOk X.prog X.w X.K X.mg X.base (L2.CX X.prog X.w) 1 Z.f Z.fd N_IP (spIP Z.C)) (hr : Room 2 X.A) (hg : Gl X "InvalidPaper") (ha : DA C X (e :: es) fs)
    (he : starEach (e :: es) X.env = (false, eval e X.env) :: starEach es X.env := by rfl) (hpl : (backTo pos2 (starEach es X.env)).any (·.1) = false := by rfl) :
    DS C (WE0 Z.C E) X (.Raise (some (.Call (.Name "InvalidPaper" p) (e :: es) [] pos2)) none pos) (sRaise fs) := ⟨PS.imp (ps_raise hc tk (pmk_oex Z.T Z.iC Z.tI F1 hr Z.b .nil passL hg Z.gC ha.pa (by decide) he hpl)) fun En σ H q => by
  obtain ⟨M, ρ, o, hm, hrho, hf, k⟩ := q
  unfold sRaise at hf
  split at hf
  · rename_i w a q1
    cases hf
    refine ⟨M, ρ, _, hm, hrho, q1, fun vs H1 s1 r1 => ?_⟩
    match vs, r1 with
    | [x, y], .cons r1 (.cons r2 .nil) =>
        refine ⟨by show 2 ≤ 1000; decide, fun a0 na => ⟨a0, x, y, rfl, upd_same, fun d nd nda => ⟨rfl, d, _, ?_, upd_same, ?_, ?_⟩⟩⟩
        · unfold paperH
          rw [upd_ne (Ne.symm nda), upd_same]
        · rw [upd_ne nda] at nd; exact nd
        · rw [upd_ne nda] at nd
          refine k x y H1 s1 r1 r2 d _ (fun b ob eb => ?_) upd_same
          have b1 : b ≠ d := ne_of_none eb nd
          have b2 : b ≠ a0 := ne_of_none eb na
          rw [upd_ne b1, del_ne b2]
          unfold paperH
          rw [upd_ne b1, upd_ne b2, upd_ne b1, upd_ne b2]
          exact eb
  · cases hf⟩
end
end FF
namespace FF
open PySem PySem.Spec PyProof.Rows L2
/-! ### defs that may raise InvalidPaper -/
def XOut (K : PySem.W.Frag) (C CP : Addr) (M : Msk) (H : Hp) (Q : VK) (E : XK) : ROut → Prop
  | .ret d => Then K C M H d Q
  | .ex w a => ∀ x y H', Same H H' → Dp K (hide M H') x w → Dp K (hide M H') y a → WE0 CP E x y H'
def spX (K : PySem.W.Frag) (C CP : Addr) (n : Nat) (m : List D → Option ROut) : Sp := fun vs H Q E => vs.length = n ∧ ∃ (M : Msk) (ds : List D) (o : ROut), Hid M H ∧ RpAll K C (hide M H) vs ds ∧ m ds = some o ∧ XOut K C CP M H Q E o
theorem fnX {P : Program} {w : World} {K : PySem.W.Frag} {mg : Str → Option Value} {base : Heap} {C CP : Addr} {x qual : Str} {st : Stmt} {f : Addr} {fd : FuncData} {N ps : List Str} {k e : Nat} {u : Ev → Option Out} (F : Fun K x qual st f fd) (S : FnScope N ps (defScope st)) (he : ps.length + e = N.length)
    (hb : ∀ (cdv : Value) (A : Around) (outer : List Env) (s : Shared) (H : Hp) (E : XK), Room k (A.deeper (envOfC qual (defScope st) s.heap.objs.size f cdv)) →
      DSs C (WE0 CP E) (cxOf (L2.CX P w) P w K mg base N qual (defScope st) f cdv A outer s H E) (defBody st) u) : FnOk P w K mg base (L2.CX P w) (k + 1) f fd ps (spX K C CP ps.length (runX e u)) := by
  refine F.okX S (fun vs H Q E h => h.1) (fun cdv A outer s H vs Q E hr h => ⟨_, (hb cdv A outer s H E hr).pss, ?_⟩)
  obtain ⟨hn, M, ds, o, hm, r, hf, k⟩ := h
  unfold runX at hf
  cases q : u (somes ds (nones e)) with
  | none => rw [q] at hf; cases hf
  | some o' =>
    rw [q] at hf
    refine ⟨M, _, o', hm, env_start r hn he, q, ?_⟩
    cases o' with
    | nx ρ => cases hf; exact fun σ' H' s' _ => k _ H' s' .non
    | ret d' => cases hf; exact k
    | bk ρ => cases hf
    | ct ρ => cases hf
    | ex w a => cases hf; exact k
def sCallX (n : Nat) (mm : List D → Option ROut) (fs : Ev → Option (List D)) : Ev → Option Out := fun ρ => match fs ρ with
  | none => none
  | some ds => if Nat.beq ds.length n = true then (match mm ds with
    | some (.ret _) => some (.nx ρ)
    | some (.ex w a) => some (.ex w a)
    | none => none) else none
section
variable {C CP : Addr} {X : Cx} {E : XK} {x : Str} {e : Expr} {es : List Expr} {fs : Ev → Option (List D)} {p pos pos2 : Pos} {k n : Nat} {f : Addr} {fd : FuncData} {ps : List Str} {mm : List D → Option ROut}
theorem d_callX (En : Ends) (σ : L2.St) (H : Hp) (q : dS X.K C (WE0 CP E) (sCallX n mm fs) En σ H) : tCall (spX X.K C CP n mm) [] E (dA X.K C fs) σ H (fun _ H1 => En.nx σ H1) := by
  obtain ⟨M, ρ, o, hm, he, hf, kq⟩ := q
  unfold sCallX at hf
  cases q1 : fs ρ with
  | none => rw [q1] at hf; cases hf
  | some ds =>
    rw [q1] at hf
    simp only at hf
    by_cases q2 : Nat.beq ds.length n = true
    · rw [if_pos q2] at hf
      have hn := Nat.eq_of_beq_eq_true q2
      refine ⟨M, ρ, ds, hm, he, q1, fun vs H1 s1 r1 => ?_⟩
      show spX X.K C CP n mm (vs ++ []) H1 _ E
      rw [List.append_nil]
      cases q3 : mm ds with
      | none => rw [q3] at hf; cases hf
      | some ro =>
        rw [q3] at hf
        refine ⟨r1.len.trans hn, M, ds, ro, hm.mono s1, r1, q3, ?_⟩
        cases ro with
        | ret d => cases hf; exact fun v H2 s2 _ => kq σ H2 (s1.trans s2) (he.mono (same_hide (s1.trans s2)))
        | ex w a => cases hf; exact fun x y H2 s2 r2 r3 => kq x y H2 (s1.trans s2) r2 r3
    · rw [if_neg q2] at hf; cases hf
theorem ds_callX (tk : Takes X (fun cls d _ H => E cls d H)) (F : FnOk X.prog X.w X.K X.mg X.base (L2.CX X.prog X.w) k f fd ps (spX X.K C CP n mm)) (hr : Room k X.A) (hg : Gl X x) (hm : X.mg x = some (.ref f)) (hk : PySem.W.keepIn X.K (.ref f) = true) (hb : Binds X.K fd ps []) (ha : DA C X (e :: es) fs)
    (hdb : (x == ("__debug__" : Str)) = false := by decide) (he : starEach (e :: es) X.env = (false, eval e X.env) :: starEach es X.env := by rfl) (hpl : (backTo pos2 (starEach es X.env)).any (·.1) = false := by rfl) (hs : swapsWith (.Call (.Name x p) (e :: es) [] pos2) none pos.line X.env = pure false := by rfl) :
    DS C (WE0 CP E) X (.Expr (.Call (.Name x p) (e :: es) [] pos2) pos) (sCallX n mm fs) :=
  ⟨PS.imp (ps_expr (pe_call F hr hg hm hk hb .nil (passes_call tk fun _ _ _ _ h => h) ha.pa hdb he hpl) hs) fun En σ H q => d_callX En σ H q⟩
end
theorem fnXG {P : Program} {w : World} {K : PySem.W.Frag} {mg : Str → Option Value} {base : Heap} {C CP : Addr} {x qual : Str} {st : Stmt} {f : Addr} {fd : FuncData} {N ps : List Str} {k e : Nat} {u : Ev → Option Out} (F : Fun K x qual st f fd) (S : FnScope N ps (defScope st)) (he : ps.length + e = N.length)
    (hb : ∀ (cdv : Value) (A : Around) (outer : List Env) (s : Shared) (H : Hp) (E : XK), (A.deeper (envOfC qual (defScope st) s.heap.objs.size f cdv)).guards = some [] → Room k (A.deeper (envOfC qual (defScope st) s.heap.objs.size f cdv)) →
      DSs C (WE0 CP E) (cxOf (L2.CX P w) P w K mg base N qual (defScope st) f cdv A outer s H E) (defBody st) u) : FnG P w K mg base (k + 1) f fd ps (spX K C CP ps.length (runX e u)) := by
  refine fnG_of F S (fun vs H Q E h => h.1) (fun cdv A outer s H vs Q E hG hr h => ⟨_, (hb cdv A outer s H E hG hr).pss, ?_⟩)
  obtain ⟨hn, M, ds, o, hm, r, hf, k⟩ := h
  unfold runX at hf
  cases q : u (somes ds (nones e)) with
  | none => rw [q] at hf; cases hf
  | some o' =>
    rw [q] at hf
    refine ⟨M, _, o', hm, env_start r hn he, q, ?_⟩
    cases o' with
    | nx ρ => cases hf; exact fun σ' H' s' _ => k _ H' s' .non
    | ret d' => cases hf; exact k
    | bk ρ => cases hf
    | ct ρ => cases hf
    | ex w a => cases hf; exact k
end FF
/-! ## GX -/
namespace FF
open PySem PySem.Spec PyProof.Rows L2
section
variable {P : Program} {w : World} {K : PySem.W.Frag} {mg : Str → Option Value} {base : Heap}
def ux_require : Ev → Option Out := sIf (bNot (tB (eVar 0))) (sRaise (aCons (eVar 1) (aCons (eVar 2) (aNil)))) (sNext)
def mx_require : List D → Option ROut := runX 0 ux_require
theorem okx_require (T : Kit K mg) (Z : Pap K mg) : FnOk P w K mg base (L2.CX P w) 5 T.d_require.f T.d_require.fd P_require (spX K T.C Z.C 3 mx_require) := fnX T.d_require.F sc_require rfl fun cdv A outer s H E hr => by
  have nd : N_require.Nodup := sc_require.nd
  have hu1 := hu_of hr
  have hu64 := hr.units
  exact dss_one (ds_if (dt_not (dt_val (de_v (pv 0)))) (dss_one (ds_raiseIP (X := cxOf (L2.CX P w) P w K mg base N_require "require" (defScope s_require) T.d_require.f cdv A outer s H E) Z rfl (takes_of rfl rfl rfl rfl) (ok_IP Z) (hr.mono (by omega)) (by rfl) (da_cons (de_v (pv 1)) (da_cons (de_v (pv 2)) (da_nil))))) (dss_nil))

def ux_check_idle : Ev → Option Out := sSeq (sSet (tgName 3) (eLc (iSeqL (eStates (eVar 0))) [5] (tgName 5) (tB (op2 gIn (eVar 1) (eFailed (eVar 0) (eVar 5)))) (eVar 5))) (sSeq (sCallX 3 mx_require (aCons (op2 gEq (eCall gLen (aCons (eVar 2) (aNil))) (eCall gLen (aCons (eVar 3) (aNil)))) (aCons (eC (.p (.str z_rows))) (aCons (eVar 1) (aNil))))) (sFor (iEnL (eVar 3)) (tgTup (tgCons (tgName 4) (tgCons (tgName 5) (tgNil)))) (sCallX 3 mx_require (aCons (eAnd (eFn 1 m_is_number (aCons (op2 gIx (eVar 2) (eVar 4)) (aNil))) (eAnd (op2 gLt (op2 gIx (eVar 2) (eVar 4)) (eVar 1)) (op2 gIn (op2 gIx (eVar 2) (eVar 4)) (eFailed (eVar 0) (eVar 5))))) (aCons (eC (.p (.str z_ahead))) (aCons (eTup (aCons (eVar 1) (aCons (eVar 4) (aNil)))) (aNil)))))))
def mx_check_idle : List D → Option ROut := runX 3 ux_check_idle
theorem okx_check_idle (T : Kit K mg) (Z : Pap K mg) : FnOk P w K mg base (L2.CX P w) 10 T.d_check_idle.f T.d_check_idle.fd P_check_idle (spX K T.C Z.C 3 mx_check_idle) := fnX T.d_check_idle.F sc_check_idle rfl fun cdv A outer s H E hr => by
  have nd : N_check_idle.Nodup := sc_check_idle.nd
  have hu1 := hu_of hr
  have hu64 := hr.units
  exact dss_cons (ds_setLc (j := 3) (own := [("state", 5)]) rfl nd rfl rfl (sw_true rfl rfl rfl (by decide +kernel)) (di_list (de_states (de_v (pv 0)) T.cl T.nS)) (blkOk_by (N := N_check_idle) (sc := defScope s_check_idle) (by decide +kernel)) (fun _ _ _ _ _ => dg_name (pg_name (i := 5) nd rfl (Or.inl rfl))) (fun _ _ _ _ _ => dts_one (dt_cmp op_in_seq opd_in (de_v (pv 1)) (de_failed hu1 (de_v (pv 0)) (de_v (pv 5)) T.cl T.nF (fun _ _ => rfl)) rfl)) (fun _ _ _ _ _ => de_v (pv 5))) (dss_cons (ds_callX (takes_of rfl rfl rfl rfl) (okx_require T Z) (hr.mono (by omega)) (by rfl) T.d_require.g T.d_require.k T.d_require.b (da_cons (de_cmp (op_eq.or (op_eqD hu64)) opd_eq (de_callB call_len_seq cld_len (by rfl) T.n_len (by decide +kernel) (da_cons (de_v (pv 2)) (da_nil))) (de_callB call_len_seq cld_len (by rfl) T.n_len (by decide +kernel) (da_cons (de_v (pv 3)) (da_nil))) rfl) (da_cons (de_str ez_rows) (da_cons (de_v (pv 1)) (da_nil))))) (dss_one (ds_for (vs := [4, 5]) (di_enumL (de_v (pv 3)) (by rfl) T.n_enumerate) (dg_tup (dgs_cons (dg_name (pg_name (i := 4) nd rfl (Or.inl rfl))) (dgs_cons (dg_name (pg_name (i := 5) nd rfl (Or.inl rfl))) (dgs_nil))) rfl rfl rfl (tgs_len (tgs_len tgs_len0))) (dss_one (ds_callX (takes_of rfl rfl rfl rfl) (okx_require T Z) (hr.mono (by omega)) (by rfl) T.d_require.g T.d_require.k T.d_require.b (da_cons (de_and (de_call (ok_is_number T) (hr.mono (by omega)) (by rfl) T.d_is_number.g T.d_is_number.k T.d_is_number.b (da_cons (de_ix ix_seq opd_ix (de_v (pv 2)) (de_v (pv 4)) (fun _ _ => rfl)) (da_nil))) (de_and (de_cmp op_lt opd_lt (de_ix ix_seq opd_ix (de_v (pv 2)) (de_v (pv 4)) (fun _ _ => rfl)) (de_v (pv 1)) rfl) (de_one (de_cmp op_in_seq opd_in (de_ix ix_seq opd_ix (de_v (pv 2)) (de_v (pv 4)) (fun _ _ => rfl)) (de_failed hu1 (de_v (pv 0)) (de_v (pv 5)) T.cl T.nF (fun _ _ => rfl)) rfl)))) (da_cons (de_str ez_ahead) (da_cons (de_tup (da_cons (de_v (pv 1)) (da_cons (de_v (pv 4)) (da_nil)))) (da_nil)))))) (passes_of rfl))))

def ux_lets_list : Ev → Option Out := sSeq (sCallX 3 mx_require (aCons (eAnd (e1 (gIsi .tuple) (eVar 2)) (eCall gAll (aCons (eLc (iSeqT (eVar 2)) [7] (tgName 7) (bYes) (eFn 1 m_is_entry (aCons (eVar 7) (aNil)))) (aNil)))) (aCons (eC (.p (.str z_shape))) (aCons (eC (.p (.int (Int.negSucc 0)))) (aNil))))) (sSeq (sCallX 3 mx_require (aCons (op2 gEq (eCall gLen (aCons (eVar 2) (aNil))) (eCall gLen (aCons (eVar 1) (aNil)))) (aCons (eC (.p (.str z_many))) (aCons (eC (.p (.int (Int.negSucc 0)))) (aNil))))) (sSeq (sSet (tgName 3) (eMake 2 m_mk (aCons (eVar 0) (aCons (eVar 1) (aNil))))) (sSeq (sFor (iEnT (eVar 2)) (tgTup (tgCons (tgName 4) (tgCons (tgTup (tgCons (tgName 5) (tgCons (tgName 6) (tgNil)))) (tgNil)))) (sIf (tB (op2 gEq (eVar 5) (eC (.p (.str z_first))))) (sCallX 3 mx_require (aCons (op2 gIn (eCall gRepr (aCons (eVar 6) (aNil))) (eLc (iSeqT (eMeth 2 m_ListLook_region_of (eVar 3) (aCons (eVar 4) (aNil)))) [8] (tgName 8) (bYes) (eCall gRepr (aCons (eVar 8) (aNil))))) (aCons (eC (.p (.str z_state))) (aCons (eVar 4) (aNil))))) (sCallX 3 mx_check_idle (aCons (eVar 3) (aCons (eVar 4) (aCons (eVar 6) (aNil))))))) (sRet (eCall gTuple (aCons (eLc (iEnT (eVar 2)) [4, 9] (tgTup (tgCons (tgName 4) (tgCons (tgName 9) (tgNil)))) (tB (op2 gEq (op2 gIx (eVar 9) (eC (.p (.int (Int.ofNat 0))))) (eC (.p (.str z_idle))))) (eVar 4)) (aNil)))))))
def mx_lets_list : List D → Option ROut := runX 7 ux_lets_list
theorem okx_lets_list (T : Kit K mg) (Z : Pap K mg) : FnG P w K mg base 60 T.d_lets_list.f T.d_lets_list.fd P_lets_list (spX K T.C Z.C 3 mx_lets_list) := fnXG T.d_lets_list.F sc_lets_list rfl fun cdv A outer s H E hG hr => by
  have nd : N_lets_list.Nodup := sc_lets_list.nd
  have hu1 := hu_of hr
  have hu64 := hr.units
  exact dss_cons (ds_callX (takes_of rfl rfl rfl rfl) (okx_require T Z) (hr.mono (by omega)) (by rfl) T.d_require.g T.d_require.k T.d_require.b (da_cons (de_and (de_isi .tuple (by rfl) T.n_isinstance (by rfl) T.n_tuple (by decide +kernel) (de_v (pv 2))) (de_one (de_callB (cr_all rfl) cld_all (by rfl) T.n_all (by decide +kernel) (da_cons (de_lc (own := [("one", 7)]) rfl nd (di_tup (de_v (pv 2))) (blkOk_by (N := N_lets_list) (sc := defScope s_lets_list) (by decide +kernel)) (fun _ _ _ _ _ => dg_name (pg_name (i := 7) nd rfl (Or.inl rfl))) (fun _ _ _ _ _ => dts_nil) (fun _ _ _ _ _ => de_call (ok_is_entry T) (hr.mono (by omega)) (by rfl) T.d_is_entry.g T.d_is_entry.k T.d_is_entry.b (da_cons (de_v (pv 7)) (da_nil)))) (da_nil))))) (da_cons (de_str ez_shape) (da_cons ((de_neg (i := 1))) (da_nil))))) (dss_cons (ds_callX (takes_of rfl rfl rfl rfl) (okx_require T Z) (hr.mono (by omega)) (by rfl) T.d_require.g T.d_require.k T.d_require.b (da_cons (de_cmp (op_eq.or (op_eqD hu64)) opd_eq (de_callB call_len_seq cld_len (by rfl) T.n_len (by decide +kernel) (da_cons (de_v (pv 2)) (da_nil))) (de_callB call_len_seq cld_len (by rfl) T.n_len (by decide +kernel) (da_cons (de_v (pv 1)) (da_nil))) rfl) (da_cons (de_str ez_many) (da_cons ((de_neg (i := 1))) (da_nil))))) (dss_cons (ds_set (ps_set (i := 3) nd rfl (Or.inl rfl) (DE.pe (de_make T.mkL (ok_mk T) (hr.mono (by omega)) (by rfl) T.g_C T.d_ListLook_init.b (da_cons (de_v (pv 0)) (da_cons (de_v (pv 1)) (da_nil))))))) (dss_cons (ds_for (vs := [4, 5, 6]) (di_enumT (de_v (pv 2)) (by rfl) T.n_enumerate) (dg_tup (dgs_cons (dg_name (pg_name (i := 4) nd rfl (Or.inl rfl))) (dgs_cons (dg_tup (dgs_cons (dg_name (pg_name (i := 5) nd rfl (Or.inl rfl))) (dgs_cons (dg_name (pg_name (i := 6) nd rfl (Or.inl rfl))) (dgs_nil))) rfl rfl rfl (tgs_len (tgs_len tgs_len0))) (dgs_nil))) rfl rfl rfl (tgs_len (tgs_len tgs_len0))) (dss_one (ds_if (dt_cmp (op_eq.or (op_eqD hu64)) opd_eq (de_v (pv 5)) (de_str ez_first) rfl) (dss_one (ds_callX (takes_of rfl rfl rfl rfl) (okx_require T Z) (hr.mono (by omega)) (by rfl) T.d_require.g T.d_require.k T.d_require.b (da_cons (de_cmp op_in_seq opd_in (de_callB (cr_repr hG hu64) cld_repr (by rfl) T.n_repr (by decide +kernel) (da_cons (de_v (pv 6)) (da_nil))) (de_lc (own := [("state", 8)]) rfl nd (di_tup (de_meth (de_v (pv 3)) T.cl T.d_ListLook_region_of.m (ok_ListLook_region_of T) (hr.mono (by omega)) T.d_ListLook_region_of.b (by decide +kernel) (da_cons (de_v (pv 4)) (da_nil)))) (blkOk_by (N := N_lets_list) (sc := defScope s_lets_list) (by decide +kernel)) (fun _ _ _ _ _ => dg_name (pg_name (i := 8) nd rfl (Or.inl rfl))) (fun _ _ _ _ _ => dts_nil) (fun _ _ _ _ _ => de_callB (cr_repr hG hu64) cld_repr (by rfl) T.n_repr (by decide +kernel) (da_cons (de_v (pv 8)) (da_nil)))) rfl) (da_cons (de_str ez_state) (da_cons (de_v (pv 4)) (da_nil)))))) (dss_one (ds_callX (takes_of rfl rfl rfl rfl) (okx_check_idle T Z) (hr.mono (by omega)) (by rfl) T.d_check_idle.g T.d_check_idle.k T.d_check_idle.b (da_cons (de_v (pv 3)) (da_cons (de_v (pv 4)) (da_cons (de_v (pv 6)) (da_nil)))))))) (passes_of rfl)) (dss_one (ds_ret (de_callTy call_tuple_of cld_tuple (by rfl) T.n_tuple (by decide +kernel) (da_cons (de_lc (own := [("k", 4), ("entry", 9)]) rfl nd (di_enumT (de_v (pv 2)) (by rfl) T.n_enumerate) (blkOk_by (N := N_lets_list) (sc := defScope s_lets_list) (by decide +kernel)) (fun _ _ _ _ _ => dg_tup (dgs_cons (dg_name (pg_name (i := 4) nd rfl (Or.inl rfl))) (dgs_cons (dg_name (pg_name (i := 9) nd rfl (Or.inl rfl))) (dgs_nil))) rfl rfl rfl (tgs_len (tgs_len tgs_len0))) (fun _ _ _ _ _ => dts_one (dt_cmp (op_eq.or (op_eqD hu64)) opd_eq (de_ix ix_seq opd_ix (de_v (pv 9)) (de_int) (fun _ _ => rfl)) (de_str ez_idle) rfl)) (fun _ _ _ _ _ => de_v (pv 4))) (da_nil))))))))
end
end FF
/-! ## LD -/
namespace FF
open PySem PySem.Spec PyProof.Rows L2
section
variable {X : Cx} {k : Nat} {f : Addr} {fd : FuncData} {ps : List Str} {sp : Sp} {E : L2.St → XK} {x : Str} {p pos : Pos} {e : Expr} {es : List Expr} {t : TA}
/-- a call with no repr under way, what it raises wished for at the slots -/
theorem pe_callSG (F : FnG X.prog X.w X.K X.mg X.base k f fd ps sp) (hG : X.A.guards = some []) (hr : Room k X.A) (hg : Gl X x) (hm : X.mg x = some (.ref f)) (hk : PySem.W.keepIn X.K (.ref f) = true) (hb : Binds X.K fd ps []) (hx : ∀ σ, PassesAt (L2.CX X.prog X.w) X σ (E σ))
    (ha : PA X (e :: es) t) (hdb : (x == ("__debug__" : Str)) = false := by decide) (he : starEach (e :: es) X.env = (false, eval e X.env) :: starEach es X.env := by rfl) (hpl : (backTo pos (starEach es X.env)).any (·.1) = false := by rfl) :
    PE X (.Call (.Name x p) (e :: es) [] pos) (tCallS sp E t) := by
  refine ⟨fun pins s σ H Q I h => ?_⟩
  refine wpAny_Call_Name_kw (ld_glob I hg hm ?_ hdb)
  refine PySem.W.callWith_K (h₀ := X.base) I.ok.mod.kin hk (thn (ha.run pos pins s σ H _ I h) fun us s1 ⟨vs, H1, I1, r, q⟩ => ⟨I1.kIn, ?_⟩) he hpl
  have hl : us.length = ps.length := by rw [← r.length]; exact F.len _ _ _ _ q
  have b := hb s1 us I1.kIn (by rw [List.append_nil]; exact hl)
  rw [List.append_nil] at b
  refine wpAny_call (codeAny_mono (F.run X.A X.stack s1 H1 ⟨us, []⟩ us vs Q (E σ) hG hr I1.env0 b r q) fun r s' hq => ?_)
  cases r with
  | error e => exact hx σ pins H1 s1 e s' I1 hq
  | ok fl =>
    cases fl with
    | ret u => exact I1.after hq
    | next => exact False.elim hq
    | brk => exact False.elim hq
    | cont => exact False.elim hq
end
/-! ### try: f(..) except InvalidPaper as e: y = (e.word, e.at) -/
def sTryIP (n : Nat) (mm : List D → Option ROut) (fs : Ev → Option (List D)) (i j : Nat) : Ev → Option Out := fun ρ => match fs ρ with
  | none => none
  | some ds => if Nat.beq ds.length n = true then (match mm ds with
    | some (.ret _) => some (.nx ρ)
    | some (.ex w a) => some (.nx (forget (put ρ j (.p (.tuple [w, a]))) i))
    | none => none) else none
section
variable {K : PySem.W.Frag} {C CP : Addr} {fs : Ev → Option (List D)} {n i j : Nat} {mm : List D → Option ROut}
def tSuiteIP (CP : Addr) (i j : Nat) : Addr → Value → Option Addr → TS := fun a cls d => tAsg (tTup (tCons (tXf a cls d CP "word" (tVar i)) (tCons (tXf a cls d CP "at" (tVar i)) tNil))) (gName j)
theorem d_tryIP {W : WV} (te : PySem.W.exmOne K (.ref CP) (.ref CP) = some true) (En : Ends) (σ : L2.St) (H : Hp) (q : dS K C W (sTryIP n mm fs i j) En σ H) (hij : i ≠ j) (hiN : i < σ.length) :
    tCallS (spX K C CP n mm) (WE (wAs K (.ref CP) i (tSuiteIP CP i j) (fun _ _ _ _ => False) En)) (dA K C fs) σ H (fun _ H1 => En.nx σ H1) := by
  obtain ⟨M, ρ, o, hm, he, hf, kq⟩ := q
  unfold sTryIP at hf
  cases q1 : fs ρ with
  | none => rw [q1] at hf; cases hf
  | some ds =>
    rw [q1] at hf
    simp only at hf
    by_cases q2 : Nat.beq ds.length n = true
    · rw [if_pos q2] at hf
      refine ⟨M, ρ, ds, hm, he, q1, fun vs H1 s1 r1 => ?_⟩
      cases q3 : mm ds with
      | none => rw [q3] at hf; cases hf
      | some ro =>
        rw [q3] at hf
        refine ⟨r1.len.trans (Nat.eq_of_beq_eq_true q2), M, ds, ro, hm.mono s1, r1, q3, ?_⟩
        cases ro with
        | ret d => cases hf; exact fun v H2 s2 _ => kq σ H2 (s1.trans s2) (he.mono (same_hide (s1.trans s2)))
        | ex w a =>
          cases hf
          intro x y H2 s2 r2 r3 d H3 s3 hd
          refine ⟨true, te, fun _ a0 na => ?_, fun z => by cases z⟩
          have s123 := (s1.trans s2).trans s3
          have l1 : ([(("at" : Str), y), (("word" : Str), x)] : List (Str × V)).lookup ("word" : Str) = some x := by
            have e1 : (("word" : Str) == ("at" : Str)) = false := by decide +kernel
            simp [List.lookup, e1]
          have hsi : (σ.set i (some (V.ref a0)))[i]? = some (some (.ref a0)) := List.getElem?_set_self hiN
          refine ⟨.ref a0, hsi, rfl, rfl, d, _, x, rfl, hd, l1, .ref a0, hsi, rfl, rfl, d, _, y, rfl, hd, rfl, by show 2 ≤ sizeLine; rw [sizeLine_eq]; decide, fun t nt => ?_⟩
          have st := same_new (o := HO.tup [x, y]) nt
          refine kq _ _ (s123.trans st) ?_
          have e0 := (he.mono (same_hide (s123.trans st))).put (i := j) (d := .p (.tuple [w, a])) (new_tup (hm.mono s123) nt (.cons (Dp_mono (same_hide s3) _ _ r2) (.cons (Dp_mono (same_hide s3) _ _ r3) .nil)))
          have e1 := e0.forget (i := i)
          rw [List.set_comm _ _ hij, List.set_set] 
          exact e1
    · rw [if_neg q2] at hf; cases hf
end
section
variable {C : Addr} {X : Cx} {x y en : Str} {e : Expr} {es : List Expr} {fs : Ev → Option (List D)} {p p1 p2 p3 p4 p5 p6 p7 p8 p9 p10 pos pos2 : Pos} {k n i j kk : Nat} {f : Addr} {fd : FuncData} {ps : List Str} {mm : List D → Option ROut}
theorem ds_tryIP {W : WV} (Z : Pap X.K X.mg) (xf : XfC X.K Z.C) (te : PySem.W.exmOne X.K (.ref Z.C) (.ref Z.C) = some true) (hs : X.stack = X.env :: X.outer) (hfr : X.env.frame = some X.env.locals) (hN : X.N.Nodup) (hi : X.N[i]? = some en) (hln : X.env.kindOf en = some .local) (hc : Names X "InvalidPaper" (.ref Z.C)) (tk : Takes X (fun _ _ _ _ => False)) (hij : i ≠ j)
    (hlen : ∀ pins σ H s, Inv X pins σ H s → i < σ.length)
    (hb : ∀ (W' : WX) (pn : List (Addr × Obj)) (xe : Value → Shared → Prop), Takes (X.tr pn xe) W' → PS (X.tr pn xe) (.Expr (.Call (.Name x p1) (e :: es) [] p2) p3) (fun En σ H => tCallS (spX X.K C Z.C n mm) (WE W') (dA X.K C fs) σ H (fun _ H1 => En.nx σ H1)))
    (hsu : ∀ (a : Addr) (oe : Obj) (cls : Value) (d : Option Addr) (pn : List (Addr × Obj)), Zc cls d oe → (∃ vs, oe.data = .fields vs) → PS (X.suite a ((a, oe) :: pn)) (.Assign [.Name y p4] (.Tuple [.Attribute (.Name en p5) "word" p6, .Attribute (.Name en p7) "at" p8] kk p9) pos2) (tSuiteIP Z.C i j a cls d)) :
    DS C W X (.Try [.Expr (.Call (.Name x p1) (e :: es) [] p2) p3] [.ExceptHandler (some (.Name "InvalidPaper" p)) (some en) [.Assign [.Name y p4] (.Tuple [.Attribute (.Name en p5) "word" p6, .Attribute (.Name en p7) "at" p8] kk p9) pos2] p10] [] [] pos) (sTryIP n mm fs i j) := by
  have h := ps_try_as (np := p) (pos := pos) (pos' := p10) (ts := tSuiteIP Z.C i j) (Wout := fun _ _ _ _ => False) hs hfr hN hi hln hc tk (fun W' pn xe tk' _ => pss_one (hb W' pn xe tk')) (fun a oe cls d pn hz hf => pss_one (hsu a oe cls d pn hz hf))
  refine ⟨⟨fun pins s σ H D I q => h.run pins s σ H D I (d_tryIP te D σ H q hij (hlen _ _ _ _ I))⟩⟩
end
section
variable {C : Addr} {X : Cx} {x : Str} {p pos : Pos} {k n : Nat} {f : Addr} {fd : FuncData} {ps : List Str} {mm : List D → Option D}
theorem de_callG0 (F : FnG X.prog X.w X.K X.mg X.base k f fd ps (spD X.K C n mm)) (hG : X.A.guards = some []) (hr : Room k X.A) (hg : Gl X x) (hm : X.mg x = some (.ref f)) (hk : PySem.W.keepIn X.K (.ref f) = true) (hb : Binds X.K fd ps [])
    (hdb : (x == ("__debug__" : Str)) = false := by decide) : DE C X (.Call (.Name x p) [] [] pos) (eFn n mm aNil) := ⟨⟨fun pins s σ H Q I q => by
  obtain ⟨M, ρ, d, hm', he, hf, kq⟩ := q
  obtain ⟨ds, h1, h2, h3⟩ := efn_some hf
  cases h1
  refine wpAny_Call_Name_kw (ld_glob I hg hm ?_ hdb)
  refine PySem.W.callWith_K0 (first := []) I.kIn hk ?_
  have hq : spD X.K C n mm [] H Q E0 := ⟨h2, M, [], d, hm', .nil, h3, fun v H2 s2 r2 => kq v H2 s2 r2⟩
  have hl : ([] : List Value).length = ps.length := by rw [← F.len _ _ _ _ hq] <;> rfl
  refine wpAny_call (codeAny_mono (F.run X.A X.stack s H ⟨[], []⟩ [] [] Q E0 hG hr I.env0 (hb s [] I.kIn hl) .nil hq) fun r s' hq => ?_)
  cases r with
  | error e => exact passL pins σ H s e s' I hq
  | ok fl =>
    cases fl with
    | ret u => exact I.after hq
    | next => exact False.elim hq
    | brk => exact False.elim hq
    | cont => exact False.elim hq⟩⟩
end
end FF
/-! ## GY -/
namespace FF
open PySem PySem.Spec PyProof.Rows L2
section
variable {P : Program} {w : World} {K : PySem.W.Frag} {mg : Str → Option Value} {base : Heap}

def u_law_are_rows_right : Ev → Option Out := sSeq (sTupAsg (aCons (eTup (aCons (eTup (aCons (eC (.p (.str z_x))) (aCons (eC (.p (.int (Int.ofNat 0)))) (aCons (eC (.p (.int (Int.ofNat 5)))) (aNil))))) (aCons (eTup (aCons (eC (.p (.str z_y))) (aCons (eC (.p (.int (Int.ofNat 0)))) (aCons (eC (.p (.int (Int.ofNat 5)))) (aNil))))) (aNil)))) (aCons (eTup (aCons (eC (.p (.str z_1))) (aCons (eTup (aCons (eC (.p (.str z_item))) (aCons (eC (.p (.str z_x))) (aNil)))) (aCons (eTup (aCons (eC (.p (.str z_item))) (aCons (eC (.p (.str z_y))) (aNil)))) (aNil))))) (aNil))) (dgCons (tgName 0) (dgCons (tgName 1) (dgNil)))) (sSeq (sSet (tgName 2) (eTup (aCons (eTup (aCons (eC (.p (.str z_check))) (aCons (eC (.p (.str z_ale))) (aCons (eTup (aCons (eC (.p (.str z_11))) (aCons (eVar 1) (aCons (eC (.p (.int (Int.ofNat 4)))) (aNil))))) (aNil))))) (aCons (eTup (aCons (eC (.p (.str z_check))) (aCons (eC (.p (.str z_bad))) (aCons (eTup (aCons (eC (.p (.str z_11))) (aCons (eVar 1) (aCons (eC (.p (.int (Int.ofNat 5)))) (aNil))))) (aNil))))) (aNil))))) (sSeq (sIf (bOr (tB (op2 gNe (eFn 2 m_idle_checks (aCons (eVar 0) (aCons (eVar 2) (aNil)))) (eTup (aCons (eC (.p (.int (Int.ofNat 1)))) (aNil))))) (tB (op2 gNe (eCall gLen (aCons (op2 gIx (eFn 2 m_regions (aCons (eVar 0) (aCons (eVar 2) (aNil)))) (eC (.p (.int (Int.ofNat 0))))) (aNil))) (eC (.p (.int (Int.ofNat 26))))))) (sRet (eC (.p (.bool false)))) (sNext)) (sSeq (sIf (tB (op2 gNe (eFn 3 m_lets_list (aCons (eVar 0) (aCons (eVar 2) (aCons (eTup (aCons (eTup (aCons (eC (.p (.str z_first))) (aCons (eTup (aCons (eC (.p (.int (Int.ofNat 0)))) (aCons (eC (.p (.int (Int.ofNat 4)))) (aNil)))) (aNil)))) (aCons (eTup (aCons (eC (.p (.str z_idle))) (aCons (op2 gMul (eTup (aCons (eC (.p (.int (Int.ofNat 0)))) (aNil))) (eC (.p (.int (Int.ofNat 21))))) (aNil)))) (aNil)))) (aNil))))) (eTup (aCons (eC (.p (.int (Int.ofNat 1)))) (aNil))))) (sRet (eC (.p (.bool false)))) (sNext)) (sSeq (sSet (tgName 3) (eC (.p .none))) (sSeq (sTryIP 3 mx_lets_list (aCons (eVar 0) (aCons (eVar 2) (aCons (eTup (aCons (eTup (aCons (eC (.p (.str z_first))) (aCons (eTup (aCons (eC (.p (.int (Int.ofNat 0)))) (aCons (eC (.p (.int (Int.ofNat 4)))) (aNil)))) (aNil)))) (aCons (eTup (aCons (eC (.p (.str z_idle))) (aCons (op2 gCat (op2 gMul (eTup (aCons (eC (.p (.int (Int.ofNat 0)))) (aNil))) (eC (.p (.int (Int.ofNat 20))))) (eTup (aCons (eC (.p (.int (Int.ofNat 1)))) (aNil)))) (aNil)))) (aNil)))) (aNil)))) 4 3) (sRet (op2 gEq (eVar 3) (eTup (aCons (eC (.p (.str z_ahead))) (aCons (eTup (aCons (eC (.p (.int (Int.ofNat 1)))) (aCons (eC (.p (.int (Int.ofNat 20)))) (aNil)))) (aNil)))))))))))
def m_law_are_rows_right : List D → Option D := runD 5 u_law_are_rows_right
theorem ok_law_are_rows_right (T : Kit K mg) (Z : Pap K mg) : FnG P w K mg base 70 T.d_law_are_rows_right.f T.d_law_are_rows_right.fd P_law_are_rows_right (spD K T.C 0 m_law_are_rows_right) := fnDG T.d_law_are_rows_right.F sc_law_are_rows_right rfl fun cdv A outer s H E hG hr => by
  have nd : N_law_are_rows_right.Nodup := sc_law_are_rows_right.nd
  have hu1 := hu_of hr
  have hu64 := hr.units
  exact dss_cons (ds_tupAsg (vs := [0, 1]) (da_cons (de_tup (da_cons (de_tup (da_cons (de_str ez_x) (da_cons (de_int) (da_cons (de_int) (da_nil))))) (da_cons (de_tup (da_cons (de_str ez_y) (da_cons (de_int) (da_cons (de_int) (da_nil))))) (da_nil)))) (da_cons (de_tup (da_cons (de_str ez_1) (da_cons (de_tup (da_cons (de_str ez_item) (da_cons (de_str ez_x) (da_nil)))) (da_cons (de_tup (da_cons (de_str ez_item) (da_cons (de_str ez_y) (da_nil)))) (da_nil))))) (da_nil))) (dgd_cons (dg_name (pg_name (i := 0) nd rfl (Or.inl rfl))) (dgd_cons (dg_name (pg_name (i := 1) nd rfl (Or.inl rfl))) (dgd_nil))) (hlen := (dgs_len (dgs_len dgs_len0)))) (dss_cons (ds_set (ps_set (i := 2) nd rfl (Or.inl rfl) (DE.pe (de_tup (da_cons (de_tup (da_cons (de_str ez_check) (da_cons (de_str ez_ale) (da_cons (de_tup (da_cons (de_str ez_11) (da_cons (de_v (pv 1)) (da_cons (de_int) (da_nil))))) (da_nil))))) (da_cons (de_tup (da_cons (de_str ez_check) (da_cons (de_str ez_bad) (da_cons (de_tup (da_cons (de_str ez_11) (da_cons (de_v (pv 1)) (da_cons (de_int) (da_nil))))) (da_nil))))) (da_nil))))))) (dss_cons (ds_if (dt_w (dw_or (dt_cmp (op_ne.or (op_neD hu64)) opd_ne (de_call (ok_idle_checks T) (hr.mono (by omega)) (by rfl) T.d_idle_checks.g T.d_idle_checks.k T.d_idle_checks.b (da_cons (de_v (pv 0)) (da_cons (de_v (pv 2)) (da_nil)))) (de_tup (da_cons (de_int) (da_nil))) rfl) (dw_or1 (dt_cmp (op_ne.or (op_neD hu64)) opd_ne (de_callB call_len_seq cld_len (by rfl) T.n_len (by decide +kernel) (da_cons (de_ix ix_seq opd_ix (de_call (ok_regions T) (hr.mono (by omega)) (by rfl) T.d_regions.g T.d_regions.k T.d_regions.b (da_cons (de_v (pv 0)) (da_cons (de_v (pv 2)) (da_nil)))) (de_int) (fun _ _ => rfl)) (da_nil))) (de_int) rfl)))) (dss_one (ds_ret (de_bool))) (dss_nil)) (dss_cons (ds_if (dt_cmp (op_ne.or (op_neD hu64)) opd_ne (de_callG (ok_lets_list T) hG (hr.mono (by omega)) (by rfl) T.d_lets_list.g T.d_lets_list.k T.d_lets_list.b (da_cons (de_v (pv 0)) (da_cons (de_v (pv 2)) (da_cons (de_tup (da_cons (de_tup (da_cons (de_str ez_first) (da_cons (de_tup (da_cons (de_int) (da_cons (de_int) (da_nil)))) (da_nil)))) (da_cons (de_tup (da_cons (de_str ez_idle) (da_cons (de_bin (op_mul.or op_repT) opd_mul (de_tup (da_cons (de_int) (da_nil))) (de_int)) (da_nil)))) (da_nil)))) (da_nil))))) (de_tup (da_cons (de_int) (da_nil))) rfl) (dss_one (ds_ret (de_bool))) (dss_nil)) (dss_cons (ds_set (ps_set (i := 3) nd rfl (Or.inl rfl) (DE.pe (de_none)))) (dss_cons (ds_tryIP (X := (cxOf (L2.CX P w) P w K mg base N_law_are_rows_right "_law_are_rows_right" (defScope s_law_are_rows_right) T.d_law_are_rows_right.f cdv A outer s H E).nox) (i := 4) (j := 3) Z Z.xf Z.te rfl rfl nd rfl rfl ⟨by rfl, by decide, .inl Z.gC⟩ takes0 (by decide) (fun _ _ _ _ I => by rw [I.len]; exact (by decide : 4 < N_law_are_rows_right.length)) (fun W pn xe tk => ps_expr (pe_callSG (okx_lets_list T Z) hG (hr.mono (by omega)) (by rfl) T.d_lets_list.g T.d_lets_list.k T.d_lets_list.b (passAt tk) (DA.pa (da_cons (de_v (pv 0)) (da_cons (de_v (pv 2)) (da_cons (de_tup (da_cons (de_tup (da_cons (de_str ez_first) (da_cons (de_tup (da_cons (de_int) (da_cons (de_int) (da_nil)))) (da_nil)))) (da_cons (de_tup (da_cons (de_str ez_idle) (da_cons (de_bin (op_add.or op_catA) opd_cat (de_bin (op_mul.or op_repT) opd_mul (de_tup (da_cons (de_int) (da_nil))) (de_int)) (de_tup (da_cons (de_int) (da_nil)))) (da_nil)))) (da_nil)))) (da_nil))))))) (fun a oe cls d pn hz hf => ps_set (i := 3) nd rfl (Or.inl rfl) (pe_tup (pa_cons (pe_xf Z.xf Z.nW hz hf (pv 4)) (pa_cons (pe_xf Z.xf Z.nA hz hf (pv 4)) pa_nil))))) (dss_one (ds_ret (de_cmp (op_eq.or (op_eqD hu64)) opd_eq (de_v (pv 3)) (de_tup (da_cons (de_str ez_ahead) (da_cons (de_tup (da_cons (de_int) (da_cons (de_int) (da_nil)))) (da_nil)))) rfl))))))))
end
end FF
/-! ## GZ -/
namespace FF
open PySem PySem.Spec PyProof.Rows L2
section
variable {P : Program} {w : World} {K : PySem.W.Frag} {mg : Str → Option Value} {base : Heap}
def u_law_rest : Ev → Option Out := sSeq (sIf (bOr (bNot (tB (eFn 1 m_law_is_till_right (aCons (eVar 2) (aNil))))) (bOr (bNot (tB (eFn 2 m_law_is_stair_right (aCons (eVar 3) (aCons (eC (.p (.bool false))) (aNil)))))) (bNot (tB (eFn 2 m_law_is_stair_right (aCons (eVar 3) (aCons (eC (.p (.bool true))) (aNil)))))))) (sRet (eC (.p (.bool false)))) (sNext)) (sSeq (sIf (bOr (bNot (tB (eFn 0 m_law_are_chains_right aNil))) (bNot (tB (eFn 0 m_law_are_rows_right aNil)))) (sRet (eC (.p (.bool false)))) (sNext)) (sRet (eAnd (eFn 1 m_law_are_apart_right (aCons (op2 gSub (eVar 3) (eC (.p (.int (Int.ofNat 1))))) (aNil))) (eFn 0 m_law_are_many_right aNil))))
theorem law_rest (T : Kit K mg) (Z : Pap K mg) (cdv : Value) (A : Around) (outer : List Env) (s : Shared) (H : Hp) (E : XK) (hG : (A.deeper (envOfC "law" (defScope s_law) s.heap.objs.size T.d_law.f cdv)).guards = some []) (hr : Room 89 (A.deeper (envOfC "law" (defScope s_law) s.heap.objs.size T.d_law.f cdv))) :
    DSs T.C (fun _ _ _ => False) (cxOf (L2.CX P w) P w K mg base N_law "law" (defScope s_law) T.d_law.f cdv A outer s H E).nox ((defBody s_law).drop 2) u_law_rest := by
  have nd : N_law.Nodup := sc_law.nd
  have hu1 := hu_of hr
  have hu64 := hr.units
  exact dss_cons (ds_if (dt_w (dw_or (dt_not (dt_val (de_callG (ok_law_is_till_right T) hG (hr.mono (by omega)) (by rfl) T.d_law_is_till_right.g T.d_law_is_till_right.k T.d_law_is_till_right.b (da_cons (de_v (pv 2)) (da_nil))))) (dw_or (dt_not (dt_val (de_call (ok_law_is_stair_right T) (hr.mono (by omega)) (by rfl) T.d_law_is_stair_right.g T.d_law_is_stair_right.k T.d_law_is_stair_right.b (da_cons (de_v (pv 3)) (da_cons (de_bool) (da_nil)))))) (dw_or1 (dt_not (dt_val (de_call (ok_law_is_stair_right T) (hr.mono (by omega)) (by rfl) T.d_law_is_stair_right.g T.d_law_is_stair_right.k T.d_law_is_stair_right.b (da_cons (de_v (pv 3)) (da_cons (de_bool) (da_nil)))))))))) (dss_one (ds_ret (de_bool))) (dss_nil)) (dss_cons (ds_if (dt_w (dw_or (dt_not (dt_val (de_call0 (ok_law_are_chains_right T) (hr.mono (by omega)) (by rfl) T.d_law_are_chains_right.g T.d_law_are_chains_right.k T.d_law_are_chains_right.b))) (dw_or1 (dt_not (dt_val (de_callG0 (ok_law_are_rows_right T Z) hG (hr.mono (by omega)) (by rfl) T.d_law_are_rows_right.g T.d_law_are_rows_right.k T.d_law_are_rows_right.b)))))) (dss_one (ds_ret (de_bool))) (dss_nil)) (dss_one (ds_ret (de_and (de_call (ok_law_are_apart_right T) (hr.mono (by omega)) (by rfl) T.d_law_are_apart_right.g T.d_law_are_apart_right.k T.d_law_are_apart_right.b (da_cons (de_bin op_sub opd_sub (de_v (pv 3)) (de_int)) (da_nil))) (de_one (de_callG0 (ok_law_are_many_right T) hG (hr.mono (by omega)) (by rfl) T.d_law_are_many_right.g T.d_law_are_many_right.k T.d_law_are_many_right.b))))))
end
end FF
/-! ## LE -/
namespace FF
open PySem PySem.Spec PyProof.Rows L2
/-! ### the law's rest, from its parts -/
def yes : Option D → Bool
  | some (.p (.bool b)) => b
  | _ => false
theorem yes_ok {o : Option D} (h : yes o = true) : o = some (.p (.bool true)) := by
  unfold yes at h
  split at h
  · rw [h]
  · cases h
abbrev tt : Option D := some (.p (.bool true))
theorem law_true {lo mn : Int} (h1 : m_law_is_till_right [.p (.int lo)] = tt) (h2 : m_law_is_stair_right [.p (.int mn), .p (.bool false)] = tt) (h3 : m_law_is_stair_right [.p (.int mn), .p (.bool true)] = tt)
    (h4 : m_law_are_chains_right [] = tt) (h5 : m_law_are_rows_right [] = tt) (h6 : m_law_are_apart_right [.p (.int (mn - 1))] = tt) (h7 : m_law_are_many_right [] = tt) (a b : Option D) :
    u_law_rest [a, b, some (.p (.int lo)), some (.p (.int mn))] = some (.ret (.p (.bool true))) := by
  have e1 : eFn 1 m_law_is_till_right (aCons (eVar 2) aNil) [a, b, some (.p (.int lo)), some (.p (.int mn))] = tt := h1
  have e2 : eFn 2 m_law_is_stair_right (aCons (eVar 3) (aCons (eC (.p (.bool false))) aNil)) [a, b, some (.p (.int lo)), some (.p (.int mn))] = tt := h2
  have e3 : eFn 2 m_law_is_stair_right (aCons (eVar 3) (aCons (eC (.p (.bool true))) aNil)) [a, b, some (.p (.int lo)), some (.p (.int mn))] = tt := h3
  have e4 : eFn 0 m_law_are_chains_right aNil [a, b, some (.p (.int lo)), some (.p (.int mn))] = tt := h4
  have e5 : eFn 0 m_law_are_rows_right aNil [a, b, some (.p (.int lo)), some (.p (.int mn))] = tt := h5
  have e6 : eFn 1 m_law_are_apart_right (aCons (op2 gSub (eVar 3) (eC (.p (.int (Int.ofNat 1))))) aNil) [a, b, some (.p (.int lo)), some (.p (.int mn))] = tt := h6
  have e7 : eFn 0 m_law_are_many_right aNil [a, b, some (.p (.int lo)), some (.p (.int mn))] = tt := h7
  unfold u_law_rest
  simp only [sSeq, sIf, bOr, bNot, tB, e1, e2, e3, e4, e5, asB, sNext, sRet, eAnd, e6, e7, Bool.not_true]
/-! ### the law -/
def spLaw (K : PySem.W.Frag) : Sp := fun vs H Q _ => ∃ (a : Addr) (ns : List Int), vs = [.ref a] ∧ SqL K H a (ns.map V.int) ∧ ∀ H', Q (.bl true) H'
/-- what the law's parts say -/
structure Parts : Prop where
  till : ∀ lo : Int, -6 ≤ lo → lo ≤ 2 → m_law_is_till_right [.p (.int lo)] = tt
  stair : ∀ (mn : Int) (b : Bool), 3 ≤ mn → mn ≤ 5 → m_law_is_stair_right [.p (.int mn), .p (.bool b)] = tt
  chains : m_law_are_chains_right [] = tt
  rows : m_law_are_rows_right [] = tt
  apart : ∀ mn : Int, 2 ≤ mn → mn ≤ 4 → m_law_are_apart_right [.p (.int mn)] = tt
  many : m_law_are_many_right [] = tt
section
variable {P : Program} {w : World} {K : PySem.W.Frag} {mg : Str → Option Value} {base : Heap}
theorem ok_law (T : Kit K mg) (Z : Pap K mg) (hp : Parts) : FnG P w K mg base 90 T.d_law.f T.d_law.fd P_law (spLaw K) := by
  refine fnG_of T.d_law.F sc_law (fun vs H Q E h => ?_) (fun cdv A outer s H vs Q E hG hr h => ?_)
  · obtain ⟨a, ns, rfl, _⟩ := h
    rfl
  · have nd : N_law.Nodup := sc_law.nd
    have hG' : (A.deeper (envOfC "law" (defScope s_law) s.heap.objs.size T.d_law.f cdv)).guards = some [] := hG
    refine ⟨_, PSs.nox (pss_cons (ps_set (i := 1) nd rfl (Or.inl rfl) (pe_call (ok_law_source T) (hr.mono (by omega)) (by rfl) T.d_law_source.g T.d_law_source.k T.d_law_source.b .nil passL (pa_cons (pv 0) pa_nil)))
      (pss_cons (ps_par (i := 2) (j := 3) rfl nd rfl rfl (by decide) rfl rfl
          (pa_cons (pe_op op_sub (pe_call (ok_law_draw T) (hr.mono (by omega)) (by rfl) T.d_law_draw.g T.d_law_draw.k T.d_law_draw.b .nil passL (pa_cons (pv 1) (pa_cons pe_int pa_nil))) pe_int)
            (pa_cons (pe_op op_add pe_int (pe_call (ok_law_draw T) (hr.mono (by omega)) (by rfl) T.d_law_draw.g T.d_law_draw.k T.d_law_draw.b .nil passL (pa_cons (pv 1) (pa_cons pe_int pa_nil)))) pa_nil)) (by rfl))
        (law_rest T Z cdv A outer s H E hG' hr).pss)), ?_⟩
    obtain ⟨a, ns, rfl, hS, k⟩ := h
    refine ⟨_, rfl, a, ns, rfl, hS, fun src L ms H1 s1 hsrc hL _ => ?_⟩
    have hne : L ≠ src := fun z => by
      rw [z, hsrc] at hL
      cases ms with
      | nil => cases hL
      | cons m ms => cases hL
    refine ⟨_, rfl, src, L, 9, 0, 0, 0, ms, rfl, by decide, by decide, hsrc, hL, hne, by decide, by decide, fun d i' r' H2 hd0 hd1 sb2 hsrc2 => ?_⟩
    refine ⟨d, 6, rfl, rfl, ?_⟩
    refine ⟨_, rfl, src, L, 3, i', r', 1, ms, rfl, by decide, by decide, hsrc2, sb2 _ _ hne hL, hne, by decide, by decide, fun g i2 r2 H3 hg0 hg1 sb3 hsrc3 => ?_⟩
    refine ⟨3, g, rfl, rfl, _, _, rfl, ?_⟩
    refine ⟨fun _ => false, [none, none, some (.p (.int (d - 6))), some (.p (.int (3 + g)))], .ret (.p (.bool true)), fun a h => (by cases h), ⟨rfl, fun i e q => ?_⟩,
      law_true (hp.till _ (by omega) (by omega)) (hp.stair _ _ (by omega) (by omega)) (hp.stair _ _ (by omega) (by omega)) hp.chains hp.rows (hp.apart _ (by omega) (by omega)) hp.many none none, fun v H4 s4 r4 => ?_⟩
    · match i, q with
      | 2, q => cases q; exact ⟨_, rfl, .int _⟩
      | 3, q => cases q; exact ⟨_, rfl, .int _⟩
    · have r4' : Dp K _ v (.bool true) := r4
      cases r4'
      exact k H4
end
end FF
/-! ## HD -/
namespace FF
open PySem PySem.Spec PyProof.Rows L2
/-! ### what the top leaves, by names -/
abbrev Rw : PySem.W.OpenRow := PySem.W.OpenLaw.row PySem.Challenge.rw_firstfault_k49_whole_lists_by_hand
def gD (x : Str) (st : Stmt) : He.DefD := ⟨(x, none), x, x, defArgs st, defBody st, defScope st, [], []⟩
def cD (c m q : Str) (st : Stmt) : He.DefD := ⟨(c, some m), m, q, defArgs st, defBody st, defScope st, [], []⟩
def fnL0 : List He.DefD := [gD "is_integer" s_is_integer, gD "is_number" s_is_number, gD "are_integers" s_are_integers, gD "is_state" s_is_state, gD "place_of" s_place_of, gD "value_in" s_value_in, gD "holds_in" s_holds_in, gD "states_of" s_states_of, gD "failed_there" s_failed_there, gD "first_failing" s_first_failing, gD "regions" s_regions, gD "words_of_list" s_words_of_list, gD "idle_checks" s_idle_checks, gD "least_list" s_least_list, gD "require" s_require, gD "is_entry" s_is_entry, gD "check_idle" s_check_idle, gD "lets_list" s_lets_list, gD "need_order" s_need_order, gD "must_ahead" s_must_ahead, gD "may_order" s_may_order, gD "can_begin" s_can_begin, gD "orders" s_orders, gD "asked_in" s_asked_in, gD "work_of" s_work_of]
def fnL1 : List He.DefD := [gD "work" s_work, gD "least_work" s_least_work, gD "_law_source" s_law_source, gD "_law_draw" s_law_draw, gD "_law_till" s_law_till, gD "_law_is_till_right" s_law_is_till_right, gD "_law_is_stair_right" s_law_is_stair_right, gD "_law_are_apart_right" s_law_are_apart_right, gD "_law_all" s_law_all, gD "_law_are_chains_right" s_law_are_chains_right, gD "_law_are_rows_right" s_law_are_rows_right, gD "_law_are_many_right" s_law_are_many_right, gD "_law_sum" s_law_sum, gD "law" s_law, cD "ListLook" "__init__" "ListLook.__init__" s_ListLook_init, cD "ListLook" "told_by" "ListLook.told_by" s_ListLook_told_by, cD "ListLook" "whole_order" "ListLook.whole_order" s_ListLook_whole_order, cD "ListLook" "due" "ListLook.due" s_ListLook_due, cD "ListLook" "parting" "ListLook.parting" s_ListLook_parting, cD "ListLook" "region_of" "ListLook.region_of" s_ListLook_region_of, cD "InvalidPaper" "__init__" "InvalidPaper.__init__" s_IP]
def fnL : List He.DefD := fnL0 ++ fnL1
def faL0 : List He.Fa := [.glo "is_integer", .glo "is_number", .glo "are_integers", .glo "is_state", .glo "place_of", .glo "value_in", .glo "holds_in", .glo "states_of", .glo "failed_there", .glo "first_failing", .glo "regions", .glo "words_of_list", .glo "idle_checks", .glo "least_list", .glo "require", .glo "is_entry", .glo "check_idle", .glo "lets_list", .glo "need_order", .glo "must_ahead", .glo "may_order", .glo "can_begin", .glo "orders", .glo "asked_in", .glo "work_of"]
def faL1 : List He.Fa := [.glo "work", .glo "least_work", .glo "_law_source", .glo "_law_draw", .glo "_law_till", .glo "_law_is_till_right", .glo "_law_is_stair_right", .glo "_law_are_apart_right", .glo "_law_all", .glo "_law_are_chains_right", .glo "_law_are_rows_right", .glo "_law_are_many_right", .glo "_law_sum", .glo "law", .free "len", .free "all", .free "sum", .free "min", .free "list", .free "tuple", .free "range", .free "enumerate", .free "zip", .free "isinstance", .free "sorted"]
def faL2 : List He.Fa := [.free "set", .free "repr", .free "int", .free "bool", .free "str", .meth "ListLook" "__init__", .meth "ListLook" "told_by", .meth "ListLook" "whole_order", .meth "ListLook" "due", .meth "ListLook" "parting", .meth "ListLook" "region_of", .cls "ListLook", .glo "ListLook", .noat "ListLook" "every_state", .noat "ListLook" "list_words", .noat "ListLook" "failed", .mkr "ListLook", .glo "InvalidPaper", .glo "PaperError", .keep "InvalidPaper", .exm "InvalidPaper" "InvalidPaper" true, .noat "InvalidPaper" "word", .noat "InvalidPaper" "at"]
def faL : List He.Fa := faL0 ++ faL1 ++ faL2
def nmL0 : List Str := ["FaultError", "PaperError", "ProgramError", "InvalidPaper", "InvalidState", "NotUsable", "is_integer", "is_number", "are_integers", "is_state", "place_of", "value_in", "holds_in", "states_of", "ListLook", "failed_there", "first_failing", "regions", "words_of_list", "idle_checks", "least_list", "require", "is_entry", "check_idle", "lets_list"]
def nmL1 : List Str := ["need_order", "must_ahead", "may_order", "can_begin", "orders", "asked_in", "work_of", "work", "least_work", "_law_source", "_law_draw", "_law_till", "_law_is_till_right", "_law_is_stair_right", "_law_are_apart_right", "_law_all", "_law_are_chains_right", "_law_are_rows_right", "_law_are_many_right", "_law_sum"]
def nmL : List Str := nmL0 ++ nmL1
/-! ### the class of the error -/
def oexB (K : PySem.W.Frag) (a : Addr) : Bool := match K.lookup a with
  | some ⟨.type t, _, .cls c, sl⟩ => (match c.mro, sl.toList with
    | .ref b :: r, [_, _, _, _, some (.builtin nw), _] => decide (t = "type") && (decide (b = a) && (decide (nw = "ValueError.__new__") && (c.hasDict && (!c.hasDel && PySem.HandSPX.refsVE r))))
    | _, _ => false)
  | _ => false
theorem oexB_ok {K : PySem.W.Frag} {a : Addr} (h : oexB K a = true) : ∃ nm q N bs bm sn sub ab col dd k0 k1 k2 k3 k5, K.lookup a = some (excClassObj nm q a N bs bm true sn sub ab col dd k0 k1 k2 k3 k5 "ValueError.__new__") ∧ PySem.HandSPX.refsVE bm = true := by
  unfold oexB at h
  split at h
  · rename_i t dd c sl e
    split at h
    · rename_i b r k0 k1 k2 k3 nw k5 hm hs
      simp only [Bool.and_eq_true, decide_eq_true_eq, Bool.not_eq_true'] at h
      obtain ⟨h1, h2, h3, h4, h5, h6⟩ := h
      subst h1 h2 h3
      obtain ⟨c1, c2, c3, c4, c5, c6, c7, c8, c9, c10, c11⟩ := c
      dsimp only at hm h4 h5
      subst hm h4 h5
      obtain ⟨l⟩ := sl
      dsimp only at hs
      subst hs
      exact ⟨_, _, _, _, _, _, _, _, _, _, _, _, _, _, _, e, h6⟩
    · cases h
  · cases h
def iniB (K : PySem.W.Frag) (a : Addr) : Bool := match PySem.W.findCls K (.ref a) (.type "type") "__init__" with
  | some (.val (.builtin n)) => decide (n = "ValueError.__init__")
  | _ => false
theorem iniB_ok {K : PySem.W.Frag} {a : Addr} (h : iniB K a = true) : PySem.W.findCls K (.ref a) (.type "type") "__init__" = some (.val (.builtin "ValueError.__init__")) := by
  unfold iniB at h
  split at h
  · rename_i n e
    rw [e, of_decide_eq_true h]
  · cases h
def exB (K : PySem.W.Frag) : Bool :=
  (PySem.W.readsIn K (He.ga K "PaperError") (.type "type") && (He.eqO (PySem.W.specialIn K (.ref (He.ga K "PaperError")) "__getattribute__") (some (some (.builtin "type.__getattribute__"))) && iniB K (He.ga K "PaperError"))) &&
  ((oexB K (He.ga K "InvalidPaper") && (He.eqO (PySem.W.findIn K (.ref (He.ga K "InvalidPaper")) "__setattr__") (some (some (.builtin "object.__setattr__"))) && decide (PySem.W.typeIn K (.ref (He.ga K "InvalidPaper")) = some (.type "type")))) &&
  (xfB K (He.ga K "InvalidPaper") && (He.eqO (PySem.W.findIn K (.ref (He.ga K "InvalidPaper")) "__init__") (some (some (.ref (He.ma K (He.ga K "InvalidPaper") "__init__")))) && decide (PySem.W.typeIn K (.ref (He.ma K (He.ga K "InvalidPaper") "__init__")) = some (.type "function")))))
/-! ### what is looked at behind the top -/
def obsF (K : PySem.W.Frag) : He.AlD × Bool := (He.obsD faL fnL K, exB K)
def valF : He.AlD × Bool := (He.valD fnL, true)
def asF (g : Addr → Option Obj) : List Addr := PySem.cStatics :: He.asD g 5
def hookF : PySem.W.Hook where
  α := He.AlD × Bool
  obs := fun s => obsF (He.frG s.heap.get? (asF s.heap.get?))
  val := fun _ => valF
  says := fun _ h => ∃ K : PySem.W.Frag, K.In h ∧ obsF K = valF
  of := fun _ _ e => ⟨_, He.frG_in, e⟩
  keeps := fun _ _ _ ⟨K, hK, c⟩ k => ⟨K, PySem.W.Frag.In.keeps hK k, c⟩
def obT (s : PySem.W.SharedT) : He.AlD × Bool := obsF (He.frG (HandSHeadRun.getT s) (asF (HandSHeadRun.getT s)))
theorem obT_eq (s : PySem.W.SharedT) : obT s = hookF.obs s.abs := by
  have e : HandSHeadRun.getT s = s.abs.heap.get? := funext (HandSHeadRun.getT_eq s)
  show obsF (He.frG (HandSHeadRun.getT s) (asF (HandSHeadRun.getT s))) = obsF (He.frG s.abs.heap.get? (asF s.abs.heap.get?))
  rw [e]
/-! ### from the facts -/
theorem fun_ofD {K : PySem.W.Frag} {x qual : Str} {st : Stmt} {f : Addr} {fd : FuncData} (F : FunD K x qual (defArgs st) (defBody st) (defScope st) [] [] f fd) : Fun K x qual st f fd := by
  obtain ⟨oc, od, dV, kV, doc, pm, an, cdv, ct, osl, e, lk, hcd, hD, _⟩ := F.ex
  rcases hD with ⟨_, rfl⟩ | ⟨z, _⟩
  · exact ⟨⟨oc, od, kV, doc, pm, an, cdv, ct, osl, e, lk, hcd⟩, F.kp⟩
  · exact absurd rfl z
section
variable {K : PySem.W.Frag} {h : Heap} {mg : Str → Option Value}
theorem df_of (X : K.In h) (G : h.Ns mainGlobals mg) (c : He.SaysD faL fnL K) {x : Str} {st : Stmt} {ps : List Str} (i j : Nat) (hd : fnL[i]? = some (gD x st)) (hf : faL[j]? = some (.glo x))
    (hb : ∀ (kV doc pm : Value) (an : Option Addr) (cdv ct : Value) (us : List Value), us.length = ps.length → bindArgs (PySem.W.fnOf x x (defArgs st) (defBody st) (defScope st) .none kV doc pm an cdv ct) ⟨us, []⟩ = pure (ps.zip us)) : Nonempty (Df K mg x x st ps) := by
  obtain ⟨fd, F⟩ := c.def_ i hd
  have F' : Fun K x x st (He.ga K x) fd := fun_ofD F
  exact ⟨⟨He.ga K x, fd, F', He.glo_ok X G (c.fact j hf), F'.kp, F'.binds hb⟩⟩
theorem md_of (c : He.SaysD faL fnL K) {m qual : Str} {st : Stmt} {ps : List Str} (i j : Nat) (hd : fnL[i]? = some (cD "ListLook" m qual st)) (hf : faL[j]? = some (.meth "ListLook" m))
    (hb : ∀ (kV doc pm : Value) (an : Option Addr) (cdv ct : Value) (us : List Value), us.length = ps.length → bindArgs (PySem.W.fnOf m qual (defArgs st) (defBody st) (defScope st) .none kV doc pm an cdv ct) ⟨us, []⟩ = pure (ps.zip us)) : ∃ M : Md K (He.ga K "ListLook") m qual st ps, M.f = He.ma K (He.ga K "ListLook") m := by
  obtain ⟨fd, F⟩ := c.def_ i hd
  have F' : Fun K m qual st (He.ma K (He.ga K "ListLook") m) fd := fun_ofD F
  exact ⟨⟨He.ma K (He.ga K "ListLook") m, fd, F', He.meth_ok (c.fact j hf), F'.binds hb⟩, rfl⟩
theorem kit_of (X : K.In h) (G : h.Ns mainGlobals mg) (c : He.SaysD faL fnL K) : ∃ T : Kit K mg, T.d_law.f = He.ga K "law" := by
  obtain ⟨d0⟩ := df_of X G c (st := s_is_integer) (ps := P_is_integer) 0 0 rfl rfl (fun _ _ _ _ _ _ us hl => match us, hl with | [_], _ => rfl)
  obtain ⟨d1⟩ := df_of X G c (st := s_is_number) (ps := P_is_number) 1 1 rfl rfl (fun _ _ _ _ _ _ us hl => match us, hl with | [_], _ => rfl)
  obtain ⟨d2⟩ := df_of X G c (st := s_are_integers) (ps := P_are_integers) 2 2 rfl rfl (fun _ _ _ _ _ _ us hl => match us, hl with | [_], _ => rfl)
  obtain ⟨d3⟩ := df_of X G c (st := s_is_state) (ps := P_is_state) 3 3 rfl rfl (fun _ _ _ _ _ _ us hl => match us, hl with | [_, _], _ => rfl)
  obtain ⟨d4⟩ := df_of X G c (st := s_place_of) (ps := P_place_of) 4 4 rfl rfl (fun _ _ _ _ _ _ us hl => match us, hl with | [_, _], _ => rfl)
  obtain ⟨d5⟩ := df_of X G c (st := s_value_in) (ps := P_value_in) 5 5 rfl rfl (fun _ _ _ _ _ _ us hl => match us, hl with | [_, _, _], _ => rfl)
  obtain ⟨d6⟩ := df_of X G c (st := s_holds_in) (ps := P_holds_in) 6 6 rfl rfl (fun _ _ _ _ _ _ us hl => match us, hl with | [_, _, _], _ => rfl)
  obtain ⟨d7⟩ := df_of X G c (st := s_states_of) (ps := P_states_of) 7 7 rfl rfl (fun _ _ _ _ _ _ us hl => match us, hl with | [_], _ => rfl)
  obtain ⟨d8⟩ := df_of X G c (st := s_failed_there) (ps := P_failed_there) 8 8 rfl rfl (fun _ _ _ _ _ _ us hl => match us, hl with | [_, _, _], _ => rfl)
  obtain ⟨d9⟩ := df_of X G c (st := s_first_failing) (ps := P_first_failing) 9 9 rfl rfl (fun _ _ _ _ _ _ us hl => match us, hl with | [_, _, _], _ => rfl)
  obtain ⟨d10⟩ := df_of X G c (st := s_regions) (ps := P_regions) 10 10 rfl rfl (fun _ _ _ _ _ _ us hl => match us, hl with | [_, _], _ => rfl)
  obtain ⟨d11⟩ := df_of X G c (st := s_words_of_list) (ps := P_words_of_list) 11 11 rfl rfl (fun _ _ _ _ _ _ us hl => match us, hl with | [_, _], _ => rfl)
  obtain ⟨d12⟩ := df_of X G c (st := s_idle_checks) (ps := P_idle_checks) 12 12 rfl rfl (fun _ _ _ _ _ _ us hl => match us, hl with | [_, _], _ => rfl)
  obtain ⟨d13⟩ := df_of X G c (st := s_least_list) (ps := P_least_list) 13 13 rfl rfl (fun _ _ _ _ _ _ us hl => match us, hl with | [_, _], _ => rfl)
  obtain ⟨d14⟩ := df_of X G c (st := s_require) (ps := P_require) 14 14 rfl rfl (fun _ _ _ _ _ _ us hl => match us, hl with | [_, _, _], _ => rfl)
  obtain ⟨d15⟩ := df_of X G c (st := s_is_entry) (ps := P_is_entry) 15 15 rfl rfl (fun _ _ _ _ _ _ us hl => match us, hl with | [_], _ => rfl)
  obtain ⟨d16⟩ := df_of X G c (st := s_check_idle) (ps := P_check_idle) 16 16 rfl rfl (fun _ _ _ _ _ _ us hl => match us, hl with | [_, _, _], _ => rfl)
  obtain ⟨d17⟩ := df_of X G c (st := s_lets_list) (ps := P_lets_list) 17 17 rfl rfl (fun _ _ _ _ _ _ us hl => match us, hl with | [_, _, _], _ => rfl)
  obtain ⟨d18⟩ := df_of X G c (st := s_need_order) (ps := P_need_order) 18 18 rfl rfl (fun _ _ _ _ _ _ us hl => match us, hl with | [_, _], _ => rfl)
  obtain ⟨d19⟩ := df_of X G c (st := s_must_ahead) (ps := P_must_ahead) 19 19 rfl rfl (fun _ _ _ _ _ _ us hl => match us, hl with | [_, _], _ => rfl)
  obtain ⟨d20⟩ := df_of X G c (st := s_may_order) (ps := P_may_order) 20 20 rfl rfl (fun _ _ _ _ _ _ us hl => match us, hl with | [_, _, _], _ => rfl)
  obtain ⟨d21⟩ := df_of X G c (st := s_can_begin) (ps := P_can_begin) 21 21 rfl rfl (fun _ _ _ _ _ _ us hl => match us, hl with | [_, _], _ => rfl)
  obtain ⟨d22⟩ := df_of X G c (st := s_orders) (ps := P_orders) 22 22 rfl rfl (fun _ _ _ _ _ _ us hl => match us, hl with | [_, _], _ => rfl)
  obtain ⟨d23⟩ := df_of X G c (st := s_asked_in) (ps := P_asked_in) 23 23 rfl rfl (fun _ _ _ _ _ _ us hl => match us, hl with | [_, _, _], _ => rfl)
  obtain ⟨d24⟩ := df_of X G c (st := s_work_of) (ps := P_work_of) 24 24 rfl rfl (fun _ _ _ _ _ _ us hl => match us, hl with | [_, _], _ => rfl)
  obtain ⟨d25⟩ := df_of X G c (st := s_work) (ps := P_work) 25 25 rfl rfl (fun _ _ _ _ _ _ us hl => match us, hl with | [_, _], _ => rfl)
  obtain ⟨d26⟩ := df_of X G c (st := s_least_work) (ps := P_least_work) 26 26 rfl rfl (fun _ _ _ _ _ _ us hl => match us, hl with | [_, _], _ => rfl)
  obtain ⟨d27⟩ := df_of X G c (st := s_law_source) (ps := P_law_source) 27 27 rfl rfl (fun _ _ _ _ _ _ us hl => match us, hl with | [_], _ => rfl)
  obtain ⟨d28⟩ := df_of X G c (st := s_law_draw) (ps := P_law_draw) 28 28 rfl rfl (fun _ _ _ _ _ _ us hl => match us, hl with | [_, _], _ => rfl)
  obtain ⟨d29⟩ := df_of X G c (st := s_law_till) (ps := P_law_till) 29 29 rfl rfl (fun _ _ _ _ _ _ us hl => match us, hl with | [_], _ => rfl)
  obtain ⟨d30⟩ := df_of X G c (st := s_law_is_till_right) (ps := P_law_is_till_right) 30 30 rfl rfl (fun _ _ _ _ _ _ us hl => match us, hl with | [_], _ => rfl)
  obtain ⟨d31⟩ := df_of X G c (st := s_law_is_stair_right) (ps := P_law_is_stair_right) 31 31 rfl rfl (fun _ _ _ _ _ _ us hl => match us, hl with | [_, _], _ => rfl)
  obtain ⟨d32⟩ := df_of X G c (st := s_law_are_apart_right) (ps := P_law_are_apart_right) 32 32 rfl rfl (fun _ _ _ _ _ _ us hl => match us, hl with | [_], _ => rfl)
  obtain ⟨d33⟩ := df_of X G c (st := s_law_all) (ps := P_law_all) 33 33 rfl rfl (fun _ _ _ _ _ _ us hl => match us, hl with | [_], _ => rfl)
  obtain ⟨d34⟩ := df_of X G c (st := s_law_are_chains_right) (ps := P_law_are_chains_right) 34 34 rfl rfl (fun _ _ _ _ _ _ us hl => match us, hl with | [], _ => rfl)
  obtain ⟨d35⟩ := df_of X G c (st := s_law_are_rows_right) (ps := P_law_are_rows_right) 35 35 rfl rfl (fun _ _ _ _ _ _ us hl => match us, hl with | [], _ => rfl)
  obtain ⟨d36⟩ := df_of X G c (st := s_law_are_many_right) (ps := P_law_are_many_right) 36 36 rfl rfl (fun _ _ _ _ _ _ us hl => match us, hl with | [], _ => rfl)
  obtain ⟨d37⟩ := df_of X G c (st := s_law_sum) (ps := P_law_sum) 37 37 rfl rfl (fun _ _ _ _ _ _ us hl => match us, hl with | [_], _ => rfl)
  obtain ⟨fdl, Fl⟩ := c.def_ 38 (d := gD "law" s_law) rfl
  have Fl' : Fun K "law" "law" s_law (He.ga K "law") fdl := fun_ofD Fl
  have d38 : { d : Df K mg "law" "law" s_law P_law // d.f = He.ga K "law" } := ⟨⟨He.ga K "law", fdl, Fl', He.glo_ok X G (c.fact 38 rfl), Fl'.kp, Fl'.binds (fun _ _ _ _ _ _ us hl => match us, hl with | [_], _ => rfl)⟩, rfl⟩
  obtain ⟨d39, e39⟩ := md_of c (st := s_ListLook_init) (ps := P_ListLook_init) 39 55 rfl rfl (fun _ _ _ _ _ _ us hl => match us, hl with | [_, _, _], _ => rfl)
  obtain ⟨d40, e40⟩ := md_of c (st := s_ListLook_told_by) (ps := P_ListLook_told_by) 40 56 rfl rfl (fun _ _ _ _ _ _ us hl => match us, hl with | [_, _, _], _ => rfl)
  obtain ⟨d41, e41⟩ := md_of c (st := s_ListLook_whole_order) (ps := P_ListLook_whole_order) 41 57 rfl rfl (fun _ _ _ _ _ _ us hl => match us, hl with | [_], _ => rfl)
  obtain ⟨d42, e42⟩ := md_of c (st := s_ListLook_due) (ps := P_ListLook_due) 42 58 rfl rfl (fun _ _ _ _ _ _ us hl => match us, hl with | [_, _], _ => rfl)
  obtain ⟨d43, e43⟩ := md_of c (st := s_ListLook_parting) (ps := P_ListLook_parting) 43 59 rfl rfl (fun _ _ _ _ _ _ us hl => match us, hl with | [_, _], _ => rfl)
  obtain ⟨d44, e44⟩ := md_of c (st := s_ListLook_region_of) (ps := P_ListLook_region_of) 44 60 rfl rfl (fun _ _ _ _ _ _ us hl => match us, hl with | [_, _], _ => rfl)
  exact ⟨{ d_is_integer := d0, d_is_number := d1, d_are_integers := d2, d_is_state := d3, d_place_of := d4, d_value_in := d5, d_holds_in := d6, d_states_of := d7, d_failed_there := d8, d_first_failing := d9, d_regions := d10, d_words_of_list := d11, d_idle_checks := d12, d_least_list := d13, d_require := d14, d_is_entry := d15, d_check_idle := d16, d_lets_list := d17, d_need_order := d18, d_must_ahead := d19, d_may_order := d20, d_can_begin := d21, d_orders := d22, d_asked_in := d23, d_work_of := d24, d_work := d25, d_least_work := d26, d_law_source := d27, d_law_draw := d28, d_law_till := d29, d_law_is_till_right := d30, d_law_is_stair_right := d31, d_law_are_apart_right := d32, d_law_all := d33, d_law_are_chains_right := d34, d_law_are_rows_right := d35, d_law_are_many_right := d36, d_law_sum := d37, d_law := d38.1, d_ListLook_init := d39, d_ListLook_told_by := d40, d_ListLook_whole_order := d41, d_ListLook_due := d42, d_ListLook_parting := d43, d_ListLook_region_of := d44, n_len := He.free_ok X G (c.fact 39 rfl), n_all := He.free_ok X G (c.fact 40 rfl), n_sum := He.free_ok X G (c.fact 41 rfl), n_min := He.free_ok X G (c.fact 42 rfl), n_list := He.free_ok X G (c.fact 43 rfl), n_tuple := He.free_ok X G (c.fact 44 rfl), n_range := He.free_ok X G (c.fact 45 rfl), n_enumerate := He.free_ok X G (c.fact 46 rfl), n_zip := He.free_ok X G (c.fact 47 rfl), n_isinstance := He.free_ok X G (c.fact 48 rfl), n_sorted := He.free_ok X G (c.fact 49 rfl), n_set := He.free_ok X G (c.fact 50 rfl), n_repr := He.free_ok X G (c.fact 51 rfl), n_int := He.free_ok X G (c.fact 52 rfl), n_bool := He.free_ok X G (c.fact 53 rfl), n_str := He.free_ok X G (c.fact 54 rfl), C := He.ga K "ListLook", cl := He.cls_ok (c.fact 61 rfl), nS := He.noat_ok (c.fact 63 rfl), nW := He.noat_ok (c.fact 64 rfl), nF := He.noat_ok (c.fact 65 rfl), g_C := He.glo_ok X G (c.fact 62 rfl), mkL := by rw [e39]; exact He.mkr_ok (c.fact 66 rfl) }, d38.2⟩
theorem pap_of (X : K.In h) (G : h.Ns mainGlobals mg) (c : He.SaysD faL fnL K) (x : exB K = true) : Nonempty (Pap K mg) := by
  obtain ⟨fd, F⟩ := c.def_ 45 (d := cD "InvalidPaper" "__init__" "InvalidPaper.__init__" s_IP) rfl
  have F' : Fun K "__init__" "InvalidPaper.__init__" s_IP (He.ma K (He.ga K "InvalidPaper") "__init__") fd := fun_ofD F
  unfold exB at x
  simp only [Bool.and_eq_true] at x
  obtain ⟨⟨x1, x2, x3⟩, ⟨x4, x5, x6⟩, x7, x8, x9⟩ := x
  have xf := xfB_ok x7
  exact ⟨{ C := He.ga K "InvalidPaper", C0 := He.ga K "PaperError", g0 := He.glo_ok X G (c.fact 68 rfl), B := ⟨x1, He.eqO_ok x2, iniB_ok x3⟩, gC := He.glo_ok X G (c.fact 67 rfl), T := ⟨oexB_ok x4, He.eqO_ok x5, xf.exC, of_decide_eq_true x6, He.keep_ok (c.fact 69 rfl)⟩, nW := He.noat_ok (c.fact 71 rfl), nA := He.noat_ok (c.fact 72 rfl), f := He.ma K (He.ga K "InvalidPaper") "__init__", fd := fd, F := F', b := F'.binds (fun _ _ _ _ _ _ us hl => match us, hl with | [_, _, _], _ => rfl), iC := He.eqO_ok x8, tI := of_decide_eq_true x9, xf := xf, te := He.exm_ok (c.fact 70 rfl) }⟩
end
end FF
/-! ## HR -/
namespace FF
open PySem PySem.Spec PyProof.Rows L2
theorem runH (w : World) : HandSHeadRun.RunEq Rw (PySem.W.view Rw.prog [54]) hookF obT 20000 nmL w := by
  intro os
  kernel_rfl
end FF
/-! ## LW -/
namespace FF
open PySem PySem.Spec PyProof.Rows L2
/-! ### the end, for a law with no repr under way -/
/-- the script at a, and nothing else, may be tracked -/
def OneAt (a : Addr) (H : Hp) : Prop := ∀ b, H b = none ∨ (b = a ∧ ∃ o xs, H b = some (.frz o (.lst xs)))
theorem endG {P : Program} {w : World} {K : PySem.W.Frag} {mg mb : Str → Option Value} {k : Nat} {fa a : Addr} {fd : FuncData} {x : Str} {sp : Sp} {t : Shared} {us : List Value} {H : Hp}
    (kin : K.In t.heap) (gm : t.heap.Ns mainGlobals mg) (gb : t.heap.Ns builtinsNs mb) (bb : ∀ y : Str, y ≠ "__name__" → mb y = bootBuiltins y) (nl : t.heap.NoLimit) (gens : t.gens = #[])
    (ob : t.heap.get? a = some { cls := .type "list", data := .seq us.toArray }) (room : Room k callerA)
    (F : ∀ base : Heap, K.In base → base.Ns mainGlobals mg → FnG P w K mg base k fa fd [x] sp) (bi : ∀ (s : Shared) (u : Value), BindsTo s fd ⟨[u], []⟩ [(x, u)])
    (one : OneAt a H) (hk : HOk P w H t.heap) (out : H a ≠ none → K.lookup a = none)
    (want : sp [.ref a] H (fun v _ => v = .bl true) fun _ _ _ => False) :
    codeAny (model P w) callerA (.call (.ref fa) ⟨[.ref a], []⟩) (fun r t' => r = .ok (.ret (.bool true)) ∧ OldK t.heap t'.heap ∧ t'.os = t.os ∧ AllBare t'.gens) t := by
  have fr : ∀ {b : Addr} {o : Obj}, t.heap.get? b = some o → (b ≠ a ∨ H a = none) → H b = none := fun {b o} _ h => by
    rcases one b with z | ⟨rfl, _, _, _⟩
    · exact z
    · rcases h with h | h
      · exact absurd rfl h
      · exact h
  have nsT : ∀ {b : Addr} {m : Str → Option Value}, t.heap.Ns b m → (hidT t.heap H).Ns b m := fun {b m} n => by
    obtain ⟨o, es, ep, e, d, r⟩ := n
    refine ⟨o, es, ep, hidT_get e (fr e (.inl fun z => ?_)), d, r⟩
    rw [z, ob] at e
    cases e
    have d' : Data.seq us.toArray _ = Data.dict es ep := d
    cases d'
  have inT : K.In (hidT t.heap H) := fun b o e => by
    refine hidT_get (kin b o e) (fr (kin b o e) ?_)
    by_cases q : b = a
    · by_cases z : H a = none
      · exact .inr z
      · rw [q, out z] at e
        cases e
    · exact .inl q
  obtain ⟨mc, l1, l2⟩ := nl
  have env : Env0 P w K mg (hidT t.heap H) callerA [] t H :=
    { frames := rfl, mod := ⟨inT, nsT gm, ⟨mb, nsT gb, bb⟩, ⟨mc, nsT l1, l2⟩⟩, bs := fun _ _ e => of_hidT e, bsz := Nat.le_of_eq (hidT_size _ _), funs := trivial, frf := fun b hb => (by cases (show b ∈ ([] : List Addr) from hb)), hok := hk, bare := .of_eq gens }
  refine codeAny_mono ((F _ inT (nsT gm)).run callerA [] t H ⟨[.ref a], []⟩ [.ref a] [.ref a] (fun v _ => v = .bl true) (fun _ _ _ => False) rfl room env (bi t (.ref a)) (.cons rfl .nil) want) fun r t' c => ?_
  match r, c with
  | .error e, c =>
    obtain ⟨_, _, _, _, _, _, _, _, _, _, _, _, z⟩ := c
    exact z.elim
  | .ok .next, c => exact False.elim c
  | .ok .brk, c => exact False.elim c
  | .ok .cont, c => exact False.elim c
  | .ok (.ret u), c =>
    obtain ⟨v, H', c1, c2, c3, c4, c5, c6⟩ := c
    have c6' : v = .bl true := c6
    subst c6'
    obtain rfl : u = Value.bool true := c5
    refine ⟨rfl, OldK.of_keep fun b o e => ?_, c1, c2⟩
    rcases one b with z | ⟨rfl, _, _, z⟩
    · exact c3.keep b o e z (fun q => by cases (show b ∈ ([] : List Addr) from q)) (fun q => by cases (show b ∈ ([] : List Addr) from q))
    · obtain ⟨y1, _⟩ := hk b _ z
      obtain ⟨y2, _⟩ := c4 b _ (c3.frzs b _ _ z)
      rw [e] at y1
      cases y1
      exact y2
theorem walkG {l : PySem.W.OpenLaw} {n k : Nat} {q : Program} {loose : List Str} {XP : (Str → Option Value) → Heap → Prop} {YP : World → Heap → Prop} {d : DefRec} {x : Str}
    (ln : l.most = some n) (ln2 : n ≤ sizeLine) (dd : d.params.defaults = []) (room : Room k callerA)
    (F : ∀ (w : World) (mg : Str → Option Value) (fa : Addr) (h : Heap), YP w h → h.Ns mainGlobals mg → mg d.name = some (.ref fa) →
      ∃ (K : PySem.W.Frag) (fd : FuncData) (sp : Sp), K.In h ∧ (∀ (s : Shared) (u : Value), BindsTo s fd ⟨[u], []⟩ [(x, u)]) ∧
        (∀ (H : Hp) (a : Addr) (ns : List Int), SqL K H a (ns.map V.int) → sp [.ref a] H (fun v _ => v = .bl true) fun _ _ _ => False) ∧
        ∀ base : Heap, K.In base → base.Ns mainGlobals mg → FnG l.prog w K mg base k fa fd [x] sp) :
    PySem.W.WalkO q loose XP YP l.row.toRowW d [] (fun f vs => PySem.call f vs) := by
  refine Att.attach_call ln dd fun w t0 t mg mb fa o pm cd doc a us ns Gr Y _ _ _ gl ob ii len gens => ?_
  obtain ⟨K, fd, sp, kin, bi, want, hF⟩ := F w mg fa _ Y Gr.T.g gl
  have rv := vals_ints ii
  have hl : ns.length ≤ sizeLine := Nat.le_trans len ln2
  cases z : K.lookup a with
  | some o2 =>
    have e := kin a o2 z
    rw [ob] at e
    cases e
    exact endG (H := fun _ => none) kin Gr.T.g Gr.T.b Gr.T.builtins Gr.T.nolimit gens ob room hF bi (fun _ => .inl rfl) (fun b u y => by cases (show (none : Option HO) = some u from y)) (fun y => absurd rfl y)
      (want _ a ns (.inr ⟨_, us.toArray, _, z, rfl, rfl, rfl, by rw [List.size_toArray, ii.length]; exact hl, by simpa using rv⟩))
  | none =>
    refine endG (H := fun b => if b = a then some (.frz { cls := .type "list", data := .seq us.toArray } (.lst (ns.map V.int))) else none) kin Gr.T.g Gr.T.b Gr.T.builtins Gr.T.nolimit gens ob room hF bi (fun b => ?_) (fun b u y => ?_) (fun _ => z)
      (want _ a ns (.inl (.inr ⟨{ cls := .type "list", data := .seq us.toArray }, if_pos rfl⟩)))
    · by_cases c : b = a
      · exact .inr ⟨c, _, _, if_pos c⟩
      · exact .inl (if_neg c)
    · by_cases c : b = a
      · have y' := (if_pos c).symm.trans y
        cases y'
        rw [c]
        exact ⟨ob, by rw [List.length_map]; exact hl, us, _, rv, ob⟩
      · have y' := (if_neg c).symm.trans y
        cases y'
theorem bind1 {K : PySem.W.Frag} {x qual p : Str} {st : Stmt} {f : Addr} {fd : FuncData} (F : Fun K x qual st f fd)
    (h : ∀ (kV doc pm : Value) (an : Option Addr) (cdv ct : Value) (us : List Value), us.length = [p].length → bindArgs (PySem.W.fnOf x qual (defArgs st) (defBody st) (defScope st) .none kV doc pm an cdv ct) ⟨us, []⟩ = pure ([p].zip us)) (s : Shared) (u : Value) : BindsTo s fd ⟨[u], []⟩ [(p, u)] := by
  obtain ⟨_, _, kV, doc, pm, an, cdv, ct, _, rfl, _, _⟩ := F.ex
  exact .of_eq (h kV doc pm an cdv ct [u] rfl)
end FF
/-! ## KA -/
namespace FF
theorem q_till_m6 : yes (m_law_is_till_right [.p (.int (-6))]) = true := by decide +kernel
theorem q_till_m5 : yes (m_law_is_till_right [.p (.int (-5))]) = true := by decide +kernel
theorem q_till_m4 : yes (m_law_is_till_right [.p (.int (-4))]) = true := by decide +kernel
theorem q_till_m3 : yes (m_law_is_till_right [.p (.int (-3))]) = true := by decide +kernel
theorem q_till_m2 : yes (m_law_is_till_right [.p (.int (-2))]) = true := by decide +kernel
theorem q_till_m1 : yes (m_law_is_till_right [.p (.int (-1))]) = true := by decide +kernel
theorem q_till_0 : yes (m_law_is_till_right [.p (.int 0)]) = true := by decide +kernel
theorem q_till_1 : yes (m_law_is_till_right [.p (.int 1)]) = true := by decide +kernel
theorem q_till_2 : yes (m_law_is_till_right [.p (.int 2)]) = true := by decide +kernel
end FF
/-! ## KB -/
namespace FF
theorem q_stair_3_false : yes (m_law_is_stair_right [.p (.int 3), .p (.bool false)]) = true := by decide +kernel
theorem q_stair_3_true : yes (m_law_is_stair_right [.p (.int 3), .p (.bool true)]) = true := by decide +kernel
theorem q_stair_4_false : yes (m_law_is_stair_right [.p (.int 4), .p (.bool false)]) = true := by decide +kernel
theorem q_stair_4_true : yes (m_law_is_stair_right [.p (.int 4), .p (.bool true)]) = true := by decide +kernel
theorem q_stair_5_false : yes (m_law_is_stair_right [.p (.int 5), .p (.bool false)]) = true := by decide +kernel
theorem q_stair_5_true : yes (m_law_is_stair_right [.p (.int 5), .p (.bool true)]) = true := by decide +kernel
end FF
/-! ## KC -/
namespace FF
theorem q_apart_2 : yes (m_law_are_apart_right [.p (.int 2)]) = true := by decide +kernel
theorem q_apart_3 : yes (m_law_are_apart_right [.p (.int 3)]) = true := by decide +kernel
theorem q_apart_4 : yes (m_law_are_apart_right [.p (.int 4)]) = true := by decide +kernel
theorem q_chains : yes (m_law_are_chains_right []) = true := by decide +kernel
theorem q_rows : yes (m_law_are_rows_right []) = true := by decide +kernel
theorem q_many : yes (m_law_are_many_right []) = true := by decide +kernel
end FF
/-! ## KD -/
namespace FF
theorem parts : Parts := by
  refine ⟨fun lo h1 h2 => ?_, fun mn b h1 h2 => ?_, yes_ok q_chains, yes_ok q_rows, fun mn h1 h2 => ?_, yes_ok q_many⟩
  · have e : lo = -6 ∨ lo = -5 ∨ lo = -4 ∨ lo = -3 ∨ lo = -2 ∨ lo = -1 ∨ lo = 0 ∨ lo = 1 ∨ lo = 2 := by omega
    rcases e with rfl | rfl | rfl | rfl | rfl | rfl | rfl | rfl | rfl
    · exact yes_ok q_till_m6
    · exact yes_ok q_till_m5
    · exact yes_ok q_till_m4
    · exact yes_ok q_till_m3
    · exact yes_ok q_till_m2
    · exact yes_ok q_till_m1
    · exact yes_ok q_till_0
    · exact yes_ok q_till_1
    · exact yes_ok q_till_2
  · have e : mn = 3 ∨ mn = 4 ∨ mn = 5 := by omega
    rcases e with rfl | rfl | rfl <;> cases b
    · exact yes_ok q_stair_3_false
    · exact yes_ok q_stair_3_true
    · exact yes_ok q_stair_4_false
    · exact yes_ok q_stair_4_true
    · exact yes_ok q_stair_5_false
    · exact yes_ok q_stair_5_true
  · have e : mn = 2 ∨ mn = 3 ∨ mn = 4 := by omega
    rcases e with rfl | rfl | rfl
    · exact yes_ok q_apart_2
    · exact yes_ok q_apart_3
    · exact yes_ok q_apart_4
end FF
/-! ## HZ -/
open PySem PySem.W PySem.Calls PyProof.Rows
theorem PySem.Challenge.cw_firstfault_k49_whole_lists_by_hand_holds : PySem.Challenge.rw_firstfault_k49_whole_lists_by_hand.Holds := by
  w_on; o_law
  refine HandSHeadRun.head_any (r := FF.Rw) (q := view FF.Rw.prog [54]) (H := FF.hookF) (ob := FF.obT) (M := 20000) (loose := FF.nmL) (d := HandSHeadRun.topDef FF.Rw.prog 54) (kwd := []) FF.obT_eq
    (by kernel_rfl) (fun s => by kernel_rfl) FF.runH (by kernel_rfl) (by kernel_rfl) (by kernel_rfl) (by rfl) (by first | assumption | decide +kernel) (by decide +kernel) ⟨rfl, rfl, rfl, rfl, rfl, by decide +kernel⟩ ?hw ?hc
  case hw => w_witness2
  case hc =>
    refine FF.walkG (l := PySem.Challenge.rw_firstfault_k49_whole_lists_by_hand) (n := 63) (k := 90) (x := "_law_script") rfl (by decide) (by kernel_rfl) ⟨rfl, by decide, by decide⟩ ?F
    intro w mg fa h Y G hmg0
    obtain ⟨K, kin, c⟩ := Y
    have hmg : mg ("law" : PySem.Str) = some (.ref fa) := by
      have e : (HandSHeadRun.topDef FF.Rw.prog 54).name = ("law" : PySem.Str) := by kernel_rfl
      rw [← e]
      exact hmg0
    have c1 : He.SaysD FF.faL FF.fnL K := congrArg (fun z : He.AlD × Bool => z.1) c
    have c2 : FF.exB K = true := congrArg (fun z : He.AlD × Bool => z.2) c
    obtain ⟨T, hT⟩ := FF.kit_of kin G c1
    obtain ⟨Z⟩ := FF.pap_of kin G c1 c2
    have efa : fa = T.d_law.f := by
      have e := hmg.symm.trans T.d_law.g
      cases e
      rfl
    subst efa
    exact ⟨K, T.d_law.fd, FF.spLaw K, kin, fun s u => FF.bind1 T.d_law.F (fun _ _ _ _ _ _ us hl => match us, hl with | [_], _ => rfl) s u, fun H a ns hS => ⟨a, ns, rfl, hS, fun _ => rfl⟩, fun base _ _ => FF.ok_law T Z FF.parts⟩
