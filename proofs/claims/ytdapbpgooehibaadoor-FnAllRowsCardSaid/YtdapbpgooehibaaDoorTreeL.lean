/- A loop over an iterator whose rounds always go on: what is asked of the iterator, and what the loop comes to. Of no program; conditions: those named. -/
import Derived.RangeFuncFrom
namespace Go.Proofs.YtdapbpgooehibaaDoor
open Go.RowKit
set_option linter.unusedVariables false

/-- A place abides the turn of whatever lies at or beyond B and is no row of e's. -/
def CalmFrom {β : Type} (e : TypeId) (B : Nat) (I : β → World → Prop) : Prop :=
  ∀ s W W' row, I s W → W.grownBy W' row → (∀ r, row = some r → B ≤ r ∧ ∃ o : Obj, W.heap[r]? = some o ∧ ∀ c fz, o ≠ .cells c e fz) → I s W'
theorem CalmFrom.own {β : Type} {e : TypeId} {B : Nat} {I : β → World → Prop} (h : CalmFrom e B I) : OwnFrom B I := fun s W W' row hs hg hr => h s W W' row hs hg (fun r er => by
  obtain ⟨h1, o, ho, hc⟩ := hr r er
  exact ⟨h1, o, ho, fun c fz e2 => by rw [e2] at hc; cases hc⟩)
theorem CalmFrom.and {β : Type} {e : TypeId} {B : Nat} {I I' : β → World → Prop} (h : CalmFrom e B I) (h' : CalmFrom e B I') : CalmFrom e B (fun s W => I s W ∧ I' s W) := fun s W W' row hs hg hr => ⟨h s W W' row hs.1 hg hr, h' s W W' row hs.2 hg hr⟩
/-- What is said of blocks below B alone. -/
theorem calm_low {β : Type} {e : TypeId} {B : Nat} {I : β → World → Prop} (h : ∀ s W W' row, I s W → W.grownBy W' row → (∀ r, row = some r → B ≤ r) → I s W') : CalmFrom e B I := fun s W W' row hs hg hr => h s W W' row hs hg (fun r er => (hr r er).1)
/-- What a loop asks of its iterator where each round goes on: for every place that abides the turns of blocks that are no rows of e's and are laid from now on; a round is asked for at what comes next alone (Nx), and keeps whatever is no cells. -/
def SeqAll {α : Type} (e : TypeId) (F : Fence) (n : Nat) (P : Program) (g : Nat) (lb : Array Value) (encs : α → Array Value) (Kp : World → World → Prop) (Nx : List α → α → Prop) (S : List α → Prop) (w : World) : Prop :=
  ∀ (l : Nat) (J : List α → World → Prop) (W : World), Below w.heap.size w W → CalmFrom e W.heap.size J →
    (∀ pre x W1, J pre W1 → Nx pre x → YieldAt F (n - 1) P l (encs x) W1 fun en W' => en = .returned (.bool true) ∧ J (pre ++ [x]) W' ∧ Kp W1 W' ∧ KeepsOthers W1 W') →
    J [] W → CallsIn F n P g (#[.func (.yield l) #[] #[]] ++ lb) W fun en W' => (∃ v, en = .returned v) ∧ ∃ xs, S xs ∧ J xs W'

/-- How a round is left. -/
def goesOn {α : Type} (Kp : World → World → Prop) (I : List α → World → Prop) (xs : List α) (W : World) : Exit → Act → World → Prop
  | .normal, _, W' => KeepsOthers W W' ∧ Kp W W' ∧ I xs W'
  | _, _, _ => False

variable {F : Fence} {n : Nat} {P : Program}

theorem rangeFunc_all {α : Type} (e : TypeId) {g : Operand} {ps : Array Tmp} {assign body : Code} {Q : Exit → Act → World → Prop} {a : Act} {w : World}
    (hro : F.round = none) (h1 : 1 ≤ n) {gf : Nat} {lb : Array Value} (hg : a.eval g = .func (.func gf) #[] lb) (hFg : F.fn gf) (eg : ∀ args w, (callFunc gf args).run P w = .ok (.enter gf args) w)
    {encs : α → Array Value} {Kp : World → World → Prop} {Nx : List α → α → Prop} {S : List α → Prop} (hseq : SeqAll e F (n - 1) P gf lb encs Kp Nx S w)
    (hKt : ∀ {A B C : World}, Kp A B → Kp B C → Kp A C) (hKb : ∀ (W : World) (l : Nat) (o o' : Obj), w.heap.size ≤ l → W.heap[l]? = some o → o.isCells = false → o.isWalk = false → Kp W (W.putObj l o')) (hps : ∀ x, (encs x).size = ps.size)
    (I : List α → World → Prop) (hIc : CalmFrom e w.heap.size I) (h0 : I [] w) (a₁ : α → Act)
    (hassign : ∀ (l : Nat) (x : α) (W : World) (K : Act → World → Prop), K (a₁ x) W →
      assign.wpIn (F.inRound l) (n - 1 - 1) P (Exit.then K (fun _ _ _ => False)) { tmps := (ps.zip (encs x)).foldl (fun t (p, v) => t.setIfInBounds p v) a.tmps, defers := [] } W)
    (hbody : ∀ (l : Nat) (pre : List α) (x : α) (W : World), I pre W → Nx pre x → body.wpIn (F.inRound l) (n - 1 - 1) P (goesOn Kp I (pre ++ [x]) W) (a₁ x) W)
    (hdone : ∀ (D : Nat) (xs : List α) (W : World), w.heap.size ≤ D → S xs → I xs W → W.heap[D]? = some (.deferred (some [])) → Q .normal { a with defers := { target := .collected D, args := #[] } :: a.defers } W) :
    (Code.rangeFunc g ps assign body).wpIn F n P Q a w := by
  have hI := hIc.own
  refine wpIn_rangeFunc fun fn hfn => ?_
  rw [hro]
  -- the loop's record, in each of its states
  obtain ⟨rc, hrc⟩ : ∃ rc : LoopState → Loop, rc = fun st => { state := st, pending := none, fn, tmps := a.tmps, params := ps, assign, body, defers := w.heap.size } := ⟨_, rfl⟩
  obtain ⟨V, hV⟩ : ∃ V, V = (w.alloc (.deferred (some []))).alloc (.loop (rc .ready)) := ⟨_, rfl⟩
  have size : V.heap.size = w.heap.size + 2 := by rw [hV]; simp
  have loopV : V.heap[w.heap.size + 1]? = some (.loop (rc .ready)) := by
    rw [hV]; have := World.alloc_heap_new (w.alloc (.deferred (some []))) (.loop (rc .ready)); rwa [World.size_alloc] at this
  have defV : V.heap[w.heap.size]? = some (.deferred (some [])) := by
    rw [hV]; exact (Below.heap_alloc _ _ _ (by simp)).trans (World.alloc_heap_new w _)
  have startI : I [] V := by rw [hV]; exact hI.alloc _ (hI.alloc _ h0)
  have belowV : Below w.heap.size w V := by rw [hV]; exact ((Below.refl _ w).alloc (Nat.le_refl _) _).alloc (by simp) _
  refine ⟨w.heap.size + 1, [{ target := .collected w.heap.size, args := #[] }], V, { target := .fn (.func gf) lb, args := #[.func (.yield (w.heap.size + 1)) #[] #[]] }, V, gf, #[.func (.yield (w.heap.size + 1)) #[] #[]] ++ lb, V, by rw [hV, hrc]; exact run_enterLoop_outer _ _ _ _ _, ?_, ?_, ?_, fun _ => h1, ?_⟩
  · simp only [resolve, hg]; simp [go_sem]
  · intro f' hf'; simp [Target.leads] at hf'; subst hf'; exact hFg
  · simp [invoke, go_sem, eg]
  have call := hseq (w.heap.size + 1) (fun pre W => I pre W ∧ W.heap[w.heap.size + 1]? = some (.loop (rc .ready)) ∧ W.heap[w.heap.size]? = some (.deferred (some []))) V belowV ?own ?round ⟨startI, loopV, defV⟩
  case own =>
    rintro s A B row ⟨hs, hl, hd⟩ hgr hr
    have keep : ∀ {k : Nat} {o : Obj}, A.heap[k]? = some o → k < V.heap.size → B.heap[k]? = some o := fun {k o} hk hlt => by
      rw [hgr.block k (Array.getElem?_eq_some_iff.1 hk).1 (fun e => by have := (hr k e.symm).1; omega)]; exact hk
    exact ⟨hIc s A B row hs hgr (fun r e => ⟨by have := (hr r e).1; omega, (hr r e).2⟩), keep hl (by omega), keep hd (by omega)⟩
  case round =>
    rintro pre x W ⟨hi, hl, hd⟩ hlen
    have hlt : w.heap.size + 1 < W.heap.size := (Array.getElem?_eq_some_iff.1 hl).1
    have hy := run_yield (P := P) (args := encs x) hl (by rw [hrc]; exact hps x)
    rw [hrc] at hy
    refine ⟨fn, _, assign, body, hy, roundIn_of_wpIn hfn (hassign _ x W _ ⟨_, run_beginRound hl (by rw [hrc]), ?_⟩)⟩
    have hl2 : (W.putObj (w.heap.size + 1) (.loop { rc .ready with state := .busy })).heap[w.heap.size + 1]? = some (.loop { rc .ready with state := .busy }) := World.putObj_heap_same hlt
    have hd2 : (W.putObj (w.heap.size + 1) (.loop { rc .ready with state := .busy })).heap[w.heap.size]? = some (.deferred (some [])) := (World.putObj_heap_other (by omega)).trans hd
    have hk2 : Kp W (W.putObj (w.heap.size + 1) (.loop { rc .ready with state := .busy })) := hKb _ _ _ _ (by omega) hl rfl rfl
    refine wpIn_mono (hbody _ pre x _ (hI.putObj _ hi (by omega) hl rfl) hlen) ?_
    rintro en a3 W3 hp
    cases en with
    | normal =>
      obtain ⟨hk3, hkp3, hi3⟩ := hp
      have hl3 := hk3.same _ _ hl2 rfl
      have hr := run_endRound (P := P) none hl3
      rw [hrc] at hr
      refine ⟨_, _, hr, rfl, ⟨hI.putObj _ hi3 (by omega) hl3 rfl, ?_, (World.putObj_heap_other (by omega)).trans (hk3.same _ _ hd2 rfl)⟩, hKt (hKt hk2 hkp3) (hKb _ _ _ _ (by omega) hl3 rfl rfl), ?_⟩
      · rw [hrc]; exact World.putObj_heap_same (Array.getElem?_eq_some_iff.1 hl3).1
      · refine ⟨by have := hk3.size; simp at this ⊢; exact this, fun k o hko hoc => ?_⟩
        by_cases e : k = w.heap.size + 1
        · subst e
          rw [hl] at hko
          cases hko
          rw [hrc]; exact World.putObj_heap_same (Array.getElem?_eq_some_iff.1 hl3).1
        · rw [World.putObj_heap_other e]
          exact hk3.same k o ((World.putObj_heap_other e).trans hko) hoc
    | ret => exact hp.elim
    | exit id => exact hp.elim
    | goto t => exact hp.elim
    | panic ch => exact hp.elim
    | outgrown => exact hp.elim
  refine call.mono ?_
  rintro en W2 ⟨⟨v, rfl⟩, xs, hS, hi, hl, hd⟩
  refine ⟨none, _, by have := run_endLoop (P := P) hl (by rw [hrc]; simp); rw [hrc] at this; exact this, hdone _ xs _ (Nat.le_refl _) hS (hI.putObj _ hi (by omega) hl rfl) ((World.putObj_heap_other (by omega)).trans hd)⟩
end Go.Proofs.YtdapbpgooehibaaDoor
