/- The pure statement of the law FnLogTwice: at every code, an entry that has been put is there: put again, the log stays; and it counts for its maker alone. No further condition. -/
import Derived.Test.YtlpfjabfhgfpmaaDoorPx13
import Derived.Test.YtlpfjabfhgfpmaaDoorBaseLogD
import Derived.Test.YtlpfjabfhgfpmaaDoorBaseLpl
namespace Go.Proofs.YtlpfjabfhgfpmaaDoor.Pure
open Go.RowKit Go.Proofs.YtlpfjabfhgfpmaaDoor Go.Proofs.YtlpfjabfhgfpmaaDoor.P Go.Proofs.YtlpfjabfhgfpmaaDoorW.PrintWords Go.Proofs.YtlpfjabfhgfpmaaDoorW.PrintLast
set_option linter.unusedVariables false

/-- Where an entry is put, and what is so then. -/
theorem put_facts {l : List S26} {e : S26} (h : (logAdd l e).2 = 1) : logB l = true ∧ entB e = true ∧ e.f1 = ((l.map whoOf).count e.f0 : Int) + 1 ∧ l.length < 40 ∧ logAdd l e = (l ++ [e], 1) := by
  unfold logAdd at h ⊢
  by_cases h1 : logB l = true ∧ entB e = true
  · rw [if_pos h1] at h ⊢
    by_cases h2 : hasE l e = true
    · rw [if_pos h2] at h; dsimp only at h; omega
    · rw [if_neg h2] at h ⊢
      by_cases h3 : e.f1 = ((l.map whoOf).count e.f0 : Int) + 1 ∧ l.length < 40
      · rw [if_pos h3]; exact ⟨h1.1, h1.2, h3.1, h3.2, rfl⟩
      · rw [if_neg h3] at h; dsimp only at h; omega
  · rw [if_neg h1] at h; dsimp only at h; omega
theorem FnLogTwice : laws_FnLogTwice.Pure := by
  intro l0 _ h0
  apply Ev.rounds
  unfold laws_FnLogTwice.f
  by_cases c0 : (l0.length : Int) > 1048576
  · exact Ev.pos c0 (Ev.pure rfl)
  obtain ⟨l, e, hd, hn, he⟩ := drawLogAdd_ev l0 h0
  have hlen := hn.1
  have hal := logAdd_len (l := l) (e := e)
  have lp := lpLog_ev (logAdd l e).1 (by omega)
  refine Ev.neg c0 (Ev.bind hd (Ev.bind (specLogAdd_ev l hn.fit e he.fit) (Ev.bind (implLogAdd_ev l (by omega) e) (Ev.pos rfl (Ev.bind lp (Ev.pos rfl ?_))))))
  by_cases g : (logAdd l e).2 = 1
  case neg =>
    rw [show ((logAdd l e).2 != 1) = true from bne_iff_ne.2 g]
    refine Ev.step (fun k => by simp only [laws_FnLogTwice.j0]; rw [if_pos trivial]) ?_
    exact Ev.pos trivial (Ev.bind lp (Ev.pure rfl))
  rw [show ((logAdd l e).2 != 1) = false from bne_eq_false_iff_eq.2 g]
  obtain ⟨h1, h2, h3, h4, hv⟩ := put_facts g
  have hx : logB (l ++ [e]) = true := logAdd_ok h1 h2 h3 h4
  have hh : hasE (l ++ [e]) e = true := by unfold hasE; rw [List.any_append]; simp [sameE_refl]
  have hv2 : logAdd (l ++ [e]) e = (l ++ [e], 0) := by unfold logAdd; rw [if_pos ⟨hx, h2⟩, if_pos hh]
  have hll : (l ++ [e]).length ≤ 1099511627776 := by simp; omega
  refine Ev.step (fun k => by simp only [laws_FnLogTwice.j0]; rw [if_neg (by decide)]) ?_
  rw [hv]
  refine Ev.bind (implLogAdd_ev (l ++ [e]) hll e) ?_
  rw [hv2]
  have last : Ev (fun k => laws_FnLogTwice.l0 k l (l ++ [e]) (l ++ [e]) 0 4 e.f0 e.f1 e.f2.f0 e.f2.f1 e.f2.f2 e.f2.f3 e.f2.f4) true := by
    refine Ev.step (fun k => by simp only [laws_FnLogTwice.l0]; rw [if_neg (by decide)]) ?_
    exact Ev.pos trivial (Ev.bind (lpLog_ev _ hll) (Ev.pure rfl))
  have round : ∀ who : Int, 1 ≤ who ∧ who ≤ 3 → Ev (fun k => laws_FnLogTwice.l0 k l (l ++ [e]) (l ++ [e]) 0 (who + 1) e.f0 e.f1 e.f2.f0 e.f2.f1 e.f2.f2 e.f2.f3 e.f2.f4) true → Ev (fun k => laws_FnLogTwice.l0 k l (l ++ [e]) (l ++ [e]) 0 who e.f0 e.f1 e.f2.f0 e.f2.f1 e.f2.f2 e.f2.f3 e.f2.f4) true := by
    intro who hw hnext
    have wf : (Lit.int .i64 who).wf = true := wf64.2 (by omega)
    have s1 : logSeq l who = ((l.map whoOf).count who : Int) := by unfold logSeq; rw [if_pos h1]
    have s2 : logSeq (l ++ [e]) who = (((l ++ [e]).map whoOf).count who : Int) := by unfold logSeq; rw [if_pos hx]
    rw [List.map_append, List.count_append] at s2
    simp only [List.map_cons, List.map_nil, List.count_singleton] at s2
    have hc := List.count_le_length (a := who) (l := l.map whoOf)
    rw [List.length_map] at hc
    have w1 : wrap64 (who + 1) = who + 1 := wrap64_id (by omega)
    have both : ∀ one : Int, one = (if e.f0 == who then 1 else 0 : Nat) → Ev (fun k => laws_FnLogTwice.j2 k l (l ++ [e]) (l ++ [e]) 0 who one e.f0 e.f1 e.f2.f0 e.f2.f1 e.f2.f2 e.f2.f3 e.f2.f4) true := by
      intro one ho
      have h01 : 0 ≤ one ∧ one ≤ 1 := by rw [ho]; split <;> omega
      refine Ev.step (fun k => by simp only [laws_FnLogTwice.j2]; rfl) (Ev.bindc (implLogSeq_eq _ who wf) (Ev.bindc (implLogSeq_eq _ who wf) (Ev.pos ?_ ?_)))
      · rw [s1, s2, wrap64_id (by omega), ho]
        simp only [whoOf]
        omega
      · rw [w1]; exact hnext
    by_cases c : who = e.f0
    · exact Ev.step (fun k => by simp only [laws_FnLogTwice.l0]; rw [if_pos hw.2, if_pos c]) (both 1 (by rw [if_pos (beq_iff_eq.2 c.symm)]; rfl))
    · exact Ev.step (fun k => by simp only [laws_FnLogTwice.l0]; rw [if_pos hw.2, if_neg c]) (both 0 (by rw [if_neg (fun h => c (beq_iff_eq.1 h).symm)]; rfl))
  exact round 1 (by omega) (round 2 (by omega) (round 3 (by omega) last))
end Go.Proofs.YtlpfjabfhgfpmaaDoor.Pure
