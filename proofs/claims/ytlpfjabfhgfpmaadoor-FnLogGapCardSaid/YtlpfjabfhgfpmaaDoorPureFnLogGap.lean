/- The pure statement of the law FnLogGap: at every code, behind an entry that is the next one, one with a number further on is not put, nor is another one with the same number. No further condition. -/
import Derived.Test.YtlpfjabfhgfpmaaDoorPx13
import Derived.Test.YtlpfjabfhgfpmaaDoorBaseLogD
import Derived.Test.YtlpfjabfhgfpmaaDoorBaseLpl
namespace Go.Proofs.YtlpfjabfhgfpmaaDoor.Pure
open Go.RowKit Go.Proofs.YtlpfjabfhgfpmaaDoor Go.Proofs.YtlpfjabfhgfpmaaDoor.P Go.Proofs.YtlpfjabfhgfpmaaDoorW.PrintWords Go.Proofs.YtlpfjabfhgfpmaaDoorW.PrintLast
set_option linter.unusedVariables false
theorem put_facts {l : List S26} {e : S26} (h : (logAdd l e).2 = 1) : logB l = true ∧ entB e = true ∧ e.f1 = ((l.map whoOf).count e.f0 : Int) + 1 ∧ l.length < 40 ∧ logAdd l e = (l ++ [e], 1) := by
 unfold logAdd at h ⊢
 by_cases h1 : logB l = true ∧ entB e = true
 ·rw [if_pos h1] at h ⊢
  by_cases h2 : hasE l e = true
  ·rw [if_pos h2] at h; dsimp only at h; omega
  ·rw [if_neg h2] at h ⊢
   by_cases h3 : e.f1 = ((l.map whoOf).count e.f0 : Int) + 1 ∧ l.length < 40
   ·rw [if_pos h3]; exact ⟨h1.1, h1.2, h3.1, h3.2, rfl⟩
   ·rw [if_neg h3] at h; dsimp only at h; omega
 ·rw [if_neg h1] at h; dsimp only at h; omega
theorem text_dddd : textB (⟨#[100, 100, 100, 100]⟩ : ByteArray) = true := by
 unfold textB; rw [Lib.toList_data]; decide
theorem op_dddd : opB 2 36 0 0 (⟨#[100, 100, 100, 100]⟩ : ByteArray) = true := by
 unfold opB
 rw [if_pos (by decide), if_neg (by decide), if_pos rfl, text_dddd]; decide
theorem FnLogGap : laws_FnLogGap.Pure := by
 intro l0 _ h0
 apply Ev.rounds
 unfold laws_FnLogGap.f
 by_cases c0 : (l0.length : Int) > 1048576
 ·exact Ev.pos c0 (Ev.pure rfl)
 obtain ⟨l, e, hd, hn, he⟩ := drawLogAdd_ev l0 h0
 have hlen := hn.1
 have hal := logAdd_len (l := l) (e := e)
 have lp := lpLog_ev (logAdd l e).1 (by omega)
 refine Ev.neg c0 (Ev.bind hd (Ev.bind (specLogAdd_ev l hn.fit e he.fit) (Ev.bind (implLogAdd_ev l (by omega) e) (Ev.pos rfl (Ev.bind lp (Ev.pos rfl ?_))))))
 have skip : Ev (fun k => laws_FnLogGap.j0 k l (logAdd l e).1 (logAdd l e).2 (logAdd l e).1 (logAdd l e).2 true e.f0 e.f1 e.f2.f0 e.f2.f1 e.f2.f2 e.f2.f3 e.f2.f4) true := by
  refine Ev.step (fun k => by simp only [laws_FnLogGap.j0]; rw [if_pos trivial]) ?_
  exact Ev.pos trivial (Ev.bind lp (Ev.pure rfl))
 by_cases g : (logAdd l e).2 = 1
 case neg => exact Ev.neg g skip
 refine Ev.pos g ?_
 have hw : wrap64 (e.f1 + 1) = e.f1 + 1 := wrap64_id (by have := he.2.1; omega)
 by_cases g2 : e.f1 + 1 > 40
 ·rw [hw, decide_eq_true g2]; exact skip
 rw [hw, decide_eq_false g2]
 obtain ⟨h1, h2, h3, h4, hv⟩ := put_facts g
 have hb := entB_bounds h2
 have hx : logB (l ++ [e]) = true := logAdd_ok h1 h2 h3 h4
 have hll : (l ++ [e]).length ≤ 1099511627776 := by simp; omega
 obtain ⟨far, hfar⟩ : ∃ far : S26, far = ⟨e.f0, e.f1 + 1, e.f2⟩ := ⟨_, rfl⟩
 obtain ⟨oth, hoth⟩ : ∃ oth : S26, oth = ⟨e.f0, e.f1, ⟨2, 36, 0, 0, (⟨#[100, 100, 100, 100]⟩ : ByteArray)⟩⟩ := ⟨_, rfl⟩
 have hfe : entB far = true := by
  rw [hfar]
  unfold entB entryB at h2 ⊢
  simp only [Bool.and_eq_true, decide_eq_true_eq] at h2 ⊢
  exact ⟨⟨h2.1.1, by omega⟩, h2.2⟩
 have hoe : entB oth = true := by
  rw [hoth]
  unfold entB entryB at h2 ⊢
  simp only [Bool.and_eq_true, decide_eq_true_eq] at h2
  dsimp only
  rw [decide_eq_true h2.1.1, decide_eq_true h2.1.2, op_dddd]; simp
 have hvf : logAdd l far = (l, -1) := by
  unfold logAdd
  rw [if_pos ⟨h1, hfe⟩, if_neg (by rw [not_has h1 (by rw [hfar]; dsimp only; omega)]; decide), if_neg (by rw [hfar]; dsimp only; omega)]
 have f1 := implLogAdd_ev l (by omega) far
 rw [hvf, hfar] at f1
 have f2 := implLogAdd_ev (l ++ [e]) hll oth
 have hsame : sameE oth e = (2 == e.f2.f0 && (36 == e.f2.f1 && (0 == e.f2.f2 && (0 == e.f2.f3 && (([100, 100, 100, 100] : List UInt8) == e.f2.f4.toList))))) := by
  rw [hoth]
  unfold sameE
  dsimp only
  rw [show (⟨#[100, 100, 100, 100]⟩ : ByteArray).toList = [100, 100, 100, 100] from by rw [Lib.toList_data]]
  simp
 refine Ev.step (fun k => by simp only [laws_FnLogGap.j0]; rw [if_neg (by decide), hw]) ?_
 rw [hv]
 refine Ev.bind f1 (Ev.bind (by rw [hoth] at f2; exact f2) (Ev.pos rfl (Ev.bind (lpLog_ev l (by omega)) (Ev.pos rfl ?_))))
 rw [← hoth, ← hsame]
 by_cases hs : sameE oth e = true
 ·exact Ev.pos hs (Ev.pure rfl)
 ·have hno : hasE (l ++ [e]) oth = false := by
   have h5 : hasE l oth = false := not_has h1 (by rw [hoth]; dsimp only; omega)
   unfold hasE at h5 ⊢
   rw [List.any_append, h5, Bool.false_or, List.any_cons, List.any_nil, Bool.or_false, sameE_comm]
   exact Bool.eq_false_iff.2 hs
  have hvo : logAdd (l ++ [e]) oth = (l ++ [e], -1) := by
   unfold logAdd
   rw [if_pos ⟨hx, hoe⟩, if_neg (by rw [hno]; decide), if_neg (fun h => ?_)]
   have h6 := h.1
   rw [List.map_append, List.count_append, hoth] at h6
   simp only [List.map_cons, List.map_nil, whoOf, List.count_singleton_self] at h6
   omega
  rw [hvo]
  exact Ev.neg hs (Ev.pos rfl (Ev.bind (lpLog_ev _ hll) (Ev.pure rfl)))
end Go.Proofs.YtlpfjabfhgfpmaaDoor.Pure
