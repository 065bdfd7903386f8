/- The pure statement of the law FnExactLogSeq: for all entries and numbers the program's LogSeq and the reference's answer alike. Conditions: numbers of 64 bits, texts and entries as memory can hold them. -/
import Derived.Test.YtlpfjabfhgfpmaaDoorPx8
import Derived.Test.YtlpfjabfhgfpmaaDoorBaseEnts
namespace Go.Proofs.YtlpfjabfhgfpmaaDoor.Pure
open Go.RowKit Go.Proofs.YtlpfjabfhgfpmaaDoor Go.Proofs.YtlpfjabfhgfpmaaDoor.P Go.Proofs.YtlpfjabfhgfpmaaDoorW.PrintWords Go.Proofs.YtlpfjabfhgfpmaaDoorW.PrintLast

theorem FnExactLogSeq : laws_FnExactLogSeq.Pure := by
  intro l a hl hx ha
  apply Ev.rounds
  unfold laws_FnExactLogSeq.f
  obtain ⟨t, ht, hfew⟩ := szEntryS_ev l hl (fun x h => (hx x h).2.2.2.2.2.2)
  refine Ev.bind ht ?_
  by_cases h : t < 0
  · exact Ev.pos h (Ev.pure rfl)
  · have hlen := hfew h
    refine Ev.neg h (Ev.bind (toEntryS_ev l hlen) (Ev.bind (specLogSeq_ev _ (entsFit_conv l hlen hx) a) (Ev.bind (toEntryS_ev l hlen) (Ev.bindc (implLogSeq_eq _ a ha) (Ev.pos rfl ?_)))))
    exact Ev.bind (toEntryS_ev l hlen) (Ev.bind (eqEntryS_ev _ (by simp; omega)) (Ev.pos rfl (Ev.pure rfl)))
end Go.Proofs.YtlpfjabfhgfpmaaDoor.Pure
