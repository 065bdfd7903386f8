/- The pure statement of the law FnExactTreeKids: for all rows and numbers the program's TreeKids and the reference's answer alike, and the answer is memory of its own. Conditions: numbers of 64 bits, texts and rows as memory can hold them. -/
import Derived.Test.YtaajcbbbmpdcnaaDoorPx7
import Derived.Test.YtaajcbbbmpdcnaaDoorBaseTreeK
import Derived.Test.YtaajcbbbmpdcnaaDoorBaseInts
namespace Go.Proofs.YtaajcbbbmpdcnaaDoor.Pure
open Go.RowKit Go.Proofs.YtaajcbbbmpdcnaaDoor Go.Proofs.YtaajcbbbmpdcnaaDoor.P Go.Proofs.YtaajcbbbmpdcnaaDoorW.PrintWords Go.Proofs.YtaajcbbbmpdcnaaDoorW.PrintLast

theorem treeKids_len (l : List S47) (id : Int) : (treeKids l id).length ≤ l.length := by
  by_cases hv : tok l [] 0 (-1) = true
  · rw [← kidIds_valid hv]; exact kidIds_len l id
  · unfold treeKids; rw [if_neg hv]; simp
theorem FnExactTreeKids : laws_FnExactTreeKids.Pure := by
  intro l a hl hx ha
  apply Ev.rounds
  unfold laws_FnExactTreeKids.f
  obtain ⟨t, ht, hfew⟩ := szRowS_ev l hl (fun x h => (hx x h).2.2)
  refine Ev.bind ht ?_
  by_cases h : t < 0
  · exact Ev.pos h (Ev.pure rfl)
  · have hlen := hfew h
    have hk := treeKids_len (l.map convRow) a
    rw [List.length_map] at hk
    obtain ⟨r, hr, hr0⟩ := markRowS_ev (l.map convRow) (by simp; omega)
    refine Ev.neg h (Ev.bind (toRowS_ev l hlen) (Ev.bind (specTreeKids_ev _ (rowsFit_conv l hlen hx) a) (Ev.bind (toRowS_ev l hlen) (Ev.bindc rfl (Ev.bind (eqIntS_ev _ (by omega)) (Ev.pos rfl ?_))))))
    refine Ev.bind (toRowS_ev l hlen) (Ev.bind (eqRowS_ev _ (by simpa using hlen)) (Ev.pos rfl (Ev.bind hr (Ev.neg (by omega) (Ev.bind (eqIntS_ev _ (by omega)) ?_)))))
    refine Ev.step (f := fun k => _) (fun k => by simp only [laws_FnExactTreeKids.j0]; rw [if_neg (by decide)]) ?_
    refine Ev.bind (markIntS_ev _ (by omega)) (Ev.bind (heldIntS_ev _ (by omega)) (Ev.neg (by omega) (Ev.pos rfl ?_)))
    exact Ev.bind (toRowS_ev l hlen) (Ev.bindc rfl (Ev.bind (eqIntS_ev _ (by omega)) (Ev.pos rfl (Ev.bind (heldIntS_ev _ (by omega)) (Ev.neg (by omega) (Ev.pos rfl (Ev.pure rfl)))))))
end Go.Proofs.YtaajcbbbmpdcnaaDoor.Pure
