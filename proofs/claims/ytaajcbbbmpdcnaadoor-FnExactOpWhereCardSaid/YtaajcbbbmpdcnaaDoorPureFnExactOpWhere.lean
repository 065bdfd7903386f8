/- The pure statement of the law FnExactOpWhere: for all rows and changes the program's OpWhere and the reference's answer alike. Conditions: numbers of 64 bits, texts and rows as memory can hold them. -/
import Derived.Test.YtaajcbbbmpdcnaaDoorPx10
import Derived.Test.YtaajcbbbmpdcnaaDoorBaseOpW
namespace Go.Proofs.YtaajcbbbmpdcnaaDoor.Pure
open Go.RowKit Go.Proofs.YtaajcbbbmpdcnaaDoor Go.Proofs.YtaajcbbbmpdcnaaDoor.P Go.Proofs.YtaajcbbbmpdcnaaDoorW.PrintWords Go.Proofs.YtaajcbbbmpdcnaaDoorW.PrintLast

theorem FnExactOpWhere : laws_FnExactOpWhere.Pure := by
  intro l kind id up at_ s hl hx hk hi hu ha hs
  apply Ev.rounds
  unfold laws_FnExactOpWhere.f
  obtain ⟨t, ht, hfew⟩ := szRowS_ev l hl (fun x h => (hx x h).2.2)
  refine Ev.bind ht ?_
  by_cases h : t < 0
  · exact Ev.pos h (Ev.pure rfl)
  · have hlen := hfew h
    refine Ev.neg h ?_
    unfold laws_szOp.f laws_toOp.f
    have go : Ev (fun k => (laws_toRowS.f k l).bind fun t199 => (some (kind, id, up, at_, s)).bind fun bt202 => (spec_OpWhere.f k t199 bt202.1 bt202.2.1 bt202.2.2.1 bt202.2.2.2.1 bt202.2.2.2.2).bind fun bt207 => (laws_toRowS.f k l).bind fun t210 => (some (kind, id, up, at_, s)).bind fun bt213 => (impl_OpWhere.f t210 bt213.1 bt213.2.1 bt213.2.2.1 bt213.2.2.2.1 bt213.2.2.2.2).bind fun bt218 => (if bt218.1 = bt207.1 then (if bt218.2.1 = bt207.2.1 then (laws_FnExactOpWhere.j0 k l t210 (bt218.2.2 != bt207.2.2)) else (laws_FnExactOpWhere.j0 k l t210 true)) else (laws_FnExactOpWhere.j0 k l t210 true))) true := by
      refine Ev.bind (toRowS_ev l hlen) (Ev.bindc rfl (Ev.bind (specOpWhere_ev _ (rowsFit_conv l hlen hx) kind id up at_ s (wf64.1 hi) (wf64.1 hu) (wf64.1 ha) (by omega)) (Ev.bind (toRowS_ev l hlen) (Ev.bindc rfl (Ev.bindc rfl (Ev.pos rfl (Ev.pos rfl ?_)))))))
      rw [bne_self_eq_false]
      refine Ev.step (fun k => by simp only [laws_FnExactOpWhere.j0]; rw [if_neg (by decide)]) ?_
      exact Ev.bind (toRowS_ev l hlen) (Ev.bind (eqRowS_ev _ (by simpa using hlen)) (Ev.pos rfl (Ev.pure rfl)))
    by_cases c : wrap64 (t - (s.size : Int)) < 0
    · rw [if_pos c]
      exact Ev.bindc rfl (Ev.pos (by decide) (Ev.pure rfl))
    · rw [if_neg c]
      exact Ev.bindc rfl (Ev.neg c go)
end Go.Proofs.YtaajcbbbmpdcnaaDoor.Pure
