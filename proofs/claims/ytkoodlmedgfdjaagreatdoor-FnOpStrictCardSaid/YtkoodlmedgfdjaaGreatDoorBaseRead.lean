/- The reference's reading of a text: it answers by the plain word 'opRead'. Condition: numbers and texts as Go can hold them. -/
import Derived.Test.YtkoodlmedgfdjaaGreatDoorBaseShow
import Derived.Test.YtkoodlmedgfdjaaGreatDoorParseD
import Derived.Test.YtkoodlmedgfdjaaGreatDoorCutC
import Derived.Test.YtkoodlmedgfdjaaGreatDoorOpReadT
import Derived.Test.YtkoodlmedgfdjaaGreatDoorPx5
import Derived.Test.YtkoodlmedgfdjaaGreatDoorPx5
import Derived.Test.YtkoodlmedgfdjaaGreatDoorPx6
namespace Go.Proofs.YtkoodlmedgfdjaaGreatDoor.P
open Go.RowKit Go.Proofs.YtkoodlmedgfdjaaGreatDoorW.PrintWords Go.Proofs.YtkoodlmedgfdjaaGreatDoorW.PrintLast Go.Proofs.YtkoodlmedgfdjaaGreatDoor.OpTxt
set_option linter.unusedVariables false
set_option linter.unusedSimpArgs false

theorem rd_word (ws : List ByteArray) {j : Nat} (h : j < ws.length) : rdOf ByteArray.empty ws (j : Int) = ws[j] := by simp [rdOf, h]
theorem l3_end (ws : List ByteArray) (j : Nat) (hj : j < ws.length) (n : Int) : Ev (fun k => spec_l3Num.l0 k ws (j : Int) n ((ws[j].size : Nat) : Int)) n :=
  Ev.step (f := fun _ => some n) (fun k => by simp only [spec_l3Num.l0]; rw [if_pos (by omega), if_pos (by omega), rd_word ws hj, if_neg (by omega)]) (Ev.pure rfl)
theorem l3_no (ws : List ByteArray) (j : Nat) (hj : j < ws.length) (n : Int) {i : Nat} (hi : i < ws[j].size) (hb : ¬ (48 ≤ bt ws[j] (i : Int) ∧ bt ws[j] (i : Int) ≤ 57)) : Ev (fun k => spec_l3Num.l0 k ws (j : Int) n (i : Int)) (-1) := by
  refine Ev.step (fun k => by simp only [spec_l3Num.l0]; rw [if_pos (by omega), if_pos (by omega), rd_word ws hj, if_pos (by omega), if_pos (by omega)]) ?_
  by_cases h : bt ws[j] (i : Int) < 48
  · exact Ev.pos h (Ev.pure rfl)
  · exact Ev.neg h (Ev.pos (by omega) (Ev.pure rfl))
theorem l3_yes (ws : List ByteArray) (j : Nat) (hj : j < ws.length) (n : Int) {i : Nat} (hi : i < ws[j].size) (hi2 : i < 10) (hn : 0 ≤ n ∧ n ≤ 9) (hb : 48 ≤ bt ws[j] (i : Int) ∧ bt ws[j] (i : Int) ≤ 57) {r : Int} (h : Ev (fun k => spec_l3Num.l0 k ws (j : Int) (10 * n + (bt ws[j] (i : Int) - 48)) ((i + 1 : Nat) : Int)) r) : Ev (fun k => spec_l3Num.l0 k ws (j : Int) n (i : Int)) r := by
  refine Ev.step (fun k => by
    simp only [spec_l3Num.l0]
    rw [if_pos (by omega), if_pos (by omega), rd_word ws hj, if_pos (by omega), if_pos (by omega), if_neg (by omega), if_neg (by omega), wrap64_id (a := 10 * n) (by omega), wrap64_id (a := 10 * n + (bt ws[j] (i : Int) - 48) % 256) (by omega), wrap64_id (a := (i : Int) + 1) (by omega), show (bt ws[j] (i : Int) - 48) % 256 = bt ws[j] (i : Int) - 48 by omega]) ?_
  exact h
theorem num_other {l : List UInt8} (h : ¬ (1 ≤ l.length ∧ l.length ≤ 2)) : num l = -1 := by
  match l, h with
  | [], _ => rfl
  | [a], h => exact absurd (by simp) h
  | [a, b], h => exact absurd (by simp) h
  | a :: b :: c :: r, _ => rfl
theorem bt_list (s : ByteArray) {i : Nat} (h : i < s.size) : bt s (i : Int) = ((s.data.toList[i]'(by simpa using h)).toNat : Int) := by
  rw [bt_get s i h, Lib.toList_data, List.getElem?_eq_getElem (by simpa using h)]; rfl
theorem l3Num_ev (ws : List ByteArray) (j : Nat) (hl : ws.length ≤ 1000) (hs : ∀ x ∈ ws, x.size ≤ 1000) : Ev (fun k => spec_l3Num.f k ws (j : Int)) (num ((ws.map (·.data.toList)).getD j [])) := by
  unfold spec_l3Num.f
  by_cases hj : j < ws.length
  · have e : (ws.map (·.data.toList)).getD j [] = ws[j].data.toList := by simp [List.getD, hj]
    have hz : ws[j].data.toList.length = ws[j].size := by simp
    rw [e]
    refine Ev.neg (by omega) (Ev.pos (by omega) (Ev.pos (by omega) ?_))
    rw [rd_word ws hj]
    refine Ev.bindc (l6In_eq (ws[j].size : Int) 1 2) ?_
    by_cases h : 1 ≤ ws[j].size ∧ ws[j].size ≤ 2
    · rw [decide_eq_true (show (1 : Int) ≤ (ws[j].size : Int) ∧ (ws[j].size : Int) ≤ 2 by omega)]
      refine Ev.step (fun k => by simp only [spec_l3Num.j0, Bool.not_true]; rw [if_neg (by decide)]) ?_
      have hend := l3_end ws j hj
      have hno : ∀ n, ¬ (48 ≤ bt ws[j] 0 ∧ bt ws[j] 0 ≤ 57) → Ev (fun k => spec_l3Num.l0 k ws (j : Int) n 0) (-1) := fun n => l3_no ws j hj n (i := 0) (by omega)
      have hyes : ∀ r, (48 ≤ bt ws[j] 0 ∧ bt ws[j] 0 ≤ 57) → Ev (fun k => spec_l3Num.l0 k ws (j : Int) (10 * 0 + (bt ws[j] 0 - 48)) 1) r → Ev (fun k => spec_l3Num.l0 k ws (j : Int) 0 0) r := fun r hb h => l3_yes ws j hj 0 (i := 0) (by omega) (by omega) (by omega) hb h
      by_cases h1 : ws[j].size = 1
      · rw [h1] at hend
        obtain ⟨a, ha⟩ : ∃ a, ws[j].data.toList = [a] := List.length_eq_one_iff.1 (hz.trans h1)
        have b0 : bt ws[j] 0 = (a.toNat : Int) := (bt_list ws[j] (i := 0) (by omega)).trans (by simp [ha])
        rw [ha]
        show Ev _ (if 48 ≤ a.toNat ∧ a.toNat ≤ 57 then (a.toNat : Int) - 48 else -1)
        by_cases hd : 48 ≤ a.toNat ∧ a.toNat ≤ 57
        · rw [if_pos hd]
          refine hyes _ (by omega) ?_
          rw [b0, show 10 * 0 + ((a.toNat : Int) - 48) = (a.toNat : Int) - 48 by omega]
          exact hend _
        · rw [if_neg hd]
          exact hno 0 (by omega)
      · have h2 : ws[j].size = 2 := by omega
        rw [h2] at hend
        obtain ⟨a, b, ha⟩ : ∃ a b, ws[j].data.toList = [a, b] := by
          match hl2 : ws[j].data.toList, (show ws[j].data.toList.length = 2 by omega) with
          | [a, b], _ => exact ⟨a, b, rfl⟩
        have b0 : bt ws[j] 0 = (a.toNat : Int) := (bt_list ws[j] (i := 0) (by omega)).trans (by simp [ha])
        have b1 : bt ws[j] 1 = (b.toNat : Int) := (bt_list ws[j] (i := 1) (by omega)).trans (by simp [ha])
        rw [ha]
        show Ev _ (if (48 ≤ a.toNat ∧ a.toNat ≤ 57) ∧ 48 ≤ b.toNat ∧ b.toNat ≤ 57 then 10 * ((a.toNat : Int) - 48) + ((b.toNat : Int) - 48) else -1)
        by_cases hd : 48 ≤ a.toNat ∧ a.toNat ≤ 57
        · refine hyes _ (by omega) ?_
          rw [b0, show 10 * 0 + ((a.toNat : Int) - 48) = (a.toNat : Int) - 48 by omega]
          by_cases hd2 : 48 ≤ b.toNat ∧ b.toNat ≤ 57
          · rw [if_pos ⟨hd, hd2⟩]
            refine l3_yes ws j hj ((a.toNat : Int) - 48) (i := 1) (by omega) (by omega) (by omega) (by show 48 ≤ bt ws[j] 1 ∧ bt ws[j] 1 ≤ 57; omega) ?_
            show Ev (fun k => spec_l3Num.l0 k ws (j : Int) (10 * ((a.toNat : Int) - 48) + (bt ws[j] 1 - 48)) 2) _
            rw [b1]
            exact hend _
          · rw [if_neg (fun c => hd2 c.2)]
            exact l3_no ws j hj ((a.toNat : Int) - 48) (i := 1) (by omega) (by show ¬ (48 ≤ bt ws[j] 1 ∧ bt ws[j] 1 ≤ 57); omega)
        · rw [if_neg (fun c => hd c.1)]
          exact hno 0 (by omega)
    · rw [decide_eq_false (show ¬ ((1 : Int) ≤ (ws[j].size : Int) ∧ (ws[j].size : Int) ≤ 2) by omega), num_other (by rw [hz]; exact h)]
      exact Ev.step (f := fun _ => some (-1)) (fun k => by simp only [spec_l3Num.j0, Bool.not_false]; rw [if_pos trivial]) (Ev.pure rfl)
  · have e : (ws.map (·.data.toList)).getD j [] = [] := by simp [List.getD, hj]
    rw [e]
    refine Ev.pos (by omega) ?_
    exact Ev.step (f := fun _ => some (-1)) (fun k => by simp only [spec_l3Num.j0]; rw [if_pos trivial]) (Ev.pure rfl)
theorem l3Quoted_eq (ws : List ByteArray) (j : Nat) (hs : ∀ x ∈ ws, x.size ≤ 1000) : ∃ b, spec_l3Quoted.f ws (j : Int) = some (⟨(OpTxt.quoted ((ws.map (·.data.toList)).getD j [])).toArray⟩, b) := by
  unfold spec_l3Quoted.f
  by_cases hj : j < ws.length
  · have e : (ws.map (·.data.toList)).getD j [] = ws[j].data.toList := by simp [List.getD, hj]
    have hx := hs ws[j] (List.getElem_mem hj)
    rw [e, if_neg (by omega), if_pos (by omega), if_pos (by omega), rd_word ws hj]
    have hq := quoted_iff ws[j]
    by_cases h2 : (ws[j].size : Int) < 2
    · rw [if_pos h2]
      refine ⟨false, ?_⟩
      unfold OpTxt.quoted
      rw [if_neg (fun c => by have := c.1; simp at this; omega)]
    · rw [if_neg h2, if_pos (by omega), wrap64_id (by omega)]
      have b0 := bt_get ws[j] 0 (by omega)
      have b1 := bt_get ws[j] (ws[j].size - 1) (by omega)
      have c0 := bt_list ws[j] (i := 0) (by omega)
      have c1 := bt_list ws[j] (i := ws[j].size - 1) (by omega)
      rw [← byte_at ws[j] (by omega)] at c0 c1
      rw [show ((ws[j].size - 1 : Nat) : Int) = (ws[j].size : Int) - 1 by omega] at c1
      by_cases q0 : bt ws[j] 0 = 39
      · rw [if_pos q0, if_pos (by omega), if_pos (by omega)]
        by_cases q1 : bt ws[j] ((ws[j].size : Int) - 1) = 39
        · rw [if_pos q1, if_pos (by omega), if_pos (by omega)]
          refine ⟨true, ?_⟩
          have hQ : Quoted ws[j] := ⟨by omega, by have : bt ws[j] ((0 : Nat) : Int) = 39 := q0; omega, by omega⟩
          unfold OpTxt.quoted
          rw [if_pos (hq.1 hQ), ← inner_data, show ((ws[j].size : Int) - 1).toNat = ws[j].size - 1 by omega]
        · rw [if_neg q1]
          refine ⟨false, ?_⟩
          unfold OpTxt.quoted
          rw [if_neg (fun c => by
            obtain ⟨_, _, q⟩ := hq.2 c
            exact q1 (by omega))]
      · rw [if_neg q0]
        refine ⟨false, ?_⟩
        unfold OpTxt.quoted
        rw [if_neg (fun c => by
          obtain ⟨_, q, _⟩ := hq.2 c
          exact q0 (by show bt ws[j] ((0 : Nat) : Int) = 39; omega))]
  · have e : (ws.map (·.data.toList)).getD j [] = [] := by simp [List.getD, hj]
    rw [e, if_pos (by omega)]
    exact ⟨false, rfl⟩
theorem num_small (l : List UInt8) : -1 ≤ num l ∧ num l ≤ 99 := by
  unfold num
  split
  · split <;> omega
  · split <;> omega
  · omega
theorem quoted_len (l : List UInt8) : (OpTxt.quoted l).length ≤ l.length := by
  unfold OpTxt.quoted
  split
  · simp; omega
  · simp
theorem ba_mk (t : ByteArray) : (⟨t.data.toList.toArray⟩ : ByteArray) = t := rfl
theorem wordsB_data (s : ByteArray) : (wordsB s).map (·.data.toList) = cut 32 s.data.toList := by
  unfold wordsB
  rw [List.map_map]
  conv => rhs; rw [← List.map_id (cut 32 s.data.toList)]
  rfl
theorem wordsB_size (s : ByteArray) : ∀ x ∈ wordsB s, x.size ≤ s.size := fun x hx => by
  have h := cut_len 32 s.data.toList x.data.toList (by rw [← wordsB_data]; exact List.mem_map.2 ⟨x, hx, rfl⟩)
  simpa using h
theorem cut_few (c : UInt8) : ∀ l : List UInt8, (cut c l).length ≤ l.length + 1
  | [] => by simp [cut]
  | x :: r => by
    have h := cut_few c r
    have e := congrArg List.length (cut_eta c r)
    rw [List.length_cons] at e
    rw [cut_cons]
    split
    · rw [List.length_cons, List.length_cons]; omega
    · rw [List.length_cons, List.length_cons]; omega
theorem wordsB_few (s : ByteArray) : (wordsB s).length ≤ s.size + 1 := by
  have h := cut_few 32 s.data.toList
  have e := congrArg List.length (wordsB_data s)
  rw [List.length_map] at e
  simp at h
  omega
theorem read_none {s : ByteArray} (h : ∀ k i u n t, s.size ≤ 24 → opB k i u n t = true → opTxt k i u n t ≠ s) : readT (opRead s) = (0, 0, 0, 0, ⟨#[]⟩, false) := by
  rcases opRead_cases s with ⟨k, i, u, n, t, _, h1, h2, h3⟩ | ⟨e, _⟩
  · exact absurd h3 (h k i u n t h1 h2)
  · rw [e]; rfl
theorem head_word : ∀ (l : List ByteArray) (h : 0 < l.length), l[0].data.toList = (l.map (·.data.toList)).headD []
  | a :: r, _ => rfl
/-- The end of the reference's reading: what was read is shown, and compared. -/
theorem finish_ev (s : ByteArray) (hs : s.size ≤ 24) (k i u n : Int) (t : ByteArray) (hi : I64 i) (hu : I64 u) (hn : I64 n) (ht : t.size ≤ 1000) (hr : readW (cut 32 s.data.toList) = (k, i, u, n, t.data.toList)) :
    Ev (fun j => if s.toList = ([] : List UInt8) then some ((0 : Int), (0 : Int), (0 : Int), (0 : Int), (⟨#[]⟩ : ByteArray), false) else ((spec_OpShow.f j k i u n t).bind fun x => (if x.toList = s.toList then (some (k, i, u, n, t, true)) else (some (0, 0, 0, 0, (⟨#[]⟩ : ByteArray), false))))) (readT (opRead s)) := by
  have only : ∀ k' i' u' n' t', opB k' i' u' n' t' = true → opTxt k' i' u' n' t' = s → k' = k ∧ i' = i ∧ u' = u ∧ n' = n ∧ t' = t := fun k' i' u' n' t' h2 h3 => by
    have := read_txt (plain_op h2)
    rw [← opTxt_data, h3, hr] at this
    simp only [Prod.mk.injEq] at this
    obtain ⟨q1, q2, q3, q4, q5⟩ := this
    exact ⟨q1.symm, q2.symm, q3.symm, q4.symm, ba_eq q5.symm⟩
  by_cases he : s.toList = ([] : List UInt8)
  · refine Ev.pos he (Ev.pure (read_none fun k' i' u' n' t' _ h2 h3 => ?_).symm)
    rw [Lib.toList_data] at he
    exact opTxt_ne k' i' u' n' t' (h3.trans (ba_eq he))
  · refine Ev.neg he (Ev.bind (specShow_ev k i u n t hi hu hn (by omega)) ?_)
    by_cases h : (opShow k i u n t).toList = s.toList
    · refine Ev.pos h (Ev.pure ?_)
      rw [Lib.toList_data, Lib.toList_data] at h
      have h' := ba_eq h
      unfold opShow at h'
      split at h'
      · rename_i ho
        rw [opRead_some.2 ⟨hs, ho, h'⟩]
        rfl
      · exact absurd (by rw [← h']; simp [Lib.toList_data]) he
    · refine Ev.neg h (Ev.pure (read_none fun k' i' u' n' t' _ h2 h3 => ?_).symm)
      obtain ⟨rfl, rfl, rfl, rfl, rfl⟩ := only k' i' u' n' t' h2 h3
      apply h
      unfold opShow
      rw [if_pos h2, h3]
theorem specOpRead_ev (s : ByteArray) : Ev (fun k => spec_OpRead.f k s) (readT (opRead s)) := by
  unfold spec_OpRead.f
  by_cases hs : (s.size : Int) > 24
  · refine Ev.pos hs (Ev.pure (read_none fun k i u n t h _ => ?_).symm)
    omega
  · have hs24 : s.size ≤ 24 := by omega
    have hw := wordsB_data s
    have hf := wordsB_few s
    have hz : ∀ x ∈ wordsB s, x.size ≤ 1000 := fun x hx => by have := wordsB_size s x hx; omega
    have hne : 0 < (wordsB s).length := by
      have e := congrArg List.length hw
      rw [List.length_map] at e
      have := List.length_pos_iff.2 (cut_ne 32 s.data.toList)
      omega
    have hnum := fun j => l3Num_ev (wordsB s) j (by omega) hz
    rw [hw] at hnum
    have hq := fun j => l3Quoted_eq (wordsB s) j hz
    rw [hw] at hq
    have h0 : (rdOf ByteArray.empty (wordsB s) 0).toList = (cut 32 s.data.toList).headD [] := by
      have e : rdOf ByteArray.empty (wordsB s) ((0 : Nat) : Int) = (wordsB s)[0] := rd_word _ hne
      rw [show (0 : Int) = ((0 : Nat) : Int) from rfl, e, Lib.toList_data, ← hw]
      exact head_word _ hne
    have big : ∀ l : List UInt8, I64 (num l) := fun l => by have := num_small l; exact ⟨by omega, by omega⟩
    have zero : I64 0 := ⟨by omega, by omega⟩
    have ql : ∀ j, (⟨(OpTxt.quoted ((cut 32 s.data.toList).getD j [])).toArray⟩ : ByteArray).size ≤ 1000 := fun j => by
      have h1 := quoted_len ((cut 32 s.data.toList).getD j [])
      have h2 : ((cut 32 s.data.toList).getD j []).length ≤ s.data.toList.length := by
        by_cases hj : j < (cut 32 s.data.toList).length
        · rw [List.getD_eq_getElem?_getD, List.getElem?_eq_getElem hj]
          exact cut_len 32 _ _ (List.getElem_mem hj)
        · rw [List.getD_eq_getElem?_getD, List.getElem?_eq_none (by omega)]; simp
      have hz2 : s.data.toList.length = s.size := by simp
      show (OpTxt.quoted ((cut 32 s.data.toList).getD j [])).toArray.size ≤ 1000
      rw [List.size_toArray]; omega
    refine Ev.neg hs (Ev.bindc (show spec_l3Cut.f s 32 = some (wordsB s) from if_pos ⟨rfl, hs24⟩) (Ev.bind (hnum 1) (Ev.pos (by omega) ?_)))
    rw [h0]
    by_cases c1 : (cut 32 s.data.toList).headD [] = [109, 97, 107, 101]
    · obtain ⟨b, hb⟩ := hq 4
      refine Ev.pos c1 (Ev.bind (hnum 2) (Ev.bind (hnum 3) (Ev.bindc hb ?_)))
      exact finish_ev s hs24 1 _ _ _ _ (big _) (big _) (big _) (ql 4) (by unfold readW; rw [if_pos c1])
    · refine Ev.neg c1 ?_
      by_cases c2 : (cut 32 s.data.toList).headD [] = [116, 101, 120, 116]
      · obtain ⟨b, hb⟩ := hq 2
        refine Ev.pos c2 (Ev.bindc hb ?_)
        exact finish_ev s hs24 2 _ _ _ _ (big _) zero zero (ql 2) (by unfold readW; rw [if_neg c1, if_pos c2])
      · refine Ev.neg c2 ?_
        by_cases c3 : (cut 32 s.data.toList).headD [] = [109, 111, 118, 101]
        · refine Ev.pos c3 (Ev.bind (hnum 2) (Ev.bind (hnum 3) ?_))
          exact finish_ev s hs24 3 _ _ _ ⟨#[]⟩ (big _) (big _) (big _) (by show 0 ≤ 1000; omega) (by unfold readW; rw [if_neg c1, if_neg c2, if_pos c3])
        · refine Ev.neg c3 ?_
          exact finish_ev s hs24 0 _ _ _ ⟨#[]⟩ (big _) zero zero (by show 0 ≤ 1000; omega) (by unfold readW; rw [if_neg c1, if_neg c2, if_neg c3])
end Go.Proofs.YtkoodlmedgfdjaaGreatDoor.P
