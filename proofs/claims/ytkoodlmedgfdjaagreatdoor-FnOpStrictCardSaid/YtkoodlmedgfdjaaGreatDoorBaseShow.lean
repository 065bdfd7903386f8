/- The reference's numbers in decimals, and its text of a change: they answer by the plain words 'dig2' and 'opShow'. Conditions: numbers below a hundred; numbers of 64 bits, texts shorter than 2^47. -/
import Derived.Test.YtkoodlmedgfdjaaGreatDoorBaseOp
import Derived.Test.YtkoodlmedgfdjaaGreatDoorOpTxtP
import Derived.Test.YtkoodlmedgfdjaaGreatDoorPx2
import Derived.Test.YtkoodlmedgfdjaaGreatDoorPx3
namespace Go.Proofs.YtkoodlmedgfdjaaGreatDoor.P
open Go.RowKit Go.Proofs.YtkoodlmedgfdjaaGreatDoorW.PrintWords Go.Proofs.YtkoodlmedgfdjaaGreatDoorW.PrintLast Go.Proofs.YtkoodlmedgfdjaaGreatDoor.OpTxt
set_option linter.unusedVariables false
set_option linter.unusedSimpArgs false

/-- A number below a hundred, in decimals, as bytes. -/
def decB (n : Int) : ByteArray := ⟨(dig2 n.toNat).toArray⟩
theorem dec_some : ∀ n : Nat, n < 100 → spec_l6Dec.f 3 (n : Int) = some (decB n) := by decide +kernel
theorem dec_ev (n : Int) (h : 0 ≤ n ∧ n < 100) : Ev (fun k => spec_l6Dec.f k n) (decB n) := by
  obtain ⟨m, rfl⟩ := Int.eq_ofNat_of_zero_le h.1
  exact Ev.of (fun k => spec_l6Dec.mono _ k) (k := 3) (dec_some m (by omega))
theorem decB_size (n : Int) : (decB n).size ≤ 2 := dig2_len n.toNat
theorem decB_data (n : Int) : (decB n).data.toList = dig2 n.toNat := rfl
theorem lits : (⟨#[109, 97, 107, 101, 32]⟩ : ByteArray).size = 5 ∧ (⟨#[116, 101, 120, 116, 32]⟩ : ByteArray).size = 5 ∧ (⟨#[109, 111, 118, 101, 32]⟩ : ByteArray).size = 5 ∧ (⟨#[32]⟩ : ByteArray).size = 1 ∧ (⟨#[32, 39]⟩ : ByteArray).size = 2 ∧ (⟨#[39]⟩ : ByteArray).size = 1 := ⟨rfl, rfl, rfl, rfl, rfl, rfl⟩
set_option maxHeartbeats 1000000 in
theorem specShow_ev (kind id up at_ : Int) (s : ByteArray) (hi : I64 id) (hu : I64 up) (ha : I64 at_) (hs : s.size ≤ 140737488351232) : Ev (fun k => spec_OpShow.f k kind id up at_ s) (opShow kind id up at_ s) := by
  obtain ⟨z1, z2, z3, z4, z5, z6⟩ := lits
  unfold spec_OpShow.f opShow
  refine Ev.bind (specOpOk_ev kind id up at_ s hi hu ha (by omega)) ?_
  cases ho : opB kind id up at_ s with
  | false => rw [if_neg (by decide)]; exact Ev.neg (by decide) (Ev.pure rfl)
  | true =>
    rw [if_pos rfl]
    have hp := plain_op ho
    have h1 := hp.id; have h2 := hp.up; have h3 := hp.at_
    dsimp only at h1 h2 h3
    have s1 := decB_size id; have s2 := decB_size up; have s3 := decB_size at_
    refine Ev.pos rfl ?_
    by_cases k1 : kind = 1
    · subst k1
      refine Ev.pos rfl (Ev.bind (dec_ev id h1) (Ev.pos (by omega) (Ev.pos (by simp only [ByteArray.size_append]; omega) (Ev.bind (dec_ev up h2) (Ev.pos (by simp only [ByteArray.size_append]; omega) (Ev.pos (by simp only [ByteArray.size_append]; omega) (Ev.bind (dec_ev at_ h3) (Ev.pos (by simp only [ByteArray.size_append]; omega) (Ev.pos (by simp only [ByteArray.size_append]; omega) (Ev.pos (by simp only [ByteArray.size_append]; omega) (Ev.pos (by simp only [ByteArray.size_append]; omega) (Ev.pure (ba_eq ?_)))))))))))))
      rw [opTxt_data]
      simp [txt, words, ByteArray.data_append, decB_data, join_two, Lib.join_one]
    · refine Ev.neg k1 ?_
      by_cases k2 : kind = 2
      · subst k2
        refine Ev.pos rfl (Ev.bind (dec_ev id h1) (Ev.pos (by omega) (Ev.pos (by simp only [ByteArray.size_append]; omega) (Ev.pos (by simp only [ByteArray.size_append]; omega) (Ev.pos (by simp only [ByteArray.size_append]; omega) (Ev.pure (ba_eq ?_)))))))
        rw [opTxt_data]
        simp [txt, words, ByteArray.data_append, decB_data, join_two, Lib.join_one]
      · have k3 : kind = 3 := hp.kind.elim (fun e => absurd e k1) (fun e => e.elim (fun e => absurd e k2) (fun e => e))
        subst k3
        refine Ev.neg k2 (Ev.bind (dec_ev id h1) (Ev.pos (by omega) (Ev.pos (by simp only [ByteArray.size_append]; omega) (Ev.bind (dec_ev up h2) (Ev.pos (by simp only [ByteArray.size_append]; omega) (Ev.pos (by simp only [ByteArray.size_append]; omega) (Ev.bind (dec_ev at_ h3) (Ev.pos (by simp only [ByteArray.size_append]; omega) (Ev.pure (ba_eq ?_))))))))))
        rw [opTxt_data]
        simp [txt, words, ByteArray.data_append, decB_data, join_two, Lib.join_one]
end Go.Proofs.YtkoodlmedgfdjaaGreatDoor.P
