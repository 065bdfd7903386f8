/- The reference's numbers in decimals, and its text of a change: they answer by the plain words 'dig2' and 'opShow'. Conditions: numbers below a hundred; numbers of 64 bits, texts shorter than 2^47. -/
import Derived.Test.YtdapbpgooehibaaDoorBaseOp
import Derived.Test.YtdapbpgooehibaaDoorOpTxtP
import Derived.Test.YtdapbpgooehibaaDoorPx3
namespace Go.Proofs.YtdapbpgooehibaaDoor.P
open Go.RowKit Go.Proofs.YtdapbpgooehibaaDoorW.PrintWords Go.Proofs.YtdapbpgooehibaaDoorW.PrintLast Go.Proofs.YtdapbpgooehibaaDoor.OpTxt
set_option linter.unusedVariables false
set_option linter.unusedSimpArgs false

/-- A number below a hundred, in decimals, as bytes. -/
def decB (n : Int) : ByteArray := ⟨(dig2 n.toNat).toArray⟩
theorem dec_some : ∀ n : Nat, n < 100 → spec_l6Dec.f 3 (n : Int) = some (decB n) := by decide +kernel
theorem dec_ev (n : Int) (h : 0 ≤ n ∧ n < 100) : Ev (fun k => spec_l6Dec.f k n) (decB n) := by
  obtain ⟨m, rfl⟩ := Int.eq_ofNat_of_zero_le h.1
  exact Ev.of (fun k => spec_l6Dec.mono _ k) (k := 3) (dec_some m (by omega))
theorem decB_size (n : Int) : (decB n).size ≤ 2 := dig2_len n.toNat
theorem decB_data (n : Int) : (decB n).data.toList = dig2 n.toNat := rfl
end Go.Proofs.YtdapbpgooehibaaDoor.P
