/- The reference's l3Cut by a walk: a text, cut at its blanks. Condition: a text of at most 24 bytes, cut at a blank. -/
import Derived.Test.YtkoodlmedgfdjaaGreatDoorOpReadC
import Derived.Laws.OwnMore
import Derived.Deep.LoopGhost
import Derived.Deep.AppendLies
namespace Go.Proofs.YtkoodlmedgfdjaaGreatDoor
open Go.RowKit Go.Proofs.YtkoodlmedgfdjaaGreatDoorW.PrintWords.Kd Go.Proofs.YtkoodlmedgfdjaaGreatDoorW.PrintWords Go.Proofs.YtkoodlmedgfdjaaGreatDoorW.PrintLast Go.Proofs.YtkoodlmedgfdjaaGreatDoor.OpTxt
set_option linter.unusedVariables false
set_option linter.unusedSimpArgs false

/-- The words of a text, as bytes. -/
def wordsB (s : ByteArray) : List ByteArray := (cut 32 s.data.toList).map fun l => ⟨l.toArray⟩
/-- The words so far, and what the rest makes of the last one. -/
def glue (done : List ByteArray) (cur : ByteArray) (rest : List UInt8) : List ByteArray := done ++ (⟨(cur.data.toList ++ (cut 32 rest).headD []).toArray⟩ :: (cut 32 rest).tail.map fun l => ⟨l.toArray⟩)
theorem glue_start (s : ByteArray) : glue [] ⟨#[]⟩ s.data.toList = wordsB s := by
  unfold glue wordsB
  have e : (cut 32 s.data.toList).map (fun l => (⟨l.toArray⟩ : ByteArray)) = ⟨((cut 32 s.data.toList).headD []).toArray⟩ :: (cut 32 s.data.toList).tail.map fun l => ⟨l.toArray⟩ := by
    conv => lhs; rw [← cut_eta 32 s.data.toList]
    rfl
  rw [e]; rfl
theorem glue_blank (done : List ByteArray) (cur : ByteArray) (r : List UInt8) : glue done cur (32 :: r) = glue (done ++ [cur]) ⟨#[]⟩ r := by
  have e : (cut 32 r).map (fun l => (⟨l.toArray⟩ : ByteArray)) = ⟨((cut 32 r).headD []).toArray⟩ :: (cut 32 r).tail.map fun l => ⟨l.toArray⟩ := by
    conv => lhs; rw [← cut_eta 32 r]
    rfl
  unfold glue
  rw [cut_cons, if_pos rfl, List.headD_cons, List.tail_cons, e, List.append_nil, List.append_assoc]
  rfl
theorem glue_other (done : List ByteArray) (cur : ByteArray) (x : UInt8) (r : List UInt8) (h : x ≠ 32) : glue done cur (x :: r) = glue done (cur ++ ⟨#[x]⟩) r := by
  unfold glue
  rw [cut_cons, if_neg h]
  simp [ByteArray.data_append]
theorem glue_end (done : List ByteArray) (cur : ByteArray) : glue done cur [] = done ++ [cur] := by
  unfold glue
  simp [cut]
set_option maxHeartbeats 2000000 in
set_option maxRecDepth 100000 in
theorem cut_calls (s : ByteArray) (w : World) (hs : s.size ≤ 24) : Calls Tryz.prog 24 #[.string s, .int .u8 32] w fun e w' => ∃ (g cap : Nat), e = .returned (.slice (some ⟨g, 0, none⟩) (wordsB s).length cap) ∧ w'.ownsRow w.heap.size 9 1 (.slice (some ⟨g, 0, none⟩) (wordsB s).length cap) (wordsB s).length ((wordsB s).map Value.string) ∧ Below w.heap.size w w' := by
  obtain ⟨i0, hi, hz0, hz1, hz2⟩ := info_parts infoStr
  have HS := Aside0.mk hs
  clear hs
  go_enter Tryz.func24, Tryz.ntmps24
  go_wp2
  go_loopg [5, 6] (s.size + 1) (fun kq v5 v6 w' => ∃ (i g cap : Nat) (done : List ByteArray) (cur : ByteArray), v5 = .slice (some ⟨g, 0, none⟩) (done.length + 1) cap ∧ v6 = .int .i64 (i : Int) ∧ Aside0 (i ≤ s.size) ∧ Aside0 (kq = s.size - i + 1) ∧ Aside0 (w'.ownsRow w.heap.size 9 1 (.slice (some ⟨g, 0, none⟩) (done.length + 1) cap) (done.length + 1) ((done ++ [cur]).map Value.string)) ∧ Aside0 (Below w.heap.size w w') ∧ Aside0 (glue done cur (s.data.toList.drop i) = wordsB s) ∧ Aside0 (done.length ≤ i ∧ cur.size ≤ i))
  case atStart => exact ⟨0, w.heap.size, 1, [], ⟨#[]⟩, rfl, rfl, ⟨Nat.zero_le _⟩, ⟨rfl⟩, ⟨World.ownsRow_lit w #[.string ⟨#[]⟩] 1 (Nat.le_refl _) (by decide) rfl⟩, ⟨below_alloc (Below.refl _ _) _⟩, ⟨glue_start s⟩, ⟨Nat.zero_le _, Nat.zero_le _⟩⟩
  case round =>
    obtain ⟨i, g, cap, done, cur, rfl, rfl, HI, HQ, HO, HB, HG, HL⟩ := hrel
    have hgl : g < wr.heap.size := own_lt HO.out g rfl
    have hgb : w.heap.size ≤ g := own_base HO.out g rfl
    have hdl : done.length ≤ 24 := by have := HL.out.1; have := HI.out; have := HS.out; omega
    by_cases hi2 : i < s.size
    · have c1 : decide ((i : Int) < (s.size : Int)) = true := decide_eq_true (by omega)
      have c2 : ((i : Int) < (s.size : Int)) = True := eq_true (by omega)
      have c3 : (0 ≤ (i : Int)) = True := eq_true (by omega)
      have hw3 : IntKind.i64.wrap ((i : Int) + 1) = ((i + 1 : Nat) : Int) := by rw [i64_w, wrap64_id (by have := HS.out; omega)]; omega
      have hil : i < s.data.toList.length := by simpa using hi2
      have HG2 := HG.out
      rw [List.drop_eq_getElem_cons hil, ← byte_at s hi2] at HG2
      have HI2 := Aside0.mk hi2
      by_cases hx : s[i].toNat = 32
      · have hx2 : ((s[i].toNat : Int) == 32) = true := by rw [beq_iff_eq]; omega
        have e32 : s[i] = 32 := UInt8.toNat_inj.1 hx
        rw [e32, glue_blank] at HG2
        replace HG2 := Aside0.mk HG2
        have HD := Aside0.mk hdl
        have HGB := Aside0.mk hgb
        clear hx e32 hdl hgb
        go_wp2_with (at_builtin; refine wpList_append_lies _ rfl _ _ _ rfl w.heap.size 9 i0 (.string ⟨#[]⟩) 1 16 Tryz.underlying49 hi hz0 hz1 hz2 rfl (by decide) _ (done.length + 1) ((done ++ [cur]).map Value.string) rfl ?c0 ⟨wr.heap.size, 0, none⟩ 1 1 [.string ⟨#[]⟩] rfl rfl ?c1 ?c2 (by decide) ?c3 ?c4 ?c5 _ rfl ?_; (case c0 => exact own_alloc HO.out _); (case c1 => exact World.news_of_block (heap_alloc_new _ _)); (case c2 => simp [Value.oneCell']); (case c3 => exact Nat.le_trans (show done.length + 1 + 1 ≤ 100 by have := HD.out; omega) (by decide)); (case c4 => (have := HD.out; omega)); (case c5 => (have := HB.out.size; simp; omega)); intro g2 cap2 w5 hown hgrow hat hlt5; have HO5 := Aside0.mk hown; have HB5 : Aside0 (Below w.heap.size w w5) := ⟨(below_alloc HB.out _).grown hgrow (by have := HB.out.size; simp; omega) (fun k e => by cases e; exact HGB.out)⟩; clear hown hgrow hat hlt5)
        go_roundg (s.size - (i + 1) + 1)
        case measure => have := HQ.out; have := HI2.out; omega
        case rel => exact ⟨i + 1, g2, cap2, done ++ [cur], ⟨#[]⟩, by rw [List.length_append]; rfl, rfl, ⟨HI2.out⟩, ⟨rfl⟩, ⟨by have h := HO5.out; rw [List.length_append, List.map_append]; exact h⟩, HB5, HG2, ⟨by rw [List.length_append]; have := HL.out.1; simp; omega, Nat.zero_le _⟩⟩
      · have hx2 : ((s[i].toNat : Int) == 32) = false := by rw [beq_eq_false_iff_ne]; omega
        rw [glue_other _ _ _ _ (fun e => hx (by rw [e]; rfl))] at HG2
        replace HG2 := Aside0.mk HG2
        have hcell : wr.cell? ⟨g, done.length, none⟩ = some (.string cur) := by rw [HO.out.cellAt done.length (by omega)]; simp
        have hfr := HO.out.frozenAt done.length
        have hd1 : IntKind.i64.wrap (done.length : Int) = (done.length : Int) := by rw [i64_w, wrap64_id (by omega)]
        have hne1 : (g = wr.heap.size) = False := eq_false (by omega)
        have hne2 : (wr.heap.size = g) = False := eq_false (by omega)
        have c4 : ((done.length : Int) < (done.length : Int) + 1) = True := eq_true (by omega)
        have hcv : (convert 22 9 (.slice (some ⟨wr.heap.size, 0, none⟩) 1 1)).run Tryz.prog (wr.alloc (.cells #[.int .u8 (s[i].toNat : Int)] 5)).drew = .ok (.string ⟨#[s[i]]⟩) (wr.alloc (.cells #[.int .u8 (s[i].toNat : Int)] 5)).drew := by
          have h := run_convert_bytes_arg (P := Tryz.prog) (wr.alloc (.cells #[.int .u8 (s[i].toNat : Int)] 5)).drew 22 5 Tryz.underlying22 Tryz.underlying5 wr.heap.size 0 1 1 [(s[i].toNat : Int)] rfl (fun j hj => by
            obtain rfl : j = 0 := by omega
            exact (blk_cell (blk_drew (heap_alloc_new wr _)) 0).trans rfl) 9 Tryz.underlying9
          rw [h, show strOfNums [(s[i].toNat : Int)] = ⟨#[s[i]]⟩ from by simp [strOfNums]]
        have ad1 : ∀ w, (Op.stringOp .add cur ⟨#[s[i]]⟩).run Tryz.prog w = .ok (.string (cur ++ ⟨#[s[i]]⟩)) w := fun w => run_string_add_sum w _ _ (by have e : (⟨#[s[i]]⟩ : ByteArray).size = 1 := rfl; have := HL.out.2; have := HS.out; omega)
        have HS2 : Aside0 ((wr.setCell ⟨g, done.length, none⟩ (.string (cur ++ ⟨#[s[i]]⟩))).ownsRow w.heap.size 9 1 (.slice (some ⟨g, 0, none⟩) (done.length + 1) cap) (done.length + 1) ((done ++ [cur ++ ⟨#[s[i]]⟩]).map Value.string)) := ⟨by
          have h := (HO.out.stored done.length (.string (cur ++ ⟨#[s[i]]⟩))).1
          rw [List.map_append, List.set_append_right _ _ (by simp)] at h
          simpa using h⟩
        have HB2 : Aside0 (Below w.heap.size w (wr.setCell ⟨g, done.length, none⟩ (.string (cur ++ ⟨#[s[i]]⟩)))) := ⟨below_set HB.out hgb⟩
        have HN : Aside0 ((cur ++ ⟨#[s[i]]⟩).size ≤ i + 1) := ⟨by have := HL.out.2; rw [ByteArray.size_append]; show cur.size + 1 ≤ i + 1; omega⟩
        go_wp2
        go_region
        go_wp2
        go_roundg (s.size - (i + 1) + 1)
        case measure => have := HQ.out; have := HI2.out; omega
        case rel => exact ⟨i + 1, g, cap, done, cur ++ ⟨#[s[i]]⟩, rfl, rfl, ⟨HI2.out⟩, ⟨rfl⟩, ⟨(own_alloc HS2.out _).drew⟩, ⟨below_drew (below_alloc HB2.out _)⟩, HG2, ⟨by have := HL.out.1; omega, HN.out⟩⟩
    · have c1 : decide ((i : Int) < (s.size : Int)) = false := decide_eq_false (by omega)
      have HG2 := HG.out
      rw [List.drop_of_length_le (by simp; omega), glue_end] at HG2
      have HE : Aside0 ((wordsB s).length = done.length + 1) := ⟨by rw [← HG2]; simp⟩
      replace HG2 := Aside0.mk HG2
      go_wp2
      go_ret
      exact ⟨g, cap, by rw [HE.out]; rfl, by rw [HE.out, ← HG2.out]; exact HO.out, HB.out⟩
/-- The words of a text, as the reference cuts it at its blanks: told for texts of at most 24 bytes. -/
def cutTold (s : ByteArray) (c : Int) : Option (List ByteArray) := if c = 32 ∧ s.size ≤ 24 then some (wordsB s) else none
theorem cut_told (s : ByteArray) (c : Int) (r : List ByteArray) (w : World) (h : cutTold s c = some r) : Calls Tryz.prog 24 #[.string s, .int .u8 c] w fun e w' => ∃ v : Value, e = .returned v ∧ Kd.R Kd.string 9 w' w.heap.size (fun _ => True) v r ∧ Below w.heap.size w w' := by
  unfold cutTold at h
  split at h
  · rename_i hc
    obtain ⟨rfl, hs⟩ := hc
    obtain rfl := Option.some.inj h
    refine (cut_calls s w hs).mono ?_
    rintro e w' ⟨g, cap, rfl, ho, hb⟩
    exact ⟨_, rfl, R_of_own ho (fun _ _ => trivial), hb⟩
  · cases h
end Go.Proofs.YtkoodlmedgfdjaaGreatDoor
