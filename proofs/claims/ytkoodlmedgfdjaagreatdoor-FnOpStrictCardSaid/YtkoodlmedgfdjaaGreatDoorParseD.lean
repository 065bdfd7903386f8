/- The program's parseWords, in one: whatever words it is given, it answers by the plain word 'goParse'. Where the package-level variables lie as the program's text lays them; words of at most a hundred bytes. -/
import Derived.Test.YtkoodlmedgfdjaaGreatDoorParseC
namespace Go.Proofs.YtkoodlmedgfdjaaGreatDoor
open Go.RowKit Go.Proofs.YtkoodlmedgfdjaaGreatDoorW.PrintWords Go.Proofs.YtkoodlmedgfdjaaGreatDoorW.PrintLast Go.Proofs.YtkoodlmedgfdjaaGreatDoor.OpTxt
set_option linter.unusedVariables false
set_option linter.unusedSimpArgs false

/-- What the program hands back of words. -/
def parsedV (a : Addr) : Option Ch → Value
  | none => noneV a
  | some c => .tuple #[opV c.1 c.2.1 c.2.2.1 c.2.2.2.1 ⟨c.2.2.2.2.toArray⟩, .nilIface]
theorem byte_at (s : ByteArray) {i : Nat} (h : i < s.size) : s[i] = s.data.toList[i]'(by simpa using h) := by
  show s.data[i] = _
  simp
theorem quoted_iff (s : ByteArray) : Quoted s ↔ (2 ≤ s.data.toList.length ∧ s.data.toList.head? = some 39 ∧ s.data.toList.getLast? = some 39) := by
  have hz : s.data.toList.length = s.size := by simp
  constructor
  · rintro ⟨h, h1, h2⟩
    rw [byte_at s (by omega)] at h1
    rw [byte_at s (by omega)] at h2
    refine ⟨by omega, ?_, ?_⟩
    · rw [List.head?_eq_getElem?, List.getElem?_eq_getElem (by omega)]
      exact congrArg some (UInt8.toNat_inj.1 h1)
    · rw [List.getLast?_eq_getElem?, List.getElem?_eq_getElem (by omega)]
      refine congrArg some (UInt8.toNat_inj.1 ?_)
      simp only [hz]
      exact h2
  · rintro ⟨h, h1, h2⟩
    have hs : 2 ≤ s.size := by omega
    refine ⟨hs, ?_, ?_⟩
    · rw [byte_at s (by omega)]
      rw [List.head?_eq_getElem?, List.getElem?_eq_getElem (by omega)] at h1
      rw [Option.some.inj h1]; rfl
    · rw [byte_at s (by omega)]
      rw [List.getLast?_eq_getElem?, List.getElem?_eq_getElem (by omega)] at h2
      have := Option.some.inj h2
      simp only [hz] at this
      rw [this]; rfl
theorem inner_data (s : ByteArray) : (s.extract 1 (s.size - 1)).data.toList = (s.data.toList.drop 1).dropLast := by
  have hz : s.data.toList.length = s.size := by simp
  rw [ByteArray.data_extract, Array.toList_extract, List.dropLast_eq_take, List.length_drop, hz]
theorem unquote_yes (r : List ByteArray) (l : ByteArray) (h : Quoted l) : unquote ((r ++ [l]).map (·.data.toList)) = some (r.map (·.data.toList), (l.extract 1 (l.size - 1)).data.toList) := by
  unfold unquote
  rw [List.map_append, List.map_cons, List.map_nil, List.getLast?_append]
  simp only [List.getLast?_singleton, Option.some_or]
  rw [if_pos ((quoted_iff l).1 h), inner_data, List.dropLast_concat]
theorem unquote_no (r : List ByteArray) (l : ByteArray) (h : ¬ Quoted l) : unquote ((r ++ [l]).map (·.data.toList)) = none := by
  unfold unquote
  rw [List.map_append, List.map_cons, List.map_nil, List.getLast?_append]
  simp only [List.getLast?_singleton, Option.some_or]
  rw [if_neg (fun c => h ((quoted_iff l).2 c))]
theorem numV_parsed (a : Addr) (k : Int) (t : ByteArray) (o : Option (List Int)) : numV a k t o = parsedV a (o.map fun v => (k, v.getD 0 0, v.getD 1 0, v.getD 2 0, t.data.toList)) := by
  cases o with
  | none => rfl
  | some v => rfl
theorem nums_one (x : List UInt8) : (nums [x]).map (fun v => ((2 : Int), v.getD 0 0, v.getD 1 0, v.getD 2 0, ([] : List UInt8))) = (nums [x]).map (fun v => (2, v.getD 0 0, 0, 0, [])) := by
  simp only [OpTxt.nums]
  cases Lib.atoiAll x <;> rfl
theorem word_eq (w0 : ByteArray) (l : List UInt8) (h : w0.data.toList = l) : (w0.toList == l) = true := by rw [beq_iff_eq, Lib.toList_data]; exact h
theorem word_ne (w0 : ByteArray) (l : List UInt8) (h : ¬ w0.data.toList = l) : (w0.toList == l) = false := by rw [beq_eq_false_iff_ne, Lib.toList_data]; exact h
set_option maxHeartbeats 1000000 in
theorem parseWords_calls (a : Addr) (b : Nat) (ws : List ByteArray) (w : World) (ht : TabOk w) (hm : MalAt a w) (hne : ws ≠ []) (hsz : ∀ x ∈ ws, x.size ≤ 100) (hlen : ws.length ≤ 1000) (hc : ∀ j x, ws[j]? = some x → w.cell? ⟨b, j, none⟩ = some (.string x)) :
    Calls Tryz.prog 37 #[.slice (some ⟨b, 0, none⟩) ws.length ws.length] w fun e w' => e = .returned (parsedV a (goParse (ws.map (·.data.toList)))) ∧ Below w.heap.size w w' := by
  cases ws with
  | nil => exact absurd rfl hne
  | cons w0 r =>
    have h0 := hc 0 w0 rfl
    rw [List.map_cons]
    -- the words behind the first, where the last one stands apart
    have hlast : ∀ p l, r = p ++ [l] → w.cell? ⟨b, 1 + p.length, none⟩ = some (.string l) := fun p l e => hc _ l (by rw [e, Nat.add_comm, List.getElem?_cons_succ, List.getElem?_append_right (Nat.le_refl _)]; simp)
    have hcell : ∀ (p s : List ByteArray), r = p ++ s → ∀ m, p.length = m → ∀ j, j < m → ∃ x, p[j]? = some x ∧ x.size ≤ 100 ∧ w.cell? ⟨b, 1 + j, none⟩ = some (.string x) := by
      rintro p s e m rfl j hj
      refine ⟨p[j], List.getElem?_eq_getElem hj, hsz _ (by rw [e]; simp), hc _ _ ?_⟩
      rw [e, Nat.add_comm, List.getElem?_cons_succ, List.getElem?_append_left hj, List.getElem?_eq_getElem hj]
    have hl100 : ∀ p l, r = p ++ [l] → l.size ≤ 100 := fun p l e => hsz l (by rw [e]; simp)
    have hn : ∀ p l, r = p ++ [l] → (w0 :: r).length = p.length + 2 ∧ p.length ≤ 1000 := fun p l e => by
      rw [List.length_cons] at hlen ⊢
      rw [e] at hlen ⊢
      simp at hlen ⊢; omega
    by_cases e1 : w0.data.toList = [109, 97, 107, 101]
    · have g1 := word_eq w0 _ e1
      simp only [goParse]
      rw [if_pos e1]
      rcases List.eq_nil_or_concat r with rfl | ⟨p, l, er⟩
      · exact parse_make_none a b w0 w hm h0 g1
      · rw [List.concat_eq_append] at er
        obtain ⟨n1, n2⟩ := hn p l er
        have hl := hlast p l er
        rw [n1]
        rw [er]
        by_cases hq : Quoted l
        · rw [unquote_yes p l hq, Option.bind_some]
          dsimp only
          by_cases hp : p.length = 3
          · rw [if_pos (by rw [List.length_map]; exact hp)]
            have h := parse_make_go a b w0 l p w ht hm h0 (by rw [hp] at hl; exact hl) (hl100 p l er) hq (hcell p [l] er 3 hp) hp g1
            rw [numV_parsed] at h
            rw [hp]
            exact h
          · rw [if_neg (by rw [List.length_map]; exact hp)]
            exact parse_make_len a b p.length w0 l w hm h0 hl n2 (hl100 p l er) hq hp g1
        · rw [unquote_no p l hq]
          exact parse_make_bad a b p.length w0 l w hm h0 hl n2 (hl100 p l er) hq g1
    · have g1 := word_ne w0 _ e1
      by_cases e2 : w0.data.toList = [116, 101, 120, 116]
      · have g2 := word_eq w0 _ e2
        simp only [goParse]
        rw [if_neg e1, if_pos e2]
        rcases List.eq_nil_or_concat r with rfl | ⟨p, l, er⟩
        · exact parse_text_none a b w0 w hm h0 g1 g2
        · rw [List.concat_eq_append] at er
          obtain ⟨n1, n2⟩ := hn p l er
          have hl := hlast p l er
          rw [n1]
          rw [er]
          by_cases hq : Quoted l
          · rw [unquote_yes p l hq, Option.bind_some]
            dsimp only
            by_cases hp : p.length = 1
            · rw [if_pos (by rw [List.length_map]; exact hp)]
              have h := parse_text_go a b w0 l p w ht hm h0 (by rw [hp] at hl; exact hl) (hl100 p l er) hq (hcell p [l] er 1 hp) hp g1 g2
              rw [numV_parsed] at h
              rw [hp]
              obtain ⟨x, rfl⟩ : ∃ x, p = [x] := List.length_eq_one_iff.1 hp
              have e : (nums ([x].map (·.data.toList))).map (fun v => ((2 : Int), v.getD 0 0, v.getD 1 0, v.getD 2 0, (l.extract 1 (l.size - 1)).data.toList)) = (nums ([x].map (·.data.toList))).map (fun v => (2, v.getD 0 0, 0, 0, (l.extract 1 (l.size - 1)).data.toList)) := by
                simp only [OpTxt.nums, List.map_cons, List.map_nil]
                cases Lib.atoiAll x.data.toList <;> rfl
              rw [e] at h
              exact h
            · rw [if_neg (by rw [List.length_map]; exact hp)]
              exact parse_text_len a b p.length w0 l w hm h0 hl n2 (hl100 p l er) hq hp g1 g2
          · rw [unquote_no p l hq]
            exact parse_text_bad a b p.length w0 l w hm h0 hl n2 (hl100 p l er) hq g1 g2
      · have g2 := word_ne w0 _ e2
        by_cases e3 : w0.data.toList = [109, 111, 118, 101]
        · have g3 := word_eq w0 _ e3
          simp only [goParse]
          rw [if_neg e1, if_neg e2, if_pos e3]
          by_cases hp : r.length = 3
          · rw [if_pos (by rw [List.length_map]; exact hp)]
            have h := parse_move_go a b w0 r w ht hm h0 (hcell r [] (by simp) 3 hp) hp g1 g2 g3
            rw [numV_parsed] at h
            rw [List.length_cons, hp]
            exact h
          · rw [if_neg (by rw [List.length_map]; exact hp)]
            cases r with
            | nil => exact parse_move_none a b w0 w hm h0 g1 g2 g3
            | cons x r => exact parse_move_len a b r.length w0 w hm h0 (by simp at hlen; omega) (by simpa using hp) g1 g2 g3
        · have g3 := word_ne w0 _ e3
          simp only [goParse]
          rw [if_neg e1, if_neg e2, if_neg e3]
          exact parse_other a b (w0 :: r).length w0 w (by simp) hm h0 g1 g2 g3
end Go.Proofs.YtkoodlmedgfdjaaGreatDoor
