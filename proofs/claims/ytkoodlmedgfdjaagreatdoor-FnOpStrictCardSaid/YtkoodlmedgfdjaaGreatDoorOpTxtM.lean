/- Plain words on the texts of changes: words with a blank between, numbers in decimals, a text between strokes; what is written is read back. No Go, no memory; no condition but those named. -/
import Derived.Lib.SplitLaws
import Derived.Lib.IndexBytes
import Derived.Lib.Join
import Derived.Lib.ItoaNum
import Derived.Lib.AtoiAll
namespace Go.Proofs.YtkoodlmedgfdjaaGreatDoor.OpTxt
open Go.Lib
set_option linter.unusedVariables false
set_option linter.unusedSimpArgs false

/-- A text cut at a byte. -/
def cut (c : UInt8) : List UInt8 → List (List UInt8)
  | [] => [[]]
  | x :: r => if x = c then [] :: cut c r else (x :: (cut c r).headD []) :: (cut c r).tail
theorem cut_cons (c x : UInt8) (r : List UInt8) : cut c (x :: r) = if x = c then [] :: cut c r else (x :: (cut c r).headD []) :: (cut c r).tail := rfl
theorem cut_ne (c : UInt8) : ∀ s : List UInt8, cut c s ≠ []
  | [] => by simp [cut]
  | x :: r => by unfold cut; split <;> simp
theorem cut_eta (c : UInt8) (s : List UInt8) : (cut c s).headD [] :: (cut c s).tail = cut c s := by
  cases h : cut c s with
  | nil => exact absurd h (cut_ne c s)
  | cons a r => rfl
theorem cut_none {c : UInt8} : ∀ {s : List UInt8}, c ∉ s → cut c s = [s]
  | [], _ => rfl
  | x :: r, h => by
    have h1 : x ≠ c := fun e => h (by rw [e]; exact List.mem_cons_self ..)
    have h2 : c ∉ r := fun e => h (List.mem_cons_of_mem _ e)
    unfold cut
    rw [if_neg h1, cut_none h2]; rfl
theorem cut_app {c : UInt8} (b : List UInt8) : ∀ {a : List UInt8}, c ∉ a → cut c (a ++ c :: b) = a :: cut c b
  | [], _ => by simp [cut]
  | x :: r, h => by
    have h1 : x ≠ c := fun e => h (by rw [e]; exact List.mem_cons_self ..)
    have h2 : c ∉ r := fun e => h (List.mem_cons_of_mem _ e)
    rw [List.cons_append, cut_cons, if_neg h1, cut_app b h2]; rfl
theorem join_two (x y : List UInt8) (r : List (List UInt8)) (c : UInt8) : join (x :: y :: r) [c] = x ++ c :: join (y :: r) [c] := by
  rw [join_cons, join_cons]; simp [joinTail]
/-- What is joined is cut into its words. -/
theorem cut_join (c : UInt8) : ∀ (ws : List (List UInt8)), ws ≠ [] → (∀ w ∈ ws, c ∉ w) → cut c (join ws [c]) = ws
  | [], h, _ => absurd rfl h
  | [w], _, h => by rw [join_one]; exact cut_none (h w (List.mem_cons_self ..))
  | w :: v :: r, _, h => by
    rw [join_two, cut_app _ (h w (List.mem_cons_self ..)), cut_join c (v :: r) (by simp) (fun x hx => h x (List.mem_cons_of_mem _ hx))]
theorem first_of {c : UInt8} : ∀ {s : List UInt8}, c ∈ s → ∃ a b, s = a ++ c :: b ∧ c ∉ a
  | x :: r, h => by
    by_cases e : x = c
    · exact ⟨[], r, by rw [e]; rfl, by simp⟩
    · obtain ⟨a, b, e1, e2⟩ := first_of ((List.mem_cons.1 h).resolve_left (fun z => e z.symm))
      exact ⟨x :: a, b, by rw [e1]; rfl, fun h2 => (List.mem_cons.1 h2).elim (fun z => e z.symm) e2⟩
theorem indexByte_app {c : UInt8} (b : List UInt8) : ∀ {a : List UInt8}, c ∉ a → indexByte (a ++ c :: b) c = (a.length : Int)
  | [], _ => by simp [indexByte]
  | x :: r, h => by
    have h1 : (x == c) = false := beq_eq_false_iff_ne.2 (fun e => h (by rw [e]; exact List.mem_cons_self ..))
    have h2 : c ∉ r := fun e => h (List.mem_cons_of_mem _ e)
    have h3 := indexByte_app b h2
    rw [List.cons_append]
    unfold indexByte
    rw [h1, h3, if_neg (by decide), if_neg (by simp)]
    simp
/-- Go's cut at all instances of a byte is this one. -/
theorem splitK_cut (c : UInt8) : ∀ (n : Nat) (s : List UInt8), s.count c = n → splitK [c] 0 n s = cut c s
  | 0, s, h => by
    rw [cut_none (List.count_eq_zero.1 h)]; rfl
  | n + 1, s, h => by
    obtain ⟨a, b, e, ha⟩ := first_of (List.count_pos_iff.1 (show 0 < s.count c by omega))
    have h0 : a.count c = 0 := List.count_eq_zero.2 ha
    have hb : b.count c = n := by rw [e, List.count_append, List.count_cons_self, h0] at h; omega
    have hi : index s [c] = (a.length : Int) := by rw [index_one, e]; exact indexByte_app b ha
    unfold splitK
    rw [hi, if_neg (by simp), Int.toNat_natCast, Nat.add_zero, e, cut_app b ha]
    have h1 : (a ++ c :: b).take a.length = a := by simp
    have h2 : (a ++ c :: b).drop (a.length + [c].length) = b := by
      simp
    rw [h1, h2, splitK_cut c n b hb]
theorem splitB_cut (c : UInt8) (s : ByteArray) : (splitB ⟨#[c]⟩ 0 (s.data.toList.count c) s).map (·.data.toList) = cut c s.data.toList := by
  rw [splitB_data]; exact splitK_cut c _ _ rfl

/-- Numbers below a hundred, in decimals. -/
def dig2 (n : Nat) : List UInt8 := if n < 10 then [UInt8.ofNat (48 + n)] else [UInt8.ofNat (48 + n / 10), UInt8.ofNat (48 + n % 10)]
theorem decDigits_small {n : Nat} (h : n < 100) : decDigits n = dig2 n := by
  unfold dig2
  by_cases h1 : n < 10
  · rw [if_pos h1]; unfold decDigits; rw [dif_pos h1]
  · rw [if_neg h1]
    unfold decDigits
    rw [dif_neg h1]
    unfold decDigits
    rw [dif_pos (show n / 10 < 10 by omega)]; rfl
/-- A number of one figure, or two; -1, if it is none. -/
def num : List UInt8 → Int
  | [a] => if 48 ≤ a.toNat ∧ a.toNat ≤ 57 then (a.toNat : Int) - 48 else -1
  | [a, b] => if (48 ≤ a.toNat ∧ a.toNat ≤ 57) ∧ 48 ≤ b.toNat ∧ b.toNat ≤ 57 then 10 * ((a.toNat : Int) - 48) + ((b.toNat : Int) - 48) else -1
  | _ => -1
theorem num_dig2 : ∀ n : Nat, n < 100 → num (dig2 n) = (n : Int) ∧ (32 : UInt8) ∉ dig2 n := by decide
/-- What stands between strokes. -/
def quoted (w : List UInt8) : List UInt8 := if 2 ≤ w.length ∧ w.head? = some 39 ∧ w.getLast? = some 39 then (w.drop 1).dropLast else []
theorem quoted_of (t : List UInt8) : quoted (39 :: (t ++ [39])) = t := by
  unfold quoted
  rw [if_pos ⟨by simp, rfl, by rw [← List.cons_append, List.getLast?_append]; rfl⟩]
  simp
/-- A change as plain things: kind, row, parent, sibling, text. -/
abbrev Ch := Int × Int × Int × Int × List UInt8
/-- The words of a change. -/
def words (o : Ch) : List (List UInt8) :=
  if o.1 = 1 then [[109, 97, 107, 101], dig2 o.2.1.toNat, dig2 o.2.2.1.toNat, dig2 o.2.2.2.1.toNat, 39 :: (o.2.2.2.2 ++ [39])]
  else if o.1 = 2 then [[116, 101, 120, 116], dig2 o.2.1.toNat, 39 :: (o.2.2.2.2 ++ [39])]
  else [[109, 111, 118, 101], dig2 o.2.1.toNat, dig2 o.2.2.1.toNat, dig2 o.2.2.2.1.toNat]
/-- The text of a change. -/
def txt (o : Ch) : List UInt8 := join (words o) [32]
/-- The change of words, such as it is. -/
def readW (w : List (List UInt8)) : Ch :=
  if w.headD [] = [109, 97, 107, 101] then (1, num (w.getD 1 []), num (w.getD 2 []), num (w.getD 3 []), quoted (w.getD 4 []))
  else if w.headD [] = [116, 101, 120, 116] then (2, num (w.getD 1 []), 0, 0, quoted (w.getD 2 []))
  else if w.headD [] = [109, 111, 118, 101] then (3, num (w.getD 1 []), num (w.getD 2 []), num (w.getD 3 []), [])
  else (0, num (w.getD 1 []), 0, 0, [])
/-- A change whose text can be read back. -/
structure Plain (o : Ch) : Prop where
  kind : o.1 = 1 ∨ o.1 = 2 ∨ o.1 = 3
  id : 0 ≤ o.2.1 ∧ o.2.1 < 100
  up : 0 ≤ o.2.2.1 ∧ o.2.2.1 < 100
  at_ : 0 ≤ o.2.2.2.1 ∧ o.2.2.2.1 < 100
  text : (32 : UInt8) ∉ o.2.2.2.2
  two : o.1 = 2 → o.2.2.1 = 0 ∧ o.2.2.2.1 = 0
  three : o.1 = 3 → o.2.2.2.2 = []
theorem dig_free {n : Int} (h : 0 ≤ n ∧ n < 100) : (32 : UInt8) ∉ dig2 n.toNat := (num_dig2 n.toNat (by omega)).2
theorem num_of {n : Int} (h : 0 ≤ n ∧ n < 100) : num (dig2 n.toNat) = n := by rw [(num_dig2 n.toNat (by omega)).1]; omega
theorem stroke_free {t : List UInt8} (h : (32 : UInt8) ∉ t) : (32 : UInt8) ∉ 39 :: (t ++ [39]) := by
  simp [h]
theorem words_free {o : Ch} (h : Plain o) : ∀ w ∈ words o, (32 : UInt8) ∉ w := by
  intro w hw
  have h1 := dig_free h.id; have h2 := dig_free h.up; have h3 := dig_free h.at_; have h4 := stroke_free h.text
  unfold words at hw
  split at hw
  · simp only [List.mem_cons, List.not_mem_nil, or_false] at hw
    rcases hw with rfl | rfl | rfl | rfl | rfl
    · decide
    · exact h1
    · exact h2
    · exact h3
    · exact h4
  · split at hw
    · simp only [List.mem_cons, List.not_mem_nil, or_false] at hw
      rcases hw with rfl | rfl | rfl
      · decide
      · exact h1
      · exact h4
    · simp only [List.mem_cons, List.not_mem_nil, or_false] at hw
      rcases hw with rfl | rfl | rfl | rfl
      · decide
      · exact h1
      · exact h2
      · exact h3
theorem words_ne (o : Ch) : words o ≠ [] := by unfold words; repeat' split
                                               all_goals simp
/-- The text is cut into the words. -/
theorem cut_txt {o : Ch} (h : Plain o) : cut 32 (txt o) = words o := cut_join 32 _ (words_ne o) (words_free h)
/-- The words are read back. -/
theorem read_words {o : Ch} (h : Plain o) : readW (words o) = o := by
  obtain ⟨k, i, u, a, t⟩ := o
  have h1 := num_of h.id; have h2 := num_of h.up; have h3 := num_of h.at_; have h4 := quoted_of t
  have hk := h.kind; have h5 := h.two; have h6 := h.three
  dsimp only at h1 h2 h3 hk h5 h6
  rcases hk with rfl | rfl | rfl
  · unfold words readW
    simp [h1, h2, h3, h4]
  · obtain ⟨rfl, rfl⟩ := h5 rfl
    unfold words readW
    simp [h1, h4]
  · obtain rfl := h6 rfl
    unfold words readW
    simp [h1, h2, h3]
theorem read_txt {o : Ch} (h : Plain o) : readW (cut 32 (txt o)) = o := by rw [cut_txt h, read_words h]
/-- Two changes are the same just if their texts are. -/
theorem txt_inj {o p : Ch} (ho : Plain o) (hp : Plain p) (h : txt o = txt p) : o = p := by
  rw [← read_txt ho, ← read_txt hp, h]
theorem txt_pos (o : Ch) : txt o ≠ [] := by
  unfold txt words
  repeat' split
  all_goals simp [join_two]
theorem dig2_len (n : Nat) : (dig2 n).length ≤ 2 := by unfold dig2; split <;> simp
theorem txt_len {o : Ch} (h : o.2.2.2.2.length ≤ 4) : (txt o).length ≤ 24 := by
  have h1 := dig2_len o.2.1.toNat; have h2 := dig2_len o.2.2.1.toNat; have h3 := dig2_len o.2.2.2.1.toNat
  unfold txt words
  repeat' split
  all_goals simp only [join_two, join_one, List.length_append, List.length_cons, List.length_nil]; omega
def isOk (r : NumEnd Int) (v : Int) : Bool := match r with
  | .ok x => x == v
  | _ => false
theorem isOk_iff {r : NumEnd Int} {v : Int} (h : isOk r v = true) : r = .ok v := by
  unfold isOk at h
  split at h
  · rw [beq_iff_eq.1 h]
  · cases h
theorem atoi_dig2' : ∀ n : Nat, n < 100 → isOk (atoiAll (dig2 n)) (n : Int) = true := by decide
/-- Go reads a number below a hundred back. -/
theorem atoi_dig2 {n : Int} (h : 0 ≤ n ∧ n < 100) : atoiAll (dig2 n.toNat) = .ok n := by
  have := isOk_iff (atoi_dig2' n.toNat (by omega))
  rw [this]; congr 1; omega
/-- Numbers of words, as Go reads them; none, if one is none. -/
def nums : List (List UInt8) → Option (List Int)
  | [] => some []
  | w :: r => match atoiAll w with
    | .ok v => (nums r).map (v :: ·)
    | _ => none
/-- The text between strokes at the end of words, and the words ahead of it. -/
def unquote (r : List (List UInt8)) : Option (List (List UInt8) × List UInt8) :=
  match r.getLast? with
  | none => none
  | some w => if 2 ≤ w.length ∧ w.head? = some 39 ∧ w.getLast? = some 39 then some (r.dropLast, (w.drop 1).dropLast) else none
/-- The program's reading of words. -/
def goParse : List (List UInt8) → Option Ch
  | [] => none
  | w :: r =>
    if w = [109, 97, 107, 101] then (unquote r).bind fun p => if p.1.length = 3 then (nums p.1).map fun v => (1, v.getD 0 0, v.getD 1 0, v.getD 2 0, p.2) else none
    else if w = [116, 101, 120, 116] then (unquote r).bind fun p => if p.1.length = 1 then (nums p.1).map fun v => (2, v.getD 0 0, 0, 0, p.2) else none
    else if w = [109, 111, 118, 101] then (if r.length = 3 then (nums r).map fun v => (3, v.getD 0 0, v.getD 1 0, v.getD 2 0, []) else none)
    else none
theorem unquote_of (r : List (List UInt8)) (t : List UInt8) : unquote (r ++ [39 :: (t ++ [39])]) = some (r, t) := by
  unfold unquote
  rw [List.getLast?_append]
  simp only [List.getLast?_singleton, Option.some_or]
  rw [if_pos ⟨by simp, rfl, by rw [← List.cons_append, List.getLast?_append]; rfl⟩]
  simp
theorem goParse_words {o : Ch} (h : Plain o) : goParse (words o) = some o := by
  obtain ⟨k, i, u, a, t⟩ := o
  have h1 := atoi_dig2 h.id; have h2 := atoi_dig2 h.up; have h3 := atoi_dig2 h.at_
  have hk := h.kind; have h5 := h.two; have h6 := h.three
  dsimp only at h1 h2 h3 hk h5 h6
  have q1 : ∀ x y z : List UInt8, unquote [x, y, z, 39 :: (t ++ [39])] = some ([x, y, z], t) := fun x y z => unquote_of [x, y, z] t
  have q2 : ∀ x : List UInt8, unquote [x, 39 :: (t ++ [39])] = some ([x], t) := fun x => unquote_of [x] t
  rcases hk with rfl | rfl | rfl
  · unfold words goParse
    simp [q1, nums, h1, h2, h3]
  · obtain ⟨rfl, rfl⟩ := h5 rfl
    unfold words goParse
    simp [q2, nums, h1]
  · obtain rfl := h6 rfl
    unfold words goParse
    simp [nums, h1, h2, h3]
/-- Whatever says which changes are valid, if it lets through such alone: the program's reading of a text gives a valid change whose text this is just where the plain reading does, and then the same. -/
theorem goParse_read {V : Ch → Prop} (hV : ∀ o, V o → Plain o) (s : List UInt8) (o : Ch) : (goParse (cut 32 s) = some o ∧ V o ∧ txt o = s) ↔ (readW (cut 32 s) = o ∧ V o ∧ txt o = s) := by
  constructor
  · rintro ⟨_, h2, h3⟩
    exact ⟨by rw [← h3]; exact read_txt (hV o h2), h2, h3⟩
  · rintro ⟨_, h2, h3⟩
    refine ⟨?_, h2, h3⟩
    rw [← h3, cut_txt (hV o h2)]
    exact goParse_words (hV o h2)
end Go.Proofs.YtkoodlmedgfdjaaGreatDoor.OpTxt
