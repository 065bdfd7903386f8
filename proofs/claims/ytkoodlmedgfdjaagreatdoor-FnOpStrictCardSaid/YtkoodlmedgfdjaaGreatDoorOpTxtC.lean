/- The program's showChange and OpShow by walks: the text of a change. Where the table lies as the program's text lays it. -/
import Derived.Test.YtkoodlmedgfdjaaGreatDoorOpC
import Derived.Test.YtkoodlmedgfdjaaGreatDoorOpTxtP
import Derived.Test.YtkoodlmedgfdjaaGreatDoorShelf
import Derived.Deep.RegionWith
import Derived.Deep.DrawnRows
import Derived.Deep.AppendLies
import Derived.Deep.RegionHeld3
import Derived.Laws.OwnMore
namespace Go.Proofs.YtkoodlmedgfdjaaGreatDoor
open Go.RowKit Go.Proofs.YtkoodlmedgfdjaaGreatDoorW.PrintWords Go.Proofs.YtkoodlmedgfdjaaGreatDoorW.PrintLast Go.Proofs.YtkoodlmedgfdjaaGreatDoor.OpTxt
set_option linter.unusedVariables false
set_option linter.unusedSimpArgs false

/-- A type that is a record of fields, seen from the program's table. -/
def isStruct (u : Option TypeDesc) : Bool := match u with
  | some (.struct ..) => true
  | _ => false
theorem assert_same {T : TypeId} (h : isStruct (Tryz.prog.underlying T) = true) (v : Value) (xT : TypeId) (w : World) : (Instr.typeAssert (.iface T v) xT T true).run Tryz.prog w = .ok (.tuple #[v, .bool true]) w := by
  cases hu : Tryz.prog.underlying T with
  | none => rw [hu] at h; cases h
  | some u =>
    cases u <;> first | (rw [hu] at h; cases h; done) | simp [Instr.typeAssert, run_underlying hu]
theorem assert_other {T U : TypeId} {z : Value} (h : isStruct (Tryz.prog.underlying T) = true) (hz : (Tryz.prog.info? T).map (·.zero) = some (some z)) (hne : U ≠ T) (v : Value) (xT : TypeId) (w : World) : (Instr.typeAssert (.iface U v) xT T true).run Tryz.prog w = .ok (.tuple #[z, .bool false]) w := by
  obtain ⟨j, hj, hz'⟩ := Option.map_eq_some_iff.1 hz
  cases hu : Tryz.prog.underlying T with
  | none => rw [hu] at h; cases h
  | some u =>
    cases u <;> first | (rw [hu] at h; cases h; done) | simp [Instr.typeAssert, run_underlying hu, hne, zeroValue, typeInfo, hj, hz']
theorem make_rec : isStruct (Tryz.prog.underlying 61) = true := by kernel_rfl
theorem text_rec : isStruct (Tryz.prog.underlying 65) = true := by kernel_rfl
theorem move_rec : isStruct (Tryz.prog.underlying 67) = true := by kernel_rfl
theorem make_zero : (Tryz.prog.info? 61).map (·.zero) = some (some (.agg #[.int .i64 0, .int .i64 0, .int .i64 0, .string ⟨#[]⟩])) := by kernel_rfl
theorem text_zero : (Tryz.prog.info? 65).map (·.zero) = some (some (.agg #[.int .i64 0, .string ⟨#[]⟩])) := by kernel_rfl
theorem move_zero : (Tryz.prog.info? 67).map (·.zero) = some (some (.agg #[.int .i64 0, .int .i64 0, .int .i64 0])) := by kernel_rfl
theorem row_make (id up at_ : Int) (text : ByteArray) (w : World) : Calls Tryz.prog 108 #[.agg #[.int .i64 id, .int .i64 up, .int .i64 at_, .string text]] w fun e w' => e = .returned (.int .i64 id) ∧ Below w.heap.size w w' := by
  go_enter Tryz.func108, Tryz.ntmps108
  go_wp2
  go_ret
  exact ⟨rfl, below_alloc (Below.refl _ _) _⟩
theorem row_text (id : Int) (text : ByteArray) (w : World) : Calls Tryz.prog 109 #[.agg #[.int .i64 id, .string text]] w fun e w' => e = .returned (.int .i64 id) ∧ Below w.heap.size w w' := by
  go_enter Tryz.func109, Tryz.ntmps109
  go_wp2
  go_ret
  exact ⟨rfl, below_alloc (Below.refl _ _) _⟩
theorem row_move (id up at_ : Int) (w : World) : Calls Tryz.prog 110 #[.agg #[.int .i64 id, .int .i64 up, .int .i64 at_]] w fun e w' => e = .returned (.int .i64 id) ∧ Below w.heap.size w w' := by
  go_enter Tryz.func110, Tryz.ntmps110
  go_wp2
  go_ret
  exact ⟨rfl, below_alloc (Below.refl _ _) _⟩
/-- Numbers of rows, as Go writes them. -/
theorem itoa_calls {n : Int} (h : 0 ≤ n ∧ n < 100) (w : World) : Calls Tryz.prog 32 #[.int .i64 n] w fun e w' => e = .returned (.string ⟨(dig2 n.toNat).toArray⟩) ∧ w' = w := by
  obtain ⟨m, rfl⟩ := Int.eq_ofNat_of_zero_le h.1
  have hm : m < 100 := by omega
  have c := Tryz.strconv_Itoa_small m hm w
  rw [decDigits_small hm] at c
  exact c
/-- An empty row of the call's own. -/
theorem row_empty {W : World} {B g T : Nat} (hb : B ≤ g) (h : W.heap[g]? = some (.cells #[] T (0, 0))) : W.ownsRow B T 1 (.slice (some ⟨g, 0, none⟩) 0 0) 0 [] :=
  ⟨rfl, .inr ⟨g, 0, #[], rfl, hb, h, Nat.le_refl _, Nat.zero_le _, rfl, rfl⟩⟩
theorem infoStr : (Tryz.prog.info? 9).map (fun i => (i.zero, i.size, i.bytes)) = some (some (.string ⟨#[]⟩), 1, 16) := by kernel_rfl
/-- What Join makes of words that a row of the call's own holds. -/
theorem join_row {g cap B : Nat} {xs : List ByteArray} {W : World} (n : Nat) (hn : n = xs.length) (hown : W.ownsRow B 9 1 (.slice (some ⟨g, 0, none⟩) n cap) n (xs.map Value.string)) (hlt : g < W.heap.size) (hN : xs.length ≤ 100) (hlen : (Lib.join (xs.map (·.data.toList)) (⟨#[32]⟩ : ByteArray).data.toList).length ≤ 1000) (r : ByteArray) (hr : (Lib.join (xs.map (·.data.toList)) [32]).toArray = r.data) :
    Calls Tryz.prog 33 #[.slice (some ⟨g, 0, none⟩) n cap, .string ⟨#[32]⟩] W fun e w' => e = .returned (.string r) ∧ Below W.heap.size W w' := by
  subst hn
  have hcap : xs.length ≤ cap := by
    rcases hown.2 with ⟨h, _⟩ | ⟨g', cap', cur, hv, _, _, hle, _⟩
    · cases h
    · cases hv; exact hle
  have h := Tryz.strings_Join g 0 cap xs ⟨#[32]⟩ W (fun j x hj => by
    have hl : j < xs.length := (List.getElem?_eq_some_iff.1 hj).1
    rw [Nat.zero_add, hown.cellAt j (by omega), List.getElem?_map, hj]; rfl) hlt (by omega) hcap (by omega)
  have e : (⟨(Lib.join (xs.map (·.data.toList)) [32]).toArray⟩ : ByteArray) = r := by cases r; congr 1
  rw [← e]
  exact h
theorem row_next {w X W : World} {ge : Nat} {o : Obj} (hB : Below w.heap.size w X) (hge : ge = w.heap.size) (hg : (X.alloc o).drew.grownBy W (Value.slice (some ⟨ge, 0, none⟩) 0 0).ownBlock) : Below w.heap.size w W :=
  (below_alloc hB o).drew.grown hg (by have := hB.size; simp; omega) (fun k e => by cases e; show w.heap.size ≤ ge; omega)
attribute [local go_sem ↓] Go.wp_at_zero Go.wp_at_succ
theorem quote_data (t : ByteArray) : ((⟨#[39]⟩ : ByteArray) ++ t ++ ⟨#[39]⟩).data.toList = 39 :: (t.data.toList ++ [39]) := by
  simp [ByteArray.data_append]
set_option maxHeartbeats 2000000 in
set_option maxRecDepth 100000 in
theorem show_move (id up at_ : Int) (h1 : 0 ≤ id ∧ id < 100) (h2 : 0 ≤ up ∧ up < 100) (h3 : 0 ≤ at_ ∧ at_ < 100) (w : World) : Calls Tryz.prog 16 #[.iface 67 (.agg #[.int .i64 id, .int .i64 up, .int .i64 at_])] w fun e w' => e = .returned (.string (opTxt 3 id up at_ ⟨#[]⟩)) ∧ Below w.heap.size w w' := by
  have hm : ∀ w, (method 281 67 (.agg #[.int .i64 id, .int .i64 up, .int .i64 at_]) "loop.example/plashet/impl.row").run Tryz.prog w = .ok (110, .agg #[.int .i64 id, .int .i64 up, .int .i64 at_]) w := fun _ => by kernel_rfl
  have a1 := assert_other (U := 67) make_rec make_zero (by decide) (.agg #[.int .i64 id, .int .i64 up, .int .i64 at_])
  have a2 := assert_other (U := 67) text_rec text_zero (by decide) (.agg #[.int .i64 id, .int .i64 up, .int .i64 at_])
  have a3 := assert_same move_rec (.agg #[.int .i64 id, .int .i64 up, .int .i64 at_])
  have H1 := Aside0.mk h1
  have H2 := Aside0.mk h2
  have H3 := Aside0.mk h3
  clear h1 h2 h3
  go_enter Tryz.func16, Tryz.ntmps16
  go_wp2_with (first | (go_at_call 110; refine (row_move id up at_ _).mono ?_; rintro e w1 ⟨rfl, hb⟩; have HB1 := Aside0.mk hb; clear hb) | (go_at_call 32; (first | refine (itoa_calls H1.out _).mono ?_ | refine (itoa_calls H2.out _).mono ?_ | refine (itoa_calls H3.out _).mono ?_); rintro e w2 ⟨rfl, rfl⟩))
  obtain ⟨ge, hge⟩ : ∃ ge, ge = w.heap.size := ⟨_, rfl⟩
  obtain ⟨gb, hgb⟩ : ∃ gb, gb = w2.heap.size := ⟨_, rfl⟩
  obtain ⟨X, hX⟩ : ∃ X, X = w2.alloc (.cells #[.int .i64 id, .int .i64 up, .int .i64 at_] 67) := ⟨_, rfl⟩
  have hE : X.heap[ge]? = some (.cells #[] 9 (0, 0)) := by
    rw [hX, hge]
    exact (Below.heap_alloc _ _ _ (by have := HB1.out.size; simp at this; omega)).trans ((HB1.out.block w.heap.size (by simp)).trans (heap_alloc_new w _))
  have hlt : ge < X.heap.size := (Array.getElem?_eq_some_iff.1 hE).1
  have hc1 : X.cell? ⟨gb, 1, none⟩ = some (.int .i64 up) := by rw [hX, hgb]; exact blk_cell (heap_alloc_new w2 _) 1
  have hc2 : X.cell? ⟨gb, 2, none⟩ = some (.int .i64 at_) := by rw [hX, hgb]; exact blk_cell (heap_alloc_new w2 _) 2
  have hne : (Value.slice (some ⟨ge, 0, none⟩) 0 0).ownBlock ≠ some gb := by
    have := HB1.out.size
    simp at this
    simp [Value.ownBlock]; omega
  have hgl : gb < X.heap.size := by rw [hX, hgb]; simp
  have hB : Below w.heap.size w X := by rw [hX]; exact below_alloc (below_then (below_alloc (Below.refl _ _) _) (below_size (below_alloc (Below.refl _ _) _)) HB1.out) _
  rw [← hX, ← hge, ← hgb]
  obtain ⟨i0, hi, hz0, hz1, hz2⟩ := info_parts infoStr
  have HE := Aside0.mk hE
  have HL := Aside0.mk hlt
  have HB := Aside0.mk hB
  have HG := Aside0.mk hge
  have HN := Aside0.mk hne
  have HQ := Aside0.mk hgl
  clear hE hB hlt hX HB1 hgb hge hne hgl
  go_region_held3 (fun w' => w'.cell? ⟨gb, 1, none⟩ = some (.int .i64 up) ∧ w'.cell? ⟨gb, 2, none⟩ = some (.int .i64 at_)) (first | go_keep | (refine ⟨?_, ?_⟩ <;> (rw [hgrow.cell_far ⟨gb, _, none⟩ (by have := HQ.out; simp; omega) (Ne.symm HN.out)]; go_keep))) (first | (go_at_call 32; (first | refine (itoa_calls H2.out _).mono ?_ | refine (itoa_calls H3.out _).mono ?_); rintro e w2 ⟨rfl, rfl⟩) | ((refine step_append_lies _ (by rfl) _ _ _ (by rfl) ge 9 i0 (.string ⟨#[]⟩) 1 16 Tryz.underlying49 hi hz0 hz1 hz2 rfl (by decide) _ 0 [] (by rfl) (row_empty (Nat.le_refl _) ((Below.heap_alloc _ _ _ HL.out).trans HE.out)) ⟨X.heap.size, 0, none⟩ 4 4 _ (by rfl) (by rfl) (World.news_of_block (heap_alloc_new _ _)) (by simp [Value.oneCell']) (by decide) (by decide) (by decide) (by have := HL.out; simp; omega) _ rfl ?_; intro g cap w5 hown hgrow hat hlt5)))
  rename_i hHeld
  have HO : Aside0 (w5.ownsRow ge 9 1 (.slice (some ⟨g, 0, none⟩) 4 cap) 4 (([⟨#[109, 111, 118, 101]⟩, ⟨(dig2 id.toNat).toArray⟩, ⟨(dig2 up.toNat).toArray⟩, ⟨(dig2 at_.toNat).toArray⟩] : List ByteArray).map Value.string)) := ⟨hown⟩
  have H5 := Aside0.mk hlt5
  have HW : Aside0 (Below w.heap.size w w5) := ⟨row_next HB.out HG.out hgrow⟩
  have hj : Lib.join (([⟨#[109, 111, 118, 101]⟩, ⟨(dig2 id.toNat).toArray⟩, ⟨(dig2 up.toNat).toArray⟩, ⟨(dig2 at_.toNat).toArray⟩] : List ByteArray).map (·.data.toList)) [32] = txt (3, id, up, at_, []) := rfl
  have hl : (txt (3, id, up, at_, [])).length ≤ 24 := txt_len (by simp)
  have HJ := Aside0.mk hj
  have HT := Aside0.mk hl
  clear hown hlt5 hgrow hat hHeld hj hl
  go_wp2_with (go_at_call 33; refine (join_row 4 rfl HO.out H5.out (by simp) (by have := HT.out; rw [← HJ.out] at this; exact Nat.le_trans this (by decide)) (opTxt 3 id up at_ ⟨#[]⟩) (by rw [HJ.out]; rfl)).mono ?_; rintro e w6 ⟨rfl, hb6⟩)
  go_ret
  exact ⟨rfl, below_then HW.out HW.out.size hb6⟩
set_option maxHeartbeats 2000000 in
set_option maxRecDepth 100000 in
theorem show_make (id up at_ : Int) (text : ByteArray) (ht : text.size ≤ 4) (h1 : 0 ≤ id ∧ id < 100) (h2 : 0 ≤ up ∧ up < 100) (h3 : 0 ≤ at_ ∧ at_ < 100) (w : World) : Calls Tryz.prog 16 #[.iface 61 (.agg #[.int .i64 id, .int .i64 up, .int .i64 at_, .string text])] w fun e w' => e = .returned (.string (opTxt 1 id up at_ text)) ∧ Below w.heap.size w w' := by
  have hm : ∀ w, (method 281 61 (.agg #[.int .i64 id, .int .i64 up, .int .i64 at_, .string text]) "loop.example/plashet/impl.row").run Tryz.prog w = .ok (108, .agg #[.int .i64 id, .int .i64 up, .int .i64 at_, .string text]) w := fun _ => by kernel_rfl
  have a1 := assert_same make_rec (.agg #[.int .i64 id, .int .i64 up, .int .i64 at_, .string text])
  have HX := Aside0.mk ht
  have ad1 : ∀ w, (Op.stringOp .add ⟨#[39]⟩ text).run Tryz.prog w = .ok (.string (⟨#[39]⟩ ++ text)) w := fun w => run_string_add_sum w _ _ (by have e : (⟨#[39]⟩ : ByteArray).size = 1 := rfl; omega)
  have ad2 : ∀ w, (Op.stringOp .add (⟨#[39]⟩ ++ text) ⟨#[39]⟩).run Tryz.prog w = .ok (.string (⟨#[39]⟩ ++ text ++ ⟨#[39]⟩)) w := fun w => run_string_add_sum w _ _ (by have e : (⟨#[39]⟩ : ByteArray).size = 1 := rfl; rw [ByteArray.size_append]; omega)
  clear ht
  have H1 := Aside0.mk h1
  have H2 := Aside0.mk h2
  have H3 := Aside0.mk h3
  clear h1 h2 h3
  go_enter Tryz.func16, Tryz.ntmps16
  go_wp2_with (first | (go_at_call 108; refine (row_make id up at_ text _).mono ?_; rintro e w1 ⟨rfl, hb⟩; have HB1 := Aside0.mk hb; clear hb) | (go_at_call 32; (first | refine (itoa_calls H1.out _).mono ?_ | refine (itoa_calls H2.out _).mono ?_ | refine (itoa_calls H3.out _).mono ?_); rintro e w2 ⟨rfl, rfl⟩))
  obtain ⟨ge, hge⟩ : ∃ ge, ge = w.heap.size := ⟨_, rfl⟩
  obtain ⟨gb, hgb⟩ : ∃ gb, gb = w2.heap.size := ⟨_, rfl⟩
  obtain ⟨X, hX⟩ : ∃ X, X = w2.alloc (.cells #[.int .i64 id, .int .i64 up, .int .i64 at_, .string text] 61) := ⟨_, rfl⟩
  have hE : X.heap[ge]? = some (.cells #[] 9 (0, 0)) := by
    rw [hX, hge]
    exact (Below.heap_alloc _ _ _ (by have := HB1.out.size; simp at this; omega)).trans ((HB1.out.block w.heap.size (by simp)).trans (heap_alloc_new w _))
  have hlt : ge < X.heap.size := (Array.getElem?_eq_some_iff.1 hE).1
  have hc1 : X.cell? ⟨gb, 1, none⟩ = some (.int .i64 up) := by rw [hX, hgb]; exact blk_cell (heap_alloc_new w2 _) 1
  have hc2 : X.cell? ⟨gb, 2, none⟩ = some (.int .i64 at_) := by rw [hX, hgb]; exact blk_cell (heap_alloc_new w2 _) 2
  have hc3 : X.cell? ⟨gb, 3, none⟩ = some (.string text) := by rw [hX, hgb]; exact blk_cell (heap_alloc_new w2 _) 3
  have hne : (Value.slice (some ⟨ge, 0, none⟩) 0 0).ownBlock ≠ some gb := by
    have := HB1.out.size
    simp at this
    simp [Value.ownBlock]; omega
  have hgl : gb < X.heap.size := by rw [hX, hgb]; simp
  have hB : Below w.heap.size w X := by rw [hX]; exact below_alloc (below_then (below_alloc (Below.refl _ _) _) (below_size (below_alloc (Below.refl _ _) _)) HB1.out) _
  rw [← hX, ← hge, ← hgb]
  obtain ⟨i0, hi, hz0, hz1, hz2⟩ := info_parts infoStr
  have HE := Aside0.mk hE
  have HL := Aside0.mk hlt
  have HB := Aside0.mk hB
  have HG := Aside0.mk hge
  have HN := Aside0.mk hne
  have HQ := Aside0.mk hgl
  clear hE hB hlt hX HB1 hgb hge hne hgl
  go_region_held3 (fun w' => w'.cell? ⟨gb, 1, none⟩ = some (.int .i64 up) ∧ w'.cell? ⟨gb, 2, none⟩ = some (.int .i64 at_) ∧ w'.cell? ⟨gb, 3, none⟩ = some (.string text)) (first | go_keep | (refine ⟨?_, ?_, ?_⟩ <;> (rw [hgrow.cell_far ⟨gb, _, none⟩ (by have := HQ.out; simp; omega) (Ne.symm HN.out)]; go_keep))) (first | (go_at_call 32; (first | refine (itoa_calls H2.out _).mono ?_ | refine (itoa_calls H3.out _).mono ?_); rintro e w2 ⟨rfl, rfl⟩) | ((refine step_append_lies _ (by rfl) _ _ _ (by rfl) ge 9 i0 (.string ⟨#[]⟩) 1 16 Tryz.underlying49 hi hz0 hz1 hz2 rfl (by decide) _ 0 [] (by rfl) (row_empty (Nat.le_refl _) ((Below.heap_alloc _ _ _ HL.out).trans HE.out)) ⟨X.heap.size, 0, none⟩ 5 5 _ (by rfl) (by rfl) (World.news_of_block (heap_alloc_new _ _)) (by simp [Value.oneCell']) (by decide) (by decide) (by decide) (by have := HL.out; simp; omega) _ rfl ?_; intro g cap w5 hown hgrow hat hlt5)))
  rename_i hHeld
  have HO : Aside0 (w5.ownsRow ge 9 1 (.slice (some ⟨g, 0, none⟩) 5 cap) 5 (([⟨#[109, 97, 107, 101]⟩, ⟨(dig2 id.toNat).toArray⟩, ⟨(dig2 up.toNat).toArray⟩, ⟨(dig2 at_.toNat).toArray⟩, ⟨#[39]⟩ ++ text ++ ⟨#[39]⟩] : List ByteArray).map Value.string)) := ⟨hown⟩
  have H5 := Aside0.mk hlt5
  have HW : Aside0 (Below w.heap.size w w5) := ⟨row_next HB.out HG.out hgrow⟩
  have hj : Lib.join (([⟨#[109, 97, 107, 101]⟩, ⟨(dig2 id.toNat).toArray⟩, ⟨(dig2 up.toNat).toArray⟩, ⟨(dig2 at_.toNat).toArray⟩, ⟨#[39]⟩ ++ text ++ ⟨#[39]⟩] : List ByteArray).map (·.data.toList)) [32] = txt (1, id, up, at_, text.data.toList) := by simp [txt, words, quote_data]
  have hl : (txt (1, id, up, at_, text.data.toList)).length ≤ 24 := txt_len (by have := HX.out; simpa using this)
  have HJ := Aside0.mk hj
  have HT := Aside0.mk hl
  clear hown hlt5 hgrow hat hHeld hj hl
  go_wp2_with (go_at_call 33; refine (join_row 5 rfl HO.out H5.out (by simp) (by have := HT.out; rw [← HJ.out] at this; exact Nat.le_trans this (by decide)) (opTxt 1 id up at_ text) (by rw [HJ.out]; rfl)).mono ?_; rintro e w6 ⟨rfl, hb6⟩)
  go_ret
  exact ⟨rfl, below_then HW.out HW.out.size hb6⟩
set_option maxHeartbeats 2000000 in
set_option maxRecDepth 100000 in
theorem show_text (id : Int) (text : ByteArray) (ht : text.size ≤ 4) (h1 : 0 ≤ id ∧ id < 100) (w : World) : Calls Tryz.prog 16 #[.iface 65 (.agg #[.int .i64 id, .string text])] w fun e w' => e = .returned (.string (opTxt 2 id 0 0 text)) ∧ Below w.heap.size w w' := by
  have hm : ∀ w, (method 281 65 (.agg #[.int .i64 id, .string text]) "loop.example/plashet/impl.row").run Tryz.prog w = .ok (109, .agg #[.int .i64 id, .string text]) w := fun _ => by kernel_rfl
  have a1 := assert_other (U := 65) make_rec make_zero (by decide) (.agg #[.int .i64 id, .string text])
  have a2 := assert_same text_rec (.agg #[.int .i64 id, .string text])
  have HX := Aside0.mk ht
  have ad1 : ∀ w, (Op.stringOp .add ⟨#[39]⟩ text).run Tryz.prog w = .ok (.string (⟨#[39]⟩ ++ text)) w := fun w => run_string_add_sum w _ _ (by have e : (⟨#[39]⟩ : ByteArray).size = 1 := rfl; omega)
  have ad2 : ∀ w, (Op.stringOp .add (⟨#[39]⟩ ++ text) ⟨#[39]⟩).run Tryz.prog w = .ok (.string (⟨#[39]⟩ ++ text ++ ⟨#[39]⟩)) w := fun w => run_string_add_sum w _ _ (by have e : (⟨#[39]⟩ : ByteArray).size = 1 := rfl; rw [ByteArray.size_append]; omega)
  clear ht
  have H1 := Aside0.mk h1
  clear h1
  obtain ⟨i0, hi, hz0, hz1, hz2⟩ := info_parts infoStr
  have HJ : Aside0 (Lib.join (([⟨#[116, 101, 120, 116]⟩, ⟨(dig2 id.toNat).toArray⟩, ⟨#[39]⟩ ++ text ++ ⟨#[39]⟩] : List ByteArray).map (·.data.toList)) [32] = txt (2, id, 0, 0, text.data.toList)) := ⟨by simp [txt, words, quote_data]⟩
  have HT : Aside0 ((txt (2, id, 0, 0, text.data.toList)).length ≤ 24) := ⟨txt_len (by have := HX.out; simpa using this)⟩
  go_enter Tryz.func16, Tryz.ntmps16
  go_wp2_with (first | (go_at_call 109; refine (row_text id text _).mono ?_; rintro e w1 ⟨rfl, hb⟩; have HB1 := Aside0.mk hb; have HE : Aside0 (w1.heap[w.heap.size]? = some (.cells #[] 9 (0, 0))) := ⟨(hb.block w.heap.size (by simp)).trans (heap_alloc_new w _)⟩; have HL : Aside0 (w.heap.size < w1.heap.size) := ⟨(Array.getElem?_eq_some_iff.1 HE.out).1⟩; clear hb) | (go_at_call 32; refine (itoa_calls H1.out _).mono ?_; rintro e w2 ⟨rfl, rfl⟩) | (at_builtin; refine wpList_append_lies _ rfl _ _ _ rfl w.heap.size 9 i0 (.string ⟨#[]⟩) 1 16 Tryz.underlying49 hi hz0 hz1 hz2 rfl (by decide) _ 0 [] rfl (row_empty (Nat.le_refl _) ((Below.heap_alloc _ _ _ (by have := HL.out; simp; omega)).trans ((Below.heap_alloc _ _ _ HL.out).trans HE.out))) ⟨w2.heap.size + 1, 0, none⟩ 3 3 [.string ⟨#[116, 101, 120, 116]⟩, .string ⟨(dig2 id.toNat).toArray⟩, .string (⟨#[39]⟩ ++ text ++ ⟨#[39]⟩)] rfl rfl ?c1 ?c2 (by decide) (by decide) (by decide) ?c3 _ rfl ?_; (case c1 => exact World.news_of_block (by have h := heap_alloc_new (w2.alloc (.cells #[.int .i64 id, .string text] 65)) (.cells #[.string ⟨#[116, 101, 120, 116]⟩, .string ⟨(dig2 id.toNat).toArray⟩, .string (⟨#[39]⟩ ++ text ++ ⟨#[39]⟩)] 9); rw [World.size_alloc] at h; exact h)); (case c2 => simp [Value.oneCell']); (case c3 => (have := HL.out; simp; omega)); intro g cap w5 hown hgrow hat hlt5; have HO : Aside0 (w5.ownsRow w.heap.size 9 1 (.slice (some ⟨g, 0, none⟩) 3 cap) 3 (([⟨#[116, 101, 120, 116]⟩, ⟨(dig2 id.toNat).toArray⟩, ⟨#[39]⟩ ++ text ++ ⟨#[39]⟩] : List ByteArray).map Value.string)) := ⟨hown⟩; have H5 := Aside0.mk hlt5; have HW : Aside0 (Below w.heap.size w w5) := ⟨(below_alloc (below_alloc (below_then (below_alloc (Below.refl _ _) _) (below_size (below_alloc (Below.refl _ _) _)) HB1.out) _) _).grown hgrow (by have := HL.out; simp; omega) (fun k e => by cases e; exact Nat.le_refl _)⟩; clear hown hlt5 hgrow hat) | (go_at_call 33; refine (join_row 3 rfl HO.out H5.out (by simp) (by have := HT.out; rw [← HJ.out] at this; exact Nat.le_trans this (by decide)) (opTxt 2 id 0 0 text) (by rw [HJ.out]; rfl)).mono ?_; rintro e w6 ⟨rfl, hb6⟩))
  go_ret
  exact ⟨rfl, below_then HW.out HW.out.size hb6⟩
/-- The text of a valid change. -/
theorem showChange_calls (kind id up at_ : Int) (text : ByteArray) (ho : opB kind id up at_ text = true) (w : World) : Calls Tryz.prog 16 #[chV kind id up at_ text] w fun e w' => e = .returned (.string (opTxt kind id up at_ text)) ∧ Below w.heap.size w w' := by
  have hp := plain_op ho
  have ht : textB text = true → text.size ≤ 4 := fun h => by unfold textB at h; simp only [Bool.and_eq_true, decide_eq_true_eq] at h; exact h.1
  unfold opB at ho
  unfold chV
  by_cases hm : madeB id = true
  · rw [if_pos hm] at ho ⊢
    by_cases k1 : kind = 1
    · subst k1
      rw [if_pos rfl] at ho ⊢
      simp only [Bool.and_eq_true] at ho
      exact show_make id up at_ text (ht ho.2) hp.id hp.up hp.at_ w
    · rw [if_neg k1] at ho ⊢
      by_cases k2 : kind = 2
      · subst k2
        rw [if_pos rfl] at ho ⊢
        simp only [Bool.and_eq_true, decide_eq_true_eq] at ho
        obtain ⟨⟨rfl, rfl⟩, h3⟩ := ho
        exact show_text id text (ht h3) hp.id w
      · rw [if_neg k2] at ho ⊢
        by_cases k3 : kind = 3
        · subst k3
          rw [if_pos rfl] at ho ⊢
          simp only [Bool.and_eq_true] at ho
          have e : text = ⟨#[]⟩ := ba_eq (by have h := ho.2; rw [Lib.toList_data] at h; exact List.isEmpty_iff.1 h)
          subst e
          exact show_move id up at_ hp.id hp.up hp.at_ w
        · rw [if_neg k3] at ho; cases ho
  · rw [if_neg hm] at ho; cases ho
/-- The text of a change; nothing, where it is not valid. -/
theorem opShow_calls (kind id up at_ : Int) (text : ByteArray) (w : World) (ht : TabOk w) :
    Calls Tryz.prog 7 #[.agg #[.int .i64 kind, .int .i64 id, .int .i64 up, .int .i64 at_, .string text]] w fun e w' => e = .returned (.string (opShow kind id up at_ text)) ∧ Below w.heap.size w w' := by
  unfold opShow
  cases ho : opB kind id up at_ text with
  | false =>
    rw [if_neg (by decide)]
    have HO := Aside0.mk ho
    clear ho
    go_enter Tryz.func7, Tryz.ntmps7
    go_wp2_with (go_at_call 15; refine (changeOf_calls kind id up at_ text _ (ht.below (below_alloc (Below.refl _ _) _))).mono ?_; rw [HO.out]; rintro e w1 ⟨rfl, hb⟩; have hB : Aside0 (Below w.heap.size w w1) := ⟨below_then (below_alloc (Below.refl _ _) _) (below_size (below_alloc (Below.refl _ _) _)) hb⟩; clear hb)
    go_ret
    exact ⟨rfl, hB.out⟩
  | true =>
    rw [if_pos rfl]
    have HO := Aside0.mk ho
    clear ho
    go_enter Tryz.func7, Tryz.ntmps7
    go_wp2_with (first | (go_at_call 15; refine (changeOf_calls kind id up at_ text _ (ht.below (below_alloc (Below.refl _ _) _))).mono ?_; rw [HO.out]; rintro e w1 ⟨rfl, hb⟩; have hB : Aside0 (Below w.heap.size w w1) := ⟨below_then (below_alloc (Below.refl _ _) _) (below_size (below_alloc (Below.refl _ _) _)) hb⟩; clear hb) | (go_at_call 16; refine (showChange_calls kind id up at_ text HO.out _).mono ?_; rintro e w2 ⟨rfl, hb2⟩))
    go_ret
    exact ⟨rfl, below_then hB.out hB.out.size hb2⟩
end Go.Proofs.YtkoodlmedgfdjaaGreatDoor
