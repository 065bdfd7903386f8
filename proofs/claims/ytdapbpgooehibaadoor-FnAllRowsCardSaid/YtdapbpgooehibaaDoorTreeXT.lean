/- The program's TreeText by walks: the lines of the rows in order; nothing, where the rows are no outline. Where the table lies as the program's text lays it. -/
import Derived.Lib.OthersKept
import Derived.Test.YtdapbpgooehibaaDoorTreeX
import Derived.Test.YtdapbpgooehibaaDoorBuildC
namespace Go.Proofs.YtdapbpgooehibaaDoor
open Go.RowKit Go.Shelf Go.Proofs.YtdapbpgooehibaaDoorW.PrintWords Go.Proofs.YtdapbpgooehibaaDoorW.PrintLast Go.Proofs.YtdapbpgooehibaaDoorW.PrintMore Go.Proofs.YtdapbpgooehibaaDoor.P OpTxt
set_option linter.unusedVariables false
set_option linter.unusedSimpArgs false

attribute [local go_sem] Oper.semAt_some

/-- The builder in block b holds these bytes. -/
def Holds (b : Nat) (bs : List UInt8) (W : World) : Prop := Lib.IsBuilderF 78 5 b b (Lib.byteCells bs) W
theorem Holds.at_ {b : Nat} {bs : List UInt8} {W : World} (h : Holds b bs W) : ∃ c, W.heap[b]? = some (.cells c 78 (0, 0)) := by
  rcases h with ⟨_, v, hb, _⟩ | ⟨_, v, hb, _⟩ <;> exact ⟨_, hb⟩
theorem builder_turn {T b : Nat} {p : Value} {bs : List Value} {W W' : World} (h : Lib.BuilderAtF T 5 b b p bs W) (hk : ∀ k c t fz, W.heap[k]? = some (.cells c t fz) → k = b ∨ t = 5 → W'.heap[k]? = some (.cells c t fz)) : Lib.BuilderAtF T 5 b b p bs W' := by
  obtain ⟨hB, v, hb, hown, hne⟩ := h
  refine ⟨hB, v, hk _ _ _ _ hb (.inl rfl), ⟨hown.1, ?_⟩, hne⟩
  rcases hown.2 with hn | ⟨g, cap, cur, fz, hv, hbg, hg, rest⟩
  · exact .inl hn
  · exact .inr ⟨g, cap, cur, fz, hv, hbg, hk _ _ _ _ hg (.inr rfl), rest⟩
theorem Holds.turn {b : Nat} {bs : List UInt8} {W W' : World} (h : Holds b bs W) (hk : ∀ k c t fz, W.heap[k]? = some (.cells c t fz) → k = b ∨ t = 5 → W'.heap[k]? = some (.cells c t fz)) : Holds b bs W' :=
  h.elim (fun x => .inl (builder_turn x hk)) (fun x => .inr (builder_turn x hk))
theorem Holds.below {b : Nat} {bs : List UInt8} {W W' : World} (h : Holds b bs W) (hb : Below W.heap.size W W') : Holds b bs W' :=
  h.turn fun k c t fz hk _ => (hb.block k (Array.getElem?_eq_some_iff.1 hk).1).trans hk
theorem holds_calm {β : Type} {b B : Nat} (hb : b < B) (f : β → List UInt8) : CalmFrom 5 B (fun s W => Holds b (f s) W) := fun s A C row hs hg hr => hs.turn fun k c t fz hk hkt => by
  rw [hg.block k (Array.getElem?_eq_some_iff.1 hk).1 (fun e => by
    obtain ⟨h1, o, ho, hc⟩ := hr k e.symm
    rcases hkt with h2 | h2
    · omega
    · subst h2; rw [hk] at ho; exact hc c fz (Option.some.inj ho).symm)]
  exact hk
/-- What a step of a round does beside the builder. -/
def Kept1 (b : Nat) (U U' : World) : Prop := KB b b U U' ∧ KeepsOthers U U'
theorem Kept1.refl (b : Nat) (U : World) : Kept1 b U U := ⟨⟨Below.refl _ _, KeptC.refl _ _⟩, KeepsOthers.refl _⟩
theorem Kept1.trans {b : Nat} {A B C : World} (h : Kept1 b A B) (k : Kept1 b B C) : Kept1 b A C := ⟨h.1.trans k.1, h.2.trans k.2⟩
theorem Kept1.below {b : Nat} {U U' : World} (hb : b ≤ U.heap.size) (h : Below U.heap.size U U') : Kept1 b U U' := ⟨⟨h.mono hb, KeptC.below h⟩, KeepsOthers.below' h⟩
theorem Kept1.write {b : Nat} {U U' : World} {bs : List UInt8} (hH : Holds b bs U) (h1 : Below b U U') (h2 : Lib.OthersKept 5 (some b) U U') : Kept1 b U U' := by
  refine ⟨⟨h1, fun k c t hk hkb ht => h2 k _ hk (fun e => hkb (Option.some.inj e)) (fun c' fz e => by cases e; exact ht rfl)⟩, h1.size, fun k o hk ho => h2 k o hk (fun e => ?_) (fun c' fz e => by rw [e] at ho; cases ho)⟩
  obtain ⟨c, hc⟩ := hH.at_
  rw [Option.some.inj e, hc] at hk
  cases hk; cases ho
theorem strCells_bytes (s : ByteArray) : Lib.strCells s = Lib.byteCells s.data.toList := by rfl
theorem byteCells_app (a c : List UInt8) : Lib.byteCells a ++ Lib.byteCells c = Lib.byteCells (a ++ c) := by simp [Lib.byteCells]
theorem byteCells_ten (a : List UInt8) : Lib.byteCells a ++ [.int .u8 10] = Lib.byteCells (a ++ [10]) := by simp [Lib.byteCells]
/-- A text behind what the builder holds. -/
theorem write_text {b : Nat} {bs : List UInt8} {U : World} (h : Holds b bs U) (s : ByteArray) (hl : bs.length + s.size ≤ 140737488355328) :
    Calls Tryd.prog 49 #[.pointer (some ⟨b, 0, none⟩), .string s] U fun e U' => e = .returned (.tuple #[.int .i64 s.size, .nilIface]) ∧ Holds b (bs ++ s.data.toList) U' ∧ Kept1 b U U' := by
  have hlt : b < U.heap.size := by obtain ⟨c, hc⟩ := h.at_; exact (Array.getElem?_eq_some_iff.1 hc).1
  refine (Tryd.writeString b b (Lib.byteCells bs) s U h (by simpa [Lib.byteCells] using hl) (by omega)).mono ?_
  rintro e U' ⟨rfl, h1, h2, h3⟩
  rw [strCells_bytes, byteCells_app] at h1
  exact ⟨rfl, .inr h1, Kept1.write h h2 h3⟩
/-- A line's end behind what the builder holds. -/
theorem write_end {b : Nat} {bs : List UInt8} {U : World} (h : Holds b bs U) (hl : bs.length + 1 ≤ 140737488355328) :
    Calls Tryd.prog 52 #[.pointer (some ⟨b, 0, none⟩), .int .u8 10] U fun e U' => e = .returned .nilIface ∧ Holds b (bs ++ [10]) U' ∧ Kept1 b U U' := by
  have hlt : b < U.heap.size := by obtain ⟨c, hc⟩ := h.at_; exact (Array.getElem?_eq_some_iff.1 hc).1
  refine (Tryd.writeByte b b (Lib.byteCells bs) 10 U h (by simpa [Lib.byteCells] using hl) (by omega)).mono ?_
  rintro e U' ⟨rfl, h1, h2, h3⟩
  rw [byteCells_ten] at h1
  exact ⟨rfl, .inr h1, Kept1.write h h2 h3⟩
/-- What the builder holds. -/
theorem text_out {b : Nat} {bs : List UInt8} {U : World} (h : Holds b bs U) :
    Calls Tryd.prog 53 #[.pointer (some ⟨b, 0, none⟩)] U fun e U' => e = .returned (.string ⟨bs.toArray⟩) ∧ Kept1 b U U' := by
  have hlt : b < U.heap.size := by obtain ⟨c, hc⟩ := h.at_; exact (Array.getElem?_eq_some_iff.1 hc).1
  refine (Tryd.Builder_String_any_k b b bs U h (by omega)).mono ?_
  rintro e U' ⟨rfl, h1, h2, h3⟩
  exact ⟨rfl, Kept1.write h h2 h3⟩
theorem itoa_small {n : Int} (h : 0 ≤ n ∧ n < 100) (w : World) : Calls Tryd.prog 51 #[.int .i64 n] w fun e w' => e = .returned (.string ⟨(dig2 n.toNat).toArray⟩) ∧ w = w' := by
  obtain ⟨m, rfl⟩ := Int.eq_ofNat_of_zero_le h.1
  have hm : m < 100 := by omega
  have c := Tryd.strconv_Itoa_small m hm w
  rw [decDigits_small hm] at c
  exact c.mono fun e w' ⟨h1, h2⟩ => ⟨h1, h2.symm⟩
/-- Dots. -/
theorem dots (c : Nat) (h : c ≤ 1000) (w : World) : Calls Tryd.prog 50 #[.string ⟨#[46]⟩, .int .i64 c] w fun e w' => e = .returned (.string ⟨(List.replicate c 46).toArray⟩) ∧ Below w.heap.size w w' := by
  have e : Lib.repeatL (⟨#[46]⟩ : ByteArray).data.toList c = List.replicate c 46 := by
    clear h
    induction c with
    | zero => rfl
    | succ c ih => simp only [Lib.repeatL] at ih ⊢; rw [ih]; rfl
  have hc := Tryd.strings_Repeat ⟨#[46]⟩ c w (by omega) (by have e1 : (⟨#[46]⟩ : ByteArray).size = 1 := rfl; rw [e1]; omega)
  rw [e] at hc
  exact hc
set_option maxRecDepth 100000 in
set_option maxHeartbeats 4000000 in
theorem treeText_no (A0 : Option Addr) (c0 : Nat) (l0 : List S29) (w : World) (hr0 : Kd.C k29 w A0 l0.length l0) (hc0 : l0.length ≤ c0) (ht : TabOk w) (hv : tok l0 [] 0 (-1) = false) :
    Calls Tryd.prog 24 #[.slice A0 l0.length c0] w fun e w' => e = .returned (.string ⟨#[]⟩) ∧ Below w.heap.size w w' := by
  have HR0 := Aside0.mk hr0
  have HT := Aside0.mk ht
  have HC := Aside0.mk hc0
  have HV := Aside0.mk hv
  clear hr0 ht hc0 hv
  go_enter Tryd.func24, Tryd.ntmps24
  go_wp2_with (go_at_call 36; refine (plant_no A0 c0 l0 _ HR0.out HC.out HT.out HV.out).mono ?_; rintro e w1 ⟨rfl, hb⟩; have HB := Aside0.mk hb; clear hb)
  go_ret
  exact ⟨rfl, HB.out⟩
set_option maxRecDepth 100000 in
set_option maxHeartbeats 4000000 in
theorem treeText_yes (A0 : Option Addr) (c0 : Nat) (l0 : List S29) (w : World) (hr0 : Kd.C k29 w A0 l0.length l0) (hc0 : l0.length ≤ c0) (ht : TabOk w) (hv : tok l0 [] 0 (-1) = true) :
    Calls Tryd.prog 24 #[.slice A0 l0.length c0] w fun e w' => e = .returned (.string ⟨(treeTxt l0).toArray⟩) ∧ Below w.heap.size w w' := by
  have HR0 := Aside0.mk hr0
  have HT := Aside0.mk ht
  have HC := Aside0.mk hc0
  have HV := Aside0.mk hv
  clear hr0 ht hc0 hv
  refine (callsIn_wide (n := 3)).1 ?_
  refine callsIn_of_wp_marks Tryd.func24 rfl trivial ?_ rfl
  simp only [Tryd.ntmps24, List.size_toArray, List.length_cons, List.length_nil, Nat.reduceAdd, Nat.reduceSub, Array.replicate_succ, Array.replicate_zero, List.push_toArray, List.append_toArray, List.nil_append, List.cons_append]
  gi_wp2_with (first | (refine ⟨trivial, ?_⟩; gi_at_call 36; refine (callsIn_wide.2 (plant_yes A0 c0 l0 _ HR0.out HC.out HT.out HV.out)).mono ?_; rintro e w1 ⟨fb, lb, nb, rfl, hb, hp⟩; have HB := Aside0.mk hb; have HP := Aside0.mk hp; clear hb hp) | (refine ⟨trivial, ?_⟩; gi_at_call 48; refine (all_in _ _ _).mono ?_; rintro e w3 ⟨rfl, rfl⟩))
  have hP := HP.out
  have hbl := hP.old
  have hN := hP.nodes
  have hF := hP.forest
  have bF : Boxed ((w1.alloc (.cells #[.pointer none, .slice none 0 0] 78)).alloc (.cells #[.pointer (some ⟨fb, 0, none⟩)] 56)) (w1.heap.size + 1) 56 (.pointer (some ⟨fb, 0, none⟩)) := by
    have h := Boxed.new (w1.alloc (.cells #[.pointer none, .slice none 0 0] 78)) 56 (.pointer (some ⟨fb, 0, none⟩))
    rw [World.size_alloc] at h; exact h
  have bB : Below w1.heap.size w1 ((w1.alloc (.cells #[.pointer none, .slice none 0 0] 78)).alloc (.cells #[.pointer (some ⟨fb, 0, none⟩)] 56)) := ((Below.refl _ w1).alloc (Nat.le_refl _) _).alloc (by simp) _
  have hH : Holds w1.heap.size [] ((w1.alloc (.cells #[.pointer none, .slice none 0 0] 78)).alloc (.cells #[.pointer (some ⟨fb, 0, none⟩)] 56)) :=
    Holds.below (W := w1.alloc (.cells #[.pointer none, .slice none 0 0] 78)) (Lib.IsBuilderF.of (Lib.fresh_isBuilder 78 5 w1)) ((Below.refl _ _).alloc (Nat.le_refl _) _)
  refine rangeFunc_all 5 rfl (by omega) (gf := 72) (lb := #[.pointer (some ⟨w1.heap.size + 1, 0, none⟩)]) rfl trivial (enters_of Tryd.func72 (by kernel_rfl) rfl)
    (all_all (3 - 1) w1.heap.size (w1.heap.size + 1) w1.heap.size fb lb nb l0 HV.out _ (by omega) (by simp; omega) (by simp; omega) hbl.1 bF ((bB.block fb hbl.1).trans hF) (hN.below bB)) KB.trans (fun U q o o' hl h h1 h2 => kb_turn (w := (w1.alloc (.cells #[.pointer none, .slice none 0 0] 78)).alloc (.cells #[.pointer (some ⟨fb, 0, none⟩)] 56)) (by simp; omega) U q o o' hl h h1 h2) (fun _ => rfl)
    (fun pre U => Holds w1.heap.size (treeTxt (l0.take pre.length)) U ∧ Below w1.heap.size w1 U)
    (CalmFrom.and (holds_calm (by simp; omega) fun pre : List (Pl l0) => treeTxt (l0.take pre.length)) (below_calm (Nat.le_refl _) (by simp; omega)))
    ⟨hH, bB⟩
    (fun x => { tmps := #[.slice A0 l0.length c0, undef, .string ⟨#[]⟩, .pointer (some ⟨fb, 0, none⟩), .bool true, .pointer (some ⟨w1.heap.size, 0, none⟩), .pointer (some ⟨nb x.1, 0, none⟩), .int .i64 (depthAt l0 x.1), .tuple #[.pointer (some ⟨fb, 0, none⟩), .bool true], .slice A0 l0.length c0, .tuple #[.pointer (some ⟨fb, 0, none⟩), .bool true], .pointer (some ⟨fb, 0, none⟩), .bool true, .bool true, .bool false, .pointer (some ⟨fb, 0, none⟩), .func (.func 72) #[] #[.pointer (some ⟨w1.heap.size + 1, 0, none⟩)], .pointer (some ⟨nb x.1, 0, none⟩), .int .i64 (depthAt l0 x.1), undef, undef, undef, undef, undef, undef, undef, undef, undef, undef, undef, undef, undef, undef, undef, undef, undef, undef, undef, undef, undef, undef], defers := [] }) ?assign ?body ?done
  case assign =>
    intro q x U K hK
    dsimp only [plVal]
    gi_wp2
    exact hK
  case body =>
    rintro q pre x U ⟨hh, hB⟩ hx
    have hlen : pre.length = x.1 := by have h := congrArg List.length hx; simpa using h
    rw [hlen] at hh
    have hv := HV.out
    have hrow := valid_row hv x.2
    have hbd := rowB_bounds hrow
    have htx := rowB_text hrow
    have hacc := treeTxt_len hv x.1 (Nat.le_of_lt x.2)
    have hfew := fewRows hv x.2
    have hNU := hN.below hB
    obtain ⟨dn, hdn⟩ := Int.eq_ofNat_of_zero_le hbd.2.1
    have hd18 : dn ≤ 18 := by have := hbd.2.2; omega
    obtain ⟨id, hid⟩ : ∃ id, id = idAt l0 x.1 := ⟨_, rfl⟩
    obtain ⟨tx, htx'⟩ : ∃ tx, tx = textAt l0 x.1 := ⟨_, rfl⟩
    obtain ⟨acc, hac⟩ : ∃ acc, acc = treeTxt (l0.take x.1) := ⟨_, rfl⟩
    have hid2 : 0 ≤ id ∧ id < 100 := by rw [hid]; exact ⟨hbd.1.1, by have := hbd.1.2; omega⟩
    have hts : tx.size ≤ 4 := by rw [htx']; exact htx
    have hal : acc.length ≤ 26 * 37 := by rw [hac]; omega
    have c0' : U.cell? ⟨nb x.1, 0, none⟩ = some (.int .i64 id) := (blk_cell (hNU.node x.1 x.2) 0).trans (by rw [hid]; rfl)
    have c1' : U.cell? ⟨nb x.1, 1, none⟩ = some (.string tx) := (blk_cell (hNU.node x.1 x.2) 1).trans (by rw [htx']; rfl)
    have hlow := hNU.low x.1 x.2
    have hline : acc ++ List.replicate dn 46 ++ dig2 id.toNat ++ (if tx.data.toList = [] then [] else 32 :: tx.data.toList) ++ [10] = treeTxt (l0.take (pre ++ [x]).length) := by
      rw [List.length_append, hlen]
      show _ = treeTxt (l0.take (x.1 + 1))
      rw [treeTxt_take l0 x.2, hac, hid, htx', rowTxt, hdn]
      simp only [List.append_assoc, Int.toNat_natCast]
    rw [← hac] at hh
    rw [hdn]
    have HH := Aside0.mk hh
    have HBU := Aside0.mk hB
    have HLW := Aside0.mk hlow
    have HLN := Aside0.mk hline
    have HD := Aside0.mk hd18
    have HI := Aside0.mk hid2
    have HTS := Aside0.mk hts
    have HAL := Aside0.mk hal
    have HC0 := Aside0.mk c0'
    have HC1 := Aside0.mk c1'
    clear hh hB hlow hline hd18 hid2 hts hal hrow hbd htx hacc hfew hNU hdn hid htx' hac hlen hx hv c0' c1' hP hbl hN hF bF bB hH
    by_cases hte : tx.data.toList = []
    · have e1 : tx.toList.isEmpty = true := by rw [Lib.toList_data, hte]; rfl
      have e2 : (!tx.toList.isEmpty) = false := by rw [e1]; rfl
      have e3 : tx.toList = [] := by rw [Lib.toList_data, hte]
      have HLN2 : Aside0 (acc ++ List.replicate dn 46 ++ dig2 id.toNat ++ [10] = treeTxt (l0.take (pre ++ [x]).length)) := ⟨by rw [← HLN.out, if_pos hte, List.append_nil]⟩
      clear hte HLN
      gi_wp2_with (first | (refine ⟨trivial, ?_⟩; gi_at_call 50; refine (CallsIn.inRound q (callsIn_wide.2 (dots dn (by have := HD.out; omega) _))).mono ?_; rintro e U1 ⟨rfl, hb1⟩; have HH1 := Aside0.mk (HH.out.below hb1); have K1 := Aside0.mk (Kept1.below HBU.out.size hb1); clear hb1) | (refine ⟨trivial, ?_⟩; gi_at_call 49; refine (CallsIn.inRound q (callsIn_wide.2 (write_text HH1.out _ (by have := HD.out; have := HAL.out; simp [ByteArray.size]; omega)))).mono ?_; rintro e U2 ⟨rfl, h2, k2⟩; have HH2 : Aside0 (Holds w1.heap.size (acc ++ List.replicate dn 46) U2) := ⟨h2⟩; have K2 := Aside0.mk (K1.out.trans k2); have c0 : U2.cell? ⟨nb x.1, 0, none⟩ = some (.int .i64 id) := (K2.out.1.1.cell (p := ⟨nb x.1, _, none⟩) HLW.out).trans HC0.out; have c1 : U2.cell? ⟨nb x.1, 1, none⟩ = some (.string tx) := (K2.out.1.1.cell (p := ⟨nb x.1, _, none⟩) HLW.out).trans HC1.out; clear h2 k2 HH1) | (refine ⟨trivial, ?_⟩; gi_at_call 51; refine (CallsIn.inRound q (callsIn_wide.2 (itoa_small HI.out _))).mono ?_; rintro e U3 ⟨rfl, rfl⟩) | (refine ⟨trivial, ?_⟩; gi_at_call 49; refine (CallsIn.inRound q (callsIn_wide.2 (write_text HH2.out _ (by have := HD.out; have := HAL.out; have := dig2_len id.toNat; simp [ByteArray.size]; omega)))).mono ?_; rintro e U4 ⟨rfl, h4, k4⟩; have HH4 : Aside0 (Holds w1.heap.size (acc ++ List.replicate dn 46 ++ dig2 id.toNat) U4) := ⟨h4⟩; have K4 := Aside0.mk (K2.out.trans k4); clear c0 c1; have c0 : U4.cell? ⟨nb x.1, 0, none⟩ = some (.int .i64 id) := (K4.out.1.1.cell (p := ⟨nb x.1, _, none⟩) HLW.out).trans HC0.out; have c1 : U4.cell? ⟨nb x.1, 1, none⟩ = some (.string tx) := (K4.out.1.1.cell (p := ⟨nb x.1, _, none⟩) HLW.out).trans HC1.out; clear h4 k4 HH2) | (refine ⟨trivial, ?_⟩; gi_at_call 52; refine (CallsIn.inRound q (callsIn_wide.2 (write_end HH4.out (by have := HD.out; have := HAL.out; have := HTS.out; have := dig2_len id.toNat; simp; omega)))).mono ?_; rintro e U6 ⟨rfl, h6, k6⟩; have HH6 := Aside0.mk h6; have K6 := Aside0.mk (K4.out.trans k6); clear h6 k6))
      exact ⟨K6.out.2, K6.out.1, by have h := HH6.out; rw [HLN2.out] at h; exact h, HBU.out.trans K6.out.1.1⟩
    · have e1 : tx.toList.isEmpty = false := by rw [Lib.toList_data]; simpa using hte
      have e2 : (!tx.toList.isEmpty) = true := by rw [e1]; rfl
      have e3 : ¬ tx.toList = [] := by rw [Lib.toList_data]; exact hte
      have ad1 : ∀ w, (Op.stringOp .add ⟨#[32]⟩ tx).run Tryd.prog w = .ok (.string (⟨#[32]⟩ ++ tx)) w := fun w => run_string_add_sum w _ _ (by have := HTS.out; rw [show (⟨#[32]⟩ : ByteArray).size = 1 from rfl]; omega)
      have HLN2 : Aside0 (acc ++ List.replicate dn 46 ++ dig2 id.toNat ++ (32 :: tx.data.toList) ++ [10] = treeTxt (l0.take (pre ++ [x]).length)) := ⟨by rw [← HLN.out, if_neg hte]⟩
      clear hte HLN
      gi_wp2_with (first | (refine ⟨trivial, ?_⟩; gi_at_call 50; refine (CallsIn.inRound q (callsIn_wide.2 (dots dn (by have := HD.out; omega) _))).mono ?_; rintro e U1 ⟨rfl, hb1⟩; have HH1 := Aside0.mk (HH.out.below hb1); have K1 := Aside0.mk (Kept1.below HBU.out.size hb1); clear hb1) | (refine ⟨trivial, ?_⟩; gi_at_call 49; refine (CallsIn.inRound q (callsIn_wide.2 (write_text HH1.out _ (by have := HD.out; have := HAL.out; simp [ByteArray.size]; omega)))).mono ?_; rintro e U2 ⟨rfl, h2, k2⟩; have HH2 : Aside0 (Holds w1.heap.size (acc ++ List.replicate dn 46) U2) := ⟨h2⟩; have K2 := Aside0.mk (K1.out.trans k2); have c0 : U2.cell? ⟨nb x.1, 0, none⟩ = some (.int .i64 id) := (K2.out.1.1.cell (p := ⟨nb x.1, _, none⟩) HLW.out).trans HC0.out; have c1 : U2.cell? ⟨nb x.1, 1, none⟩ = some (.string tx) := (K2.out.1.1.cell (p := ⟨nb x.1, _, none⟩) HLW.out).trans HC1.out; clear h2 k2 HH1) | (refine ⟨trivial, ?_⟩; gi_at_call 51; refine (CallsIn.inRound q (callsIn_wide.2 (itoa_small HI.out _))).mono ?_; rintro e U3 ⟨rfl, rfl⟩) | (refine ⟨trivial, ?_⟩; gi_at_call 49; refine (CallsIn.inRound q (callsIn_wide.2 (write_text HH2.out _ (by have := HD.out; have := HAL.out; have := dig2_len id.toNat; simp [ByteArray.size]; omega)))).mono ?_; rintro e U4 ⟨rfl, h4, k4⟩; have HH4 : Aside0 (Holds w1.heap.size (acc ++ List.replicate dn 46 ++ dig2 id.toNat) U4) := ⟨h4⟩; have K4 := Aside0.mk (K2.out.trans k4); clear c0 c1; have c0 : U4.cell? ⟨nb x.1, 0, none⟩ = some (.int .i64 id) := (K4.out.1.1.cell (p := ⟨nb x.1, _, none⟩) HLW.out).trans HC0.out; have c1 : U4.cell? ⟨nb x.1, 1, none⟩ = some (.string tx) := (K4.out.1.1.cell (p := ⟨nb x.1, _, none⟩) HLW.out).trans HC1.out; clear h4 k4 HH2) | (refine ⟨trivial, ?_⟩; gi_at_call 49; refine (CallsIn.inRound q (callsIn_wide.2 (write_text HH4.out _ (by have := HD.out; have := HAL.out; have := HTS.out; have := dig2_len id.toNat; rw [ByteArray.size_append, show (⟨#[32]⟩ : ByteArray).size = 1 from rfl]; simp; omega)))).mono ?_; rintro e U5 ⟨rfl, h5, k5⟩; have HH5 : Aside0 (Holds w1.heap.size (acc ++ List.replicate dn 46 ++ dig2 id.toNat ++ (32 :: tx.data.toList)) U5) := ⟨by simpa [ByteArray.data_append] using h5⟩; have K5 := Aside0.mk (K4.out.trans k5); clear h5 k5 HH4 c0 c1) | (refine ⟨trivial, ?_⟩; gi_at_call 52; refine (CallsIn.inRound q (callsIn_wide.2 (write_end HH5.out (by have := HD.out; have := HAL.out; have := HTS.out; have := dig2_len id.toNat; simp; omega)))).mono ?_; rintro e U6 ⟨rfl, h6, k6⟩; have HH6 := Aside0.mk h6; have K6 := Aside0.mk (K5.out.trans k6); clear h6 k6))
      exact ⟨K6.out.2, K6.out.1, by have h := HH6.out; rw [HLN2.out] at h; exact h, HBU.out.trans K6.out.1.1⟩
  case done =>
    rintro Dd ys U hDl hys ⟨hh, hB⟩ hK
    have hl : ys.length = l0.length := by have h := congrArg List.length hys; simpa using h
    rw [hl, List.take_length] at hh
    have HH := Aside0.mk hh
    have HBU := Aside0.mk hB
    clear hh hB hl hys hP hbl hN hF bF bB hH
    gi_wp2_with ((refine ⟨trivial, ?_⟩; gi_at_call 53; refine (callsIn_wide.2 (text_out HH.out)).mono ?_; rintro e U2 ⟨rfl, hk2⟩))
    have hK2 := hk2.2.same Dd _ hK rfl
    refine ⟨by simp, .inl ⟨_, _, rfl, run_takeDeferred hK2, ?_⟩⟩
    exact ⟨_, results_tmp rfl _ _ _, rfl, ((HB.out.trans ((HBU.out.trans hk2.1.1).mono HB.out.size))).trans (belowK_b (w := w) (Nat.le_refl _) U2 Dd _ _ (by have := HB.out.size; simp at hDl; omega) hK2 rfl rfl)⟩
/-- The text of an outline. -/
theorem treeText_calls (A0 : Option Addr) (c0 : Nat) (l0 : List S29) (w : World) (hr0 : Kd.C k29 w A0 l0.length l0) (hc0 : l0.length ≤ c0) (ht : TabOk w) :
    Calls Tryd.prog 24 #[.slice A0 l0.length c0] w fun e w' => e = .returned (.string (treeText l0)) ∧ Below w.heap.size w w' := by
  unfold treeText
  cases hv : tok l0 [] 0 (-1) with
  | false => rw [if_neg (by decide)]; exact treeText_no A0 c0 l0 w hr0 hc0 ht hv
  | true => rw [if_pos rfl]; exact treeText_yes A0 c0 l0 w hr0 hc0 ht hv
end Go.Proofs.YtdapbpgooehibaaDoor
