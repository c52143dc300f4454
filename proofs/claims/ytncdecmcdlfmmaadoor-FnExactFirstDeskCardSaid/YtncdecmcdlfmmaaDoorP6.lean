import Derived.Test.YtncdecmcdlfmmaaDoorP5
import Derived.Shelf.Strings.Runes
import Derived.Laws.Runes
import Derived.Deep.LoopGhost
import Derived.Lib.FieldsP
import Derived.Lib.OthersKept
import Derived.WalkMore
import Derived.Deep.RegionHeld3
section
/- strings.ContainsRune at an ASCII text, at every rune: off the shelf below 128; above, strings.IndexRune is walked: no byte of the text is the last byte of the rune. -/
--! fn strings.ContainsRune|strings_ContainsRune|making
--! uses
--! lay crLay := shelf_lay Lays.n151 Nm 151 at Tryd
--! lay ibLay := shelf_lay Lays.n137 Nm 137 at Tryd
--! laymod Derived.Shelf.Strings.Runes Derived.Ground.NamesProg
namespace Go.Proofs.YtncdecmcdlfmmaaDoor.X
open Go.Proofs.YtncdecmcdlfmmaaDoor.Sq Go.RowKit Go.Proofs.YtncdecmcdlfmmaaDoorW.PrintWords Go.Proofs.YtncdecmcdlfmmaaDoorW.PrintLast Go.Proofs.YtncdecmcdlfmmaaDoorW.PrintMore
attribute [local go_sem] max2_int min2_int max_two min_two max_three min_three max_four min_four   -- for this text's walks alone
set_option linter.unusedVariables false
set_option linter.unusedSimpArgs false
def ascB (s : ByteArray) : Bool := s.data.toList.all (fun b => decide (b.toNat < 128))
theorem ascB_mem {s : ByteArray} (h : ascB s = true) : ∀ b ∈ s.data.toList, b.toNat < 128 := fun b hb => by
  unfold ascB at h
  rw [List.all_eq_true] at h
  exact of_decide_eq_true (h b hb)
/-- Is a rune one of a text's bytes? -/
def inSigns (s : ByteArray) (x : Nat) : Bool := decide (x < 128) && decide (0 ≤ Lib.indexByte s.data.toList x.toUInt8)
def strings_ContainsRune.f (a0 : ByteArray) (a1 : Int) : Option Bool := if a0.size ≤ 1000 ∧ ascB a0 = true ∧ 0 ≤ a1 ∧ a1 ≤ 1114111 then some (inSigns a0 a1.toNat) else none
theorem ir_decode (s : ByteArray) (hs : ∀ b ∈ s.data.toList, b.toNat < 128) (pos : Nat) (h : pos < s.size) : (Utf8.decode s pos).1 < 128 := by
  have hb : (s.get! (pos + 0)).toNat < 128 := by
    refine hs _ ?_
    rw [Nat.add_zero]
    have : s.get! pos = s[pos] := by
      show s.data[pos]! = _
      rw [getElem!_pos s.data pos h]
      rfl
    rw [this]
    exact Array.getElem_mem_toList (xs := s.data) h
  unfold Utf8.decode
  simp only [hb, if_true]
theorem ir_index : ∀ (l : List UInt8) (c : UInt8), (∀ b ∈ l, b ≠ c) → Lib.indexByte l c = -1
 | [], _, _ => rfl
 | b :: l, c, h => by
  unfold Lib.indexByte
  rw [ir_index l c (fun x hx => h x (List.mem_cons_of_mem _ hx))]
  have hb : (b == c) = false := beq_false_of_ne (h b (List.mem_cons_self ..))
  rw [hb]
  rfl
set_option maxHeartbeats 8000000 in
set_option maxRecDepth 1000000 in
theorem ir_error (s : ByteArray) (hs : ∀ b ∈ s.data.toList, b.toNat < 128) (w : World) :
    Calls Tryd.prog 78 #[.string s, .int .i32 65533] w fun e w' => e = .returned (.int .i64 (-1)) ∧ Below w.heap.size w w' := by
  go_enter Tryd.func78, Tryd.ntmps78
  go_wp2
  go_loopg [] s.size (fun gf wx => ∃ pos : Nat, wx.heap[w.heap.size]? = some (.stringIter s pos) ∧ Below w.heap.size w wx ∧ s.size ≤ pos + gf)
  case atStart => exact ⟨0, World.iter_heap w s 0, (Below.refl _ w).alloc (Nat.le_refl _) _, by omega⟩
  case round =>
    obtain ⟨pos, hit, hbw, hfu⟩ := hrel
    by_cases hps : pos < s.size
    · obtain ⟨g', rfl⟩ : ∃ g', gk = g' + 1 := ⟨gk - 1, by omega⟩
      have hnx : ∀ ty, (Instr.next (.pointer (some ⟨w.heap.size, 0, none⟩)) true ty).run Tryd.prog wr = _ := fun ty => Lib.run_next_any_at wr w.heap.size s pos ty hit hps
      have hwd := Lib.width_pos s pos
      have hlo := ir_decode s hs pos hps
      obtain ⟨R, hR⟩ : ∃ R, (Utf8.decode s pos).1 = R := ⟨_, rfl⟩
      obtain ⟨K, hK⟩ : ∃ K, (Utf8.decode s pos).2 = K := ⟨_, rfl⟩
      rw [hR, hK] at hnx
      rw [hK] at hwd
      rw [hR] at hlo
      have hit2 := Lib.iterAt_heap wr w.heap.size s pos (pos + K) hit
      have hbw2 := Lib.below_iterAt hbw (k := w.heap.size) (Nat.le_refl _) s (pos + K)
      obtain ⟨W, hWd⟩ : ∃ W, wr.iterAt w.heap.size s (pos + K) = W := ⟨_, rfl⟩
      rw [hWd] at hnx hit2 hbw2
      have hne : ¬ ((R : Int) = 65533) := by omega
      go_wp2
      go_roundg g'
      case measure => omega
      case rel => exact ⟨pos + K, hit2, hbw2, by omega⟩
    · have hnx : ∀ ty, (Instr.next (.pointer (some ⟨w.heap.size, 0, none⟩)) true ty).run Tryd.prog wr = _ := fun ty => Lib.run_next_end_at wr w.heap.size s pos ty hit hps
      go_wp2
      go_ret
      exact ⟨rfl, hbw⟩
set_option maxHeartbeats 8000000 in
set_option maxRecDepth 1000000 in
theorem ir_bad (s : ByteArray) (r : Int) (h0 : 55296 ≤ r) (h1 : r ≤ 57343) (w : World) :
    Calls Tryd.prog 78 #[.string s, .int .i32 r] w fun e w' => e = .returned (.int .i64 (-1)) ∧ Below w.heap.size w w' := by
  have c1 : 0 ≤ r := by omega
  have c2 : ¬ r < 128 := by omega
  have c3 : ¬ r = 65533 := by omega
  have c4 : ¬ r < 55296 := by omega
  have c5 : ¬ 57343 < r := by omega
  go_enter Tryd.func78, Tryd.ntmps78
  go_wp2
  go_ret
  exact ⟨rfl, Below.refl _ _⟩
theorem ir_valid (r : Int) (h0 : 0 ≤ r) (h1 : r ≤ 1114111) (hv : r < 55296 ∨ 57343 < r) (w : World) : Calls Tryd.prog 98 #[.int .i32 r] w fun e w' => e = .returned (.bool true) ∧ w' = w := by
  rcases hv with hv | hv
  · go_enter Tryd.func98, Tryd.ntmps98
    go_wp2
    go_ret
    exact ⟨rfl, rfl⟩
  · have hv2 : ¬ r < 55296 := by omega
    go_enter Tryd.func98, Tryd.ntmps98
    go_wp2
    go_ret
    exact ⟨rfl, rfl⟩
set_option maxHeartbeats 8000000 in
set_option maxRecDepth 1000000 in
theorem ir_high (s : ByteArray) (hs : ∀ b ∈ s.data.toList, b.toNat < 128) (hl : s.size ≤ 1000) (r : Int) (h0 : 128 ≤ r) (h1 : r ≤ 1114111) (h2 : ¬ r = 65533) (hv : r < 55296 ∨ 57343 < r) (w : World) :
    Calls Tryd.prog 78 #[.string s, .int .i32 r] w fun e w' => e = .returned (.int .i64 (-1)) ∧ Below w.heap.size w w' := by
  have c1 : 0 ≤ r := by omega
  have c2 : ¬ r < 128 := by omega
  have hvv : Utf8.valid r = true := by
    rw [validRune_eq]
    unfold validRune
    exact decide_eq_true (by omega)
  have hvr := ir_valid r c1 h1 hv w
  obtain ⟨e2, e4, e8⟩ := encode_facts r hvv h0
  have hcv : ∀ W, (convert 21 9 (.int .i32 r)).run Tryd.prog W = .ok (.string (Utf8.encode r)) W := fun W => run_convert_int_string W _ _ _ _ (by kernel_rfl) Tryd.underlying9
  generalize Utf8.encode r = rs at hcv e2 e4 e8
  obtain ⟨la, hla⟩ : ∃ la, rs.size = la + 1 := ⟨rs.size - 1, by omega⟩
  clear hv hvv
  go_enter Tryd.func78, Tryd.ntmps78
  go_wp2_with (first | (go_at_call 98; refine hvr.mono ?_; rintro e w' ⟨rfl, hw⟩; rw [hw]; clear hw) | fail)
  go_step3
  go_wp2
  go_loopg [9, 10] 1 (fun gf s9 s10 wx => s9 = .int .i64 (la : Int) ∧ s10 = .int .i64 0 ∧ wx = w)
  case atStart => exact ⟨rfl, rfl, rfl⟩
  case round =>
    obtain ⟨rfl, rfl, rfl⟩ := hrel
    by_cases hq : la < s.size
    · have hq1 : (la : Int) < (s.size : Int) := by omega
      have hq2 : (0 : Int) ≤ (la : Int) := by omega
      have hq3 : (la : Int) < (rs.size : Int) := by omega
      have hx1 : ∀ W, (Instr.index 9 (.string s) (.int .i64 (la : Int))).run Tryd.prog W = .ok (.int .u8 (s[la].toNat : Int)) W := fun W => by
        rw [run_index_string (h := Tryd.underlying9), dif_pos ⟨hq2, hq1⟩]
        rfl
      have hx2 : ∀ W, (Instr.index 9 (.string rs) (.int .i64 (la : Int))).run Tryd.prog W = .ok (.int .u8 (rs[la].toNat : Int)) W := fun W => by
        rw [run_index_string (h := Tryd.underlying9), dif_pos ⟨hq2, hq3⟩]
        rfl
      have hb1 : (s[la]).toNat < 128 := hs _ (Array.getElem_mem_toList (xs := s.data) hq)
      have hb2 : 128 ≤ (rs[la]'(by omega)).toNat := by
        have := e8 (by omega)
        simpa only [hla, Nat.add_sub_cancel] using this
      have hsl : ∀ W, (Instr.slice 9 (.string s) (some (.int .i64 ((la : Int) + 1))) none none).run Tryd.prog W = .ok (.string (s.extract (la + 1) s.size)) W := fun W => by
        rw [run_slice_string_from_if (h := Tryd.underlying9), if_pos (by omega)]
        congr 2
      have hIB : ∀ W, Calls Tryd.prog 97 #[.string (s.extract (la + 1) s.size), .int .u8 (((rs[la]'(by omega)).toNat : Int))] W fun e w' => e = .returned (.int .i64 (-1)) ∧ w' = W := fun W => by
        have h1 := Any.strings_IndexByte ibLay (s.extract (la + 1) s.size) ((rs[la]'(by omega)).toNat : Int) W
        have h2 : Lib.indexByte (s.extract (la + 1) s.size).data.toList (((rs[la]'(by omega)).toNat : Int)).toNat.toUInt8 = -1 := by
          refine ir_index _ _ (fun b hb => ?_)
          intro e
          have h1 := hs b (mem_extract hb)
          rw [e, Int.toNat_natCast] at h1
          simp at h1
          omega
        rw [h2] at h1
        exact h1
      have hcmp : (((s[la]).toNat : Int) != ((rs[la]'(by omega)).toNat : Int)) = true := by
        simp only [bne_iff_ne, ne_eq]
        omega
      have hwr : IntKind.i64.wrap ((la : Int) + 1) = (la : Int) + 1 := by
        rw [i64_w]; unfold wrap64; omega
      generalize (((s[la]).toNat : Int)) = x1 at hx1 hcmp
      generalize (((rs[la]'(by omega)).toNat : Int)) = x2 at hx2 hcmp hIB
      clear e8 hvr
      go_wp2_with fail
      go_step3
      go_wp2_with fail
      go_region
      all_goals go_wp2_with fail
      go_region_held3 (fun w' => Below wr.heap.size wr w') (first | go_keep | exact below_drew (below_drew (Below.refl _ _)) | exact below_drew (Below.refl _ _) | exact Below.refl _ _ | assumption) (first | (go_at_call 97; refine (hIB _).mono ?_; rintro e w' ⟨rfl, rfl⟩) | fail)
      go_wp2
      rw [Exit.noGoto_ret]
      go_wp2
      rw [Exit.noGoto_ret]
      go_wp2
      go_ret
      exact ⟨rfl, by first | exact below_drew (below_drew (Below.refl _ _)) | assumption⟩
    · have hq1 : ¬ (la : Int) < (s.size : Int) := by omega
      go_wp2
      go_ret
      exact ⟨rfl, Below.refl _ _⟩
theorem strings_ContainsRune.calls (a0 : ByteArray) (a1 : Int) (r : Bool) (w : World) (h : strings_ContainsRune.f a0 a1 = some r) :
  Calls Tryd.prog 67 #[.string a0, .int .i32 a1] w fun e w' => e = .returned (.bool r) ∧ Below w.heap.size w w' := by
  unfold strings_ContainsRune.f at h
  split at h
  rotate_left
  · cases h
  rename_i hc
  obtain ⟨h1, h2, h3, h4⟩ := hc
  obtain rfl := Option.some.inj h
  have hs := ascB_mem h2
  unfold inSigns
  by_cases hq : a1 < 128
  · rw [decide_eq_true (show a1.toNat < 128 by omega), Bool.true_and]
    refine (Any.strings_ContainsRune_ascii crLay a0 a1 w h3 hq).mono ?_
    rintro e w' ⟨rfl, rfl⟩
    exact ⟨rfl, Below.refl _ _⟩
  · rw [decide_eq_false (show ¬ a1.toNat < 128 by omega), Bool.false_and]
    have hI : Calls Tryd.prog 78 #[.string a0, .int .i32 a1] w fun e w' => e = .returned (.int .i64 (-1)) ∧ Below w.heap.size w w' := by
      by_cases c1 : a1 = 65533
      · subst c1
        exact ir_error a0 hs w
      · by_cases c2 : 55296 ≤ a1 ∧ a1 ≤ 57343
        · exact ir_bad a0 a1 c2.1 c2.2 w
        · exact ir_high a0 hs h1 a1 (by omega) h4 c1 (by omega) w
    go_enter Tryd.func67, Tryd.ntmps67
    go_wp2_with (first | (go_at_call 78; refine hI.mono ?_; rintro e w' ⟨rfl, hb⟩) | fail)
    go_ret
    exact ⟨rfl, hb⟩
end Go.Proofs.YtncdecmcdlfmmaaDoor.X
end
