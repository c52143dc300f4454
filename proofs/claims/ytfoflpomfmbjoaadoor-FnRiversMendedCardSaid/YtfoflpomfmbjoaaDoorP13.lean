import Derived.Test.YtfoflpomfmbjoaaDoorP4
import Derived.Test.YtfoflpomfmbjoaaDoorP7
import Derived.Lib.ConvBytes
import Derived.Lib.AtoiErrMem
import Derived.Lib.SmallJoins
import Derived.Laws.BytesString
import Derived.Laws.BytesArg
import Derived.Lib.OwnBridge
import Derived.Shelf.SlicesE.Reverse
section
namespace Go.Proofs.YtfoflpomfmbjoaaDoor.X
open Go.Proofs.YtfoflpomfmbjoaaDoor.Sq Go.RowKit Go.Proofs.YtfoflpomfmbjoaaDoorW.PrintWords Go.Proofs.YtfoflpomfmbjoaaDoorW.PrintLast Go.Proofs.YtfoflpomfmbjoaaDoorW.PrintMore
attribute [local go_sem] max2_int min2_int max_two min_two max_three min_three max_four min_four   -- for this text's walks alone
set_option linter.unusedVariables false
set_option linter.unusedSimpArgs false
def mirN (s : ByteArray) : List Int := s.data.toList.map fun b => (b.toNat : Int)
def impl_mirrored.f (a0 : ByteArray) : Option ByteArray := if a0.size ≤ 1000000 then some (strOfNums (mirN a0).reverse) else none
theorem mirN_len (s : ByteArray) : (mirN s).length = s.size := by unfold mirN; rw [List.length_map]; exact Array.length_toList
theorem mir_holds (w : World) (s : ByteArray) : Go.Sort.Holds (Value.int .u8) (Lib.bytesWorld w 5 s) w.heap.size 0 (mirN s).toArray := by
  intro j hj
  have hl := mirN_len s
  have hj' : j < s.data.size := by
    have : j < s.size := by simpa [hl] using hj
    exact this
  have hh := Lib.bytesWorld_at_new w 5 s
  have hjs : j < (mirN s).length := by rw [hl]; exact hj'
  have hv : (mirN s).toArray[j]! = ((s.data[j]'hj').toNat : Int) := by
    rw [getElem!_pos (mirN s).toArray j (by simpa using hjs)]
    unfold mirN
    simp
  refine ⟨?_, ?_⟩
  · rw [Nat.zero_add, cell_of_row _ w.heap.size j _ 5 _ hh, hv]
    unfold Lib.bytesCells
    rw [Array.getElem?_append_left (by simpa using hj')]
    simp [Array.getElem?_eq_getElem hj']
  · rw [Nat.zero_add]
    simp [World.frozen?, hh, Lib.bytesCells]
    omega
set_option maxHeartbeats 4000000 in
set_option maxRecDepth 100000 in
theorem impl_mirrored.calls (a0 : ByteArray) (r : ByteArray) (w : World) (h : impl_mirrored.f a0 = some r) :
  Calls Tryd.prog 70 #[.string a0] w fun e w' => e = .returned (.string r) ∧ Below w.heap.size w w' := by
  unfold impl_mirrored.f at h; by_cases hq : a0.size ≤ 1000000; rotate_left
  · rw [if_neg hq] at h
    cases h
  rw [if_pos hq] at h; obtain rfl := Option.some.inj h; clear h; have hcv := Lib.run_convert_string_bytes (P := Tryd.prog) w 9 22 5 a0 Tryd.underlying9 Tryd.underlying22 Tryd.underlying5; have hbb : Below w.heap.size w (Lib.bytesWorld w 5 a0) := Go.Joins.below_bytesWorld _ w 5 a0 (Nat.le_refl _); have hH := mir_holds w a0; have hl := mirN_len a0; generalize hW : Lib.bytesWorld w 5 a0 = W0 at hcv hbb hH; (have hrev := fun cap => AnyE.slices_Reverse layRevB (Value.int .u8) (fun _ => rfl) w.heap.size 0 cap (mirN a0) W0 hH (by omega)); rw [hl] at hrev; go_enter Tryd.func70, Tryd.ntmps70; go_wp2_with (go_at_call 94; refine (hrev _).mono ?_; rintro e w2 ⟨rfl, q, rfl⟩); (have hsz : (mirN a0).reverse.toArray.size = (mirN a0).toArray.size := by simp); have hH2 := Go.Sort.holds_putRow (Value.int .u8) (Go.Sort.ahead W0 q) w.heap.size 0 (mirN a0).toArray (mirN a0).reverse.toArray (Go.Sort.holds_ahead (Value.int .u8) W0 q w.heap.size 0 _ hH) hsz
  have hcb := run_convert_bytes_arg (P := Tryd.prog) (Go.Sort.putRow (Value.int .u8) (Go.Sort.ahead W0 q) w.heap.size 0 (mirN a0).reverse.toArray) 22 5 Tryd.underlying22 Tryd.underlying5 w.heap.size 0 a0.size (grownCap w a0.size 0 5) (mirN a0).reverse (by rw [List.length_reverse]; exact hl) (fun i hi => by
    have h1 := (hH2 i (by simp [hl]; exact hi)).1; rw [h1, getElem!_pos (mirN a0).reverse.toArray i (by simp [hl]; exact hi)]
    simp [List.getD_eq_getElem?_getD, hl, hi]) 9 Tryd.underlying9
  rw [hcb]; go_simp; go_wp2; exact ⟨rfl, .string (strOfNums (mirN a0).reverse), by first | rfl | (unfold results; rfl) | (simp [results, Tryd.f70]; done), rfl, Lib.below_putRow hbb (Nat.le_refl _)⟩
end Go.Proofs.YtfoflpomfmbjoaaDoor.X
end
