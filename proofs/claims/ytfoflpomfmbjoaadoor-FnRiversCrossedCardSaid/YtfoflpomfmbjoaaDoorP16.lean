import Derived.Test.YtfoflpomfmbjoaaDoorP4
import Derived.Test.YtfoflpomfmbjoaaDoorP8
section
namespace Go.Proofs.YtfoflpomfmbjoaaDoor.X
open Go.Proofs.YtfoflpomfmbjoaaDoor.Sq Go.RowKit Go.Proofs.YtfoflpomfmbjoaaDoorW.PrintWords Go.Proofs.YtfoflpomfmbjoaaDoorW.PrintLast Go.Proofs.YtfoflpomfmbjoaaDoorW.PrintMore
attribute [local go_sem] max2_int min2_int max_two min_two max_three min_three max_four min_four   -- for this text's walks alone
set_option linter.unusedVariables false
set_option linter.unusedSimpArgs false
def impl_StonesOf.f (k : Nat) (l0 : ByteArray) : Option (List Int × Bool) := (impl_IsRiver.f l0).bind fun t => if t = true then ((impl_stand.f k l0).bind fun L => if 2 ≤ L.length ∧ L.length ≤ 1000 then some ((L.take (L.length - 1)).drop 1, true) else none) else some ([], false)
set_option maxHeartbeats 4000000 in
set_option maxRecDepth 100000 in
theorem impl_StonesOf.calls (k : Nat) (a0 : ByteArray) (r1 : List Int) (r2 : Bool) (w : World) (h : impl_StonesOf.f k a0 = some (r1, r2)) :
  Calls Tryd.prog 47 #[.string a0] w fun e w' => ∃ v0_ : Value, e = .returned (.tuple #[v0_, .bool r2]) ∧ Kd.V (Kd.int .i64) 3 w' w.heap.size (fun k_ => (w.heap.size ≤ k_)) v0_ r1 ∧ Below w.heap.size w w' := by
  unfold impl_StonesOf.f at h; obtain ⟨t, ht, h⟩ := Option.bind_eq_some_iff.1 h; have HT := am ht
  cases t with
  | false =>
    rw [if_neg (by simp)] at h; obtain ⟨rfl, rfl⟩ := Prod.mk.inj (Option.some.inj h); clear h ht; go_enter Tryd.func47, Tryd.ntmps47; go_wp2_with (go_at_call 35; refine (impl_IsRiver.calls a0 false _ HT.out).mono ?_; rintro e w2 ⟨rfl, hb⟩); exact ⟨rfl, .tuple #[.slice none 0 0, .bool false], by first | rfl | (unfold results; rfl) | (simp [results, Tryd.f47]; done), _, rfl, Kd.V_nil _ _ _ _ _, hb⟩
  | true =>
    rw [if_pos rfl] at h; obtain ⟨L, hL, h⟩ := Option.bind_eq_some_iff.1 h; by_cases hq : 2 ≤ L.length ∧ L.length ≤ 1000; rotate_left
    · rw [if_neg hq] at h
      cases h
    rw [if_pos hq] at h; obtain ⟨q1, q2⟩ := hq; obtain ⟨rfl, rfl⟩ := Prod.mk.inj (Option.some.inj h); have HL := am hL; clear h ht hL; obtain ⟨i0, hi0, hz0, hsz0, hby0⟩ := info_parts info3; have HJ : IntKind.i64.wrap ((L.length : Int) - 1) = ((L.length - 1 : Nat) : Int) := (i64_w _).trans (by unfold wrap64; omega); go_enter Tryd.func47, Tryd.ntmps47; (try go_wp2_with (first | (go_at_call 35; (with_reducible refine (impl_IsRiver.calls a0 true _ HT.out).mono ?_); rintro e w2 ⟨rfl, hb⟩; have HB := am hb; clear hb) | (go_at_call 87; (with_reducible refine (impl_stand.calls k a0 L _ HL.out).mono ?_); rintro e w3 ⟨v, rfl, ho, hb2⟩; have HB2 := am hb2; have HO := am ho; clear hb2 ho; obtain ⟨A, c, hv⟩ := Kd.R_slice HO.out; subst hv; have hcl := (Kd.R_reads' HO.out).2.1; have hsl := cut_mid (P := Tryd.prog) 26 3 .i64 .i64 Tryd.underlying26 hi0 1 hsz0 A L.length c 1 ((L.length - 1 : Nat) : Int) (by omega) (by omega) (by omega) hcl) | fail)); have hV : Kd.R (Kd.int .i64) 3 w3 w2.heap.size (fun k_ => w.heap.size ≤ k_) (.slice A L.length c) L := Kd.R_of_own (Kd.own_of_R HO.out) (fun k_ hk_ => Nat.le_trans (below_size HB.out) (Kd.R_base HO.out k_ hk_)); have hF := Kd.F_mid (lo := 1) (hi := L.length - 1) (Kd.R_F hV) (by omega) (by omega) hcl; rw [if_neg (by omega)] at hF; (have hlen : ((L.take (L.length - 1)).drop 1).length = L.length - 1 - 1 := by simp); rw [hlen] at hF
    have hVV : Kd.V (Kd.int .i64) 3 w3 w.heap.size (fun k_ => w.heap.size ≤ k_) (.slice (Option.map (fun x : Addr => { block := x.block, off := x.off + 1 }) A) (L.length - 1 - 1) (c - 1)) ((L.take (L.length - 1)).drop 1) := by
      refine ⟨Option.map (fun x : Addr => { block := x.block, off := x.off + 1 }) A, c - 1, by rw [hlen], by omega, ?_⟩; rw [hlen]; (have he : Option.map (fun x : Addr => x.add (1 * (Kd.int .i64).sz)) A = Option.map (fun x : Addr => { block := x.block, off := x.off + 1 }) A := by cases A <;> rfl); rw [he] at hF; exact hF
    exact ⟨rfl, .tuple #[.slice (Option.map (fun x : Addr => { block := x.block, off := x.off + 1 }) A) (L.length - 1 - 1) (c - 1), .bool true], by first | rfl | (unfold results; rfl) | (simp [results, Tryd.f47]; done), _, rfl, hVV, below_step HB.out HB2.out⟩
end Go.Proofs.YtfoflpomfmbjoaaDoor.X
end
