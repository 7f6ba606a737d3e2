/- BagNames: the walk of the law. -/
import Derived.Test.YtmfbkbklgjpllaaPBagCopiesx0
import Derived.Test.YtmfbkbklgjpllaaEv
import Derived.Lib.Hide
import Derived.WalkSpells
import Derived.Test.YtmfbkbklgjpllaaA4
namespace Go.Proofs.Ytmfbkbklgjpllaa
open Go.RowKit Go.Proofs.YtmfbkbklgjpllaaW.PrintWords Go.Proofs.YtmfbkbklgjpllaaW.PrintLast Go.Proofs.YtmfbkbklgjpllaaW.PrintMore
open Go.Proofs.Ytmfbkbklgjpllaa.PBagCopies
set_option linter.unusedVariables false
set_option linter.unusedSimpArgs false

def nm (i : Nat) : List S29 := (List.range i).map fun (j : Nat) => (⟨(j : Int), 0, []⟩ : S29)
theorem nm_length (i : Nat) : (nm i).length = i := by simp [nm]
theorem nm_succ (i : Nat) : nm (i + 1) = nm i ++ [(⟨(i : Int), 0, []⟩ : S29)] := by simp [nm, List.range_succ]
theorem nm_at (i j : Nat) (h : j < i) : pkAt (nm i) (j : Int) = ⟨(j : Int), 0, []⟩ := by
  have := rd_get (nm i) j (by rw [nm_length]; exact h)
  rw [show pkAt (nm i) (j : Int) = _ from this]
  simp [nm]
theorem at_last (B : Nat) (w : World) (g : Nat) (F : Nat → Prop) (h : BagC B w g F (nm 4096)) :
    Calls Try.prog 10 #[.pointer (some ⟨g, 0, none⟩), .int .i64 4095] w fun e w' => ∃ v', e = .returned (.tuple #[.agg #[.int .i64 4095, .int .i64 0, v'], .int .i64 0]) ∧ (v'.cells.toList = [v'] ∧ v'.oneCell' = true) ∧ Below w.heap.size w w' := by
  have hp := nm_at 4096 4095 (by omega)
  have h1 := at_c B w g F (nm 4096) h ((4095 : Nat) : Int) (by omega) (by rw [nm_length]; omega)
  rw [hp] at h1
  exact h1.mono fun e w' ⟨v', he, hr, hb⟩ => ⟨v', he, Kd.N_val (Kd.R_N hr), hb⟩
set_option maxHeartbeats 8000000 in
theorem names_calls (w : World) : Calls Try.prog 3 #[] w fun e w' => e = .returned (.bool true) ∧ Below w.heap.size w w' := by
  have HB := Aside0.mk (Below.refl w.heap.size w)
  go_enter Try.func3, Try.ntmps3
  go_wp2_with (first
    | (go_at_call 7; refine (alive_calls _).mono ?_; rintro e w1 ⟨rfl, hb⟩; have Zw1 := Aside0.mk (hb.size); have HB_ := Aside0.mk (below_step HB.out hb); clear HB; have HB := HB_; clear HB_; clear hb)
    | (go_at_call 8; refine (new_c w.heap.size _ HB.out.size).mono ?_; rintro e w2 ⟨g, F1, rfl, hG, hb, _⟩; have Zw2 := Aside0.mk (hb.size); have HB_ := Aside0.mk (below_step HB.out hb); clear HB; have HB := HB_; clear HB_; have HA := Aside0.mk (hG); clear hb hG)
    | fail)
  go_loopw [2] (fun v wr => ∃ i : Nat, i ≤ 4096 ∧ v = .int .i64 i ∧ Aside0 (∃ F, BagC w.heap.size wr g F (nm i)) ∧ Aside0 (Below w.heap.size w wr)) (fun v _ => 4096 - (intOf v).toNat)
  case atStart => exact ⟨0, by omega, rfl, ⟨_, HA.out⟩, HB⟩
  case round =>
    clear HA HB
    obtain ⟨i, hi, rfl, hA0, HB⟩ := hrel
    obtain ⟨F, hA⟩ := hA0.out
    have HA := Aside0.mk hA
    have HZ := Aside0.mk HB.out.size
    clear hA hA0
    by_cases hlt : i < 4096
    · have hlt' : (i : Int) < 4096 := by omega
      go_wp2_with (first
        | (go_at_call 9; refine (put_c w.heap.size _ g _ (nm i) HA.out HB.out.size ⟨(i : Int), 0, []⟩ _ (Rd.nil _) (by simp) (by rw [nm_length]; exact hlt)).mono ?_; rintro e w3 ⟨F2, rfl, hG, hc, _⟩; skip; have Zw3 := Aside0.mk (hc.size); have HB_ := Aside0.mk (Chg.below HB.out hc HB.out.size (fun k hk => HA.out.ge k hk)); clear HB; have HB := HB_; clear HB_; clear HA; have HA := Aside0.mk hG; have HLw3 := Aside0.mk hG.lt; clear hG hc)
        | fail)
      go_roundw
      case rel => exact ⟨i + 1, by omega, by go_num, ⟨_, by rw [nm_succ]; exact HA.out⟩, HB⟩
      case measure => simp [intOf]; omega
    · have hie : i = 4096 := by omega
      subst hie
      clear hlt hi
      go_wp2_with (first
        | (go_at_call 10; refine (at_last w.heap.size _ g _ HA.out).mono ?_; rintro e w4 ⟨v', rfl, ⟨hv1', hv2'⟩, hb⟩; have Zw4 := Aside0.mk (hb.size); have HB_ := Aside0.mk (below_step HB.out hb); clear HB; have HB := HB_; clear HB_; have HA_ := Aside0.mk (BagC.below HA.out hb); clear HA; have HA := HA_; clear HA_; have HLw4 := Aside0.mk HA.out.lt; clear hb)
        | ((with_reducible refine gate_dst (N := 3) rfl ?_); refine box_event ?hg (N := 3) ?hd (cs := #[.int .i64 0, .int .i64 0, .slice none 0 0]) (t := 29) ?hr ?_; (case hd => rfl); (case hg => rfl); (case hr => first | (go_simp; done) | (go_simp; rfl)); intro gK3 hg w5 hbox hb; have Zw5 := Aside0.mk (hb.size); have HB_ := Aside0.mk (below_step HB.out hb); clear HB; have HB := HB_; clear HB_; have HA_ := Aside0.mk (BagC.below HA.out hb); clear HA; have HA := HA_; clear HA_; have K3 := Aside0.mk hbox; have LK3 := Aside0.mk (show gK3 + 1 ≤ w5.heap.size from blk_lt hbox); have EK3 := Aside0.mk hg; clear hg hbox hb; (try clear cK3_0 zK3_0); have cK3_0 := (blk_cell K3.out 0).trans (show _ = some (.int .i64 0) from rfl); have zK3_0 := blk_frozen K3.out 0; (try clear cK3_1 zK3_1); have cK3_1 := (blk_cell K3.out 1).trans (show _ = some (.int .i64 0) from rfl); have zK3_1 := blk_frozen K3.out 1; (try clear cK3_2 zK3_2); have cK3_2 := (blk_cell K3.out 2).trans (show _ = some (.slice none 0 0) from rfl); have zK3_2 := blk_frozen K3.out 2)
        | ((with_reducible refine gate_store (t := 29) (p := 3) (v := .tmp 26) rfl ?_); refine store_ev rfl rfl 29 (.tmp 3) (.tmp 26) rfl K3.out (i := 0) rfl (.agg #[.int .i64 4095, .int .i64 0, v']) rfl [.int .i64 4095, .int .i64 0, v'] ?hu ?ht (by simp) ?h1 ([.int .i64 4095, .int .i64 0, v']) rfl ?_; (case hu => first | rfl | (simp [*]; done)); (case ht => kernel_rfl); (case h1 => (intro q hq; (repeat (rcases List.mem_cons.1 hq with rfl | hq; · first | rfl | assumption)); exact absurd hq (by simp))); intro w6 hst hc; have Zw6 := Aside0.mk (hc.size); have HB_ := Aside0.mk (Chg.below HB.out hc HB.out.size (fun k he => by subst he; have q0_ := HZ.out; have q1_ := Zw4.out; have q2_ := Zw5.out; have q3_ := LK3.out; have q4_ := EK3.out; omega)); have HA_ := Aside0.mk (BagC.chg HA.out hc (fun k hk he => by have := HLw4.out k hk; subst he; have q0_ := HZ.out; have q1_ := Zw4.out; have q2_ := Zw5.out; have q3_ := LK3.out; have q4_ := EK3.out; omega)); clear HB; have HB := HB_; clear HB_; clear HA; have HA := HA_; clear HA_; clear K3; have K3 := Aside0.mk hst; clear hst hc; (try clear cK3_0 zK3_0); have cK3_0 := (blk_cell K3.out 0).trans (show _ = some (.int .i64 4095) from rfl); have zK3_0 := blk_frozen K3.out 0; (try clear cK3_1 zK3_1); have cK3_1 := (blk_cell K3.out 1).trans (show _ = some (.int .i64 0) from rfl); have zK3_1 := blk_frozen K3.out 1; (try clear cK3_2 zK3_2); have cK3_2 := (blk_cell K3.out 2).trans (show _ = some (v') from rfl); have zK3_2 := blk_frozen K3.out 2)
        | (go_at_call 9; refine (put_full w.heap.size _ g _ (nm 4096) HA.out.is 0 0 _ (by rw [nm_length]; omega)).mono ?_; rintro e w7 ⟨rfl, hb⟩; have Zw7 := Aside0.mk (hb.size); have HB_ := Aside0.mk (below_step HB.out hb); clear HB; have HB := HB_; clear HB_; have HA_ := Aside0.mk (BagC.below HA.out hb); clear HA; have HA := HA_; clear HA_; have K3_ := Aside0.mk (blk_below K3.out hb); clear K3; have K3 := K3_; clear K3_; clear hb; (try clear cK3_0 zK3_0); have cK3_0 := (blk_cell K3.out 0).trans (show _ = some (.int .i64 4095) from rfl); have zK3_0 := blk_frozen K3.out 0; (try clear cK3_1 zK3_1); have cK3_1 := (blk_cell K3.out 1).trans (show _ = some (.int .i64 0) from rfl); have zK3_1 := blk_frozen K3.out 1; (try clear cK3_2 zK3_2); have cK3_2 := (blk_cell K3.out 2).trans (show _ = some (v') from rfl); have zK3_2 := blk_frozen K3.out 2)
        | (go_at_call_of 11 (Value.int IntKind.i64 0); refine (copy_full w.heap.size _ g _ (nm 4096) HA.out.is HA.out.lt 0 (by omega) (by rw [nm_length]; omega) (by rw [nm_length]; omega)).mono ?_; rintro e w8 ⟨rfl, hb⟩; have Zw8 := Aside0.mk (hb.size); have HB_ := Aside0.mk (below_step HB.out hb); clear HB; have HB := HB_; clear HB_; have HA_ := Aside0.mk (BagC.below HA.out hb); clear HA; have HA := HA_; clear HA_; have K3_ := Aside0.mk (blk_below K3.out hb); clear K3; have K3 := K3_; clear K3_; clear hb; (try clear cK3_0 zK3_0); have cK3_0 := (blk_cell K3.out 0).trans (show _ = some (.int .i64 4095) from rfl); have zK3_0 := blk_frozen K3.out 0; (try clear cK3_1 zK3_1); have cK3_1 := (blk_cell K3.out 1).trans (show _ = some (.int .i64 0) from rfl); have zK3_1 := blk_frozen K3.out 1; (try clear cK3_2 zK3_2); have cK3_2 := (blk_cell K3.out 2).trans (show _ = some (v') from rfl); have zK3_2 := blk_frozen K3.out 2)
        | (go_at_call_of 11 (Value.int IntKind.i64 4096); refine (copy_out w.heap.size _ g _ (nm 4096) HA.out.is 4096 (.inr (by rw [nm_length]; omega))).mono ?_; rintro e w9 ⟨rfl, hb⟩; have Zw9 := Aside0.mk (hb.size); have HB_ := Aside0.mk (below_step HB.out hb); clear HB; have HB := HB_; clear HB_; have HA_ := Aside0.mk (BagC.below HA.out hb); clear HA; have HA := HA_; clear HA_; have K3_ := Aside0.mk (blk_below K3.out hb); clear K3; have K3 := K3_; clear K3_; clear hb; (try clear cK3_0 zK3_0); have cK3_0 := (blk_cell K3.out 0).trans (show _ = some (.int .i64 4095) from rfl); have zK3_0 := blk_frozen K3.out 0; (try clear cK3_1 zK3_1); have cK3_1 := (blk_cell K3.out 1).trans (show _ = some (.int .i64 0) from rfl); have zK3_1 := blk_frozen K3.out 1; (try clear cK3_2 zK3_2); have cK3_2 := (blk_cell K3.out 2).trans (show _ = some (v') from rfl); have zK3_2 := blk_frozen K3.out 2)
        | (go_at_call 12; refine ((nm_length 4096 ▸ len_calls w.heap.size _ g _ (nm 4096) HA.out.is : Calls _ _ _ _ fun e w' => e = .returned (.int .i64 ((4096 : Nat) : Int)) ∧ _ = w')).mono ?_; rintro e w10 ⟨rfl, rfl⟩; (try clear cK3_0 zK3_0); have cK3_0 := (blk_cell K3.out 0).trans (show _ = some (.int .i64 4095) from rfl); have zK3_0 := blk_frozen K3.out 0; (try clear cK3_1 zK3_1); have cK3_1 := (blk_cell K3.out 1).trans (show _ = some (.int .i64 0) from rfl); have zK3_1 := blk_frozen K3.out 1; (try clear cK3_2 zK3_2); have cK3_2 := (blk_cell K3.out 2).trans (show _ = some (v') from rfl); have zK3_2 := blk_frozen K3.out 2)
        | fail)
      go_ret
      exact ⟨rfl, HB.out⟩
end Go.Proofs.Ytmfbkbklgjpllaa
