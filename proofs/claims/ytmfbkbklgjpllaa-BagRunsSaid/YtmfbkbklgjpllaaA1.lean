/- Contracts of the functions that copy and compare bytes and packets. -/
import Derived.Test.YtmfbkbklgjpllaaPBagCopiesx0
import Derived.Test.YtmfbkbklgjpllaaEv
import Derived.Lib.Hide
import Derived.WalkSpells
namespace Go.Proofs.Ytmfbkbklgjpllaa
open Go.RowKit Go.Proofs.YtmfbkbklgjpllaaW.PrintWords Go.Proofs.YtmfbkbklgjpllaaW.PrintLast Go.Proofs.YtmfbkbklgjpllaaW.PrintMore
open Go.Proofs.Ytmfbkbklgjpllaa.PBagCopies
set_option linter.unusedVariables false
set_option linter.unusedSimpArgs false

theorem info5 : (Try.prog.info? 5).map (fun i => (i.zero, i.size, i.bytes)) = some (some (.int .u8 0), 1, 1) := by kernel_rfl
theorem infoP : (Try.prog.info? 29).map (fun i => (i.zero, i.size, i.bytes)) = some (some (.agg #[(.int .i64 0), (.int .i64 0), (.slice none 0 0)]), 3, 40) := by kernel_rfl
abbrev B8 : Kd Int := Kd.int .u8
theorem k29_openF {W : World} {ok : Nat → Prop} {x : S29} {cs : List Value} (h : Kd.FK k29 W ok x cs) : ∃ A2 c2, cs = [.int .i64 x.f0, .int .i64 x.f1, .slice A2 x.f2.length c2] ∧ x.f2.length ≤ c2 ∧ Kd.F (Kd.int .u8) W ok A2 x.f2.length x.f2 := by
  obtain ⟨A2, c2, rfl, l2, _⟩ := k29_open (Kd.FK_now h)
  exact ⟨A2, c2, rfl, l2, (fun W' hW => by obtain ⟨A2_, c2_, he, l2_, g2_⟩ := k29_open (h W' hW); injection (Option.some.inj (show some (Value.slice A2 x.f2.length c2) = some (Value.slice A2_ x.f2.length c2_) from congrArg (fun l => l[2]?) he)) with ha_ _ _; rw [ha_]; exact g2_)⟩
theorem k29_mkF (W : World) (ok : Nat → Prop) (x : S29) {A2 : Option Addr} {c2 : Nat} (l2 : x.f2.length ≤ c2) (g2 : Kd.F (Kd.int .u8) W ok A2 x.f2.length x.f2) : Kd.FK k29 W ok x [.int .i64 x.f0, .int .i64 x.f1, .slice A2 x.f2.length c2] := fun W2 hW => k29_mk W2 x l2 (g2 W2 hW)


/-- v reads, in w, as the bytes xs. -/
def Rd (w : World) (v : Value) (xs : List Int) : Prop := ∃ A c, v = .slice A xs.length c ∧ xs.length ≤ c ∧ B8.C w A xs.length xs
theorem Rd.below {w w1 : World} {v : Value} {xs : List Int} (h : Rd w v xs) (hb : Below w.heap.size w w1) : Rd w1 v xs := by
  obtain ⟨A, c, rfl, hc, hC⟩ := h
  exact ⟨A, c, rfl, hc, Kd.C_below hC hb⟩
theorem Rd.ofV {e base : Nat} {ok : Nat → Prop} {w : World} {v : Value} {xs : List Int} (h : Kd.V B8 e w base ok v xs) : Rd w v xs := by
  obtain ⟨A, c, rfl, hc, hF⟩ := h
  exact ⟨A, c, rfl, hc, Kd.F_now hF⟩
theorem Rd.ofR {e base : Nat} {ok : Nat → Prop} {w : World} {v : Value} {xs : List Int} (h : Kd.R B8 e w base ok v xs) : Rd w v xs := Rd.ofV (Kd.R_V (base' := 0) h)
theorem Rd.drew {w : World} {v : Value} {xs : List Int} (h : Rd w v xs) : Rd w.drew v xs := h.below (below_drew (Below.refl _ _))
theorem Rd.nil (w : World) : Rd w (.slice none 0 0) [] := ⟨none, 0, rfl, Nat.le_refl _, rfl, by simp, fun h => absurd h (Nat.lt_irrefl 0)⟩

set_option maxHeartbeats 400000 in
theorem clone_calls (v : Value) (xs : List Int) (w : World) (h : Rd w v xs) (hl : xs.length ≤ 140737488351232) :
    Calls Try.prog 21 #[v] w fun e w' => ∃ v', e = .returned v' ∧ Kd.R B8 5 w' w.heap.size (fun k => w.heap.size ≤ k) v' xs ∧ Below w.heap.size w w' := by
  obtain ⟨A, c, rfl, hc, hC0⟩ := h
  have hC := Aside0.mk hC0
  clear hC0
  have hnil := fun (w : World) (n c : Nat) => Lib.run_eql_slice_nil (P := Try.prog) w 27 5 A n c 0 0 Try.underlying27
  cases A with
  | none =>
    have hx : xs = [] := by
      have := hC.out.2.2
      cases xs with
      | nil => rfl
      | cons x r => obtain ⟨ad, h, _⟩ := this (by simp); cases h
    subst hx
    go_enter Try.func21, Try.ntmps21
    go_wp2_with fail
    go_ret
    exact ⟨_, rfl, Kd.R_nil _ _ _ _ _, Below.refl _ _⟩
  | some ad =>
    go_enter Try.func21, Try.ntmps21
    go_wp2_with (first
      | ((with_reducible refine gate_dst (N := 5) rfl ?_); refine Kd.R_lit B8 w.heap.size 5 ?hg (N := 5) ?hd (xs := ([] : List Int)) (inner := []) (ok := (fun k => w.heap.size ≤ k)) (okp := fun _ => False) ?hr ?hp (fun _ hk => hk.elim) (Nat.le_refl _) (Below.refl _ _) (Nat.le_refl _) (by simp) ?_; (case hd => rfl); (case hg => rfl); (case hr => first | (go_simp; done) | (go_simp; rfl)); (case hp => exact (Reps.none _ _)); intro v1 w1 ho hb hg hn; have HO := Aside0.mk ho; have HB := Aside0.mk hb; have HC1 := Aside0.mk (Kd.C_below hC.out (below_then (Below.refl _ _) (Nat.le_refl _) hb)); clear ho hb hg hn)
      | ((with_reducible refine gate_dst (N := 7) rfl ?_); refine Kd.R_append_row (.int .u8) 0 (w0 := w) w.heap.size ?hg (.tmp 5) (.tmp 6) 27 5 (.int .u8 0) 1 rfl Try.underlying27 info5 rfl (by decide) v1 [] xs (some ad) xs.length c (fun k => w.heap.size ≤ k) rfl rfl ?hf HO.out HC1.out HB.out HB.out.size (by simp; omega) ?_; (case hg => rfl); (case hf => exact fun k hk => Nat.le_trans HB.out.size hk); intro v2 w2 ho hb hg hn; have HO2 := Aside0.mk ho; have HB2 := Aside0.mk hb; clear ho hb hg hn)
      | fail)
    go_ret
    exact ⟨_, rfl, HO2.out, HB2.out⟩

set_option maxHeartbeats 400000 in
theorem bagClone_calls (a b : Int) (v : Value) (xs : List Int) (w : World) (h : Rd w v xs) (hl : xs.length ≤ 140737488351232) :
    Calls Try.prog 18 #[.agg #[.int .i64 a, .int .i64 b, v]] w fun e w' => ∃ v', e = .returned (.agg #[.int .i64 a, .int .i64 b, v']) ∧ Kd.R B8 5 w' w.heap.size (fun k => w.heap.size ≤ k) v' xs ∧ Below w.heap.size w w' := by
  have HV := Aside0.mk h
  have HB := Aside0.mk (Below.refl w.heap.size w)
  clear h
  go_enter Try.func18, Try.ntmps18
  go_wp2_with (first
    | ((with_reducible refine gate_dst (N := 1) rfl ?_); refine box_event ?hg (N := 1) ?hd (cs := #[.int .i64 a, .int .i64 b, v]) (t := 29) ?hr ?_; (case hd => rfl); (case hg => rfl); (case hr => first | (go_simp; done) | (go_simp; rfl)); intro gK1 hg w1 hbox hb; have Zw1 := Aside0.mk (hb.size); have HV_ := Aside0.mk (Rd.below HV.out hb); clear HV; have HV := HV_; clear HV_; have HB_ := Aside0.mk (below_step HB.out hb); clear HB; have HB := HB_; clear HB_; have K1 := Aside0.mk hbox; have LK1 := Aside0.mk (show gK1 + 1 ≤ w1.heap.size from blk_lt hbox); have EK1 := Aside0.mk hg; clear hg hbox hb; (try clear cK1_0 zK1_0); have cK1_0 := (blk_cell K1.out 0).trans (show _ = some (.int .i64 a) from rfl); have zK1_0 := blk_frozen K1.out 0; (try clear cK1_1 zK1_1); have cK1_1 := (blk_cell K1.out 1).trans (show _ = some (.int .i64 b) from rfl); have zK1_1 := blk_frozen K1.out 1; (try clear cK1_2 zK1_2); have cK1_2 := (blk_cell K1.out 2).trans (show _ = some (v) from rfl); have zK1_2 := blk_frozen K1.out 2)
    | ((with_reducible refine gate_dst (N := 2) rfl ?_); refine box_event ?hg (N := 2) ?hd (cs := #[.int .i64 0, .int .i64 0, .slice none 0 0]) (t := 29) ?hr ?_; (case hd => rfl); (case hg => rfl); (case hr => first | (go_simp; done) | (go_simp; rfl)); intro gK2 hg w2 hbox hb; have Zw2 := Aside0.mk (hb.size); have HV_ := Aside0.mk (Rd.below HV.out hb); clear HV; have HV := HV_; clear HV_; have HB_ := Aside0.mk (below_step HB.out hb); clear HB; have HB := HB_; clear HB_; have K1_ := Aside0.mk (blk_below K1.out hb); clear K1; have K1 := K1_; clear K1_; have K2 := Aside0.mk hbox; have LK2 := Aside0.mk (show gK2 + 1 ≤ w2.heap.size from blk_lt hbox); have EK2 := Aside0.mk hg; clear hg hbox hb; (try clear cK1_0 zK1_0); have cK1_0 := (blk_cell K1.out 0).trans (show _ = some (.int .i64 a) from rfl); have zK1_0 := blk_frozen K1.out 0; (try clear cK1_1 zK1_1); have cK1_1 := (blk_cell K1.out 1).trans (show _ = some (.int .i64 b) from rfl); have zK1_1 := blk_frozen K1.out 1; (try clear cK1_2 zK1_2); have cK1_2 := (blk_cell K1.out 2).trans (show _ = some (v) from rfl); have zK1_2 := blk_frozen K1.out 2; (try clear cK2_0 zK2_0); have cK2_0 := (blk_cell K2.out 0).trans (show _ = some (.int .i64 0) from rfl); have zK2_0 := blk_frozen K2.out 0; (try clear cK2_1 zK2_1); have cK2_1 := (blk_cell K2.out 1).trans (show _ = some (.int .i64 0) from rfl); have zK2_1 := blk_frozen K2.out 1; (try clear cK2_2 zK2_2); have cK2_2 := (blk_cell K2.out 2).trans (show _ = some (.slice none 0 0) from rfl); have zK2_2 := blk_frozen K2.out 2)
    | (go_at_call 21; refine (clone_calls _ _ _ HV.out hl).mono ?_; rintro e w3 ⟨v', rfl, hr, hb⟩; have Zw3 := Aside0.mk (hb.size); have HV_ := Aside0.mk (Rd.below HV.out hb); clear HV; have HV := HV_; clear HV_; have HB_ := Aside0.mk (below_step HB.out hb); clear HB; have HB := HB_; clear HB_; have K1_ := Aside0.mk (blk_below K1.out hb); clear K1; have K1 := K1_; clear K1_; have K2_ := Aside0.mk (blk_below K2.out hb); clear K2; have K2 := K2_; clear K2_; have HR := Aside0.mk (R_in hr); clear HV; have hv' := Kd.N_val (Kd.R_N HR.out); obtain ⟨hv1', hv2'⟩ := hv'; clear hr hb; (try clear cK1_0 zK1_0); have cK1_0 := (blk_cell K1.out 0).trans (show _ = some (.int .i64 a) from rfl); have zK1_0 := blk_frozen K1.out 0; (try clear cK1_1 zK1_1); have cK1_1 := (blk_cell K1.out 1).trans (show _ = some (.int .i64 b) from rfl); have zK1_1 := blk_frozen K1.out 1; (try clear cK1_2 zK1_2); have cK1_2 := (blk_cell K1.out 2).trans (show _ = some (v) from rfl); have zK1_2 := blk_frozen K1.out 2; (try clear cK2_0 zK2_0); have cK2_0 := (blk_cell K2.out 0).trans (show _ = some (.int .i64 0) from rfl); have zK2_0 := blk_frozen K2.out 0; (try clear cK2_1 zK2_1); have cK2_1 := (blk_cell K2.out 1).trans (show _ = some (.int .i64 0) from rfl); have zK2_1 := blk_frozen K2.out 1; (try clear cK2_2 zK2_2); have cK2_2 := (blk_cell K2.out 2).trans (show _ = some (.slice none 0 0) from rfl); have zK2_2 := blk_frozen K2.out 2)
    | ((with_reducible refine gate_store (t := 27) (p := 6) (v := .tmp 5) rfl ?_); refine store_ev rfl rfl 27 (.tmp 6) (.tmp 5) rfl K1.out (i := 2) rfl (v') rfl [v'] ?hu ?ht (by simp) ?h1 ([.int .i64 a, .int .i64 b, v']) rfl ?_; (case hu => first | rfl | (simp [*]; done)); (case ht => kernel_rfl); (case h1 => (intro q hq; (repeat (rcases List.mem_cons.1 hq with rfl | hq; · first | rfl | assumption)); exact absurd hq (by simp))); intro w4 hst hc; have Zw4 := Aside0.mk (hc.size); have HB_ := Aside0.mk (Chg.below HB.out hc HB.out.size (fun k he => by subst he; have q0_ := Zw1.out; have q1_ := LK1.out; have q2_ := EK1.out; have q3_ := Zw2.out; have q4_ := LK2.out; have q5_ := EK2.out; have q6_ := Zw3.out; omega)); have K2_ := Aside0.mk (Chg.blk hc K2.out (fun he => by have q0_ := Zw1.out; have q1_ := LK1.out; have q2_ := EK1.out; have q3_ := Zw2.out; have q4_ := LK2.out; have q5_ := EK2.out; have q6_ := Zw3.out; omega)); have HR_ := Aside0.mk (Chg.R hc HR.out (fun k hk he => by subst he; have q0_ := Zw1.out; have q1_ := LK1.out; have q2_ := EK1.out; have q3_ := Zw2.out; have q4_ := LK2.out; have q5_ := EK2.out; have q6_ := Zw3.out; omega)); clear HB; have HB := HB_; clear HB_; clear K2; have K2 := K2_; clear K2_; clear HR; have HR := HR_; clear HR_; clear K1; have K1 := Aside0.mk hst; clear hst hc; (try clear cK1_0 zK1_0); have cK1_0 := (blk_cell K1.out 0).trans (show _ = some (.int .i64 a) from rfl); have zK1_0 := blk_frozen K1.out 0; (try clear cK1_1 zK1_1); have cK1_1 := (blk_cell K1.out 1).trans (show _ = some (.int .i64 b) from rfl); have zK1_1 := blk_frozen K1.out 1; (try clear cK1_2 zK1_2); have cK1_2 := (blk_cell K1.out 2).trans (show _ = some (v') from rfl); have zK1_2 := blk_frozen K1.out 2; (try clear cK2_0 zK2_0); have cK2_0 := (blk_cell K2.out 0).trans (show _ = some (.int .i64 0) from rfl); have zK2_0 := blk_frozen K2.out 0; (try clear cK2_1 zK2_1); have cK2_1 := (blk_cell K2.out 1).trans (show _ = some (.int .i64 0) from rfl); have zK2_1 := blk_frozen K2.out 1; (try clear cK2_2 zK2_2); have cK2_2 := (blk_cell K2.out 2).trans (show _ = some (.slice none 0 0) from rfl); have zK2_2 := blk_frozen K2.out 2)
    | ((with_reducible refine gate_dst (N := 7) rfl ?_); refine load_ev rfl 29 (.tmp 1) rfl K1.out (i := 0) rfl [.int .i64 a, .int .i64 b, v'] rfl Try.underlying29 rfl (by kernel_rfl) ?_)
    | ((with_reducible refine gate_store (t := 29) (p := 2) (v := .tmp 7) rfl ?_); refine store_ev rfl rfl 29 (.tmp 2) (.tmp 7) rfl K2.out (i := 0) rfl (.agg #[.int .i64 a, .int .i64 b, v']) rfl [.int .i64 a, .int .i64 b, v'] ?hu ?ht (by simp) ?h1 ([.int .i64 a, .int .i64 b, v']) rfl ?_; (case hu => first | rfl | (simp [*]; done)); (case ht => kernel_rfl); (case h1 => (intro q hq; (repeat (rcases List.mem_cons.1 hq with rfl | hq; · first | rfl | assumption)); exact absurd hq (by simp))); intro w5 hst hc; have Zw5 := Aside0.mk (hc.size); have HB_ := Aside0.mk (Chg.below HB.out hc HB.out.size (fun k he => by subst he; have q0_ := Zw1.out; have q1_ := LK1.out; have q2_ := EK1.out; have q3_ := Zw2.out; have q4_ := LK2.out; have q5_ := EK2.out; have q6_ := Zw3.out; have q7_ := Zw4.out; omega)); have HR_ := Aside0.mk (Chg.R hc HR.out (fun k hk he => by subst he; have q0_ := Zw1.out; have q1_ := LK1.out; have q2_ := EK1.out; have q3_ := Zw2.out; have q4_ := LK2.out; have q5_ := EK2.out; have q6_ := Zw3.out; have q7_ := Zw4.out; omega)); have K1_ := Aside0.mk (Chg.blk hc K1.out (fun he => by have q0_ := Zw1.out; have q1_ := LK1.out; have q2_ := EK1.out; have q3_ := Zw2.out; have q4_ := LK2.out; have q5_ := EK2.out; have q6_ := Zw3.out; have q7_ := Zw4.out; omega)); clear HB; have HB := HB_; clear HB_; clear HR; have HR := HR_; clear HR_; clear K1; have K1 := K1_; clear K1_; clear K2; have K2 := Aside0.mk hst; clear hst hc; (try clear cK1_0 zK1_0); have cK1_0 := (blk_cell K1.out 0).trans (show _ = some (.int .i64 a) from rfl); have zK1_0 := blk_frozen K1.out 0; (try clear cK1_1 zK1_1); have cK1_1 := (blk_cell K1.out 1).trans (show _ = some (.int .i64 b) from rfl); have zK1_1 := blk_frozen K1.out 1; (try clear cK1_2 zK1_2); have cK1_2 := (blk_cell K1.out 2).trans (show _ = some (v') from rfl); have zK1_2 := blk_frozen K1.out 2; (try clear cK2_0 zK2_0); have cK2_0 := (blk_cell K2.out 0).trans (show _ = some (.int .i64 a) from rfl); have zK2_0 := blk_frozen K2.out 0; (try clear cK2_1 zK2_1); have cK2_1 := (blk_cell K2.out 1).trans (show _ = some (.int .i64 b) from rfl); have zK2_1 := blk_frozen K2.out 1; (try clear cK2_2 zK2_2); have cK2_2 := (blk_cell K2.out 2).trans (show _ = some (v') from rfl); have zK2_2 := blk_frozen K2.out 2)
    | fail)

  refine bodyPost_ret (results_single rfl (.cell gK2 29 _ (0, 0) _ rfl K2.out Try.underlying29 rfl (by kernel_rfl) .nil)) rfl ⟨v', rfl, ?_, HB.out⟩
  exact Kd.R_mono (Kd.R_lower HR.out (by have q0_ := Zw1.out; have q1_ := LK1.out; have q2_ := EK1.out; have q3_ := Zw2.out; have q4_ := LK2.out; have q5_ := EK2.out; have q6_ := Zw3.out; have q7_ := Zw4.out; have q8_ := Zw5.out; omega)) (fun k hk => by have q0_ := Zw1.out; have q1_ := LK1.out; have q2_ := EK1.out; have q3_ := Zw2.out; have q4_ := LK2.out; have q5_ := EK2.out; have q6_ := Zw3.out; have q7_ := Zw4.out; have q8_ := Zw5.out; omega)
end Go.Proofs.Ytmfbkbklgjpllaa
