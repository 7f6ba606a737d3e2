/- The bag's methods. -/
import Derived.Test.YtmfbkbklgjpllaaPBagCopiesx0
import Derived.Test.YtmfbkbklgjpllaaEv
import Derived.Lib.Hide
import Derived.WalkSpells
import Derived.Test.YtmfbkbklgjpllaaA1
import Derived.Test.YtmfbkbklgjpllaaPBagCopiesx
namespace Go.Proofs.Ytmfbkbklgjpllaa
open Go.RowKit Go.Proofs.YtmfbkbklgjpllaaW.PrintWords Go.Proofs.YtmfbkbklgjpllaaW.PrintLast Go.Proofs.YtmfbkbklgjpllaaW.PrintMore
open Go.Proofs.Ytmfbkbklgjpllaa.PBagCopies
set_option linter.unusedVariables false
set_option linter.unusedSimpArgs false

abbrev K29 : Kd S29 := k29
/-- Block g holds a bag of the packets L; F: its blocks; all from B on. -/
def BagIs (B : Nat) (w : World) (g : Nat) (F : Nat → Prop) (L : List S29) : Prop :=
  ∃ v, w.heap[g]? = some (.cells #[v] 50 (0, 0)) ∧ F g ∧ B ≤ g ∧ Kd.N k29 29 w B (fun k => F k ∧ k ≠ g) v L ∧ (∀ p ∈ L, p.f2.length ≤ 140737488351232)

theorem BagIs.below {B : Nat} {w w1 : World} {g : Nat} {F : Nat → Prop} {L : List S29} (h : BagIs B w g F L) (hb : Below w.heap.size w w1) : BagIs B w1 g F L := by
  obtain ⟨v, h1, h2, h3, h4, h5⟩ := h
  exact ⟨v, blk_below h1 hb, h2, h3, Kd.N_below h4 hb, h5⟩
theorem BagIs.chg {B : Nat} {w w1 : World} {g : Nat} {F S : Nat → Prop} {L : List S29} (h : BagIs B w g F L) (hc : Chg S w w1) (hn : ∀ k, F k → ¬ S k) : BagIs B w1 g F L := by
  obtain ⟨v, h1, h2, h3, h4, h5⟩ := h
  exact ⟨v, hc.blk h1 (hn g h2), h2, h3, hc.N h4 (fun k hk => hn k hk.1), h5⟩
theorem BagIs.weaken {B : Nat} {w : World} {g : Nat} {F F' : Nat → Prop} {L : List S29} (h : BagIs B w g F L) (hF : ∀ k, F k → F' k) : BagIs B w g F' L := by
  obtain ⟨v, h1, h2, h3, h4, h5⟩ := h
  exact ⟨v, h1, hF g h2, h3, Kd.N_mono h4 (fun k hk => ⟨hF k hk.1, hk.2⟩), h5⟩

set_option maxHeartbeats 400000 in
theorem len_calls (B : Nat) (w : World) (g : Nat) (F : Nat → Prop) (L : List S29) (h : BagIs B w g F L) :
    Calls Try.prog 12 #[.pointer (some ⟨g, 0, none⟩)] w fun e w' => e = .returned (.int .i64 L.length) ∧ w = w' := by
  obtain ⟨v, hb, hF, hg, hN, hL⟩ := h
  obtain ⟨A, c, rfl⟩ := Kd.N_slice hN
  have HN := Aside0.mk hN
  have cK_0 := (blk_cell hb 0).trans (show _ = some (Value.slice A L.length c) from rfl)
  clear hb hF hg hN hL
  go_enter Try.func12, Try.ntmps12
  go_wp2
  go_ret
  exact ⟨rfl, rfl⟩

set_option maxHeartbeats 4000000 in
theorem put_calls (B : Nat) (w : World) (g : Nat) (F : Nat → Prop) (L : List S29) (h : BagIs B w g F L) (p : S29) (pv : Value) (hv : Rd w pv p.f2) (hl : p.f2.length ≤ 140737488351232) (hlt : L.length < 4096) :
    Calls Try.prog 9 #[.pointer (some ⟨g, 0, none⟩), .agg #[.int .i64 p.f0, .int .i64 p.f1, pv]] w fun e w' => e = .returned (.int .i64 0) ∧ BagIs B w' g (fun k => F k ∨ (w.heap.size ≤ k ∧ k < w'.heap.size)) (L ++ [p]) ∧ Chg F w w' := by
  obtain ⟨v, hb, hF, hg, hN, hL⟩ := h
  obtain ⟨A, c, rfl⟩ := Kd.N_slice hN
  have HN := Aside0.mk (Kd.N_bound hN)
  have HV := Aside0.mk hv
  have HK := Aside0.mk hb
  have HB := Aside0.mk (Below.refl w.heap.size w)
  have HL := Aside0.mk (blk_lt hb)
  have HE := Aside0.mk hg
  have hlt' : decide ((4096 : Int) ≤ (L.length : Int)) = false := by simp; omega
  clear hb hN hv hg
  go_enter Try.func9, Try.ntmps9
  go_wp2_with (first
    | ((with_reducible refine gate_dst (N := 3) rfl ?_); refine box_event ?hg (N := 3) ?hd (cs := #[.int .i64 p.f0, .int .i64 p.f1, pv]) (t := 29) ?hr ?_; (case hd => rfl); (case hg => rfl); (case hr => first | (go_simp; done) | (go_simp; rfl)); intro gK1 hg w1 hbox hb; have Zw1 := Aside0.mk (hb.size); have HV_ := Aside0.mk (Rd.below HV.out hb); clear HV; have HV := HV_; clear HV_; have HN_ := Aside0.mk (Kd.N_below HN.out hb); clear HN; have HN := HN_; clear HN_; have HK_ := Aside0.mk (blk_below HK.out hb); clear HK; have HK := HK_; clear HK_; have HB_ := Aside0.mk (below_step HB.out hb); clear HB; have HB := HB_; clear HB_; have K1 := Aside0.mk hbox; have LK1 := Aside0.mk (show gK1 + 1 ≤ w1.heap.size from blk_lt hbox); have EK1 := Aside0.mk hg; clear hg hbox hb; (try clear cHK_0 zHK_0); have cHK_0 := (blk_cell HK.out 0).trans (show _ = some (Value.slice A L.length c) from rfl); have zHK_0 := blk_frozen HK.out 0; (try clear cK1_0 zK1_0); have cK1_0 := (blk_cell K1.out 0).trans (show _ = some (.int .i64 p.f0) from rfl); have zK1_0 := blk_frozen K1.out 0; (try clear cK1_1 zK1_1); have cK1_1 := (blk_cell K1.out 1).trans (show _ = some (.int .i64 p.f1) from rfl); have zK1_1 := blk_frozen K1.out 1; (try clear cK1_2 zK1_2); have cK1_2 := (blk_cell K1.out 2).trans (show _ = some (pv) from rfl); have zK1_2 := blk_frozen K1.out 2)
    | fail)
  refine wp_region_T (fun j => j == 11) (fun w' => w'.cell? ⟨g, 0, none⟩ = some (Value.slice A L.length c) ∧ w'.cell? ⟨gK1, 0, none⟩ = some (.int .i64 p.f0) ∧ w'.cell? ⟨gK1, 1, none⟩ = some (.int .i64 p.f1) ∧ w'.cell? ⟨gK1, 2, none⟩ = some pv) (by kernel_rfl) ?_
  refine wpAnyT_take (i := 0) (v := .pointer (some ⟨g, 0, none⟩)) rfl (by kernel_rfl) (by kernel_rfl) (by kernel_rfl) (fun _ _ _ h => h) (by kernel_rfl) (fun w_ hs_ => by (obtain ⟨s0, s1, s2, s3⟩ := hs_); go_simp) ⟨cHK_0, cK1_0, cK1_1, cK1_2⟩ ?_
  refine wpAnyT_take (i := 1) (v := .pointer (some ⟨g, 0, none⟩)) rfl (by kernel_rfl) (by kernel_rfl) (by kernel_rfl) (fun _ _ _ h => h) (by kernel_rfl) (fun w_ hs_ => by (obtain ⟨s0, s1, s2, s3⟩ := hs_); go_simp) ⟨cHK_0, cK1_0, cK1_1, cK1_2⟩ ?_
  refine wpAnyT_take (i := 2) (v := .pointer (some ⟨g, 0, none⟩)) rfl (by kernel_rfl) (by kernel_rfl) (by kernel_rfl) (fun _ _ _ h => h) (by kernel_rfl) (fun w_ hs_ => by (obtain ⟨s0, s1, s2, s3⟩ := hs_); go_simp) ⟨cHK_0, cK1_0, cK1_1, cK1_2⟩ ?_
  refine wpAnyT_take (i := 3) (v := .pointer (some ⟨g, 0, none⟩)) rfl (by kernel_rfl) (by kernel_rfl) (by kernel_rfl) (fun _ _ _ h => h) (by kernel_rfl) (fun w_ hs_ => by (obtain ⟨s0, s1, s2, s3⟩ := hs_); go_simp) ⟨cHK_0, cK1_0, cK1_1, cK1_2⟩ ?_
  refine wpAnyT_take (i := 4) (v := Value.slice A L.length c) rfl (by kernel_rfl) (by kernel_rfl) (by kernel_rfl) (fun _ _ _ h => h) (by kernel_rfl) (fun w_ hs_ => by (obtain ⟨s0, s1, s2, s3⟩ := hs_); go_simp) ⟨cHK_0, cK1_0, cK1_1, cK1_2⟩ ?_
  refine wpAnyT_take (i := 5) (v := .agg #[.int .i64 p.f0, .int .i64 p.f1, pv]) rfl (by kernel_rfl) (by kernel_rfl) (by kernel_rfl) (fun _ _ _ h => h) (by kernel_rfl) (fun w_ hs_ => by (obtain ⟨s0, s1, s2, s3⟩ := hs_); go_simp) ⟨cHK_0, cK1_0, cK1_1, cK1_2⟩ ?_
  refine wpAnyT_one (i := 6) (by kernel_rfl) ?_
  refine wpOp_call rfl (by kernel_rfl) (f := 18) (args := #[.agg #[.int .i64 p.f0, .int .i64 p.f1, pv]]) (by go_simp) (bagClone_calls p.f0 p.f1 pv p.f2 _ (Rd.drew HV.out) hl) ?_
  rintro e w2 ⟨v', rfl, hr0, hb0⟩
  have hr : Kd.R B8 5 w2 w1.heap.size (fun k => w1.heap.size ≤ k) v' p.f2 := hr0
  have hb := und hb0
  clear hr0 hb0
  have Zw2 := Aside0.mk (hb.size)
  have HV_ := Aside0.mk (Rd.below HV.out hb); clear HV; have HV := HV_; clear HV_
  have HN_ := Aside0.mk (Kd.N_below HN.out hb); clear HN; have HN := HN_; clear HN_
  have HK_ := Aside0.mk (blk_below HK.out hb); clear HK; have HK := HK_; clear HK_
  have HB_ := Aside0.mk (below_step HB.out hb); clear HB; have HB := HB_; clear HB_
  have K1_ := Aside0.mk (blk_below K1.out hb); clear K1; have K1 := K1_; clear K1_
  (try clear cHK_0 zHK_0); have cHK_0 := (blk_cell HK.out 0).trans (show _ = some (Value.slice A L.length c) from rfl); have zHK_0 := blk_frozen HK.out 0
  (try clear cK1_0 zK1_0); have cK1_0 := (blk_cell K1.out 0).trans (show _ = some (.int .i64 p.f0) from rfl); have zK1_0 := blk_frozen K1.out 0
  (try clear cK1_1 zK1_1); have cK1_1 := (blk_cell K1.out 1).trans (show _ = some (.int .i64 p.f1) from rfl); have zK1_1 := blk_frozen K1.out 1
  (try clear cK1_2 zK1_2); have cK1_2 := (blk_cell K1.out 2).trans (show _ = some (pv) from rfl); have zK1_2 := blk_frozen K1.out 2
  obtain ⟨A2, c2, rfl, hl2, hF2⟩ := Kd.R_V (base' := 0) hr
  refine ⟨_, rfl, fun _ => ⟨cHK_0, cK1_0, cK1_1, cK1_2⟩, ?_⟩
  refine wpAnyT_one (i := 7) (by kernel_rfl) ?_
  refine wpOp_value rfl (by rfl) (v := .slice (some ⟨w2.heap.size, 0, none⟩) 1 1) (w1 := w2.alloc (.cells #[.int .i64 p.f0, .int .i64 p.f1, .slice A2 p.f2.length c2] 29)) (by go_simp) ⟨fun _ => ⟨cellA cHK_0 _, cellA cK1_0 _, cellA cK1_1 _, cellA cK1_2 _⟩, ?_⟩
  refine wpAnyT_one (i := 8) (by kernel_rfl) ?_
  have hrow : ∀ k, (Value.slice A L.length c).ownBlock = some k → k < w.heap.size := fun k hk => (HN.out.1 k hk).2
  refine wpOp_step rfl (Kd.N_append_step k29 (w0 := w) (W := w2) B ?hw (.tmp 15) (.tmp 18) 35 29 (.agg #[(.int .i64 0), (.int .i64 0), (.slice none 0 0)]) 40 ?ho Try.underlying35 infoP ?hz ?h3 ?h4 (.slice A L.length c) L p [.int .i64 p.f0, .int .i64 p.f1, .slice A2 p.f2.length c2] (fun k => ((F k ∧ k ≠ g) ∧ k < w.heap.size) ∨ w.heap.size ≤ k) (fun k => w1.heap.size ≤ k) ?hs ?hx (k29_mkF w2 _ p hl2 hF2) (fun k hk => ⟨.inr (Nat.le_trans Zw1.out hk), fun e => by have := hrow k e.symm; have := Zw1.out; omega⟩) (fun k hk => .inr (by have q0_ := HL.out; have q1_ := HE.out; have q2_ := Zw1.out; have q3_ := LK1.out; have q4_ := EK1.out; have q5_ := Zw2.out; omega)) (Kd.N_mono HN.out (fun k hk => .inl hk)) (Below.mono HB.out (by have q0_ := HL.out; have q1_ := HE.out; have q2_ := Zw1.out; have q3_ := LK1.out; have q4_ := EK1.out; have q5_ := Zw2.out; omega)) (by have q0_ := HL.out; have q1_ := HE.out; have q2_ := Zw1.out; have q3_ := LK1.out; have q4_ := EK1.out; have q5_ := Zw2.out; omega) (by omega) ?_)
  case hw => rfl
  case ho => rfl
  case hz => rfl
  case h3 => decide
  case h4 => decide
  case hs => go_simp
  case hx => go_simp
  intro v3 w3 hN3 hB3 hg3 hat3
  have hne0 : some g ≠ (Value.slice A L.length c).ownBlock := Kd.N_ne HN.out HK.out (by decide)
  have hne1 : some gK1 ≠ (Value.slice A L.length c).ownBlock := fun e => by have := hrow _ e.symm; have q0_ := HL.out; have q1_ := HE.out; have q2_ := Zw1.out; have q3_ := LK1.out; have q4_ := EK1.out; have q5_ := Zw2.out; omega
  have HK3 := Aside0.mk (blk_grown HK.out hg3 hne0)
  have K13 := Aside0.mk (blk_grown K1.out hg3 hne1)
  have hv3 := Kd.N_val hN3
  obtain ⟨hv31, hv32⟩ := hv3
  refine ⟨fun _ => ⟨(blk_cell HK3.out 0).trans rfl, (blk_cell K13.out 0).trans rfl, (blk_cell K13.out 1).trans rfl, (blk_cell K13.out 2).trans rfl⟩, ?_⟩
  refine wpAnyT_one (i := 9) (by kernel_rfl) ?_
  refine wpOp_value rfl (by kernel_rfl) (v := .pointer (some ⟨g, 0, none⟩)) (w1 := w3) (by go_simp) ⟨fun _ => ⟨(blk_cell HK3.out 0).trans rfl, (blk_cell K13.out 0).trans rfl, (blk_cell K13.out 1).trans rfl, (blk_cell K13.out 2).trans rfl⟩, ?_⟩
  refine wpAnyT_one (i := 10) (by kernel_rfl) ?_
  refine wpOp_value rfl (by kernel_rfl) (v := .pointer (some ⟨g, 0, none⟩)) (w1 := w3) (by go_simp) ⟨fun _ => ⟨(blk_cell HK3.out 0).trans rfl, (blk_cell K13.out 0).trans rfl, (blk_cell K13.out 1).trans rfl, (blk_cell K13.out 2).trans rfl⟩, ?_⟩
  refine wpAnyT_one (i := 11) (by kernel_rfl) ?_
  refine wpOp_store rfl ?hw ?hN 35 (.tmp 21) (.tmp 19) ?ho HK3.out (i := 0) ?ha v3 ?hx [v3] hv31 ?ht (by simp) (by simpa using hv32) [v3] ?hc ?_
  case hw => rfl
  case hN => rfl
  case ho => rfl
  case ha => go_simp
  case hx => go_simp
  case ht => kernel_rfl
  case hc => rfl
  intro w4 hb4 hc4
  refine ⟨fun h => (by cases h), wpAnyT_done (by kernel_rfl) ?_⟩
  simp only [Act.put, List.setIfInBounds_toArray, List.set_cons_zero, List.set_cons_succ]
  go_wp2
  go_ret
  refine ⟨rfl, ⟨v3, hb4, .inl hF, HE.out, ?_, ?_⟩, ?_⟩
  · have h1 := Chg.N hc4 (Kd.N_bound hN3) (fun k hk he => by
      subst he
      have q0_ := HL.out; have q1_ := HE.out; have q2_ := Zw1.out; have q3_ := LK1.out; have q4_ := EK1.out; have q5_ := Zw2.out; omega)
    refine Kd.N_mono h1 (fun k hk => ?_)
    have q1 := hc4.size
    rcases hk.1 with ⟨⟨h1, h2⟩, h3⟩ | h1
    · exact ⟨.inl h1, h2⟩
    · exact ⟨.inr ⟨h1, by have q0_ := HL.out; have q1_ := HE.out; have q2_ := Zw1.out; have q3_ := LK1.out; have q4_ := EK1.out; have q5_ := Zw2.out; omega⟩, by have q0_ := HL.out; have q1_ := HE.out; have q2_ := Zw1.out; have q3_ := LK1.out; have q4_ := EK1.out; have q5_ := Zw2.out; omega⟩
  · intro q hq
    rcases List.mem_append.1 hq with hq | hq
    · exact hL q hq
    · rw [List.mem_singleton.1 hq]; exact hl
  · have e2 : Chg F w w2 := Chg.of_below HB.out
    have e3 : Chg F w2 w3 := Chg.of_grown hg3 (fun k hk => (HN.out.1 k hk).1.1)
    exact (e2.trans e3 (fun _ h => .inl h)).trans hc4 (fun k h => by subst h; exact .inl hF)

set_option maxHeartbeats 400000 in
theorem put_full (B : Nat) (w : World) (g : Nat) (F : Nat → Prop) (L : List S29) (h : BagIs B w g F L) (a b : Int) (pv : Value) (hlt : 4096 ≤ L.length) :
    Calls Try.prog 9 #[.pointer (some ⟨g, 0, none⟩), .agg #[.int .i64 a, .int .i64 b, pv]] w fun e w' => e = .returned (.int .i64 133) ∧ Below w.heap.size w w' := by
  obtain ⟨v, hb, hF, hg, hN, hL⟩ := h
  obtain ⟨A, c, rfl⟩ := Kd.N_slice hN
  have HK := Aside0.mk hb
  have HB := Aside0.mk (Below.refl w.heap.size w)
  have hlt' : (4096 : Int) ≤ (L.length : Int) := by omega
  clear hb hN hg hL hF hlt
  go_enter Try.func9, Try.ntmps9
  go_wp2_with (first
    | ((with_reducible refine gate_dst (N := 3) rfl ?_); refine box_event ?hg (N := 3) ?hd (cs := #[.int .i64 a, .int .i64 b, pv]) (t := 29) ?hr ?_; (case hd => rfl); (case hg => rfl); (case hr => first | (go_simp; done) | (go_simp; rfl)); intro gK1 hg w1 hbox hb; have Zw1 := Aside0.mk (hb.size); have HK_ := Aside0.mk (blk_below HK.out hb); clear HK; have HK := HK_; clear HK_; have HB_ := Aside0.mk (below_step HB.out hb); clear HB; have HB := HB_; clear HB_; have K1 := Aside0.mk hbox; have LK1 := Aside0.mk (show gK1 + 1 ≤ w1.heap.size from blk_lt hbox); have EK1 := Aside0.mk hg; clear hg hbox hb; (try clear cHK_0 zHK_0); have cHK_0 := (blk_cell HK.out 0).trans (show _ = some (Value.slice A L.length c) from rfl); have zHK_0 := blk_frozen HK.out 0; (try clear cK1_0 zK1_0); have cK1_0 := (blk_cell K1.out 0).trans (show _ = some (.int .i64 a) from rfl); have zK1_0 := blk_frozen K1.out 0; (try clear cK1_1 zK1_1); have cK1_1 := (blk_cell K1.out 1).trans (show _ = some (.int .i64 b) from rfl); have zK1_1 := blk_frozen K1.out 1; (try clear cK1_2 zK1_2); have cK1_2 := (blk_cell K1.out 2).trans (show _ = some (pv) from rfl); have zK1_2 := blk_frozen K1.out 2)
    | fail)
  go_ret
  exact ⟨rfl, HB.out⟩

set_option maxHeartbeats 400000 in
theorem new_calls (B : Nat) (w : World) (hB : B ≤ w.heap.size) :
    Calls Try.prog 8 #[] w fun e w' => ∃ g, e = .returned (.pointer (some ⟨g, 0, none⟩)) ∧ BagIs B w' g (fun k => k = g) [] ∧ Below w.heap.size w w' ∧ w.heap.size ≤ g ∧ g < w'.heap.size := by
  have HB := Aside0.mk (Below.refl w.heap.size w)
  go_enter Try.func8, Try.ntmps8
  go_wp2_with (first
    | ((with_reducible refine gate_dst (N := 2) rfl ?_); refine box_event ?hg (N := 2) ?hd (cs := #[.slice none 0 0]) (t := 50) ?hr ?_; (case hd => rfl); (case hg => rfl); (case hr => first | (go_simp; done) | (go_simp; rfl)); intro gK1 hg w1 hbox hb; have Zw1 := Aside0.mk (hb.size); have HB_ := Aside0.mk (below_step HB.out hb); clear HB; have HB := HB_; clear HB_; have K1 := Aside0.mk hbox; have LK1 := Aside0.mk (show gK1 + 1 ≤ w1.heap.size from blk_lt hbox); have EK1 := Aside0.mk hg; clear hg hbox hb; (try clear cK1_0 zK1_0); have cK1_0 := (blk_cell K1.out 0).trans (show _ = some (.slice none 0 0) from rfl); have zK1_0 := blk_frozen K1.out 0)
    | fail)
  go_ret
  have q1 := EK1.out
  exact ⟨gK1, rfl, ⟨_, K1.out, rfl, by omega, Kd.N_nil _ _ _ _ _, by simp⟩, HB.out, by omega, blk_lt K1.out⟩

/-- What a packet of the bag reads as. -/
abbrev pkAt (L : List S29) (i : Int) : S29 := rd_T29 L i
set_option maxHeartbeats 1000000 in
theorem at_calls (B : Nat) (w : World) (g : Nat) (F : Nat → Prop) (L : List S29) (h : BagIs B w g F L) (i : Int) (h0 : 0 ≤ i) (h1 : i < L.length) :
    Calls Try.prog 10 #[.pointer (some ⟨g, 0, none⟩), .int .i64 i] w fun e w' => ∃ v', e = .returned (.tuple #[.agg #[.int .i64 (pkAt L i).f0, .int .i64 (pkAt L i).f1, v'], .int .i64 0]) ∧ Kd.R B8 5 w' w.heap.size (fun k => w.heap.size ≤ k) v' (pkAt L i).f2 ∧ Below w.heap.size w w' := by
  obtain ⟨v, hb, hF, hg, hN, hL⟩ := h
  obtain ⟨A, c, rfl⟩ := Kd.N_slice hN
  obtain ⟨ad, A2, c2, rfl, x0, x1, x2, l2, hC⟩ := at_T29 (Kd.N_reads' hN).2.2 i h0 h1
  have hl : (pkAt L i).f2.length ≤ 140737488351232 := hL _ (by
    show L.getD i.toNat z29 ∈ L
    rw [List.getD_eq_getElem?_getD, List.getElem?_eq_getElem (by omega : i.toNat < L.length)]
    exact List.getElem_mem _)
  have HD := Aside0.mk (show Rd w (.slice A2 (pkAt L i).f2.length c2) (pkAt L i).f2 from ⟨A2, c2, rfl, l2, hC⟩)
  have X0 := Aside0.mk x0
  have X1 := Aside0.mk x1
  have X2 := Aside0.mk x2
  have HK := Aside0.mk hb
  have HB := Aside0.mk (Below.refl w.heap.size w)
  clear hb hN hg hL hF hC l2 x0 x1 x2
  have hi : i < (L.length : Int) := h1
  go_enter Try.func10, Try.ntmps10
  go_wp2_with (first
    | ((with_reducible refine gate_dst (N := 4) rfl ?_); refine box_event ?hg (N := 4) ?hd (cs := #[.int .i64 0, .int .i64 0, .slice none 0 0]) (t := 29) ?hr ?_; (case hd => rfl); (case hg => rfl); (case hr => first | (go_simp; done) | (go_simp; rfl)); intro gK4 hg w1 hbox hb; have Zw1 := Aside0.mk (hb.size); have HK_ := Aside0.mk (blk_below HK.out hb); clear HK; have HK := HK_; clear HK_; have HB_ := Aside0.mk (below_step HB.out hb); clear HB; have HB := HB_; clear HB_; have HD_ := Aside0.mk (Rd.below HD.out hb); clear HD; have HD := HD_; clear HD_; have X0_ := Aside0.mk (pw_cell_below hb X0.out); clear X0; have X0 := X0_; clear X0_; have X1_ := Aside0.mk (pw_cell_below hb X1.out); clear X1; have X1 := X1_; clear X1_; have X2_ := Aside0.mk (pw_cell_below hb X2.out); clear X2; have X2 := X2_; clear X2_; have K4 := Aside0.mk hbox; have LK4 := Aside0.mk (show gK4 + 1 ≤ w1.heap.size from blk_lt hbox); have EK4 := Aside0.mk hg; clear hg hbox hb; (try clear xX0); have xX0 := X0.out; (try clear xX1); have xX1 := X1.out; (try clear xX2); have xX2 := X2.out; (try clear cHK_0 zHK_0); have cHK_0 := (blk_cell HK.out 0).trans (show _ = some (Value.slice (some ad) L.length c) from rfl); have zHK_0 := blk_frozen HK.out 0; (try clear cK4_0 zK4_0); have cK4_0 := (blk_cell K4.out 0).trans (show _ = some (.int .i64 0) from rfl); have zK4_0 := blk_frozen K4.out 0; (try clear cK4_1 zK4_1); have cK4_1 := (blk_cell K4.out 1).trans (show _ = some (.int .i64 0) from rfl); have zK4_1 := blk_frozen K4.out 1; (try clear cK4_2 zK4_2); have cK4_2 := (blk_cell K4.out 2).trans (show _ = some (.slice none 0 0) from rfl); have zK4_2 := blk_frozen K4.out 2)
    | (go_at_call 18; refine (bagClone_calls (pkAt L i).f0 (pkAt L i).f1 _ (pkAt L i).f2 _ HD.out hl).mono ?_; rintro e w2 ⟨v', rfl, hr, hb⟩; have Zw2 := Aside0.mk (hb.size); have HK_ := Aside0.mk (blk_below HK.out hb); clear HK; have HK := HK_; clear HK_; have HB_ := Aside0.mk (below_step HB.out hb); clear HB; have HB := HB_; clear HB_; have HD_ := Aside0.mk (Rd.below HD.out hb); clear HD; have HD := HD_; clear HD_; have X0_ := Aside0.mk (pw_cell_below hb X0.out); clear X0; have X0 := X0_; clear X0_; have X1_ := Aside0.mk (pw_cell_below hb X1.out); clear X1; have X1 := X1_; clear X1_; have X2_ := Aside0.mk (pw_cell_below hb X2.out); clear X2; have X2 := X2_; clear X2_; have K4_ := Aside0.mk (blk_below K4.out hb); clear K4; have K4 := K4_; clear K4_; have HR := Aside0.mk (R_in hr); clear HD; clear X0; clear X1; clear X2; clear HK; have hv' := Kd.N_val (Kd.R_N HR.out); obtain ⟨hv1', hv2'⟩ := hv'; clear hr hb; (try clear cK4_0 zK4_0); have cK4_0 := (blk_cell K4.out 0).trans (show _ = some (.int .i64 0) from rfl); have zK4_0 := blk_frozen K4.out 0; (try clear cK4_1 zK4_1); have cK4_1 := (blk_cell K4.out 1).trans (show _ = some (.int .i64 0) from rfl); have zK4_1 := blk_frozen K4.out 1; (try clear cK4_2 zK4_2); have cK4_2 := (blk_cell K4.out 2).trans (show _ = some (.slice none 0 0) from rfl); have zK4_2 := blk_frozen K4.out 2)
    | ((with_reducible refine gate_store (t := 29) (p := 4) (v := .tmp 25) rfl ?_); refine store_ev rfl rfl 29 (.tmp 4) (.tmp 25) rfl K4.out (i := 0) rfl (.agg #[.int .i64 (pkAt L i).f0, .int .i64 (pkAt L i).f1, v']) rfl [.int .i64 (pkAt L i).f0, .int .i64 (pkAt L i).f1, v'] ?hu ?ht (by simp) ?h1 ([.int .i64 (pkAt L i).f0, .int .i64 (pkAt L i).f1, v']) rfl ?_; (case hu => first | rfl | (simp [*]; done)); (case ht => kernel_rfl); (case h1 => (intro q hq; (repeat (rcases List.mem_cons.1 hq with rfl | hq; · first | rfl | assumption)); exact absurd hq (by simp))); intro w3 hst hc; have Zw3 := Aside0.mk (hc.size); have HB_ := Aside0.mk (Chg.below HB.out hc HB.out.size (fun k he => by subst he; have q0_ := Zw1.out; have q1_ := LK4.out; have q2_ := EK4.out; have q3_ := Zw2.out; omega)); have HR_ := Aside0.mk (Chg.R hc HR.out (fun k hk he => by subst he; have q0_ := Zw1.out; have q1_ := LK4.out; have q2_ := EK4.out; have q3_ := Zw2.out; omega)); clear HB; have HB := HB_; clear HB_; clear HR; have HR := HR_; clear HR_; clear K4; have K4 := Aside0.mk hst; clear hst hc; (try clear cK4_0 zK4_0); have cK4_0 := (blk_cell K4.out 0).trans (show _ = some (.int .i64 (pkAt L i).f0) from rfl); have zK4_0 := blk_frozen K4.out 0; (try clear cK4_1 zK4_1); have cK4_1 := (blk_cell K4.out 1).trans (show _ = some (.int .i64 (pkAt L i).f1) from rfl); have zK4_1 := blk_frozen K4.out 1; (try clear cK4_2 zK4_2); have cK4_2 := (blk_cell K4.out 2).trans (show _ = some (v') from rfl); have zK4_2 := blk_frozen K4.out 2)
    | fail)
  refine bodyPost_ret (results_ct rfl _ _ gK4 29 _ (0, 0) _ rfl K4.out Try.underlying29 rfl (by kernel_rfl)) rfl ⟨v', rfl, ?_, HB.out⟩
  exact Kd.R_mono (Kd.R_lower HR.out (by have q0_ := Zw1.out; have q1_ := LK4.out; have q2_ := EK4.out; have q3_ := Zw2.out; have q4_ := Zw3.out; omega)) (fun k hk => by have q0_ := Zw1.out; have q1_ := LK4.out; have q2_ := EK4.out; have q3_ := Zw2.out; have q4_ := Zw3.out; omega)

set_option maxHeartbeats 1000000 in
theorem at_out (B : Nat) (w : World) (g : Nat) (F : Nat → Prop) (L : List S29) (h : BagIs B w g F L) (i : Int) (h0 : i < 0 ∨ (L.length : Int) ≤ i) :
    Calls Try.prog 10 #[.pointer (some ⟨g, 0, none⟩), .int .i64 i] w fun e w' => e = .returned (.tuple #[.agg #[.int .i64 0, .int .i64 0, .slice none 0 0], .int .i64 132]) ∧ Below w.heap.size w w' := by
  obtain ⟨v, hb, hF, hg, hN, hL⟩ := h
  obtain ⟨A, c, rfl⟩ := Kd.N_slice hN
  have HK := Aside0.mk hb
  have HB := Aside0.mk (Below.refl w.heap.size w)
  clear hb hN hg hL hF
  rcases Int.lt_or_le i 0 with hi | hi
  · clear h0
    go_enter Try.func10, Try.ntmps10
    go_wp2_with (first
      | ((with_reducible refine gate_dst (N := 4) rfl ?_); refine box_event ?hg (N := 4) ?hd (cs := #[.int .i64 0, .int .i64 0, .slice none 0 0]) (t := 29) ?hr ?_; (case hd => rfl); (case hg => rfl); (case hr => first | (go_simp; done) | (go_simp; rfl)); intro gK4 hg w1 hbox hb; have Zw1 := Aside0.mk (hb.size); have HK_ := Aside0.mk (blk_below HK.out hb); clear HK; have HK := HK_; clear HK_; have HB_ := Aside0.mk (below_step HB.out hb); clear HB; have HB := HB_; clear HB_; have K4 := Aside0.mk hbox; have LK4 := Aside0.mk (show gK4 + 1 ≤ w1.heap.size from blk_lt hbox); have EK4 := Aside0.mk hg; clear hg hbox hb; (try clear cHK_0 zHK_0); have cHK_0 := (blk_cell HK.out 0).trans (show _ = some (Value.slice A L.length c) from rfl); have zHK_0 := blk_frozen HK.out 0; (try clear cK4_0 zK4_0); have cK4_0 := (blk_cell K4.out 0).trans (show _ = some (.int .i64 0) from rfl); have zK4_0 := blk_frozen K4.out 0; (try clear cK4_1 zK4_1); have cK4_1 := (blk_cell K4.out 1).trans (show _ = some (.int .i64 0) from rfl); have zK4_1 := blk_frozen K4.out 1; (try clear cK4_2 zK4_2); have cK4_2 := (blk_cell K4.out 2).trans (show _ = some (.slice none 0 0) from rfl); have zK4_2 := blk_frozen K4.out 2)
      | fail)
    have q1 := EK4.out
    exact bodyPost_ret (results_ct rfl _ _ gK4 29 _ (0, 0) _ rfl (blk_set (blk_set (blk_set K4.out 0 _) 1 _) 2 _) Try.underlying29 rfl (by kernel_rfl)) rfl ⟨rfl, below_set (below_set (below_set HB.out (by omega)) (by omega)) (by omega)⟩
  · have hj : (L.length : Int) ≤ i := h0.resolve_left (by omega)
    clear h0
    go_enter Try.func10, Try.ntmps10
    go_wp2_with (first
      | ((with_reducible refine gate_dst (N := 4) rfl ?_); refine box_event ?hg (N := 4) ?hd (cs := #[.int .i64 0, .int .i64 0, .slice none 0 0]) (t := 29) ?hr ?_; (case hd => rfl); (case hg => rfl); (case hr => first | (go_simp; done) | (go_simp; rfl)); intro gK4 hg w1 hbox hb; have Zw1 := Aside0.mk (hb.size); have HK_ := Aside0.mk (blk_below HK.out hb); clear HK; have HK := HK_; clear HK_; have HB_ := Aside0.mk (below_step HB.out hb); clear HB; have HB := HB_; clear HB_; have K4 := Aside0.mk hbox; have LK4 := Aside0.mk (show gK4 + 1 ≤ w1.heap.size from blk_lt hbox); have EK4 := Aside0.mk hg; clear hg hbox hb; (try clear cHK_0 zHK_0); have cHK_0 := (blk_cell HK.out 0).trans (show _ = some (Value.slice A L.length c) from rfl); have zHK_0 := blk_frozen HK.out 0; (try clear cK4_0 zK4_0); have cK4_0 := (blk_cell K4.out 0).trans (show _ = some (.int .i64 0) from rfl); have zK4_0 := blk_frozen K4.out 0; (try clear cK4_1 zK4_1); have cK4_1 := (blk_cell K4.out 1).trans (show _ = some (.int .i64 0) from rfl); have zK4_1 := blk_frozen K4.out 1; (try clear cK4_2 zK4_2); have cK4_2 := (blk_cell K4.out 2).trans (show _ = some (.slice none 0 0) from rfl); have zK4_2 := blk_frozen K4.out 2)
      | fail)
    have q1 := EK4.out
    exact bodyPost_ret (results_ct rfl _ _ gK4 29 _ (0, 0) _ rfl (blk_set (blk_set (blk_set K4.out 0 _) 1 _) 2 _) Try.underlying29 rfl (by kernel_rfl)) rfl ⟨rfl, below_set (below_set (below_set HB.out (by omega)) (by omega)) (by omega)⟩

theorem zeroP (w : World) : (zeroValue 29).run Try.prog w = .ok (.agg #[.int .i64 0, .int .i64 0, .slice none 0 0]) w := by kernel_rfl
set_option maxHeartbeats 4000000 in
theorem delete_calls (B : Nat) (w : World) (ok : Nat → Prop) (v : Value) (L : List S29) (hN : Kd.N k29 29 w B ok v L) (hB : B ≤ w.heap.size) (i : Nat) (hi : i < L.length) :
    Calls Try.prog 19 #[v, .int .i64 i, .int .i64 (i + 1)] w fun e w' => ∃ v', e = .returned v' ∧ Kd.N k29 29 w' B ok v' (L.eraseIdx i) ∧ Chg (fun k => some k = v.ownBlock) w w' := by
  obtain ⟨g, c, rfl, hg, hgl, _⟩ := Kd.N_form hN (by omega)
  have hnc := (Kd.N_reads' hN).2.1
  obtain ⟨inf, hinf, hinf2⟩ := Option.map_eq_some_iff.1 infoP
  simp only [Prod.mk.injEq] at hinf2
  obtain ⟨hinf3, hinf4, hinf5⟩ := hinf2
  have hc9 : (L.length : Int) ≤ 9223372036854775807 := by have := (Kd.N_reads' hN).2.2.2.1; omega
  obtain ⟨q13, hq13⟩ := cut3 (P := Try.prog) 35 29 Try.underlying35 hinf (some ⟨g, 0, none⟩) L.length c .i64 .i64 .i64 (i : Int) ((i : Int) + 1) (L.length : Int) (by omega) (by omega) (by omega) (by omega)
  have hto := cut_to (P := Try.prog) 35 29 .i64 Try.underlying35 hinf (some ⟨g, 0, none⟩) L.length c (i : Int) (by omega) (by omega) (by omega)
  have hfrom := cut_from (P := Try.prog) 35 29 .i64 Try.underlying35 hinf 3 hinf4 (some ⟨g, 0, none⟩) L.length c ((i : Int) + 1) (by omega) (by omega)
  have hback := cut_lh (P := Try.prog) 35 29 .i64 .i64 Try.underlying35 hinf 3 hinf4 (some ⟨g, 0, none⟩) (L.length - 1) c ((L.length : Int) - 1) (L.length : Int) (by omega) (by omega) (by omega)
  simp only [Int.toNat_natCast, (by omega : ((i : Int) + 1).toNat = i + 1), (by omega : ((L.length : Int) - 1).toNat = L.length - 1), if_neg (by omega : ¬ c = L.length - 1), Option.map_some, add_plain, (by omega : L.length - (L.length - 1) = 1)] at hto hfrom hback
  obtain ⟨A', hA'⟩ : ∃ A', A' = (if c = i + 1 then some (⟨g, 0, none⟩ : Addr) else some ⟨g, (i + 1) * 3, none⟩) := ⟨_, rfl⟩
  rw [← hA'] at hfrom
  have HA := Aside0.mk hA'
  clear hA'
  have hne : ((i : Int) == (i : Int) + 1) = false := by simp; omega
  have hadd : IntKind.i64.wrap ((i : Int) + 1) = (i : Int) + 1 := IntWalk.i64_in _ (by omega)
  have HN := Aside0.mk hN
  have HB := Aside0.mk hB
  have HI := Aside0.mk hi
  have hi0 : (0 : Int) ≤ (i : Int) := Int.natCast_nonneg _
  have hi1 : (i : Int) < (L.length : Int) := by omega
  clear hN hB hnc hgl hi hinf hinf3 hinf4 hinf5
  go_enter Try.func19, Try.ntmps19
  go_wp2_with fail
  refine wp_region_T (fun j => j == 9) (fun w' => True) (by kernel_rfl) ?_
  refine wpAnyT_take (i := 0) (v := .slice (some ⟨g, 0, none⟩) L.length c) rfl (by kernel_rfl) (by kernel_rfl) (by kernel_rfl) (fun _ _ _ h => h) (by kernel_rfl) (fun w_ hs_ => by (obtain _ := hs_); go_simp) trivial ?_
  refine wpAnyT_take (i := 1) (v := .int .i64 i) rfl (by kernel_rfl) (by kernel_rfl) (by kernel_rfl) (fun _ _ _ h => h) (by kernel_rfl) (fun w_ hs_ => by (obtain _ := hs_); go_simp) trivial ?_
  refine wpAnyT_take (i := 2) (v := .slice (some ⟨g, 0, none⟩) i c) rfl (by kernel_rfl) (by kernel_rfl) (by kernel_rfl) (fun _ _ _ h => h) (by kernel_rfl) (fun w_ hs_ => by (obtain _ := hs_); go_simp) trivial ?_
  refine wpAnyT_take (i := 3) (v := .slice (some ⟨g, 0, none⟩) L.length c) rfl (by kernel_rfl) (by kernel_rfl) (by kernel_rfl) (fun _ _ _ h => h) (by kernel_rfl) (fun w_ hs_ => by (obtain _ := hs_); go_simp) trivial ?_
  refine wpAnyT_take (i := 4) (v := .int .i64 ((i : Int) + 1)) rfl (by kernel_rfl) (by kernel_rfl) (by kernel_rfl) (fun _ _ _ h => h) (by kernel_rfl) (fun w_ hs_ => by (obtain _ := hs_); go_simp) trivial ?_
  refine wpAnyT_take (i := 5) (v := .slice A' (L.length - (i + 1)) (c - (i + 1))) rfl (by kernel_rfl) (by kernel_rfl) (by kernel_rfl) (fun _ _ _ h => h) (by kernel_rfl) (fun w_ hs_ => by (obtain _ := hs_); go_simp) trivial ?_
  refine wpAnyT_one (i := 6) (by kernel_rfl) ?_
  refine wpOp_step rfl (Kd.N_delete_step k29 (w0 := w) (W := w.drew) B ?hw (.tmp 22) (.tmp 25) 35 29 ?ho Try.underlying35 (by kernel_rfl) (g := g) (n := L.length) (c := c) (k := i) (m := L.length - (i + 1)) (c2 := c - (i + 1)) (A := A') ?hs ?hx (by rw [HA.out]; simp [add_plain, k29, Kd.iso, Kd.pair, Kd.int, Kd.scalar, Kd.slice]) rfl (Kd.N_drew HN.out) HI.out (below_drew (Below.refl _ _)) HB.out ?_)
  case hw => rfl
  case ho => rfl
  case hs => go_simp
  case hx => go_simp
  intro w1 hN1 hB1 hg1
  refine ⟨fun _ => trivial, ?_⟩
  refine wpAnyT_one (i := 7) (by kernel_rfl) ?_
  refine wpOp_value rfl (by kernel_rfl) (v := .slice (some ⟨g, 0, none⟩) (L.length - 1) c) (w1 := w1) (by go_simp) ⟨fun _ => trivial, ?_⟩
  refine wpAnyT_done (by kernel_rfl) ?_
  simp only [Act.put, List.setIfInBounds_toArray, List.set_cons_zero, List.set_cons_succ]
  have HN1 := Aside0.mk hN1
  obtain ⟨cur, hcur, hsz⟩ := N_row hN1
  have hLc := Aside0.mk (show L.length ≤ c from (Kd.N_reads' HN.out).2.1)
  have hIo := HI.out
  have hclr := fun ty => run_clear_one (P := Try.prog) 35 29 ty (.agg #[.int .i64 0, .int .i64 0, .slice none 0 0]) Try.underlying35 zeroP [.int .i64 0, .int .i64 0, .slice none 0 0] rfl (by simp [Value.oneCell']) (g := g) (o := (L.length - 1) * 3) (c := c - (L.length - 1)) hcur (by
    have := hLc.out
    have h3 : k29.sz = 3 := rfl
    rw [hsz, h3]
    have : (L.length - 1 + 1) * 3 ≤ c * 3 := Nat.mul_le_mul_right _ (by omega)
    simp only [List.length_cons, List.length_nil]
    omega)
  have hlen : ((L.length - 1 : Nat) : Int) = (L.length : Int) - 1 := by omega
  clear hN1 hB1 hcur hsz hto hfrom hadd hne hi0
  have HG := Aside0.mk hg1
  clear hg1
  go_wp2_with fail
  go_ret
  refine ⟨_, rfl, N_beyond HN1.out _ _ (Nat.le_refl _) ?_, ?_⟩
  · have := hLc.out
    show (L.length - 1) * 3 + 3 ≤ c * 3
    have : (L.length - 1 + 1) * 3 ≤ c * 3 := Nat.mul_le_mul_right _ (by omega)
    omega
  · have e1 : Chg (fun k => some k = (Value.slice (some ⟨g, 0, none⟩) L.length c).ownBlock) w w1 := undC (Chg.of_grown HG.out (fun k hk => hk.symm))
    exact e1.trans (Chg.setCells (S := fun k => some k = (Value.slice (some ⟨g, 0, none⟩) L.length c).ownBlock) w1 g _ _ rfl) (fun _ h => .inl h)
end Go.Proofs.Ytmfbkbklgjpllaa
