/- The bag for its callers: its blocks are told by a set that each call may widen by new blocks. -/
import Derived.Test.YtmfbkbklgjpllaaPBagCopiesx0
import Derived.Test.YtmfbkbklgjpllaaEv
import Derived.Lib.Hide
import Derived.WalkSpells
import Derived.Test.YtmfbkbklgjpllaaA3
import Derived.Test.YtmfbkbklgjpllaaPBagCopiesx1
namespace Go.Proofs.Ytmfbkbklgjpllaa
open Go.RowKit Go.Proofs.YtmfbkbklgjpllaaW.PrintWords Go.Proofs.YtmfbkbklgjpllaaW.PrintLast Go.Proofs.YtmfbkbklgjpllaaW.PrintMore
open Go.Proofs.Ytmfbkbklgjpllaa.PBagCopies
set_option linter.unusedVariables false
set_option linter.unusedSimpArgs false

/-- A bag whose blocks F lie from B on. -/
structure BagC (B : Nat) (w : World) (g : Nat) (F : Nat → Prop) (L : List S29) : Prop where
  is : BagIs B w g F L
  ge : ∀ k, F k → B ≤ k
  lt : ∀ k, F k → k < w.heap.size
theorem BagC.below {B : Nat} {w w1 : World} {g : Nat} {F : Nat → Prop} {L : List S29} (h : BagC B w g F L) (hb : Below w.heap.size w w1) : BagC B w1 g F L :=
  ⟨h.is.below hb, h.ge, fun k hk => Nat.lt_of_lt_of_le (h.lt k hk) hb.size⟩
theorem BagC.drew {B : Nat} {w : World} {g : Nat} {F : Nat → Prop} {L : List S29} (h : BagC B w g F L) : BagC B w.drew g F L := h.below (below_drew (Below.refl _ _))
theorem BagC.chg {B : Nat} {w w1 : World} {g : Nat} {F S : Nat → Prop} {L : List S29} (h : BagC B w g F L) (hc : Chg S w w1) (hn : ∀ k, F k → ¬ S k) : BagC B w1 g F L :=
  ⟨h.is.chg hc hn, h.ge, fun k hk => Nat.lt_of_lt_of_le (h.lt k hk) hc.size⟩
theorem BagC.small {B : Nat} {w : World} {g : Nat} {F : Nat → Prop} {L : List S29} (h : BagC B w g F L) (x : S29) (hx : x ∈ L) : x.f2.length ≤ 140737488351232 := h.is.choose_spec.2.2.2.2 x hx
theorem new_c (B : Nat) (w : World) (hB : B ≤ w.heap.size) : Calls Try.prog 8 #[] w fun e w' => ∃ g F, e = .returned (.pointer (some ⟨g, 0, none⟩)) ∧ BagC B w' g F [] ∧ Below w.heap.size w w' ∧ ∀ k, F k → w.heap.size ≤ k :=
  (new_calls B w hB).mono fun e w' ⟨g, he, hG, hb, h1, h2⟩ => ⟨g, _, he, ⟨hG, fun k hk => by subst hk; omega, fun k hk => by subst hk; exact h2⟩, hb, fun k hk => by subst hk; exact h1⟩
theorem put_c (B : Nat) (w : World) (g : Nat) (F : Nat → Prop) (L : List S29) (h : BagC B w g F L) (hB : B ≤ w.heap.size) (p : S29) (pv : Value) (hv : Rd w pv p.f2) (hl : p.f2.length ≤ 140737488351232) (hlt : L.length < 4096) :
    Calls Try.prog 9 #[.pointer (some ⟨g, 0, none⟩), .agg #[.int .i64 p.f0, .int .i64 p.f1, pv]] w fun e w' => ∃ F', e = .returned (.int .i64 0) ∧ BagC B w' g F' (L ++ [p]) ∧ Chg F w w' ∧ ∀ k, F' k → F k ∨ w.heap.size ≤ k :=
  (put_calls B w g F L h.is p pv hv hl hlt).mono fun e w' ⟨he, hG, hc⟩ => ⟨_, he, ⟨hG, fun k hk => hk.elim (h.ge k) (fun h => by omega), fun k hk => hk.elim (fun h1 => Nat.lt_of_lt_of_le (h.lt k h1) hc.size) (fun h => h.2)⟩, hc, fun k hk => hk.imp id (fun h => h.1)⟩
theorem copy_c (B : Nat) (w : World) (g : Nat) (F : Nat → Prop) (L : List S29) (h : BagC B w g F L) (hB : B ≤ w.heap.size) (i : Int) (h0 : 0 ≤ i) (h1 : i < L.length) (hlt : L.length < 4096) :
    Calls Try.prog 11 #[.pointer (some ⟨g, 0, none⟩), .int .i64 i] w fun e w' => ∃ F', e = .returned (.int .i64 0) ∧ BagC B w' g F' (L ++ [pkAt L i]) ∧ Chg F w w' ∧ ∀ k, F' k → F k ∨ w.heap.size ≤ k :=
  (copy_calls B w g F L h.is hB h.lt i h0 h1 hlt).mono fun e w' ⟨he, hG, hc⟩ => ⟨_, he, ⟨hG, fun k hk => hk.elim (h.ge k) (fun h => by omega), fun k hk => hk.elim (fun h1 => Nat.lt_of_lt_of_le (h.lt k h1) hc.size) (fun h => h.2)⟩, hc, fun k hk => hk.imp id (fun h => h.1)⟩
theorem take_c (B : Nat) (w : World) (g : Nat) (F : Nat → Prop) (L : List S29) (h : BagC B w g F L) (hB : B ≤ w.heap.size) (n : Nat) (hn : n < L.length) :
    Calls Try.prog 15 #[.pointer (some ⟨g, 0, none⟩), .int .i64 n] w fun e w' => ∃ v', e = .returned (.tuple #[.agg #[.int .i64 (pkAt L n).f0, .int .i64 (pkAt L n).f1, v'], .int .i64 0]) ∧ Kd.R B8 5 w' w.heap.size (fun k => w.heap.size ≤ k ∧ k < w'.heap.size) v' (pkAt L n).f2 ∧ BagC B w' g F (L.eraseIdx n) ∧ Chg F w w' :=
  (take_calls B w g F L h.is hB n hn).mono fun e w' ⟨v', he, hr, hG, hc⟩ => ⟨v', he, R_in hr, ⟨hG, h.ge, fun k hk => Nat.lt_of_lt_of_le (h.lt k hk) hc.size⟩, hc⟩
theorem at_c (B : Nat) (w : World) (g : Nat) (F : Nat → Prop) (L : List S29) (h : BagC B w g F L) (i : Int) (h0 : 0 ≤ i) (h1 : i < L.length) :
    Calls Try.prog 10 #[.pointer (some ⟨g, 0, none⟩), .int .i64 i] w fun e w' => ∃ v', e = .returned (.tuple #[.agg #[.int .i64 (pkAt L i).f0, .int .i64 (pkAt L i).f1, v'], .int .i64 0]) ∧ Kd.R B8 5 w' w.heap.size (fun k => w.heap.size ≤ k ∧ k < w'.heap.size) v' (pkAt L i).f2 ∧ Below w.heap.size w w' :=
  (at_calls B w g F L h.is i h0 h1).mono fun e w' ⟨v', he, hr, hb⟩ => ⟨v', he, R_in hr, hb⟩
theorem rd_get (L : List S29) (j : Nat) (h : j < L.length) : rd_T29 L (j : Int) = L[j] := by
  show L.getD (j : Int).toNat z29 = _
  rw [Int.toNat_natCast, List.getD_eq_getElem?_getD, List.getElem?_eq_getElem h]
  rfl
abbrev P1 : S29 := ⟨0, 1, []⟩
abbrev P2 : S29 := ⟨0, 2, []⟩
set_option maxHeartbeats 4000000 in
theorem alive_calls (w : World) : Calls Try.prog 7 #[] w fun e w' => e = .returned (.bool true) ∧ Below w.heap.size w w' := by
  have HB := Aside0.mk (Below.refl w.heap.size w)
  go_enter Try.func7, Try.ntmps7
  go_wp2_with (first
    | (go_at_call 8; refine (new_c w.heap.size _ HB.out.size).mono ?_; rintro e w1 ⟨g, F1, rfl, hG, hb, _⟩; have Zw1 := Aside0.mk (hb.size); have HB_ := Aside0.mk (below_step HB.out hb); clear HB; have HB := HB_; clear HB_; have HA := Aside0.mk (hG); clear hb hG)
    | (go_at_call_of 9 (Value.int IntKind.i64 1); refine (put_c w.heap.size _ g _ [] HA.out HB.out.size P1 _ (Rd.nil _) (by simp) (by simp)).mono ?_; rintro e w2 ⟨F2, rfl, hG, hc, _⟩; skip; have Zw2 := Aside0.mk (hc.size); have HB_ := Aside0.mk (Chg.below HB.out hc HB.out.size (fun k hk => HA.out.ge k hk)); clear HB; have HB := HB_; clear HB_; clear HA; have HA := Aside0.mk hG; have HLw2 := Aside0.mk hG.lt; clear hG hc)
    | (go_at_call_of 9 (Value.int IntKind.i64 2); refine (put_c w.heap.size _ g _ [P1] HA.out HB.out.size P2 _ (Rd.nil _) (by simp) (by simp)).mono ?_; rintro e w3 ⟨F3, rfl, hG, hc, _⟩; skip; have Zw3 := Aside0.mk (hc.size); have HB_ := Aside0.mk (Chg.below HB.out hc HB.out.size (fun k hk => HA.out.ge k hk)); clear HB; have HB := HB_; clear HB_; clear HA; have HA := Aside0.mk hG; have HLw3 := Aside0.mk hG.lt; clear hG hc)
    | (go_at_call 11; refine (copy_c w.heap.size _ g _ [P1, P2] HA.out HB.out.size 0 (by omega) (by simp) (by simp)).mono ?_; rintro e w4 ⟨F4, rfl, hG, hc, _⟩; skip; have Zw4 := Aside0.mk (hc.size); have HB_ := Aside0.mk (Chg.below HB.out hc HB.out.size (fun k hk => HA.out.ge k hk)); clear HB; have HB := HB_; clear HB_; clear HA; have HA := Aside0.mk hG; have HLw4 := Aside0.mk hG.lt; clear hG hc)
    | (go_at_call 15; refine (take_c w.heap.size _ g _ [P1, P2, P1] HA.out HB.out.size 1 (by simp)).mono ?_; rintro e w5 ⟨v', rfl, hr, hG, hc⟩; skip; have Zw5 := Aside0.mk (hc.size); have HB_ := Aside0.mk (Chg.below HB.out hc HB.out.size (fun k hk => HA.out.ge k hk)); clear HB; have HB := HB_; clear HB_; clear HA; have HA := Aside0.mk hG; have HLw5 := Aside0.mk hG.lt; have hv' := Kd.N_val (Kd.R_N hr); obtain ⟨hv1', hv2'⟩ := hv'; clear hG hc hr)
    | ((with_reducible refine gate_dst (N := 2) rfl ?_); refine box_event ?hg (N := 2) ?hd (cs := #[.int .i64 0, .int .i64 0, .slice none 0 0]) (t := 29) ?hr ?_; (case hd => rfl); (case hg => rfl); (case hr => first | (go_simp; done) | (go_simp; rfl)); intro gK2 hg w6 hbox hb; have Zw6 := Aside0.mk (hb.size); have HB_ := Aside0.mk (below_step HB.out hb); clear HB; have HB := HB_; clear HB_; have HA_ := Aside0.mk (BagC.below HA.out hb); clear HA; have HA := HA_; clear HA_; have K2 := Aside0.mk hbox; have LK2 := Aside0.mk (show gK2 + 1 ≤ w6.heap.size from blk_lt hbox); have EK2 := Aside0.mk hg; clear hg hbox hb; (try clear cK2_0 zK2_0); have cK2_0 := (blk_cell K2.out 0).trans (show _ = some (.int .i64 0) from rfl); have zK2_0 := blk_frozen K2.out 0; (try clear cK2_1 zK2_1); have cK2_1 := (blk_cell K2.out 1).trans (show _ = some (.int .i64 0) from rfl); have zK2_1 := blk_frozen K2.out 1; (try clear cK2_2 zK2_2); have cK2_2 := (blk_cell K2.out 2).trans (show _ = some (.slice none 0 0) from rfl); have zK2_2 := blk_frozen K2.out 2)
    | ((with_reducible refine gate_store (t := 29) (p := 2) (v := .tmp 27) rfl ?_); refine store_ev rfl rfl 29 (.tmp 2) (.tmp 27) rfl K2.out (i := 0) rfl (.agg #[.int .i64 0, .int .i64 2, v']) rfl [.int .i64 0, .int .i64 2, v'] ?hu ?ht (by simp) ?h1 ([.int .i64 0, .int .i64 2, v']) rfl ?_; (case hu => first | rfl | (simp [*]; done)); (case ht => kernel_rfl); (case h1 => (intro q hq; (repeat (rcases List.mem_cons.1 hq with rfl | hq; · first | rfl | assumption)); exact absurd hq (by simp))); intro w7 hst hc; have Zw7 := Aside0.mk (hc.size); have HB_ := Aside0.mk (Chg.below HB.out hc HB.out.size (fun k he => by subst he; have q0_ := Zw1.out; have q1_ := Zw2.out; have q2_ := Zw3.out; have q3_ := Zw4.out; have q4_ := Zw5.out; have q5_ := Zw6.out; have q6_ := LK2.out; have q7_ := EK2.out; omega)); have HA_ := Aside0.mk (BagC.chg HA.out hc (fun k hk he => by have := HLw5.out k hk; subst he; have q0_ := Zw1.out; have q1_ := Zw2.out; have q2_ := Zw3.out; have q3_ := Zw4.out; have q4_ := Zw5.out; have q5_ := Zw6.out; have q6_ := LK2.out; have q7_ := EK2.out; omega)); clear HB; have HB := HB_; clear HB_; clear HA; have HA := HA_; clear HA_; clear K2; have K2 := Aside0.mk hst; clear hst hc; (try clear cK2_0 zK2_0); have cK2_0 := (blk_cell K2.out 0).trans (show _ = some (.int .i64 0) from rfl); have zK2_0 := blk_frozen K2.out 0; (try clear cK2_1 zK2_1); have cK2_1 := (blk_cell K2.out 1).trans (show _ = some (.int .i64 2) from rfl); have zK2_1 := blk_frozen K2.out 1; (try clear cK2_2 zK2_2); have cK2_2 := (blk_cell K2.out 2).trans (show _ = some (v') from rfl); have zK2_2 := blk_frozen K2.out 2)
    | (go_at_call 12; refine (len_calls w.heap.size _ g _ [P1, P1] HA.out.is).mono ?_; rintro e w8 ⟨rfl, rfl⟩; (try clear cK2_0 zK2_0); have cK2_0 := (blk_cell K2.out 0).trans (show _ = some (.int .i64 0) from rfl); have zK2_0 := blk_frozen K2.out 0; (try clear cK2_1 zK2_1); have cK2_1 := (blk_cell K2.out 1).trans (show _ = some (.int .i64 2) from rfl); have zK2_1 := blk_frozen K2.out 1; (try clear cK2_2 zK2_2); have cK2_2 := (blk_cell K2.out 2).trans (show _ = some (v') from rfl); have zK2_2 := blk_frozen K2.out 2)
    | fail)
  go_ret
  exact ⟨rfl, HB.out⟩
end Go.Proofs.Ytmfbkbklgjpllaa
