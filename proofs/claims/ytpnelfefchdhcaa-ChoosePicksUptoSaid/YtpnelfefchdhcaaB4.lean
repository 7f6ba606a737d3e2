/- choose.Pick: a copy of the request of the best prep. -/
import Derived.Test.YtpnelfefchdhcaaB2
import Derived.Test.YtpnelfefchdhcaaB3
namespace Go.Proofs.Ytpnelfefchdhcaa
open Go.RowKit Go.Proofs.YtpnelfefchdhcaaW.PrintWords Go.Proofs.YtpnelfefchdhcaaW.PrintLast Go.Proofs.YtpnelfefchdhcaaW.PrintMore
open Go.Proofs.Ytpnelfefchdhcaa.PChoosePicks
set_option linter.unusedVariables false
set_option linter.unusedSimpArgs false
set_option maxRecDepth 100000

theorem bestIn_mem {slot : Int} {l : List S30} {p : S45} (h : bestIn slot l = some p) : ∃ r ∈ l, p ∈ r.f5 := by
  have h1 : ∀ (ps : List S45) (b : Option S45), ps.foldl (betr slot) b = some p → b = some p ∨ p ∈ ps := by
    intro ps
    induction ps with
    | nil => intro b h; exact .inl h
    | cons q ps ih =>
      intro b h
      rw [List.foldl_cons] at h
      rcases ih _ h with h2 | h2
      · unfold betr at h2
        split at h2
        · injection h2 with h2; exact .inr (by simp [h2])
        · exact .inl h2
      · exact .inr (by simp [h2])
  have h2 : ∀ (l : List S30) (b : Option S45), l.foldl (fun b r => r.f5.foldl (betr slot) b) b = some p → b = some p ∨ ∃ r ∈ l, p ∈ r.f5 := by
    intro l
    induction l with
    | nil => intro b h; exact .inl h
    | cons r l ih =>
      intro b h
      rw [List.foldl_cons] at h
      rcases ih _ h with h3 | ⟨q, hq, hp⟩
      · rcases h1 _ _ h3 with h4 | h4
        · exact .inl h4
        · exact .inr ⟨r, by simp, h4⟩
      · exact .inr ⟨q, by simp [hq], hp⟩
  rcases h2 l none h with h3 | h3
  · cases h3
  · exact h3
/-- The request that a slot goes on with. -/
def reqOf : Option S45 → S36
  | none => z36
  | some p => p.f2
def pickOf (slot : Int) (l : List S30) : S36 := reqOf (bestIn slot l)
def ReqOk (r : S36) : Prop := r.f2.length ≤ 140737488351232 ∧ r.f3.length ≤ 140737488351232
def LOk (l : List S30) : Prop := ∀ r ∈ l, ∀ p ∈ r.f5, ReqOk p.f2
theorem pick_ok {slot : Int} {l : List S30} (h : LOk l) {p : S45} (hb : bestIn slot l = some p) : ReqOk p.f2 := by
  obtain ⟨r, hr, hp⟩ := bestIn_mem hb
  exact h r hr p hp
set_option maxHeartbeats 1000000 in
theorem pick_c (slot : Int) (A : Option Addr) (c : Nat) (l : List S30) (w : World) (hC : Kd.C k30 w A l.length l) (hok : LOk l) :
    Calls Try.prog 12 #[.int .i64 slot, .slice A l.length c] w fun e w' => ∃ A2 c2 A3 c3, e = .returned (.agg #[.int .i64 (pickOf slot l).f0, .int .i64 (pickOf slot l).f1, .slice A2 (pickOf slot l).f2.length c2, .slice A3 (pickOf slot l).f3.length c3]) ∧ Hp (fun _ => False) w w' [byR A2 (pickOf slot l).f2.length c2 (pickOf slot l).f2, byR A3 (pickOf slot l).f3.length c3 (pickOf slot l).f3] := by
  have H := Hp.start (fun _ => False) w
  refine k_enter (args := [(.int .i64 slot), (.slice A l.length c)]) Try.func12 rfl Try.ntmps12 (Nat.le_of_ble_eq_true rfl) ?_
  refine wp_seq ?_
  refine k_list ?_
  refine l_cons (ev_new (cs := [(.int .i64 0), (.int .i64 0), (.slice none 0 0), (.slice none 0 0)]) (t := 36) rfl rfl H (by kernel_rfl) ?_)
  intro g1 w1 H1 hg1 hbw1
  refine l_nil ?_
  refine n_then ?_
  refine wp_seq ?_
  refine k_list ?_
  refine l_cons (ev_run (v := (.int .i64 slot)) (w1 := w1) rfl rfl (by kernel_rfl) ?_)
  refine l_cons (ev_run (v := (.slice A l.length c)) (w1 := w1) rfl rfl (by kernel_rfl) ?_)
  refine l_cons (ev_call rfl rfl (f := 21) (args := #[(.int .i64 slot), (.slice A l.length c)]) (by kernel_rfl) (best_calls slot A c l w _ hC H1.to_below) ?_)
  rintro e w2 ⟨v, rfl, hp, hb⟩
  refine ⟨_, rfl, ?_⟩
  have H2 := H1.below hb
  rcases v with _ | q
  · skip
    have hbn := ptr_none hp
    refine l_cons (ev_run (v := (.pointer none)) (w1 := w2) rfl rfl (by kernel_rfl) ?_)
    refine l_nil ?_
    refine n_then ?_
    refine wp_seq ?_
    refine wp_seq ?_
    refine k_list ?_
    refine l_cons (ev_run (v := (.pointer none)) (w1 := w2) rfl rfl (by kernel_rfl) ?_)
    refine l_cons (ev_run (v := (.bool true)) (w1 := w2) rfl rfl (by kernel_rfl) ?_)
    refine l_nil ?_
    refine n_then ?_
    refine k_true (by kernel_rfl) ?_
    refine wp_seq ?_
    refine k_list ?_
    refine l_cons (ev_run (v := (.agg #[(.int .i64 0), (.int .i64 0), (.slice none 0 0), (.slice none 0 0)])) (w1 := w2) rfl rfl (by kernel_rfl) ?_)
    refine l_cons (ev_store (i := 0) rfl rfl rfl H2 (k := 0) rfl (by kernel_rfl) (.agg #[(.int .i64 0), (.int .i64 0), (.slice none 0 0), (.slice none 0 0)]) (by kernel_rfl) [(.int .i64 0), (.int .i64 0), (.slice none 0 0), (.slice none 0 0)] (by kernel_rfl) (by kernel_rfl) (by kernel_rfl) (by kernel_rfl) [(.int .i64 0), (.int .i64 0), (.slice none 0 0), (.slice none 0 0)] (by kernel_rfl) ?_)
    intro w3 H3 hcw3
    refine l_nil ?_
    refine n_then ?_
    refine wp_ret ?_
    refine r_then ?_
    refine b_ret (v := (.agg #[(.int .i64 0), (.int .i64 0), (.slice none 0 0), (.slice none 0 0)])) (resS rfl (.cell (⟨g1, 0, none⟩) [(.int .i64 0), (.int .i64 0), (.slice none 0 0), (.slice none 0 0)] (by kernel_rfl) (At.blk (H3.get 0 rfl) 0) (by kernel_rfl) .nil)) ?_
    have hpk : pickOf slot l = z36 := by rw [pickOf, hbn]; rfl
    rw [hpk]
    exact ⟨none, 0, none, 0, rfl, ((H3.sel [] (by decide)).addE _ (rowR_nil _ _ _) (fun k hk => by cases hk)).addE _ (rowR_nil _ _ _) (fun k hk => by cases hk)⟩
  · skip
    obtain ⟨p, A5, c5, A6, c6, A7, c7, hbs, hqA, l5, g5, l6, g6, l7, g7⟩ := ptr_some hp
    obtain ⟨ho2, ho3⟩ := pick_ok hok hbs
    refine l_cons (ev_run (v := (.pointer (some (q)))) (w1 := w2) rfl rfl (by kernel_rfl) ?_)
    refine l_nil ?_
    refine n_then ?_
    refine wp_seq ?_
    refine wp_seq ?_
    refine k_list ?_
    refine l_cons (ev_run (v := (.pointer (some (q)))) (w1 := w2) rfl rfl (by kernel_rfl) ?_)
    refine l_cons (ev_run (v := (.bool false)) (w1 := w2) rfl rfl (by kernel_rfl) ?_)
    refine l_nil ?_
    refine n_then ?_
    refine k_false (by kernel_rfl) ?_
    refine wp_skip ?_
    refine n_then ?_
    refine wp_seq ?_
    refine k_list ?_
    refine l_cons (ev_run (v := (.pointer (some (q)))) (w1 := w2) rfl rfl (by kernel_rfl) ?_)
    refine l_cons (ev_run (v := (.pointer (some (q)))) (w1 := w2) rfl rfl (by kernel_rfl) ?_)
    refine l_cons (ev_run (v := (.pointer (some ((q).add 3)))) (w1 := w2) rfl rfl (by kernel_rfl) ?_)
    refine l_cons (ev_run (v := (.agg #[(.int .i64 p.f2.f0), (.int .i64 p.f2.f1), (.slice A5 p.f2.f2.length c5), (.slice A6 p.f2.f3.length c6)])) (w1 := w2) rfl rfl (run_ld rfl (by kernel_rfl) (At.field (At.hp hqA H2 (fun h => h)) 3) (by kernel_rfl)) ?_)
    refine l_cons (ev_new (cs := [(.int .i64 0), (.int .i64 0), (.slice none 0 0), (.slice none 0 0)]) (t := 36) rfl rfl H2 (by kernel_rfl) ?_)
    intro g2 w4 H4 hg2 hbw4
    refine l_cons (ev_store (i := 0) rfl rfl rfl H4 (k := 0) rfl (by kernel_rfl) (.agg #[(.int .i64 p.f2.f0), (.int .i64 p.f2.f1), (.slice A5 p.f2.f2.length c5), (.slice A6 p.f2.f3.length c6)]) (by kernel_rfl) [(.int .i64 p.f2.f0), (.int .i64 p.f2.f1), (.slice A5 p.f2.f2.length c5), (.slice A6 p.f2.f3.length c6)] (by kernel_rfl) (by kernel_rfl) (by kernel_rfl) (by kernel_rfl) [(.int .i64 p.f2.f0), (.int .i64 p.f2.f1), (.slice A5 p.f2.f2.length c5), (.slice A6 p.f2.f3.length c6)] (by kernel_rfl) ?_)
    intro w5 H5 hcw5
    refine l_nil ?_
    refine n_then ?_
    refine wp_seq ?_
    refine r_start (m := 10) (fun j => Nat.beq j 7 || Nat.beq j 8 || Nat.beq j 9) (fun w' => Hp (fun _ => False) w w' [blk g2 [(.int .i64 p.f2.f0), (.int .i64 p.f2.f1), (.slice A5 p.f2.f2.length c5), (.slice A6 p.f2.f3.length c6)] 36, blk g1 [(.int .i64 0), (.int .i64 0), (.slice none 0 0), (.slice none 0 0)] 36]) (by kernel_rfl) rfl (by kernel_rfl) (fun _ _ _ _ _ h => h) ?_
    have H6 := H5.drew
    refine r_take (i := 0) (v := (.pointer (some (⟨g2, 2, none⟩)))) rfl (by kernel_rfl) (by kernel_rfl) (by kernel_rfl) rfl H6 (fun _ _ => by kernel_rfl) ?_
    refine r_take (i := 1) (v := (.slice A5 p.f2.f2.length c5)) rfl (by kernel_rfl) (by kernel_rfl) (by kernel_rfl) rfl H6 (fun w_ hs_ => (run_ld rfl (by kernel_rfl) (At.blk (hs_.get 0 rfl) 2) (by kernel_rfl))) ?_
    refine r_take (i := 3) (v := (.pointer (some (⟨g2, 3, none⟩)))) rfl (by kernel_rfl) (by kernel_rfl) (by kernel_rfl) rfl H6 (fun _ _ => by kernel_rfl) ?_
    refine r_take (i := 4) (v := (.slice A6 p.f2.f3.length c6)) rfl (by kernel_rfl) (by kernel_rfl) (by kernel_rfl) rfl H6 (fun w_ hs_ => (run_ld rfl (by kernel_rfl) (At.blk (hs_.get 0 rfl) 3) (by kernel_rfl))) ?_
    refine r_one (i := 2) (by kernel_rfl) rfl (ev_call (by kernel_rfl) rfl (f := 22) (args := #[(.slice A5 p.f2.f2.length c5)]) (by kernel_rfl) (clone_c A5 c5 p.f2.f2 _ (C_to g5 H6) (by assumption)) ?_)
    rintro e w6 ⟨Ac1, cc_1, rfl, hH_⟩
    refine ⟨_, rfl, ?_⟩
    have H7 := H6.join hH_
    have hb_ := hH_.to_below
    refine ⟨fun _ => (H7.sel [1, 2] (by decide)), ?_⟩
    refine r_take (i := 6) (v := (.pointer (some (⟨g2, 2, none⟩)))) rfl (by kernel_rfl) (by kernel_rfl) (by kernel_rfl) rfl (H7.sel [1, 2] (by decide)) (fun _ _ => by kernel_rfl) ?_
    refine r_one (i := 5) (by kernel_rfl) rfl (ev_call (by kernel_rfl) rfl (f := 22) (args := #[(.slice A6 p.f2.f3.length c6)]) (by kernel_rfl) (clone_c A6 c6 p.f2.f3 _ (C_to g6 H7) (by assumption)) ?_)
    rintro e w7 ⟨Ac2, cc_2, rfl, hH_⟩
    refine ⟨_, rfl, ?_⟩
    have H8 := H7.join hH_
    have hb_ := hH_.to_below
    refine ⟨fun _ => (H8.sel [2, 3] (by decide)), ?_⟩
    refine r_one (i := 7) (by kernel_rfl) rfl (ev_store (i := 2) (by kernel_rfl) rfl rfl H8 (k := 2) rfl (by kernel_rfl) (.slice Ac1 p.f2.f2.length cc_1) (by kernel_rfl) [(.slice Ac1 p.f2.f2.length cc_1)] (by kernel_rfl) (by kernel_rfl) (by kernel_rfl) (by kernel_rfl) [(.int .i64 p.f2.f0), (.int .i64 p.f2.f1), (.slice Ac1 p.f2.f2.length cc_1), (.slice A6 p.f2.f3.length c6)] (by kernel_rfl) ?_)
    intro w8 H9 hcw8
    refine ⟨fun h_ => Bool.noConfusion h_, ?_⟩
    refine r_one (i := 8) (by kernel_rfl) rfl (ev_run (v := (.pointer (some (⟨g2, 3, none⟩)))) (w1 := w8) (by kernel_rfl) rfl (by kernel_rfl) ?_)
    refine ⟨fun h_ => Bool.noConfusion h_, ?_⟩
    refine r_one (i := 9) (by kernel_rfl) rfl (ev_store (i := 3) (by kernel_rfl) rfl rfl H9 (k := 2) rfl (by kernel_rfl) (.slice Ac2 p.f2.f3.length cc_2) (by kernel_rfl) [(.slice Ac2 p.f2.f3.length cc_2)] (by kernel_rfl) (by kernel_rfl) (by kernel_rfl) (by kernel_rfl) [(.int .i64 p.f2.f0), (.int .i64 p.f2.f1), (.slice Ac1 p.f2.f2.length cc_1), (.slice Ac2 p.f2.f3.length cc_2)] (by kernel_rfl) ?_)
    intro w9 H10 hcw9
    refine ⟨fun h_ => Bool.noConfusion h_, ?_⟩
    refine r_done (by kernel_rfl) ?_
    refine n_then ?_
    refine wp_seq ?_
    refine k_list ?_
    refine l_cons (ev_run (v := (.agg #[(.int .i64 p.f2.f0), (.int .i64 p.f2.f1), (.slice Ac1 p.f2.f2.length cc_1), (.slice Ac2 p.f2.f3.length cc_2)])) (w1 := w9) rfl rfl (run_ld rfl (by kernel_rfl) (At.blk (H10.get 2 rfl) 0) (by kernel_rfl)) ?_)
    refine l_cons (ev_store (i := 0) rfl rfl rfl H10 (k := 3) rfl (by kernel_rfl) (.agg #[(.int .i64 p.f2.f0), (.int .i64 p.f2.f1), (.slice Ac1 p.f2.f2.length cc_1), (.slice Ac2 p.f2.f3.length cc_2)]) (by kernel_rfl) [(.int .i64 p.f2.f0), (.int .i64 p.f2.f1), (.slice Ac1 p.f2.f2.length cc_1), (.slice Ac2 p.f2.f3.length cc_2)] (by kernel_rfl) (by kernel_rfl) (by kernel_rfl) (by kernel_rfl) [(.int .i64 p.f2.f0), (.int .i64 p.f2.f1), (.slice Ac1 p.f2.f2.length cc_1), (.slice Ac2 p.f2.f3.length cc_2)] (by kernel_rfl) ?_)
    intro w10 H11 hcw10
    refine l_nil ?_
    refine n_then ?_
    refine wp_ret ?_
    refine b_ret (v := (.agg #[(.int .i64 p.f2.f0), (.int .i64 p.f2.f1), (.slice Ac1 p.f2.f2.length cc_1), (.slice Ac2 p.f2.f3.length cc_2)])) (resS rfl (.cell (⟨g1, 0, none⟩) [(.int .i64 p.f2.f0), (.int .i64 p.f2.f1), (.slice Ac1 p.f2.f2.length cc_1), (.slice Ac2 p.f2.f3.length cc_2)] (by kernel_rfl) (At.blk (H11.get 3 rfl) 0) (by kernel_rfl) .nil)) ?_
    have hpk : pickOf slot l = p.f2 := by rw [pickOf, hbs]; rfl
    rw [hpk]
    exact ⟨_, _, _, _, rfl, H11.sel [1, 0] (by decide)⟩
end Go.Proofs.Ytpnelfefchdhcaa
