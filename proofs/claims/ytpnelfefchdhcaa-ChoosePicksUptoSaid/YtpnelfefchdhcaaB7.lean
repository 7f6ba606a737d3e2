/- SameReq; the chapter's example is alive. -/
import Derived.Test.YtpnelfefchdhcaaB6
namespace Go.Proofs.Ytpnelfefchdhcaa
open Go.RowKit Go.Proofs.YtpnelfefchdhcaaW.PrintWords Go.Proofs.YtpnelfefchdhcaaW.PrintLast Go.Proofs.YtpnelfefchdhcaaW.PrintMore
open Go.Proofs.Ytpnelfefchdhcaa.PChoosePicks
set_option linter.unusedVariables false
set_option linter.unusedSimpArgs false
set_option maxRecDepth 100000

def same8 (a b : List Int) : Bool := (strOfNums a).toList == (strOfNums b).toList
theorem same8_self (a : List Int) : same8 a a = true := by simp [same8]
def sreq (a b : S36) : Bool := if a.f0 = b.f0 then if a.f1 = b.f1 then if same8 a.f2 b.f2 = true then same8 a.f3 b.f3 else false else false else false
theorem sreq_self (a : S36) : sreq a a = true := by simp [sreq, same8_self]
theorem sreq_f (a b : S36) : catenaryref05_SameReq.f a.f0 a.f1 a.f2 a.f3 b.f0 b.f1 b.f2 b.f3 = some (sreq a b) := by
  unfold catenaryref05_SameReq.f catenaryref01_Same.f sreq same8
  simp only [Option.bind_some]
  by_cases h1 : a.f0 = b.f0
  · rw [if_pos h1, if_pos h1]
    by_cases h2 : a.f1 = b.f1
    · rw [if_pos h2, if_pos h2]
      by_cases h3 : ((strOfNums a.f2).toList == (strOfNums b.f2).toList) = true
      · rw [if_pos h3, if_pos h3]
      · rw [if_neg h3, if_neg h3]
    · rw [if_neg h2, if_neg h2]
  · rw [if_neg h1, if_neg h1]
/-- What a request's cells lead to. -/
def RqC (w : World) (a : S36) (A2 : Option Addr) (c2 : Nat) (A3 : Option Addr) (c3 : Nat) : Prop := a.f2.length ≤ c2 ∧ Kd.C B8 w A2 a.f2.length a.f2 ∧ a.f3.length ≤ c3 ∧ Kd.C B8 w A3 a.f3.length a.f3
theorem samereq_c (a b : S36) {A2 A3 B2 B3 : Option Addr} {c2 c3 d2 d3 : Nat} (w : World) (ha : RqC w a A2 c2 A3 c3) (hb : RqC w b B2 d2 B3 d3) :
    Calls Try.prog 11 #[.agg #[.int .i64 a.f0, .int .i64 a.f1, .slice A2 a.f2.length c2, .slice A3 a.f3.length c3], .agg #[.int .i64 b.f0, .int .i64 b.f1, .slice B2 b.f2.length d2, .slice B3 b.f3.length d3]] w fun e w' => e = .returned (.bool (sreq a b)) ∧ Below w.heap.size w w' :=
  catenaryref05_SameReq.calls a.f0 a.f1 A2 c2 a.f2 A3 c3 a.f3 b.f0 b.f1 B2 d2 b.f2 B3 d3 b.f3 _ w ha.2.1 ha.1 ha.2.2.2 ha.2.2.1 hb.2.1 hb.1 hb.2.2.2 hb.2.2.1 (sreq_f a b)
theorem C_nil (w : World) : Kd.C B8 w none ([] : List Int).length [] := ⟨rfl, by simp, fun h => absurd h (Nat.lt_irrefl 0)⟩
theorem C_nil' {α : Type} (d : Kd α) (w : World) : Kd.C d w none ([] : List α).length [] := ⟨rfl, by simp, fun h => absurd h (Nat.lt_irrefl 0)⟩
def exP : S45 := ⟨6, z25, ⟨1, 2, [], []⟩, []⟩
def exL : List S30 := [z30, ⟨z25, 0, 4, [], [], [exP], []⟩]
theorem ex_picks : picksOf exL = [z36, ⟨1, 2, [], []⟩] := by kernel_rfl
theorem ex_wf : LWf exL := ⟨by decide, by decide, by intro r hr p hp; simp [exL, z30] at hr; rcases hr with rfl | rfl <;> simp at hp; subst hp; exact ⟨by simp [exP], by simp [exP]⟩⟩
theorem two_rows {α : Type} {rows : List (List α)} (h : rows.length = 2) : ∃ a b, rows = [a, b] := by
  match rows, h with
  | [a, b], _ => exact ⟨a, b, rfl⟩
set_option maxHeartbeats 1000000 in
theorem alive_c (w : World) : Calls Try.prog 5 #[] w fun e w' => e = .returned (.bool true) ∧ Below w.heap.size w w' := by
  have H := Hp.start (fun _ => False) w
  refine k_enter (args := []) Try.func5 rfl Try.ntmps5 (Nat.le_of_ble_eq_true rfl) ?_
  refine wp_seq ?_
  refine k_list ?_
  refine l_cons (ev_run (v := (.bool false)) (w1 := w) rfl rfl (by kernel_rfl) ?_)
  refine l_nil ?_
  refine n_then ?_
  refine wp_seq ?_
  refine k_list ?_
  refine l_cons (ev_run (v := (.agg #[(.int .i64 1), (.int .i64 2), (.slice none 0 0), (.slice none 0 0)])) (w1 := w) rfl rfl (by kernel_rfl) ?_)
  refine l_cons (ev_new (cs := [(.int .i64 0), (.int .i64 0), (.slice none 0 0), (.slice none 0 0)]) (t := 36) rfl rfl H (by kernel_rfl) ?_)
  intro g1 w1 H1 hg1 hbw1
  refine l_cons (ev_store (i := 0) rfl rfl rfl H1 (k := 0) rfl (by kernel_rfl) (.agg #[(.int .i64 1), (.int .i64 2), (.slice none 0 0), (.slice none 0 0)]) (by kernel_rfl) [(.int .i64 1), (.int .i64 2), (.slice none 0 0), (.slice none 0 0)] (by kernel_rfl) (by kernel_rfl) (by kernel_rfl) (by kernel_rfl) [(.int .i64 1), (.int .i64 2), (.slice none 0 0), (.slice none 0 0)] (by kernel_rfl) ?_)
  intro w2 H2 hcw2
  refine l_nil ?_
  refine n_then ?_
  refine wp_seq ?_
  refine k_list ?_
  refine l_cons (ev_run (v := (.agg #[(.int .i64 0), (.int .i64 0), (.int .i64 0), (.int .i64 0), (.slice none 0 0), (.slice none 0 0), (.slice none 0 0), (.slice none 0 0)])) (w1 := w2) rfl rfl (by kernel_rfl) ?_)
  refine l_cons (ev_run (v := (.agg #[(.int .i64 1), (.int .i64 2), (.slice none 0 0), (.slice none 0 0)])) (w1 := w2) rfl rfl (run_ld rfl (by kernel_rfl) (At.blk (H2.get 0 rfl) 0) (by kernel_rfl)) ?_)
  refine l_cons (ev_run (v := (.agg #[(.int .i64 6), (.int .i64 0), (.int .i64 0), (.int .i64 1), (.int .i64 2), (.slice none 0 0), (.slice none 0 0), (.slice none 0 0)])) (w1 := w2) rfl rfl (by kernel_rfl) ?_)
  refine l_cons (ev_newRow (cs := [(.int .i64 6), (.int .i64 0), (.int .i64 0), (.int .i64 1), (.int .i64 2), (.slice none 0 0), (.slice none 0 0), (.slice none 0 0)]) (t := 45) (len := 1) rfl rfl H2 (by kernel_rfl) ?_)
  intro g2 w3 H3 hg2 hbw3
  refine l_cons (ev_run (v := (.agg #[(.int .i64 0), (.int .i64 0), (.int .i64 0), (.int .i64 4), (.slice none 0 0), (.slice none 0 0), (.slice (some (⟨g2, 0, none⟩)) 1 1), (.slice none 0 0)])) (w1 := w3) rfl rfl (by kernel_rfl) ?_)
  refine l_cons (ev_newRow (cs := [(.int .i64 0), (.int .i64 0), (.int .i64 0), (.int .i64 0), (.slice none 0 0), (.slice none 0 0), (.slice none 0 0), (.slice none 0 0), (.int .i64 0), (.int .i64 0), (.int .i64 0), (.int .i64 4), (.slice none 0 0), (.slice none 0 0), (.slice (some (⟨g2, 0, none⟩)) 1 1), (.slice none 0 0)]) (t := 30) (len := 2) rfl rfl H3 (by kernel_rfl) ?_)
  intro g3 w4 H4 hg3 hbw4
  refine l_cons (ev_call rfl rfl (f := 14) (args := #[(.slice (some (⟨g3, 0, none⟩)) 2 2)]) (by kernel_rfl) (picks_c _ _ exL _ (C_of_blk (H4.get 0 rfl) [[.int .i64 0, .int .i64 0, .int .i64 0, .int .i64 0, .slice none 0 0, .slice none 0 0, .slice none 0 0, .slice none 0 0], [(.int .i64 0), (.int .i64 0), (.int .i64 0), (.int .i64 4), (.slice none 0 0), (.slice none 0 0), (.slice (some (⟨g2, 0, none⟩)) 1 1), (.slice none 0 0)]] rfl (by kernel_rfl) (by decide) rfl (fun j x c hx hc => by match j with | 0 => simp [exL] at hx hc; subst hx; subst hc; exact k30_mk _ z30 (Nat.le_refl 0) (C_nil _) (Nat.le_refl 0) (C_nil' _ _) (Nat.le_refl 0) (C_nil' _ _) (Nat.le_refl 0) (C_nil _) | 1 => simp [exL] at hx hc; subst hx; subst hc; exact k30_mk _ ⟨z25, 0, 4, [], [], [exP], []⟩ (Nat.le_refl 0) (C_nil _) (Nat.le_refl 0) (C_nil' _ _) (Nat.le_refl 1) (C_of_blk (xs := [exP]) (H4.get 1 rfl) [[.int .i64 6, .int .i64 0, .int .i64 0, .int .i64 1, .int .i64 2, .slice none 0 0, .slice none 0 0, .slice none 0 0]] rfl (by kernel_rfl) (by decide) rfl (fun j x c hx hc => by match j with | 0 => simp at hx hc; subst hx; subst hc; exact k45_mk _ exP (Nat.le_refl 0) (C_nil _) (Nat.le_refl 0) (C_nil _) (Nat.le_refl 0) (C_nil' _ _) | j + 1 => simp at hc)) (Nat.le_refl 0) (C_nil _) | j + 2 => simp at hc)) ex_wf) ?_)
  rintro e w5 ⟨Ax, cx, rows, Fx, rfl, hH_⟩
  refine ⟨_, rfl, ?_⟩
  obtain ⟨hrw, hel⟩ : (rowR 36 4 Ax (picksOf exL).length cx rows).ok w5 ∧ (elR k36 0 Fx (picksOf exL) rows).ok w5 := ⟨hH_.get 0 rfl, hH_.get 1 rfl⟩
  rw [ex_picks] at hH_ hrw hel
  obtain ⟨r0, r1, rfl⟩ := two_rows (rowR_len hrw).1.symm
  obtain ⟨B20, d20, B30, d30, rfl, m20, n20, m30, n30⟩ := k36_open (elR_fk hel 0 (Nat.zero_le _) z36 r0 rfl rfl)
  obtain ⟨B21, d21, B31, d31, rfl, m21, n21, m31, n31⟩ := k36_open (elR_fk hel 1 (Nat.zero_le _) _ r1 rfl rfl)
  obtain ⟨gx, rfl⟩ := rowR_some hrw (by decide)
  have hxa0 := At_row hrw 0 (by decide)
  have hxa1 := At_row hrw 1 (by decide)
  have hlx : (picksOf exL).length = 2 := by rw [ex_picks]; rfl
  rw [hlx]
  have H5 := H4.below hH_.to_below
  refine l_cons (ev_run (v := (.slice (some (⟨gx, 0, none⟩)) 2 cx)) (w1 := w5) rfl rfl (by kernel_rfl) ?_)
  refine l_nil ?_
  refine n_then ?_
  refine wp_seq ?_
  refine r_start (m := 18) (fun j => false) (fun w' => ((Hp (fun _ => False) w w' [blk g3 [(.int .i64 0), (.int .i64 0), (.int .i64 0), (.int .i64 0), (.slice none 0 0), (.slice none 0 0), (.slice none 0 0), (.slice none 0 0), (.int .i64 0), (.int .i64 0), (.int .i64 0), (.int .i64 4), (.slice none 0 0), (.slice none 0 0), (.slice (some (⟨g2, 0, none⟩)) 1 1), (.slice none 0 0)] 30, blk g2 [(.int .i64 6), (.int .i64 0), (.int .i64 0), (.int .i64 1), (.int .i64 2), (.slice none 0 0), (.slice none 0 0), (.slice none 0 0)] 45, blk g1 [(.int .i64 1), (.int .i64 2), (.slice none 0 0), (.slice none 0 0)] 36]) ∧ At w' (⟨gx, 0, none⟩) [(.int .i64 0), (.int .i64 0), (.slice B20 0 d20), (.slice B30 0 d30)]) ∧ At w' (⟨gx, 4, none⟩) [(.int .i64 1), (.int .i64 2), (.slice B21 0 d21), (.slice B31 0 d31)]) (by kernel_rfl) rfl (by kernel_rfl) (fun _ _ _ _ _ h => h) ?_
  have H6 := H5.drew
  have ha1 := At.below hxa0 (below_drew (Below.refl _ _))
  have ha2 := At.below hxa1 (below_drew (Below.refl _ _))
  refine r_take (i := 0) (v := (.slice (some (⟨gx, 0, none⟩)) 2 cx)) rfl (by kernel_rfl) (by kernel_rfl) (by kernel_rfl) rfl ⟨⟨H6, ha1⟩, ha2⟩ (fun _ _ => by kernel_rfl) ?_
  refine r_take (i := 1) (v := (.int .i64 2)) rfl (by kernel_rfl) (by kernel_rfl) (by kernel_rfl) rfl ⟨⟨H6, ha1⟩, ha2⟩ (fun _ _ => by kernel_rfl) ?_
  refine r_take (i := 2) (v := (.bool true)) rfl (by kernel_rfl) (by kernel_rfl) (by kernel_rfl) rfl ⟨⟨H6, ha1⟩, ha2⟩ (fun _ _ => by kernel_rfl) ?_
  refine r_take (i := 3) (v := (.bool true)) rfl (by kernel_rfl) (by kernel_rfl) (by kernel_rfl) rfl ⟨⟨H6, ha1⟩, ha2⟩ (fun _ _ => by kernel_rfl) ?_
  refine r_take (i := 4) (v := (.slice (some (⟨gx, 0, none⟩)) 2 cx)) rfl (by kernel_rfl) (by kernel_rfl) (by kernel_rfl) rfl ⟨⟨H6, ha1⟩, ha2⟩ (fun _ _ => by kernel_rfl) ?_
  refine r_take (i := 5) (v := (.pointer (some (⟨gx, 0, none⟩)))) rfl (by kernel_rfl) (by kernel_rfl) (by kernel_rfl) rfl ⟨⟨H6, ha1⟩, ha2⟩ (fun w_ hs_ => (run_ixa (sz := 4) (q := 0) (ad := ⟨gx, 0, none⟩) (len := 2) (cap := cx) (k := .i64) (z := 0) rfl (by kernel_rfl) (by kernel_rfl) rfl (by kernel_rfl) (by first | rfl | omega) (by first | omega | decide))) ?_
  refine r_take (i := 6) (v := (.pointer (some (⟨gx, 0, none⟩)))) rfl (by kernel_rfl) (by kernel_rfl) (by kernel_rfl) rfl ⟨⟨H6, ha1⟩, ha2⟩ (fun _ _ => by kernel_rfl) ?_
  refine r_take (i := 7) (v := (.int .i64 0)) rfl (by kernel_rfl) (by kernel_rfl) (by kernel_rfl) rfl ⟨⟨H6, ha1⟩, ha2⟩ (fun w_ hs_ => (run_ld rfl (by kernel_rfl) hs_.1.2 (by kernel_rfl))) ?_
  refine r_take (i := 8) (v := (.bool true)) rfl (by kernel_rfl) (by kernel_rfl) (by kernel_rfl) rfl ⟨⟨H6, ha1⟩, ha2⟩ (fun _ _ => by kernel_rfl) ?_
  refine r_take (i := 9) (v := (.bool true)) rfl (by kernel_rfl) (by kernel_rfl) (by kernel_rfl) rfl ⟨⟨H6, ha1⟩, ha2⟩ (fun _ _ => by kernel_rfl) ?_
  refine r_take (i := 10) (v := (.bool true)) rfl (by kernel_rfl) (by kernel_rfl) (by kernel_rfl) rfl ⟨⟨H6, ha1⟩, ha2⟩ (fun _ _ => by kernel_rfl) ?_
  refine r_take (i := 11) (v := (.slice (some (⟨gx, 0, none⟩)) 2 cx)) rfl (by kernel_rfl) (by kernel_rfl) (by kernel_rfl) rfl ⟨⟨H6, ha1⟩, ha2⟩ (fun _ _ => by kernel_rfl) ?_
  refine r_take (i := 12) (v := (.pointer (some (⟨gx, 4, none⟩)))) rfl (by kernel_rfl) (by kernel_rfl) (by kernel_rfl) rfl ⟨⟨H6, ha1⟩, ha2⟩ (fun w_ hs_ => (run_ixa (sz := 4) (q := 1) (ad := ⟨gx, 0, none⟩) (len := 2) (cap := cx) (k := .i64) (z := 1) rfl (by kernel_rfl) (by kernel_rfl) rfl (by kernel_rfl) (by first | rfl | omega) (by first | omega | decide))) ?_
  refine r_take (i := 13) (v := (.agg #[(.int .i64 1), (.int .i64 2), (.slice B21 0 d21), (.slice B31 0 d31)])) rfl (by kernel_rfl) (by kernel_rfl) (by kernel_rfl) rfl ⟨⟨H6, ha1⟩, ha2⟩ (fun w_ hs_ => (run_ld rfl (by kernel_rfl) hs_.2 (by kernel_rfl))) ?_
  refine r_take (i := 14) (v := (.agg #[(.int .i64 1), (.int .i64 2), (.slice none 0 0), (.slice none 0 0)])) rfl (by kernel_rfl) (by kernel_rfl) (by kernel_rfl) rfl ⟨⟨H6, ha1⟩, ha2⟩ (fun w_ hs_ => (run_ld rfl (by kernel_rfl) (At.blk (hs_.1.1.get 2 rfl) 0) (by kernel_rfl))) ?_
  refine r_one (i := 15) (by kernel_rfl) rfl (ev_call (by kernel_rfl) rfl (f := 11) (args := #[(.agg #[(.int .i64 1), (.int .i64 2), (.slice B21 0 d21), (.slice B31 0 d31)]), (.agg #[(.int .i64 1), (.int .i64 2), (.slice none 0 0), (.slice none 0 0)])]) (by kernel_rfl) (samereq_c ⟨1, 2, [], []⟩ ⟨1, 2, [], []⟩ _ ⟨m21, Kd.C_below n21 (below_drew (Below.refl _ _)), m31, Kd.C_below n31 (below_drew (Below.refl _ _))⟩ ⟨Nat.le_refl 0, C_nil _, Nat.le_refl 0, C_nil _⟩) ?_)
  rintro e w6 ⟨rfl, hb_⟩
  refine ⟨_, rfl, ?_⟩
  have H7 := H6.below hb_
  have ha3 := At.below ha1 hb_
  have ha4 := At.below ha2 hb_
  refine ⟨fun _ => ⟨⟨H7, ha3⟩, ha4⟩, ?_⟩
  refine r_take (i := 16) (v := (.bool true)) rfl (by kernel_rfl) (by kernel_rfl) (by kernel_rfl) rfl ⟨⟨H7, ha3⟩, ha4⟩ (fun _ _ => by kernel_rfl) ?_
  refine r_take (i := 17) (v := (.bool true)) rfl (by kernel_rfl) (by kernel_rfl) (by kernel_rfl) rfl ⟨⟨H7, ha3⟩, ha4⟩ (fun _ _ => by kernel_rfl) ?_
  refine r_done (by kernel_rfl) ?_
  refine n_then ?_
  refine wp_ret ?_
  refine b_ret (v := (.bool true)) (resS rfl (.tmp (by kernel_rfl) .nil)) ?_
  exact ⟨rfl, H7.to_below⟩
end Go.Proofs.Ytpnelfefchdhcaa
