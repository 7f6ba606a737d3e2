/- slices.Clone of bytes. -/
import Derived.Test.YtpnelfefchdhcaaB1
namespace Go.Proofs.Ytpnelfefchdhcaa
open Go.RowKit Go.Proofs.YtpnelfefchdhcaaW.PrintWords Go.Proofs.YtpnelfefchdhcaaW.PrintLast Go.Proofs.YtpnelfefchdhcaaW.PrintMore
open Go.Proofs.Ytpnelfefchdhcaa.PChoosePicks
set_option linter.unusedVariables false
set_option linter.unusedSimpArgs false
set_option maxRecDepth 100000

abbrev B8 : Kd Int := Kd.int .u8
/-- Bytes as a row's cells. -/
def bts (xs : List Int) : List (List Value) := xs.map fun y => [Value.int .u8 y]
theorem info8 : (Try.prog.info? 5).map (fun i => (i.zero, i.size, i.bytes)) = some (some (.int .u8 0), 1, 1) := by kernel_rfl
/-- Bytes of the call's own. -/
abbrev byR (A : Option Addr) (n c : Nat) (xs : List Int) : Res := rowR 5 1 A n c (bts xs)
theorem C_to {α : Type} {d : Kd α} {w w1 : World} {A : Option Addr} {n : Nat} {xs : List α} {rs : List Res} (h : Kd.C d w A n xs) (H : Hp (fun _ => False) w w1 rs) : Kd.C d w1 A n xs := Kd.C_below h H.to_below
theorem byR_C {A : Option Addr} {c : Nat} {xs : List Int} {w : World} (h : (byR A xs.length c xs).ok w) : Kd.C B8 w A xs.length xs := (Kd.R_reads' (scalar_rowR (h1 := fun _ => rfl) h)).2.2
theorem byR_F {A : Option Addr} {c : Nat} {xs : List Int} {w : World} (h : (byR A xs.length c xs).ok w) : Kd.F B8 w (byR A xs.length c xs).fp A xs.length xs := Kd.R_F (scalar_rowR (h1 := fun _ => rfl) h)
theorem byR_le {A : Option Addr} {n c : Nat} {xs : List Int} {w : World} (h : (byR A n c xs).ok w) : n ≤ c := (rowR_len h).2.1

set_option maxHeartbeats 400000 in
theorem clone_c (A : Option Addr) (c : Nat) (xs : List Int) (w : World) (hC : Kd.C B8 w A xs.length xs) (hl : xs.length ≤ 140737488351232) :
    Calls Try.prog 22 #[.slice A xs.length c] w fun e w' => ∃ A' c', e = .returned (.slice A' xs.length c') ∧ Hp (fun _ => False) w w' [byR A' xs.length c' xs] := by
  cases A with
  | none =>
    have hx : xs = [] := by
      have := hC.2.2
      cases xs with
      | nil => rfl
      | cons x r => obtain ⟨ad, h, _⟩ := this (by simp); cases h
    subst hx
    have H := Hp.start (fun _ => False) w
    refine k_enter (args := [(.slice none 0 c)]) Try.func22 rfl Try.ntmps22 (Nat.le_of_ble_eq_true rfl) ?_
    refine wp_seq ?_
    refine k_list ?_
    refine l_cons (ev_run (v := (.slice none 0 0)) (w1 := w) rfl rfl (by kernel_rfl) ?_)
    refine l_nil ?_
    refine n_then ?_
    refine wp_seq ?_
    refine wp_seq ?_
    refine k_list ?_
    refine l_cons (ev_run (v := (.slice none 0 c)) (w1 := w) rfl rfl (by kernel_rfl) ?_)
    refine l_cons (ev_run (v := (.bool true)) (w1 := w) rfl rfl (by kernel_rfl) ?_)
    refine l_nil ?_
    refine n_then ?_
    refine k_true (by kernel_rfl) ?_
    refine wp_seq ?_
    refine k_list ?_
    refine l_cons (ev_run (v := (.slice none 0 0)) (w1 := w) rfl rfl (by kernel_rfl) ?_)
    refine l_nil ?_
    refine n_then ?_
    refine wp_ret ?_
    refine r_then ?_
    refine b_ret (v := (.slice none 0 0)) (resS rfl (.tmp (by kernel_rfl) .nil)) ?_
    exact ⟨none, 0, rfl, H.addE _ (rowR_nil _ _ _) (fun k hk => by cases hk)⟩
  | some ad =>
    have H := Hp.start (fun _ => False) w
    refine k_enter (args := [(.slice (some (ad)) xs.length c)]) Try.func22 rfl Try.ntmps22 (Nat.le_of_ble_eq_true rfl) ?_
    refine wp_seq ?_
    refine k_list ?_
    refine l_cons (ev_run (v := (.slice none 0 0)) (w1 := w) rfl rfl (by kernel_rfl) ?_)
    refine l_nil ?_
    refine n_then ?_
    refine wp_seq ?_
    refine wp_seq ?_
    refine k_list ?_
    refine l_cons (ev_run (v := (.slice (some (ad)) xs.length c)) (w1 := w) rfl rfl (by kernel_rfl) ?_)
    refine l_cons (ev_run (v := (.bool false)) (w1 := w) rfl rfl (by kernel_rfl) ?_)
    refine l_nil ?_
    refine n_then ?_
    refine k_false (by kernel_rfl) ?_
    refine wp_skip ?_
    refine n_then ?_
    refine wp_seq ?_
    refine k_list ?_
    refine l_cons (ev_newRow (cs := []) (t := 5) (len := 0) rfl rfl H (by kernel_rfl) ?_)
    intro g1 w1 H1 hg1 hbw1
    refine l_cons (ev_run (v := (.slice (some (ad)) xs.length c)) (w1 := w1) rfl rfl (by kernel_rfl) ?_)
    have H2 := H1.imp 0 rfl (rowR 5 1 (some ⟨g1, 0, none⟩) 0 0 ([] : List (List Value))) (fun h => rowR_blk h ([] : List (List Value)) rfl (by first | rfl | kernel_rfl) (by simp)) (fun k hk => (Option.some.inj hk).symm)
    refine l_cons (ev_append (e := 5) (sz := 1) (z := (.int .u8 0)) (bytes := 1) 0 (A := (some (⟨g1, 0, none⟩))) (m0 := 0) (c := 0) (rows := ([] : List (List Value))) (xs.map fun y => [Value.int .u8 y]) (some (ad)) xs.length c rfl rfl rfl Try.underlying26 (by kernel_rfl) rfl rfl rfl H2 rfl (by kernel_rfl) (by kernel_rfl) (by first | rfl | (simp; done) | assumption | omega) (fun j row hj => read_scalar (C_to hC H2) j row hj) (by first | omega | (simp; omega)) xs.length (by first | rfl | omega) ?_)
    intro Aa1 cc1 w2 H3 hcw2
    refine l_cons (ev_run (v := (.slice Aa1 xs.length cc1)) (w1 := w2) rfl rfl (by kernel_rfl) ?_)
    refine l_nil ?_
    refine n_then ?_
    refine wp_ret ?_
    refine b_ret (v := (.slice Aa1 xs.length cc1)) (resS rfl (.tmp (by kernel_rfl) .nil)) ?_
    exact ⟨_, _, rfl, H3⟩
end Go.Proofs.Ytpnelfefchdhcaa
