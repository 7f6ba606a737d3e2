/- SHA-256 of bytes that came in. -/
import Derived.Test.YtokpdecpmcbcpaaV3
namespace Go.Proofs.Ytokpdecpmcbcpaa
open Go.RowKit Go.Proofs.YtokpdecpmcbcpaaW.PrintWords Go.Proofs.YtokpdecpmcbcpaaW.PrintLast Go.Proofs.YtokpdecpmcbcpaaW.PrintMore
open Go.Proofs.Ytokpdecpmcbcpaa.PVoteMakes
set_option linter.unusedVariables false
set_option linter.unusedSimpArgs false
set_option maxRecDepth 100000

theorem Hp.via {S0 : Nat → Prop} {W0 w w1 : World} {rs : List Res} {g t : Nat} {cs cs' : List Value} {q : Res} (h : Hp S0 W0 w rs) (i : Nat) (hi : rs[i]? = some (blk g cs t)) (K : Hp (fun k => k = g) w w1 [blk g cs' t, q]) : Hp S0 W0 w1 (q :: rs.set i (blk g cs' t)) :=
  h.upd2 i hi K.chg (blk g cs' t) q (K.get 0 rfl) (K.get 1 rfl) (fun k hk => hk) (fun k hk => (K.own q (by simp) k hk).elim (fun e => absurd hk (by subst e; exact K.apart 0 1 rfl rfl (by decide) k rfl)) id)
theorem F_away {w w1 : World} {A : Option Addr} {n : Nat} {xs : List Int} {rs : List Res} {g t : Nat} {cs : List Value} (hC : Kd.C B8 w A n xs) (H : Hp (fun _ => False) w w1 rs) (i : Nat) (hi : rs[i]? = some (blk g cs t)) : Kd.F B8 w1 (fun k => k ≠ g) A n xs :=
  Kd.F_mono (Kd.F_step (Kd.C_F (Kd.heap_int _) hC) (fun k hk _ => H.to_below.block k hk)) (fun k hk e => (H.own _ (List.mem_of_getElem? hi) k e).elim (fun h => h) (fun h => by omega))
/-- The hash of bytes. -/
def shaF (xs : List Int) : List Int := sumF (wst xs) (wrest xs) (wsz xs.length)
theorem shaF_length (xs : List Int) : (shaF xs).length = 32 := by rw [shaF, sumF, outB_length]
set_option maxHeartbeats 1000000 in
theorem sha_c (A : Option Addr) (c : Nat) (xs : List Int) (w : World) (hC : Kd.C B8 w A xs.length xs) (hl : xs.length ≤ 140737488355000) :
    Calls Try.prog 41 #[.slice A xs.length c] w fun e w' => ∃ A' c', e = .returned (.slice A' 32 c') ∧ Hp (fun _ => False) w w' [byR A' 32 c' (shaF xs)] := by
  have H := Hp.start (fun _ => False) w
  refine k_enter (args := [(.slice A xs.length c)]) Try.func41 rfl Try.ntmps41 (Nat.le_of_ble_eq_true rfl) ?_
  refine wp_seq ?_
  refine k_list ?_
  refine l_cons (ev_run (v := (.slice none 0 0)) (w1 := w) rfl rfl (by kernel_rfl) ?_)
  refine l_nil ?_
  refine n_then ?_
  refine wp_seq ?_
  refine k_list ?_
  refine l_cons (ev_call rfl rfl (f := 48) (args := #[]) (by kernel_rfl) (new_c _) ?_)
  rintro e w1 ⟨gh, rfl, hH_⟩
  refine ⟨_, rfl, ?_⟩
  have H1 := H.join hH_
  have hb_ := hH_.to_below
  refine l_cons (ev_run (v := (.pointer (some (⟨gh, 0, none⟩)))) (w1 := w1) rfl rfl (by kernel_rfl) ?_)
  refine l_nil ?_
  refine n_then ?_
  refine wp_seq ?_
  refine k_list ?_
  refine l_cons (ev_run (v := (.pointer (some (⟨gh, 0, none⟩)))) (w1 := w1) rfl rfl (by kernel_rfl) ?_)
  refine l_cons (ev_run (v := (.slice A xs.length c)) (w1 := w1) rfl rfl (by kernel_rfl) ?_)
  refine l_cons (ev_newRow (cs := [(.slice A xs.length c)]) (t := 24) (len := 1) rfl rfl H1 (by kernel_rfl) ?_)
  intro g1 w2 H2 hg1 hbw2
  refine l_cons (ev_call rfl rfl (f := 49) (args := #[(.pointer (some (⟨gh, 0, none⟩))), (.slice (some (⟨g1, 0, none⟩)) 1 1)]) (by kernel_rfl) (write_c gh g1 A c xs 1 _ (H2.get 1 rfl) (H2.get 0 rfl) (fun e => H2.apart 1 0 rfl rfl (by decide) gh rfl e.symm) (F_away hC H2 1 rfl) hl) ?_)
  rintro e w3 ⟨Fw, Aw, mw, cw, rfl, hW_⟩
  refine ⟨_, rfl, ?_⟩
  have hmw : mw = (wrest xs).length := (hW_.get 1 rfl).1.2.1
  subst hmw
  have hcw3 := hW_.chg
  have H3 := H2.via 1 rfl hW_
  refine l_nil ?_
  refine n_then ?_
  refine wp_seq ?_
  refine k_list ?_
  refine l_cons (ev_run (v := (.pointer (some (⟨gh, 0, none⟩)))) (w1 := w3) rfl rfl (by kernel_rfl) ?_)
  refine l_cons (ev_call rfl rfl (f := 50) (args := #[(.pointer (some (⟨gh, 0, none⟩)))]) (by kernel_rfl) (sum_c gh (wst xs) Aw cw (wsz xs.length) Fw (wrest xs) _ (H3.get 2 rfl) (H3.get 0 rfl) (by rw [wrest, List.length_drop]; omega)) ?_)
  rintro e w4 ⟨As, cs_, rfl, hH_⟩
  refine ⟨_, rfl, ?_⟩
  have H4 := H3.join hH_
  have hb_ := hH_.to_below
  refine l_cons (ev_run (v := (.slice As 32 cs_)) (w1 := w4) rfl rfl (by kernel_rfl) ?_)
  refine l_nil ?_
  refine n_then ?_
  refine wp_ret ?_
  refine b_ret (v := (.slice As 32 cs_)) (resS rfl (.tmp (by kernel_rfl) .nil)) ?_
  exact ⟨As, cs_, rfl, H4.sel [0] (by decide)⟩
end Go.Proofs.Ytokpdecpmcbcpaa
