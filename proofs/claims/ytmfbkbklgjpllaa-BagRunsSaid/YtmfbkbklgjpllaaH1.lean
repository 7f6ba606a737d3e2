/- The bag as a resource of a walk. -/
import Derived.Test.YtmfbkbklgjpllaaA7
import Derived.Test.YtmfbkbklgjpllaaRow
namespace Go.Proofs.Ytmfbkbklgjpllaa
open Go.RowKit Go.Proofs.YtmfbkbklgjpllaaW.PrintWords Go.Proofs.YtmfbkbklgjpllaaW.PrintLast Go.Proofs.YtmfbkbklgjpllaaW.PrintMore
open Go.Proofs.Ytmfbkbklgjpllaa.PBagCopies
set_option linter.unusedVariables false
set_option linter.unusedSimpArgs false
set_option maxRecDepth 100000

/-- Bytes as a row's cells. -/
def bts (xs : List Int) : List (List Value) := xs.map fun y => [Value.int .u8 y]
theorem info8 : (Try.prog.info? 5).map (fun i => (i.zero, i.size, i.bytes)) = some (some (.int .u8 0), 1, 1) := by kernel_rfl
/-- Bytes of the call's own. -/
abbrev byR (A : Option Addr) (n c : Nat) (xs : List Int) : Res := rowR 5 1 A n c (bts xs)
theorem C_to {α : Type} {d : Kd α} {w w1 : World} {A : Option Addr} {n : Nat} {xs : List α} {rs : List Res} (h : Kd.C d w A n xs) (H : Hp (fun _ => False) w w1 rs) : Kd.C d w1 A n xs := Kd.C_below h H.to_below
theorem byR_C {A : Option Addr} {c : Nat} {xs : List Int} {w : World} (h : (byR A xs.length c xs).ok w) : Kd.C B8 w A xs.length xs := (Kd.R_reads' (scalar_rowR (h1 := fun _ => rfl) h)).2.2
theorem byR_F {A : Option Addr} {c : Nat} {xs : List Int} {w : World} (h : (byR A xs.length c xs).ok w) : Kd.F B8 w (byR A xs.length c xs).fp A xs.length xs := Kd.R_F (scalar_rowR (h1 := fun _ => rfl) h)
theorem byR_le {A : Option Addr} {n c : Nat} {xs : List Int} {w : World} (h : (byR A n c xs).ok w) : n ≤ c := (rowR_len h).2.1
theorem elem29 {w : World} {ad : Addr} {n : Nat} {xs : List S29} (h : Kd.C k29 w (some ad) n xs) (j : Nat) (hj : j < n) : ∃ x A2 c2, x = xs.getD j z29 ∧ At w (ad.add (j * 3)) [(.int .i64 x.f0), (.int .i64 x.f1), (.slice A2 x.f2.length c2)] ∧ x.f2.length ≤ c2 ∧ Kd.C (Kd.int .u8) w A2 x.f2.length x.f2 := by
  obtain ⟨c, hK, hA⟩ := C_at h z29 j hj
  obtain ⟨A2, c2, rfl, l2, g2⟩ := k29_open hK
  exact ⟨_, A2, c2, rfl, hA, l2, g2⟩

theorem getD_mem {α : Type} {l : List α} {j : Nat} {z : α} (h : j < l.length) : l.getD j z ∈ l := by
  rw [List.getD_eq_getElem?_getD, List.getElem?_eq_getElem h]; exact List.getElem_mem h
theorem Rd_of {A : Option Addr} {c : Nat} {xs : List Int} {w : World} (hl : xs.length ≤ c) (h : Kd.C B8 w A xs.length xs) : Rd w (.slice A xs.length c) xs := ⟨A, c, rfl, hl, h⟩
/-- A bag at block g, its blocks F, the packets L. -/
def bagR (g : Nat) (F : Nat → Prop) (L : List S29) : Res where
  fp := F
  ok w := BagC 0 w g F L
  lt w h := h.lt
  st w w' h hm := by
    obtain ⟨v, h1, h2, h3, h4, h5⟩ := h.is
    refine ⟨⟨v, (hm g h2).trans h1, h2, h3, Kd.N_step h4 (fun k hk _ => hm k hk.1), h5⟩, h.ge, fun k hk => ?_⟩
    have h6 := h.lt k hk
    have h7 := hm k hk
    rw [Array.getElem?_eq_getElem h6] at h7
    exact (Array.getElem?_eq_some_iff.1 h7).1
theorem newH (w : World) : Calls Try.prog 8 #[] w fun e w' => ∃ g F, e = .returned (.pointer (some ⟨g, 0, none⟩)) ∧ Hp (fun _ => False) w w' [bagR g F []] :=
  (new_c 0 w (Nat.zero_le _)).mono fun e w' ⟨g, F, he, hG, hb, hf⟩ => ⟨g, F, he, (Hp.start (fun _ => False) w).add hb (bagR g F []) hG hf⟩
/-- Take, in a walk's words. -/
theorem takeH (w : World) (g : Nat) (F : Nat → Prop) (L : List S29) (h : BagC 0 w g F L) (n : Nat) (hn : n < L.length) (x : S29) (hx : pkAt L (n : Int) = x) :
    Calls Try.prog 15 #[.pointer (some ⟨g, 0, none⟩), .int .i64 n] w fun e w' => ∃ A c, e = .returned (.tuple #[.agg #[.int .i64 x.f0, .int .i64 x.f1, .slice A x.f2.length c], .int .i64 0]) ∧ (byR A x.f2.length c x.f2).ok w' ∧ (∀ k, (byR A x.f2.length c x.f2).fp k → w.heap.size ≤ k) ∧ BagC 0 w' g F (L.eraseIdx n) ∧ Chg F w w' := by
  refine (take_c 0 w g F L h (Nat.zero_le _) n hn).mono ?_
  rintro e w' ⟨v', he, hr, hG, hc⟩
  rw [hx] at he hr
  obtain ⟨A, c, rfl⟩ := Kd.R_slice hr
  exact ⟨A, c, he, rowR_scalar hr, fun k hk => (hr.1 k hk).1, hG, hc⟩
theorem lenH (w : World) (g : Nat) (F : Nat → Prop) (L : List S29) (h : BagC 0 w g F L) : Calls Try.prog 12 #[.pointer (some ⟨g, 0, none⟩)] w fun e w' => e = .returned (.int .i64 ((L.length : Nat) : Int)) ∧ Below w.heap.size w w' :=
  (len_n_c 0 w g F L L.length rfl h).mono fun e w' ⟨he, hw⟩ => ⟨he, hw ▸ Below.refl _ _⟩
end Go.Proofs.Ytmfbkbklgjpllaa
