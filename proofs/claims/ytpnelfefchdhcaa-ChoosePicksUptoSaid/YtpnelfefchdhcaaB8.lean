/- CopyReport: the report in memory of its own. -/
import Derived.Test.YtpnelfefchdhcaaB7
import Derived.Test.YtpnelfefchdhcaaPChoosePicksx
namespace Go.Proofs.Ytpnelfefchdhcaa
open Go.RowKit Go.Proofs.YtpnelfefchdhcaaW.PrintWords Go.Proofs.YtpnelfefchdhcaaW.PrintLast Go.Proofs.YtpnelfefchdhcaaW.PrintMore
open Go.Proofs.Ytpnelfefchdhcaa.PChoosePicks
set_option linter.unusedVariables false
set_option linter.unusedSimpArgs false
set_option maxRecDepth 100000

def VoteOk (v : S57) : Prop := v.f1.length ≤ 140737488351232
structure PrepOk (p : S45) : Prop where
  req : ReqOk p.f2
  votes : ∀ v ∈ p.f3, VoteOk v
  nv : p.f3.length * 32 ≤ 140737488351232
structure RepOk (r : S30) : Prop where
  dig : r.f3.length ≤ 140737488351232
  votes : ∀ v ∈ r.f4, VoteOk v
  nv : r.f4.length * 32 ≤ 140737488351232
  preps : ∀ p ∈ r.f5, PrepOk p
  np : r.f5.length * 112 ≤ 140737488351232
  sig : r.f6.length ≤ 140737488351232
theorem getD_mem {α : Type} {l : List α} {j : Nat} {z : α} (h : j < l.length) : l.getD j z ∈ l := by
  rw [List.getD_eq_getElem?_getD, List.getElem?_eq_getElem h]; exact List.getElem_mem h
theorem take_getD {α : Type} (l : List α) (j : Nat) (z : α) (h : j < l.length) : l.take (j + 1) = l.take j ++ [l.getD j z] := by
  rw [List.take_succ_eq_append_getElem h]; simp [List.getD_eq_getElem?_getD, h]
theorem wr1 {j : Nat} (h : j < 9223372036854775807) : wrap64 ((j : Int) + 1) = ((j + 1 : Nat) : Int) := by unfold wrap64; omega
theorem votes_loop (l : List S57) (hl : l.length * 32 ≤ 140737488351232) (hv : ∀ v ∈ l, VoteOk v) : ∀ (d k j : Nat), j + d = l.length → d < k → catenaryref05_CopyVotes.l0 k (l.take j) l (l.length : Int) (j : Int) = some l := by
  intro d
  induction d with
  | zero =>
    intro k j hj hk
    obtain ⟨k, rfl⟩ : ∃ m, k = m + 1 := ⟨k - 1, by omega⟩
    simp only [catenaryref05_CopyVotes.l0]
    rw [if_neg (by omega), List.take_of_length_le (by omega)]
  | succ d ih =>
    intro k j hj hk
    obtain ⟨k, rfl⟩ : ∃ m, k = m + 1 := ⟨k - 1, by omega⟩
    have hrd : rd_T57 l (j : Int) = l.getD j z57 := rfl
    have hb : (l.getD j z57).f1.length ≤ 140737488351232 := hv _ (getD_mem (by omega))
    simp only [catenaryref05_CopyVotes.l0, Option.bind_some, List.nil_append, List.length_nil, List.length_take, hrd]
    rw [if_pos (by omega), if_pos (by omega), if_pos (by omega), if_pos (by omega), if_pos (by omega), wr1 (by omega)]
    have := ih k (j + 1) (by omega) (by omega)
    rw [take_getD l j z57 (by omega)] at this
    exact this
theorem votes_f (l : List S57) (hl : l.length * 32 ≤ 140737488351232) (hv : ∀ v ∈ l, VoteOk v) (k : Nat) (hk : l.length < k) : catenaryref05_CopyVotes.f k l = some l := votes_loop l hl hv l.length k 0 (by omega) hk
theorem req_f (r : S36) (h : ReqOk r) : catenaryref05_CopyReq.f r.f0 r.f1 r.f2 r.f3 = some (r.f0, r.f1, r.f2, r.f3) := by
  have h2 := h.1
  have h3 := h.2
  simp only [catenaryref05_CopyReq.f, Option.bind_some, List.nil_append, List.length_nil]
  rw [if_pos (by omega), if_pos (by omega)]
theorem preps_loop (l : List S45) (hl : l.length * 112 ≤ 140737488351232) (hp : ∀ p ∈ l, PrepOk p) (M : Nat) (hM : ∀ p ∈ l, p.f3.length < M) (a0 a1 a2 a3 : Int) (l4 : List Int) (l5 : List S57) (l6 : List S45) (l7 : List Int) : ∀ (d k j : Nat), j + d = l.length → d + M < k →
    catenaryref05_CopyReport.l0 k (l.take j) l (l.length : Int) (j : Int) a0 a1 a2 a3 l4 l5 l6 l7 = some (a0, a1, a2, a3, l4, l5, l, l7) := by
  intro d
  induction d with
  | zero =>
    intro k j hj hk
    obtain ⟨k, rfl⟩ : ∃ m, k = m + 1 := ⟨k - 1, by omega⟩
    simp only [catenaryref05_CopyReport.l0]
    rw [if_neg (by omega), List.take_of_length_le (by omega)]
  | succ d ih =>
    intro k j hj hk
    obtain ⟨k, rfl⟩ : ∃ m, k = m + 1 := ⟨k - 1, by omega⟩
    have hrd : rd_T45 l (j : Int) = l.getD j z45 := rfl
    have hm : l.getD j z45 ∈ l := getD_mem (by omega)
    have hpk := hp _ hm
    have hM1 := hM _ hm
    simp only [catenaryref05_CopyReport.l0, List.length_take, hrd]
    rw [if_pos (by omega), if_pos (by omega), if_pos (by omega), req_f _ hpk.req, Option.bind_some, votes_f _ hpk.nv hpk.votes k (by omega), Option.bind_some, if_pos (by omega), wr1 (by omega)]
    have := ih k (j + 1) (by omega) (by omega)
    rw [take_getD l j z45 (by omega)] at this
    exact this
theorem exists_bound (l : List S45) : ∃ M, ∀ p ∈ l, p.f3.length < M := by
  induction l with
  | nil => exact ⟨0, by simp⟩
  | cons p l ih =>
    obtain ⟨M, hM⟩ := ih
    exact ⟨max M (p.f3.length + 1), fun q hq => (List.mem_cons.1 hq).elim (fun h => by rw [h]; omega) (fun h => by have := hM q h; omega)⟩
theorem report_f (r : S30) (h : RepOk r) : ∃ k, catenaryref05_CopyReport.f k r.f0.f0 r.f0.f1 r.f1 r.f2 r.f3 r.f4 r.f5 r.f6 = some (r.f0.f0, r.f0.f1, r.f1, r.f2, r.f3, r.f4, r.f5, r.f6) := by
  obtain ⟨M, hM⟩ := exists_bound r.f5
  refine ⟨r.f5.length + M + r.f4.length + 1, ?_⟩
  have h3 := h.dig
  have h6 := h.sig
  simp only [catenaryref05_CopyReport.f, Option.bind_some, List.nil_append, List.length_nil]
  rw [if_pos (by omega), if_pos (by omega), votes_f _ h.nv h.votes _ (by omega), Option.bind_some]
  exact preps_loop r.f5 h.np h.preps M hM _ _ _ _ _ _ _ _ r.f5.length _ 0 (by omega) (by omega)
theorem copyrep_c (x : S30) {A4 A5 A6 A7 : Option Addr} {c4 c5 c6 c7 : Nat} (w : World) (hr : x.f3.length ≤ c4 ∧ Kd.C (Kd.int .u8) w A4 x.f3.length x.f3 ∧ x.f4.length ≤ c5 ∧ Kd.C k57 w A5 x.f4.length x.f4 ∧ x.f5.length ≤ c6 ∧ Kd.C k45 w A6 x.f5.length x.f5 ∧ x.f6.length ≤ c7 ∧ Kd.C (Kd.int .u8) w A7 x.f6.length x.f6) (hok : RepOk x) :
    Calls Try.prog 6 #[.agg #[(.int .i64 x.f0.f0), (.int .i64 x.f0.f1), (.int .i64 x.f1), (.int .i64 x.f2), (.slice A4 x.f3.length c4), (.slice A5 x.f4.length c5), (.slice A6 x.f5.length c6), (.slice A7 x.f6.length c7)]] w fun e w' => ∃ B4 d4 B5 d5 B6 d6 B7 d7, e = .returned (.agg #[(.int .i64 x.f0.f0), (.int .i64 x.f0.f1), (.int .i64 x.f1), (.int .i64 x.f2), (.slice B4 x.f3.length d4), (.slice B5 x.f4.length d5), (.slice B6 x.f5.length d6), (.slice B7 x.f6.length d7)]) ∧ Hp (fun _ => False) w w' [fkR k30 (fun k => w.heap.size ≤ k ∧ k < w'.heap.size) x [(.int .i64 x.f0.f0), (.int .i64 x.f0.f1), (.int .i64 x.f1), (.int .i64 x.f2), (.slice B4 x.f3.length d4), (.slice B5 x.f4.length d5), (.slice B6 x.f5.length d6), (.slice B7 x.f6.length d7)]] := by
  obtain ⟨l4, g4, l5, g5, l6, g6, l7, g7⟩ := hr
  obtain ⟨k, hk⟩ := report_f x hok
  refine (catenaryref05_CopyReport.calls k _ _ _ _ A4 c4 _ A5 c5 _ A6 c6 _ A7 c7 _ _ _ _ _ _ _ _ _ w g4 l4 g5 l5 g6 l6 g7 l7 hk).mono ?_
  rintro e w' ⟨v4, v5, v6, v7, rfl, h4, h5, h6, h7, hb⟩
  have h5 := Kd.S_R h5
  obtain ⟨B4, d4, rfl⟩ := Kd.R_slice h4
  obtain ⟨B5, d5, rfl⟩ := Kd.S_slice (by assumption)
  obtain ⟨B6, d6, rfl⟩ := Kd.R_slice h6
  obtain ⟨B7, d7, rfl⟩ := Kd.R_slice h7
  refine ⟨B4, d4, B5, d5, B6, d6, B7, d7, rfl, (Hp.start (fun _ => False) w).add hb _ ⟨k30_mkF w' _ x (Kd.R_reads' h4).2.1 (Kd.F_mono (Kd.R_F (Kd.R_bound h4)) (fun k hk => ⟨hk.2.1, hk.2.2.1⟩)) (Kd.S_reads' (by assumption)).2.1 (Kd.F_mono (Kd.R_F (Kd.R_bound (Kd.R_lower h5 (Nat.le_refl _)))) (fun k hk => ⟨hk.2.1, hk.2.2.1⟩)) (Kd.R_reads' h6).2.1 (Kd.F_mono (Kd.R_F (Kd.R_bound h6)) (fun k hk => ⟨hk.2.1, hk.2.2.1⟩)) (Kd.R_reads' h7).2.1 (Kd.F_mono (Kd.R_F (Kd.R_bound h7)) (fun k hk => ⟨hk.2.1, hk.2.2.1⟩)), fun k hk => hk.2⟩ (fun k hk => hk.1)⟩
end Go.Proofs.Ytpnelfefchdhcaa
