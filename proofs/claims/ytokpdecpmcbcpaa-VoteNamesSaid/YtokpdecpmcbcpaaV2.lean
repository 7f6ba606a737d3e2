/- SHA-256: a new hash, and one piece written into it. -/
import Derived.Test.YtokpdecpmcbcpaaV1
namespace Go.Proofs.Ytokpdecpmcbcpaa
open Go.RowKit Go.Proofs.YtokpdecpmcbcpaaW.PrintWords Go.Proofs.YtokpdecpmcbcpaaW.PrintLast Go.Proofs.YtokpdecpmcbcpaaW.PrintMore
open Go.Proofs.Ytokpdecpmcbcpaa.PVoteMakes
set_option linter.unusedVariables false
set_option linter.unusedSimpArgs false
set_option maxRecDepth 100000

def V8.of (l : List Int) : V8 := ⟨l.getD 0 0, l.getD 1 0, l.getD 2 0, l.getD 3 0, l.getD 4 0, l.getD 5 0, l.getD 6 0, l.getD 7 0⟩
theorem V8.of_l {l : List Int} (h : l.length = 8) : (V8.of l).l = l := by
  match l, h with
  | [a, b, c, d, e, f, g, h], _ => rfl
theorem blockF_length (s : V8) (p : List Int) : (blockF s p).length = 8 := by rw [blockF, addw_length]; rfl
/-- The state behind a block. -/
def blkV (s : V8) (p : List Int) : V8 := V8.of (blockF s p)
/-- The state behind j blocks. -/
def blkN (s : V8) (xs : List Int) : Nat → V8
  | 0 => s
  | j + 1 => blkV (blkN s xs j) ((xs.drop (64 * j)).take 64)
/-- A slice of bytes of the call's own, wherever it begins: its blocks F. -/
def slR (F : Nat → Prop) (A : Option Addr) (n c : Nat) (xs : List Int) : Res where
  fp := F
  ok w := (n ≤ c ∧ n = xs.length ∧ Kd.F B8 w F A n xs) ∧ ∀ k, F k → k < w.heap.size
  lt w h := h.2
  st w w' h hm := ⟨⟨h.1.1, h.1.2.1, Kd.F_step h.1.2.2 (fun k hk _ => hm k hk)⟩, fun k hk => by
    have h1 := h.2 k hk
    have h2 := hm k hk
    rw [Array.getElem?_eq_getElem h1] at h2
    exact (Array.getElem?_eq_some_iff.1 h2).1⟩
theorem slR_C {F : Nat → Prop} {A : Option Addr} {n c : Nat} {xs : List Int} {w : World} (h : (slR F A n c xs).ok w) : Kd.C B8 w A n xs := Kd.F_now h.1.2.2
theorem slR_nil (w : World) : (slR (fun _ => False) none 0 0 []).ok w := ⟨⟨Nat.le_refl _, rfl, fun W' _ => ⟨rfl, by omega, fun h => absurd h (Nat.lt_irrefl 0)⟩⟩, fun k hk => hk.elim⟩
theorem slR_row {A : Option Addr} {n c : Nat} {xs : List Int} {w : World} (h : (byR A n c xs).ok w) : (slR (byR A n c xs).fp A n c xs).ok w := by
  have hl : n = xs.length := by have := (rowR_len h).1; simpa [bts] using this
  subst hl
  exact ⟨⟨byR_le h, rfl, byR_F h⟩, fun k hk => Res.lt _ w h k hk⟩
theorem slR_cut {F : Nat → Prop} {A : Option Addr} {n c q : Nat} {xs : List Int} {w : World} (h : (slR F A n c xs).ok w) (hq : q ≤ n) : (slR F (if c = q then A else A.map (·.add (q * 1))) (n - q) (c - q) (xs.drop q)).ok w :=
  ⟨⟨by have := h.1.1; omega, by rw [List.length_drop, h.1.2.1], fun W' hW => C_drop (d := B8) (h.1.2.2 W' hW) hq h.1.1⟩, h.2⟩
theorem Hp.apart {S0 : Nat → Prop} {W0 w : World} {rs : List Res} (h : Hp S0 W0 w rs) (i j : Nat) {a b : Res} (hi : rs[i]? = some a) (hj : rs[j]? = some b) (hij : i ≠ j) (k : Nat) (hk : a.fp k) : ¬ b.fp k := by
  obtain ⟨hil, rfl⟩ := List.getElem?_eq_some_iff.1 hi
  obtain ⟨hjl, rfl⟩ := List.getElem?_eq_some_iff.1 hj
  have hp := List.pairwise_iff_getElem.1 h.sep
  rcases Nat.lt_or_ge i j with hlt | hge
  · exact hp i j hil hjl hlt k hk
  · exact fun hb => hp j i hjl hil (by omega) k hb hk
/-- A block of 64 bytes out of a slice of the call's own, into the state at g. -/
theorem blockH {S0 : Nat → Prop} {W0 w : World} {rs : List Res} (H : Hp S0 W0 w rs) (i j : Nat) {g : Nat} {v : V8} {tl : List Value} {ty : TypeId} {F : Nat → Prop} {A : Option Addr} {n c : Nat} {xs : List Int} (hi : rs[i]? = some (blk g (wds v.l ++ tl) ty)) (hj : rs[j]? = some (slR F A n c xs)) (hij : j ≠ i) (hn : 64 ≤ n) :
    Calls Try.prog 56 #[.pointer (some ⟨g, 0, none⟩), .slice A 64 c] w fun e w' => e = .returned (.tuple #[]) ∧ Hp S0 W0 w' (rs.set i (blk g (wds (blkV v (xs.take 64)).l ++ tl) ty)) ∧ Chg (fun k => k = g) w w' := by
  have hs := H.get j hj
  have hap := H.apart j i hj hi hij
  refine (block_c g v tl ty A c (xs.take 64) w (by rw [List.length_take, ← hs.1.2.1]; omega) (fun W' hW => C_take (hs.1.2.2 W' (fun k hk hlt => hW k (fun e => hap k hk e) hlt)) hn) (H.get i hi) (by have := hs.1.1; omega)).mono ?_
  rintro e w' ⟨he, hb, hc⟩
  refine ⟨he, H.upd i hi hc (blk g (wds (blkV v (xs.take 64)).l ++ tl) ty) ?_ (fun k hk => .inl hk), hc⟩
  rw [blkV, V8.of_l (blockF_length _ _)]
  exact hb
def S0v : V8 := ⟨1779033703, 3144134277, 1013904242, 2773480762, 1359893119, 2600822924, 528734635, 1541459225⟩
def shaCells (v : V8) (A : Option Addr) (m c : Nat) (z : Int) : List Value := [.int .u32 v.a, .int .u32 v.b, .int .u32 v.c, .int .u32 v.d, .int .u32 v.e, .int .u32 v.f, .int .u32 v.g, .int .u32 v.h, .slice A m c, .int .u64 z]
theorem start_c (w : World) : Calls Try.prog 55 #[] w fun e w' => e = .returned (.agg (wds S0v.l).toArray) ∧ Below w.heap.size w w' := by
  have H := Hp.start (fun _ => False) w
  refine k_enter (args := []) Try.func55 rfl Try.ntmps55 (Nat.le_of_ble_eq_true rfl) ?_
  refine wp_seq ?_
  refine k_list ?_
  refine l_cons (ev_new (cs := [(.int .u32 0), (.int .u32 0), (.int .u32 0), (.int .u32 0), (.int .u32 0), (.int .u32 0), (.int .u32 0), (.int .u32 0)]) (t := 78) rfl rfl H (by kernel_rfl) ?_)
  intro g1 w1 H1 hg1 hbw1
  refine l_nil ?_
  refine n_then ?_
  refine wp_seq ?_
  refine k_list ?_
  refine l_cons (ev_run (v := (.agg #[(.int .u32 1779033703), (.int .u32 3144134277), (.int .u32 1013904242), (.int .u32 2773480762), (.int .u32 1359893119), (.int .u32 2600822924), (.int .u32 528734635), (.int .u32 1541459225)])) (w1 := w1) rfl rfl (by kernel_rfl) ?_)
  refine l_cons (ev_store (i := 0) rfl rfl rfl H1 (k := 0) rfl (by kernel_rfl) (.agg #[(.int .u32 1779033703), (.int .u32 3144134277), (.int .u32 1013904242), (.int .u32 2773480762), (.int .u32 1359893119), (.int .u32 2600822924), (.int .u32 528734635), (.int .u32 1541459225)]) (by kernel_rfl) [(.int .u32 1779033703), (.int .u32 3144134277), (.int .u32 1013904242), (.int .u32 2773480762), (.int .u32 1359893119), (.int .u32 2600822924), (.int .u32 528734635), (.int .u32 1541459225)] (by kernel_rfl) (by kernel_rfl) (by kernel_rfl) (by kernel_rfl) [(.int .u32 1779033703), (.int .u32 3144134277), (.int .u32 1013904242), (.int .u32 2773480762), (.int .u32 1359893119), (.int .u32 2600822924), (.int .u32 528734635), (.int .u32 1541459225)] (by kernel_rfl) ?_)
  intro w2 H2 hcw2
  refine l_nil ?_
  refine n_then ?_
  refine wp_ret ?_
  refine b_ret (v := (.agg #[(.int .u32 1779033703), (.int .u32 3144134277), (.int .u32 1013904242), (.int .u32 2773480762), (.int .u32 1359893119), (.int .u32 2600822924), (.int .u32 528734635), (.int .u32 1541459225)])) (resS rfl (.cell (⟨g1, 0, none⟩) [(.int .u32 1779033703), (.int .u32 3144134277), (.int .u32 1013904242), (.int .u32 2773480762), (.int .u32 1359893119), (.int .u32 2600822924), (.int .u32 528734635), (.int .u32 1541459225)] (by kernel_rfl) (At.blk (H2.get 0 rfl) 0) (by kernel_rfl) .nil)) ?_
  exact ⟨rfl, H2.to_below⟩

theorem new_c (w : World) : Calls Try.prog 48 #[] w fun e w' => ∃ g, e = .returned (.pointer (some ⟨g, 0, none⟩)) ∧ Hp (fun _ => False) w w' [blk g (shaCells S0v none 0 0 0) 81] := by
  have H := Hp.start (fun _ => False) w
  refine k_enter (args := []) Try.func48 rfl Try.ntmps48 (Nat.le_of_ble_eq_true rfl) ?_
  refine wp_seq ?_
  refine k_list ?_
  refine l_cons (ev_run (v := (.pointer none)) (w1 := w) rfl rfl (by kernel_rfl) ?_)
  refine l_nil ?_
  refine n_then ?_
  refine wp_seq ?_
  refine k_list ?_
  refine l_cons (ev_call rfl rfl (f := 55) (args := #[]) (by kernel_rfl) (start_c _) ?_)
  rintro e w1 ⟨rfl, hb_⟩
  refine ⟨_, rfl, ?_⟩
  have H1 := H.below hb_
  refine l_cons (ev_run (v := (.agg #[(.int .u32 1779033703), (.int .u32 3144134277), (.int .u32 1013904242), (.int .u32 2773480762), (.int .u32 1359893119), (.int .u32 2600822924), (.int .u32 528734635), (.int .u32 1541459225), (.slice none 0 0), (.int .u64 0)])) (w1 := w1) rfl rfl (by kernel_rfl) ?_)
  refine l_cons (ev_new (cs := [(.int .u32 1779033703), (.int .u32 3144134277), (.int .u32 1013904242), (.int .u32 2773480762), (.int .u32 1359893119), (.int .u32 2600822924), (.int .u32 528734635), (.int .u32 1541459225), (.slice none 0 0), (.int .u64 0)]) (t := 81) rfl rfl H1 (by kernel_rfl) ?_)
  intro g1 w2 H2 hg1 hbw2
  refine l_cons (ev_run (v := (.pointer (some (⟨g1, 0, none⟩)))) (w1 := w2) rfl rfl (by kernel_rfl) ?_)
  refine l_nil ?_
  refine n_then ?_
  refine wp_ret ?_
  refine b_ret (v := (.pointer (some (⟨g1, 0, none⟩)))) (resS rfl (.tmp (by kernel_rfl) .nil)) ?_
  exact ⟨_, rfl, H2⟩

def wst (xs : List Int) : V8 := blkN S0v xs (xs.length / 64)
def wrest (xs : List Int) : List Int := xs.drop (64 * (xs.length / 64))
def wsz (n : Nat) : Int := IntKind.u64.wrap (0 + IntKind.u64.wrap (n : Int))
/-- What the loop over one piece holds. -/
def WSt (xs : List Int) (i : Nat) (v : V8) (m : Nat) (ys : List Int) (A : Option Addr) (c : Nat) (z : Int) : Prop := (i = 0 ∧ v = S0v ∧ m = 0 ∧ ys = [] ∧ A = none ∧ c = 0 ∧ z = 0) ∨ (i = 1 ∧ v = wst xs ∧ ys = wrest xs ∧ z = wsz xs.length)
theorem blkN_at {xs ys : List Int} {j m : Nat} (hys : ys = xs.drop (64 * j)) (hm : m = ys.length) (hj : 64 * j ≤ xs.length) (h : m < 64) : j = xs.length / 64 := by
  rw [hys, List.length_drop] at hm
  omega
set_option maxHeartbeats 1000000 in
theorem write_c (g gp : Nat) (A : Option Addr) (c : Nat) (xs : List Int) (cp : Nat) (w : World) (hb : (blk g (shaCells S0v none 0 0 0) 81).ok w) (hp : (blk gp [.slice A xs.length c] 24).ok w) (hne : gp ≠ g) (hF : Kd.F B8 w (fun k => k ≠ g) A xs.length xs) (hl : xs.length ≤ 140737488355000) :
    Calls Try.prog 49 #[.pointer (some ⟨g, 0, none⟩), .slice (some ⟨gp, 0, none⟩) 1 cp] w fun e w' => ∃ F A' m' c', e = .returned (.tuple #[]) ∧ Hp (fun k => k = g) w w' [blk g (shaCells (wst xs) A' m' c' (wsz xs.length)) 81, slR F A' m' c' (wrest xs)] := by
  have H : Hp (fun k => k = g) w w [slR (fun _ => False) none 0 0 [], blk g [(.int .u32 1779033703), (.int .u32 3144134277), (.int .u32 1013904242), (.int .u32 2773480762), (.int .u32 1359893119), (.int .u32 2600822924), (.int .u32 528734635), (.int .u32 1541459225), (.slice none 0 0), (.int .u64 0)] 81] := (Hp.start1 (S0 := fun k => k = g) (blk g (shaCells S0v none 0 0 0) 81) hb (fun k hk => hk)).addE _ (slR_nil w) (fun k hk => hk)
  refine k_enter (args := [(.pointer (some (⟨g, 0, none⟩))), (.slice (some (⟨gp, 0, none⟩)) 1 cp)]) Try.func49 rfl Try.ntmps49 (Nat.le_of_ble_eq_true rfl) ?_
  refine wp_seq ?_
  refine k_list ?_
  refine l_cons (ev_run (v := (.slice (some (⟨gp, 0, none⟩)) 1 cp)) (w1 := w) rfl rfl (by kernel_rfl) ?_)
  refine l_cons (ev_run (v := (.int .i64 1)) (w1 := w) rfl rfl (by kernel_rfl) ?_)
  refine l_cons (ev_run (v := (.int .i64 0)) (w1 := w) rfl rfl (by kernel_rfl) ?_)
  refine l_nil ?_
  refine n_then ?_
  refine wp_block ?_
  refine k_loop (σ := Nat × V8 × Nat × List Int × Option Addr × Nat × Int × (Nat → Prop)) (fun x_ => match x_ with | (i, v, m, ys, Ar, cr, z, F) => [(0, (.pointer (some (⟨g, 0, none⟩)))), (6, (.slice (some (⟨gp, 0, none⟩)) 1 cp)), (7, (.int .i64 1)), (8, (.int .i64 (((i : Nat) : Int))))]) (fun x_ w' => match x_ with | (i, v, m, ys, Ar, cr, z, F) => (WSt xs i v m ys Ar cr z) ∧ Hp (fun k => k = g) w w' [slR F Ar m cr ys, blk g [(.int .u32 v.a), (.int .u32 v.b), (.int .u32 v.c), (.int .u32 v.d), (.int .u32 v.e), (.int .u32 v.f), (.int .u32 v.g), (.int .u32 v.h), (.slice Ar m cr), (.int .u64 z)] 81]) (fun x_ => match x_ with | (i, v, m, ys, Ar, cr, z, F) => 1 - i) (0, S0v, 0, [], none, 0, 0, (fun _ => False)) ⟨(by first | rfl | kernel_rfl), (by first | rfl | kernel_rfl), (by first | rfl | kernel_rfl), (by first | rfl | kernel_rfl), trivial⟩ ⟨(.inl ⟨rfl, rfl, rfl, rfl, rfl, rfl, rfl⟩), H⟩ ?_
  rintro L1 ⟨i, v, m, ys, Ar, cr, z, F⟩ w1 ⟨hst, H1⟩
  change Code.wp _ _ _ (Fr _ _ [(0, (.pointer (some (⟨g, 0, none⟩)))), (6, (.slice (some (⟨gp, 0, none⟩)) 1 cp)), (7, (.int .i64 1)), (8, (.int .i64 (((i : Nat) : Int))))]) _
  rcases hst with ⟨rfl, rfl, rfl, rfl, rfl, rfl, rfl⟩ | ⟨rfl, rfl, rfl, rfl⟩
  · skip
    have H2 : Hp (fun k => k = g) w w1 [blk g [(.int .u32 1779033703), (.int .u32 3144134277), (.int .u32 1013904242), (.int .u32 2773480762), (.int .u32 1359893119), (.int .u32 2600822924), (.int .u32 528734635), (.int .u32 1541459225), (.slice none 0 0), (.int .u64 0)] 81] := H1.sel [1] (by decide)
    refine wp_seq ?_
    refine k_list ?_
    refine l_cons (ev_run (v := (.bool true)) (w1 := w1) rfl rfl (by kernel_rfl) ?_)
    refine l_nil ?_
    refine n_then ?_
    refine wp_seq ?_
    refine k_true (by kernel_rfl) ?_
    refine wp_skip ?_
    refine n_then ?_
    refine wp_seq ?_
    refine wp_block ?_
    refine wp_seq ?_
    refine k_list ?_
    refine l_cons (ev_run (v := (.pointer (some (⟨gp, 0, none⟩)))) (w1 := w1) rfl rfl (run_ixa (sz := 1) (q := 0) (ad := ⟨gp, 0, none⟩) (len := 1) (cap := cp) (k := .i64) (z := 0) rfl (by kernel_rfl) (by kernel_rfl) rfl (by kernel_rfl) (by first | rfl | omega) (by first | omega | decide)) ?_)
    refine l_cons (ev_run (v := (.slice A xs.length c)) (w1 := w1) rfl rfl (run_ld rfl (by kernel_rfl) (At.hp (At.blk hp 0) H2 hne) (by kernel_rfl)) ?_)
    refine l_cons (ev_run (v := (.slice A xs.length c)) (w1 := w1) rfl rfl (by kernel_rfl) ?_)
    refine l_nil ?_
    refine n_then ?_
    refine wp_seq ?_
    refine k_list ?_
    refine l_cons (ev_run (v := (.pointer (some (⟨g, 0, none⟩)))) (w1 := w1) rfl rfl (by kernel_rfl) ?_)
    refine l_cons (ev_run (v := (.pointer (some (⟨g, 0, none⟩)))) (w1 := w1) rfl rfl (by kernel_rfl) ?_)
    refine l_cons (ev_run (v := (.pointer (some (⟨g, 9, none⟩)))) (w1 := w1) rfl rfl (by kernel_rfl) ?_)
    refine l_cons (ev_run (v := (.int .u64 0)) (w1 := w1) rfl rfl (run_ld rfl (by kernel_rfl) (At.blk (H2.get 0 rfl) 9) (by kernel_rfl)) ?_)
    refine l_cons (ev_run (v := (.slice A xs.length c)) (w1 := w1) rfl rfl (by kernel_rfl) ?_)
    refine l_cons (ev_run (v := (.int .i64 (((xs.length : Nat) : Int)))) (w1 := w1) rfl rfl (by kernel_rfl) ?_)
    refine l_cons (ev_run (v := (.int .u64 (IntKind.u64.wrap ((xs.length : Nat) : Int)))) (w1 := w1) rfl rfl (by kernel_rfl) ?_)
    refine l_cons (ev_run (v := (.int .u64 (IntKind.u64.wrap (0 + (IntKind.u64.wrap ((xs.length : Nat) : Int)))))) (w1 := w1) rfl rfl (by kernel_rfl) ?_)
    refine l_cons (ev_run (v := (.pointer (some (⟨g, 0, none⟩)))) (w1 := w1) rfl rfl (by kernel_rfl) ?_)
    refine l_cons (ev_run (v := (.pointer (some (⟨g, 9, none⟩)))) (w1 := w1) rfl rfl (by kernel_rfl) ?_)
    refine l_cons (ev_store (i := 9) rfl rfl rfl H2 (k := 0) rfl (by kernel_rfl) (.int .u64 (IntKind.u64.wrap (0 + (IntKind.u64.wrap ((xs.length : Nat) : Int))))) (by kernel_rfl) [(.int .u64 (IntKind.u64.wrap (0 + (IntKind.u64.wrap ((xs.length : Nat) : Int)))))] (by kernel_rfl) (by kernel_rfl) (by kernel_rfl) (by kernel_rfl) [(.int .u32 1779033703), (.int .u32 3144134277), (.int .u32 1013904242), (.int .u32 2773480762), (.int .u32 1359893119), (.int .u32 2600822924), (.int .u32 528734635), (.int .u32 1541459225), (.slice none 0 0), (.int .u64 (IntKind.u64.wrap (0 + (IntKind.u64.wrap ((xs.length : Nat) : Int)))))] (by kernel_rfl) ?_)
    intro w2 H3 hcw2
    refine l_nil ?_
    refine n_then ?_
    refine wp_seq ?_
    refine k_list ?_
    refine l_cons (ev_run (v := (.pointer (some (⟨g, 0, none⟩)))) (w1 := w2) rfl rfl (by kernel_rfl) ?_)
    refine l_cons (ev_run (v := (.pointer (some (⟨g, 0, none⟩)))) (w1 := w2) rfl rfl (by kernel_rfl) ?_)
    refine l_cons (ev_run (v := (.pointer (some (⟨g, 0, none⟩)))) (w1 := w2) rfl rfl (by kernel_rfl) ?_)
    refine l_cons (ev_run (v := (.pointer (some (⟨g, 8, none⟩)))) (w1 := w2) rfl rfl (by kernel_rfl) ?_)
    refine l_cons (ev_run (v := (.slice none 0 0)) (w1 := w2) rfl rfl (run_ld rfl (by kernel_rfl) (At.blk (H3.get 0 rfl) 8) (by kernel_rfl)) ?_)
    refine l_cons (ev_run (v := (.slice A xs.length c)) (w1 := w2) rfl rfl (by kernel_rfl) ?_)
    have H4 := H3.addE (rowR 5 1 none 0 0 []) (rowR_nil _ _ _) (fun k hk => by cases hk)
    refine l_cons (ev_append (e := 5) (sz := 1) (z := (.int .u8 0)) (bytes := 1) 0 (A := none) (m0 := 0) (c := 0) (rows := []) (xs.map fun y => [Value.int .u8 y]) A xs.length c rfl rfl rfl Try.underlying24 (by kernel_rfl) rfl rfl rfl H4 rfl (by kernel_rfl) (by kernel_rfl) (by first | rfl | (simp; done) | assumption | omega) (fun j row hj => read_scalar (C_chg hF H4) j row hj) (by first | omega | (simp; omega)) xs.length (by first | rfl | omega) ?_)
    intro Aa1 cc1 w3 H5 hcw3
    refine l_cons (ev_run (v := (.pointer (some (⟨g, 0, none⟩)))) (w1 := w3) rfl rfl (by kernel_rfl) ?_)
    refine l_cons (ev_run (v := (.pointer (some (⟨g, 8, none⟩)))) (w1 := w3) rfl rfl (by kernel_rfl) ?_)
    refine l_cons (ev_store (i := 8) rfl rfl rfl H5 (k := 1) rfl (by kernel_rfl) (.slice Aa1 xs.length cc1) (by kernel_rfl) [(.slice Aa1 xs.length cc1)] (by kernel_rfl) (by kernel_rfl) (by kernel_rfl) (by kernel_rfl) [(.int .u32 1779033703), (.int .u32 3144134277), (.int .u32 1013904242), (.int .u32 2773480762), (.int .u32 1359893119), (.int .u32 2600822924), (.int .u32 528734635), (.int .u32 1541459225), (.slice Aa1 xs.length cc1), (.int .u64 (IntKind.u64.wrap (0 + (IntKind.u64.wrap ((xs.length : Nat) : Int)))))] (by kernel_rfl) ?_)
    intro w4 H6 hcw4
    refine l_nil ?_
    refine n_then ?_
    refine wp_block ?_
    have H7 : Hp (fun k => k = g) w w4 [slR ((byR Aa1 xs.length cc1 xs).fp) Aa1 xs.length cc1 xs, blk g [(.int .u32 1779033703), (.int .u32 3144134277), (.int .u32 1013904242), (.int .u32 2773480762), (.int .u32 1359893119), (.int .u32 2600822924), (.int .u32 528734635), (.int .u32 1541459225), (.slice Aa1 xs.length cc1), (.int .u64 (IntKind.u64.wrap (0 + (IntKind.u64.wrap ((xs.length : Nat) : Int)))))] 81] := H6.imp 0 rfl (slR (byR Aa1 xs.length cc1 xs).fp Aa1 xs.length cc1 xs) (fun h => slR_row h) (fun k hk => hk)
    refine k_loop (σ := Nat × V8 × Nat × List Int × Option Addr × Nat) (fun x_ => match x_ with | (j, v2, m2, ys2, Ar2, cr2) => [(0, (.pointer (some (⟨g, 0, none⟩)))), (6, (.slice (some (⟨gp, 0, none⟩)) 1 cp)), (7, (.int .i64 1)), (8, (.int .i64 0))]) (fun x_ w' => match x_ with | (j, v2, m2, ys2, Ar2, cr2) => (64 * j ≤ xs.length) ∧ (v2 = blkN S0v xs j) ∧ (m2 = ys2.length) ∧ (ys2 = xs.drop (64 * j)) ∧ Hp (fun k => k = g) w w' [slR ((byR Aa1 xs.length cc1 xs).fp) Ar2 m2 cr2 ys2, blk g [(.int .u32 v2.a), (.int .u32 v2.b), (.int .u32 v2.c), (.int .u32 v2.d), (.int .u32 v2.e), (.int .u32 v2.f), (.int .u32 v2.g), (.int .u32 v2.h), (.slice Ar2 m2 cr2), (.int .u64 (IntKind.u64.wrap (0 + IntKind.u64.wrap (xs.length : Int))))] 81]) (fun x_ => match x_ with | (j, v2, m2, ys2, Ar2, cr2) => m2) (0, blkN S0v xs 0, xs.length, xs, Aa1, cc1) ⟨(by first | rfl | kernel_rfl), (by first | rfl | kernel_rfl), (by first | rfl | kernel_rfl), (by first | rfl | kernel_rfl), trivial⟩ ⟨(by omega), rfl, rfl, (by simp), H7⟩ ?_
    rintro L2 ⟨j, v2, m2, ys2, Ar2, cr2⟩ w5 ⟨hj, hv, hm, hys, H9⟩
    change Code.wp _ _ _ (Fr _ _ [(0, (.pointer (some (⟨g, 0, none⟩)))), (6, (.slice (some (⟨gp, 0, none⟩)) 1 cp)), (7, (.int .i64 1)), (8, (.int .i64 0))]) _
    have hsl := (H9.get 0 rfl)
    have hcr : m2 ≤ cr2 := hsl.1.1
    clear hsl
    have hyl : m2 = xs.length - 64 * j := by rw [hm, hys, List.length_drop]
    rcases Nat.lt_or_ge m2 64 with h64 | h64
    · skip
      obtain rfl := blkN_at hys hm hj h64
      have hv' : v2 = wst xs := hv
      have hys' : ys2 = wrest xs := hys
      subst hv'
      subst hys'
      refine wp_seq ?_
      refine wp_seq ?_
      refine k_list ?_
      refine l_cons (ev_run (v := (.pointer (some (⟨g, 0, none⟩)))) (w1 := w5) rfl rfl (by kernel_rfl) ?_)
      refine l_cons (ev_run (v := (.pointer (some (⟨g, 0, none⟩)))) (w1 := w5) rfl rfl (by kernel_rfl) ?_)
      refine l_cons (ev_run (v := (.pointer (some (⟨g, 8, none⟩)))) (w1 := w5) rfl rfl (by kernel_rfl) ?_)
      refine l_cons (ev_run (v := (.slice Ar2 m2 cr2)) (w1 := w5) rfl rfl (run_ld rfl (by kernel_rfl) (At.blk (H9.get 1 rfl) 8) (by kernel_rfl)) ?_)
      refine l_cons (ev_run (v := (.int .i64 (((m2 : Nat) : Int)))) (w1 := w5) rfl rfl (by kernel_rfl) ?_)
      refine l_cons (ev_eq (v := (.bool (decide ((((m2 : Nat) : Int) : Int) ≥ 64)))) (v' := (.bool false)) (w1 := w5) rfl rfl (by kernel_rfl) (bf (by first | assumption | omega)) ?_)
      refine l_nil ?_
      refine n_then ?_
      refine k_false (by kernel_rfl) ?_
      refine wp_exit ?_
      refine e_then ?_
      refine e_then ?_
      refine e_in ?_
      refine n_in ?_
      refine n_then ?_
      refine k_list ?_
      refine l_cons (ev_run (v := (.int .i64 1)) (w1 := w5) rfl rfl (by kernel_rfl) ?_)
      refine l_cons (ev_run (v := (.int .i64 1)) (w1 := w5) rfl rfl (by kernel_rfl) ?_)
      refine l_nil ?_
      refine n_then ?_
      exact k_round (1, wst xs, m2, wrest xs, Ar2, cr2, wsz xs.length, (byR Aa1 xs.length cc1 xs).fp) ⟨(by first | rfl | kernel_rfl), (by first | rfl | kernel_rfl), (by first | rfl | kernel_rfl), (by first | rfl | kernel_rfl), trivial⟩ ⟨(.inr ⟨rfl, rfl, rfl, rfl⟩), H9⟩ (by first | omega | (simp; done) | (simp; omega))
    · skip
      refine wp_seq ?_
      refine wp_seq ?_
      refine k_list ?_
      refine l_cons (ev_run (v := (.pointer (some (⟨g, 0, none⟩)))) (w1 := w5) rfl rfl (by kernel_rfl) ?_)
      refine l_cons (ev_run (v := (.pointer (some (⟨g, 0, none⟩)))) (w1 := w5) rfl rfl (by kernel_rfl) ?_)
      refine l_cons (ev_run (v := (.pointer (some (⟨g, 8, none⟩)))) (w1 := w5) rfl rfl (by kernel_rfl) ?_)
      refine l_cons (ev_run (v := (.slice Ar2 m2 cr2)) (w1 := w5) rfl rfl (run_ld rfl (by kernel_rfl) (At.blk (H9.get 1 rfl) 8) (by kernel_rfl)) ?_)
      refine l_cons (ev_run (v := (.int .i64 (((m2 : Nat) : Int)))) (w1 := w5) rfl rfl (by kernel_rfl) ?_)
      refine l_cons (ev_eq (v := (.bool (decide ((((m2 : Nat) : Int) : Int) ≥ 64)))) (v' := (.bool true)) (w1 := w5) rfl rfl (by kernel_rfl) (bt (by first | assumption | omega)) ?_)
      refine l_nil ?_
      refine n_then ?_
      refine k_true (by kernel_rfl) ?_
      refine wp_skip ?_
      refine n_then ?_
      refine wp_block ?_
      refine wp_seq ?_
      refine r_start (m := 9) (fun j => false) (fun w' => Hp (fun k => k = g) w w' [slR ((byR Aa1 xs.length cc1 xs).fp) Ar2 m2 cr2 ys2]) (by kernel_rfl) rfl (by kernel_rfl) (fun _ _ _ _ _ h => h) ?_
      have H10 := H9.drew
      refine r_take (i := 0) (v := (.pointer (some (⟨g, 0, none⟩)))) rfl (by kernel_rfl) (by kernel_rfl) (by kernel_rfl) rfl (H10.sel [0] (by decide)) (fun _ _ => by kernel_rfl) ?_
      refine r_take (i := 1) (v := (.pointer (some (⟨g, 0, none⟩)))) rfl (by kernel_rfl) (by kernel_rfl) (by kernel_rfl) rfl (H10.sel [0] (by decide)) (fun _ _ => by kernel_rfl) ?_
      refine r_take (i := 2) (v := (.pointer (some (⟨g, 0, none⟩)))) rfl (by kernel_rfl) (by kernel_rfl) (by kernel_rfl) rfl (H10.sel [0] (by decide)) (fun _ _ => by kernel_rfl) ?_
      refine r_take (i := 3) (v := (.pointer (some (⟨g, 0, none⟩)))) rfl (by kernel_rfl) (by kernel_rfl) (by kernel_rfl) rfl (H10.sel [0] (by decide)) (fun _ _ => by kernel_rfl) ?_
      refine r_take (i := 4) (v := (.pointer (some (⟨g, 0, none⟩)))) rfl (by kernel_rfl) (by kernel_rfl) (by kernel_rfl) rfl (H10.sel [0] (by decide)) (fun _ _ => by kernel_rfl) ?_
      refine r_take (i := 5) (v := (.pointer (some (⟨g, 8, none⟩)))) rfl (by kernel_rfl) (by kernel_rfl) (by kernel_rfl) rfl (H10.sel [0] (by decide)) (fun _ _ => by kernel_rfl) ?_
      refine r_one (i := 6) (by kernel_rfl) rfl (ev_run (v := (.slice Ar2 m2 cr2)) (w1 := w5.drew) (by kernel_rfl) rfl (run_ld rfl (by kernel_rfl) (At.blk (H10.get 1 rfl) 8) (by kernel_rfl)) ?_)
      refine ⟨fun _ => (H10.sel [0] (by decide)), ?_⟩
      refine r_take (i := 7) (v := (.slice Ar2 64 cr2)) rfl (by kernel_rfl) (by kernel_rfl) (by kernel_rfl) rfl (H10.sel [0] (by decide)) (fun w_ hs_ => (run_slhi (sz := 1) (q := 64) (len := m2) (e := 5) (k := .i64) rfl (by kernel_rfl) (by kernel_rfl) (by kernel_rfl) (by kernel_rfl) (by first | rfl | omega) (by omega))) ?_
      refine r_one (i := 8) (by kernel_rfl) rfl (ev_call (by kernel_rfl) rfl (f := 56) (args := #[(.pointer (some (⟨g, 0, none⟩))), (.slice Ar2 64 cr2)]) (by kernel_rfl) (blockH (v := v2) (tl := [(.slice Ar2 m2 cr2), (.int .u64 (IntKind.u64.wrap (0 + IntKind.u64.wrap (xs.length : Int))))]) H10 1 0 rfl rfl (by decide) h64) ?_)
      rintro e w6 ⟨rfl, hH_, hcw6⟩
      refine ⟨_, rfl, ?_⟩
      have H11 := hH_
      refine ⟨fun _ => (H11.sel [0] (by decide)), ?_⟩
      refine r_done (by kernel_rfl) ?_
      refine n_then ?_
      refine k_list ?_
      refine l_cons (ev_run (v := (.pointer (some (⟨g, 0, none⟩)))) (w1 := w6) rfl rfl (by kernel_rfl) ?_)
      refine l_cons (ev_run (v := (.pointer (some (⟨g, 0, none⟩)))) (w1 := w6) rfl rfl (by kernel_rfl) ?_)
      refine l_cons (ev_run (v := (.pointer (some (⟨g, 0, none⟩)))) (w1 := w6) rfl rfl (by kernel_rfl) ?_)
      refine l_cons (ev_run (v := (.pointer (some (⟨g, 8, none⟩)))) (w1 := w6) rfl rfl (by kernel_rfl) ?_)
      refine l_cons (ev_run (v := (.slice Ar2 m2 cr2)) (w1 := w6) rfl rfl (run_ld rfl (by kernel_rfl) (At.blk (H11.get 1 rfl) 8) (by kernel_rfl)) ?_)
      refine l_cons (ev_run (v := (.slice (if cr2 = 64 then Ar2 else (Ar2).map (·.add (64 * 1))) (m2 - 64) (cr2 - 64))) (w1 := w6) rfl rfl (run_sllo (sz := 1) (q := 64) (len := m2) (cap := cr2) (e := 5) (k := .i64) rfl (by kernel_rfl) (by kernel_rfl) (by kernel_rfl) (by kernel_rfl) (by first | rfl | omega) (by omega)) ?_)
      refine l_cons (ev_run (v := (.pointer (some (⟨g, 0, none⟩)))) (w1 := w6) rfl rfl (by kernel_rfl) ?_)
      refine l_cons (ev_run (v := (.pointer (some (⟨g, 8, none⟩)))) (w1 := w6) rfl rfl (by kernel_rfl) ?_)
      refine l_cons (ev_store (i := 8) rfl rfl rfl H11 (k := 1) rfl (by kernel_rfl) (.slice (if cr2 = 64 then Ar2 else (Ar2).map (·.add (64 * 1))) (m2 - 64) (cr2 - 64)) (by kernel_rfl) [(.slice (if cr2 = 64 then Ar2 else (Ar2).map (·.add (64 * 1))) (m2 - 64) (cr2 - 64))] (by kernel_rfl) (by kernel_rfl) (by kernel_rfl) (by kernel_rfl) [(.int .u32 ((blkV v2 (ys2.take 64)).a)), (.int .u32 ((blkV v2 (ys2.take 64)).b)), (.int .u32 ((blkV v2 (ys2.take 64)).c)), (.int .u32 ((blkV v2 (ys2.take 64)).d)), (.int .u32 ((blkV v2 (ys2.take 64)).e)), (.int .u32 ((blkV v2 (ys2.take 64)).f)), (.int .u32 ((blkV v2 (ys2.take 64)).g)), (.int .u32 ((blkV v2 (ys2.take 64)).h)), (.slice (if cr2 = 64 then Ar2 else (Ar2).map (·.add (64 * 1))) (m2 - 64) (cr2 - 64)), (.int .u64 (IntKind.u64.wrap (0 + IntKind.u64.wrap (xs.length : Int))))] (by kernel_rfl) ?_)
      intro w7 H12 hcw7
      refine l_nil ?_
      refine n_in ?_
      refine n_then ?_
      have H13 := H12.imp 0 rfl (slR (byR Aa1 xs.length cc1 xs).fp (if cr2 = 64 then Ar2 else Ar2.map (·.add (64 * 1))) (m2 - 64) (cr2 - 64) (ys2.drop 64)) (fun h => slR_cut h h64) (fun k hk => hk)
      exact k_round (j + 1, blkV v2 (ys2.take 64), m2 - 64, ys2.drop 64, (if cr2 = 64 then Ar2 else Ar2.map (·.add (64 * 1))), cr2 - 64) ⟨(by first | rfl | kernel_rfl), (by first | rfl | kernel_rfl), (by first | rfl | kernel_rfl), (by first | rfl | kernel_rfl), trivial⟩ ⟨(by omega), (by rw [hv, hys]; rfl), (by rw [List.length_drop, hm]), (by rw [hys, List.drop_drop, show 64 * j + 64 = 64 * (j + 1) by omega]), H13⟩ (by first | omega | (simp; done) | (simp; omega))
  · skip
    refine wp_seq ?_
    refine k_list ?_
    refine l_cons (ev_run (v := (.bool false)) (w1 := w1) rfl rfl (by kernel_rfl) ?_)
    refine l_nil ?_
    refine n_then ?_
    refine wp_seq ?_
    refine k_false (by kernel_rfl) ?_
    refine wp_exit ?_
    refine e_then ?_
    refine e_then ?_
    refine e_in ?_
    refine b_end (v := (.tuple #[])) (res0 rfl) ?_
    exact ⟨F, Ar, m, cr, rfl, H1.sel [1, 0] (by decide)⟩
end Go.Proofs.Ytokpdecpmcbcpaa
