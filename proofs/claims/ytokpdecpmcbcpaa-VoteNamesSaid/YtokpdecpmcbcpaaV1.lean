/- SHA-256: what a block does to the state, in plain words. -/
import Derived.Test.YtokpdecpmcbcpaaArr
import Derived.Test.YtokpdecpmcbcpaaPVoteMakesx
namespace Go.Proofs.Ytokpdecpmcbcpaa
open Go.RowKit Go.Proofs.YtokpdecpmcbcpaaW.PrintWords Go.Proofs.YtokpdecpmcbcpaaW.PrintLast Go.Proofs.YtokpdecpmcbcpaaW.PrintMore
open Go.Proofs.Ytokpdecpmcbcpaa.PVoteMakes
set_option linter.unusedVariables false
set_option linter.unusedSimpArgs false
set_option maxRecDepth 100000

abbrev B8 : Kd Int := Kd.int .u8
/-- Bytes as a row's cells. -/
def bts (xs : List Int) : List (List Value) := xs.map fun y => [Value.int .u8 y]
theorem info8 : (Try.prog.info? 5).map (fun i => (i.zero, i.size, i.bytes)) = some (some (.int .u8 0), 1, 1) := by kernel_rfl
/-- Bytes of the call's own. -/
abbrev byR (A : Option Addr) (n c : Nat) (xs : List Int) : Res := rowR 5 1 A n c (bts xs)
theorem C_to {α : Type} {d : Kd α} {w w1 : World} {A : Option Addr} {n : Nat} {xs : List α} {rs : List Res} (h : Kd.C d w A n xs) (H : Hp (fun _ => False) w w1 rs) : Kd.C d w1 A n xs := Kd.C_below h H.to_below
theorem byR_C {A : Option Addr} {c : Nat} {xs : List Int} {w : World} (h : (byR A xs.length c xs).ok w) : Kd.C B8 w A xs.length xs := (Kd.R_reads' (scalar_rowR (h1 := fun _ => rfl) h)).2.2
theorem byR_F {A : Option Addr} {c : Nat} {xs : List Int} {w : World} (h : (byR A xs.length c xs).ok w) : Kd.F B8 w (byR A xs.length c xs).fp A xs.length xs := Kd.R_F (scalar_rowR (h1 := fun _ => rfl) h)
theorem byR_le {A : Option Addr} {n c : Nat} {xs : List Int} {w : World} (h : (byR A n c xs).ok w) : n ≤ c := (rowR_len h).2.1

def KS : List Int := [1116352408, 1899447441, 3049323471, 3921009573, 961987163, 1508970993, 2453635748, 2870763221, 3624381080, 310598401, 607225278, 1426881987, 1925078388, 2162078206, 2614888103, 3248222580, 3835390401, 4022224774, 264347078, 604807628, 770255983, 1249150122, 1555081692, 1996064986, 2554220882, 2821834349, 2952996808, 3210313671, 3336571891, 3584528711, 113926993, 338241895, 666307205, 773529912, 1294757372, 1396182291, 1695183700, 1986661051, 2177026350, 2456956037, 2730485921, 2820302411, 3259730800, 3345764771, 3516065817, 3600352804, 4094571909, 275423344, 430227734, 506948616, 659060556, 883997877, 958139571, 1322822218, 1537002063, 1747873779, 1955562222, 2024104815, 2227730452, 2361852424, 2428436474, 2756734187, 3204031479, 3329325298]
theorem KS_length : KS.length = 64 := by kernel_rfl
/-- A word turned right. -/
def ror (x n : Int) : Int := Go.bits .or .u32 (shl .u32 x (32 - n)) (shr .u32 x n)
theorem ror_c (x n : Int) (w : World) (h : sha_ror.f x n = some (ror x n)) : Calls Try.prog 59 #[.int .u32 x, .int .i64 n] w fun e w' => e = .returned (.int .u32 (ror x n)) ∧ Below w.heap.size w w' :=
  (sha_ror.calls x n _ w h).mono fun e w' h => ⟨h.1, h.2.below⟩
def xr (a b : Int) : Int := Go.bits .xor .u32 a b
def an (a b : Int) : Int := Go.bits .and .u32 a b
def ad32 (a b : Int) : Int := IntKind.u32.wrap (a + b)
/-- The t-th word of a block. -/
def wd (p : List Int) (t : Nat) : Int := Go.bits .or .u32 (Go.bits .or .u32 (Go.bits .or .u32 (shl .u32 (IntKind.u32.wrap (p.getD (4 * t) 0)) 24) (shl .u32 (IntKind.u32.wrap (p.getD (4 * t + 1) 0)) 16)) (shl .u32 (IntKind.u32.wrap (p.getD (4 * t + 2) 0)) 8)) (IntKind.u32.wrap (p.getD (4 * t + 3) 0))
/-- A word of the schedule out of earlier ones. -/
def sg (w : List Int) (t : Nat) : Int :=
  ad32 (ad32 (ad32 (xr (xr (ror (w.getD (t - 2) 0) 17) (ror (w.getD (t - 2) 0) 19)) (shr .u32 (w.getD (t - 2) 0) 10)) (w.getD (t - 7) 0)) (xr (xr (ror (w.getD (t - 15) 0) 7) (ror (w.getD (t - 15) 0) 18)) (shr .u32 (w.getD (t - 15) 0) 3))) (w.getD (t - 16) 0)
def sch (p : List Int) : Nat → List Int
  | 0 => List.replicate 64 0
  | t + 1 => (sch p t).set t (if t < 16 then wd p t else sg (sch p t) t)
theorem sch_length (p : List Int) (t : Nat) : (sch p t).length = 64 := by
  induction t with
  | zero => rfl
  | succ t ih => rw [sch, List.length_set, ih]
theorem sch_lo {p : List Int} {t : Nat} (h : t < 16) : sch p (t + 1) = (sch p t).set t (wd p t) := by rw [sch, if_pos h]
theorem sch_hi {p : List Int} {t : Nat} (h : 16 ≤ t) : sch p (t + 1) = (sch p t).set t (sg (sch p t) t) := by rw [sch, if_neg (by omega)]
structure V8 where
  a : Int
  b : Int
  c : Int
  d : Int
  e : Int
  f : Int
  g : Int
  h : Int
def V8.l (v : V8) : List Int := [v.a, v.b, v.c, v.d, v.e, v.f, v.g, v.h]
def t1 (v : V8) (k w : Int) : Int := ad32 (ad32 (ad32 (ad32 v.h (xr (xr (ror v.e 6) (ror v.e 11)) (ror v.e 25))) (xr (an v.e v.f) (an (Go.bits .xor .u32 4294967295 v.e) v.g))) k) w
def t2 (v : V8) : Int := ad32 (xr (xr (ror v.a 2) (ror v.a 13)) (ror v.a 22)) (xr (xr (an v.a v.b) (an v.a v.c)) (an v.b v.c))
/-- A round. -/
def rnd (v : V8) (k w : Int) : V8 := ⟨ad32 (t1 v k w) (t2 v), v.a, v.b, v.c, ad32 v.d (t1 v k w), v.e, v.f, v.g⟩
def rds (p : List Int) (s : V8) : Nat → V8
  | 0 => s
  | t + 1 => rnd (rds p s t) (KS.getD t 0) ((sch p 64).getD t 0)
def addw (ss vs : List Int) : Nat → List Int
  | 0 => ss
  | i + 1 => (addw ss vs i).set i (ad32 ((addw ss vs i).getD i 0) (vs.getD i 0))
theorem addw_length (ss vs : List Int) (i : Nat) : (addw ss vs i).length = ss.length := by
  induction i with
  | zero => rfl
  | succ t ih => rw [addw, List.length_set, ih]
/-- The state behind a block. -/
def blockF (s : V8) (p : List Int) : List Int := addw s.l (rds p s 64).l 8
theorem At_st8 {w : World} {g t : Nat} {v : V8} {tl : List Value} (h : (blk g (wds v.l ++ tl) t).ok w) : At w ⟨g, 0, none⟩ [.int .u32 v.a, .int .u32 v.b, .int .u32 v.c, .int .u32 v.d, .int .u32 v.e, .int .u32 v.f, .int .u32 v.g, .int .u32 v.h] := fun j u hu => by
  refine At.blk h 0 j u ?_
  rw [List.drop_zero]
  show ([.int .u32 v.a, .int .u32 v.b, .int .u32 v.c, .int .u32 v.d, .int .u32 v.e, .int .u32 v.f, .int .u32 v.g, .int .u32 v.h] ++ tl)[j]? = some u
  rw [List.getElem?_append_left (List.getElem?_eq_some_iff.1 hu).1]
  exact hu
theorem C_chg {w w' : World} {g n : Nat} {A : Option Addr} {xs : List Int} {rs : List Res} (hF : Kd.F B8 w (fun k => k ≠ g) A n xs) (H : Hp (fun k => k = g) w w' rs) : Kd.C B8 w' A n xs := hF w' fun k hk hlt => H.chg.block k hlt hk
theorem cases64 (t : Nat) (h : t ≤ 64) : t < 16 ∨ (16 ≤ t ∧ t < 64) ∨ t = 64 := by omega
set_option maxHeartbeats 4000000 in
theorem block_c (g : Nat) (v0 : V8) (tl : List Value) (ty : TypeId) (A : Option Addr) (c : Nat) (p : List Int) (w : World) (hp : p.length = 64) (hF : Kd.F B8 w (fun k => k ≠ g) A 64 p) (hs : (blk g (wds v0.l ++ tl) ty).ok w) (hc : 64 ≤ c) :
    Calls Try.prog 56 #[.pointer (some ⟨g, 0, none⟩), .slice A 64 c] w fun e w' => e = .returned (.tuple #[]) ∧ (blk g (wds (blockF v0 p) ++ tl) ty).ok w' ∧ Chg (fun k => k = g) w w' := by
  have H := Hp.start1 (S0 := fun k => k = g) (blk g (wds v0.l ++ tl) ty) hs (fun k hk => hk)
  obtain ⟨ad, rfl⟩ := C_some (hF w (fun _ _ _ => rfl)) (by omega) 0
  refine k_enter (args := [(.pointer (some (⟨g, 0, none⟩))), (.slice (some (ad)) 64 c)]) Try.func56 rfl Try.ntmps56 (Nat.le_of_ble_eq_true rfl) ?_
  refine wp_seq ?_
  refine k_list ?_
  refine l_cons (ev_run (v := (.agg #[(.int .u32 1116352408), (.int .u32 1899447441), (.int .u32 3049323471), (.int .u32 3921009573), (.int .u32 961987163), (.int .u32 1508970993), (.int .u32 2453635748), (.int .u32 2870763221), (.int .u32 3624381080), (.int .u32 310598401), (.int .u32 607225278), (.int .u32 1426881987), (.int .u32 1925078388), (.int .u32 2162078206), (.int .u32 2614888103), (.int .u32 3248222580), (.int .u32 3835390401), (.int .u32 4022224774), (.int .u32 264347078), (.int .u32 604807628), (.int .u32 770255983), (.int .u32 1249150122), (.int .u32 1555081692), (.int .u32 1996064986), (.int .u32 2554220882), (.int .u32 2821834349), (.int .u32 2952996808), (.int .u32 3210313671), (.int .u32 3336571891), (.int .u32 3584528711), (.int .u32 113926993), (.int .u32 338241895), (.int .u32 666307205), (.int .u32 773529912), (.int .u32 1294757372), (.int .u32 1396182291), (.int .u32 1695183700), (.int .u32 1986661051), (.int .u32 2177026350), (.int .u32 2456956037), (.int .u32 2730485921), (.int .u32 2820302411), (.int .u32 3259730800), (.int .u32 3345764771), (.int .u32 3516065817), (.int .u32 3600352804), (.int .u32 4094571909), (.int .u32 275423344), (.int .u32 430227734), (.int .u32 506948616), (.int .u32 659060556), (.int .u32 883997877), (.int .u32 958139571), (.int .u32 1322822218), (.int .u32 1537002063), (.int .u32 1747873779), (.int .u32 1955562222), (.int .u32 2024104815), (.int .u32 2227730452), (.int .u32 2361852424), (.int .u32 2428436474), (.int .u32 2756734187), (.int .u32 3204031479), (.int .u32 3329325298)])) (w1 := w) rfl rfl (by kernel_rfl) ?_)
  refine l_cons (ev_new (cs := [(.int .u32 0), (.int .u32 0), (.int .u32 0), (.int .u32 0), (.int .u32 0), (.int .u32 0), (.int .u32 0), (.int .u32 0), (.int .u32 0), (.int .u32 0), (.int .u32 0), (.int .u32 0), (.int .u32 0), (.int .u32 0), (.int .u32 0), (.int .u32 0), (.int .u32 0), (.int .u32 0), (.int .u32 0), (.int .u32 0), (.int .u32 0), (.int .u32 0), (.int .u32 0), (.int .u32 0), (.int .u32 0), (.int .u32 0), (.int .u32 0), (.int .u32 0), (.int .u32 0), (.int .u32 0), (.int .u32 0), (.int .u32 0), (.int .u32 0), (.int .u32 0), (.int .u32 0), (.int .u32 0), (.int .u32 0), (.int .u32 0), (.int .u32 0), (.int .u32 0), (.int .u32 0), (.int .u32 0), (.int .u32 0), (.int .u32 0), (.int .u32 0), (.int .u32 0), (.int .u32 0), (.int .u32 0), (.int .u32 0), (.int .u32 0), (.int .u32 0), (.int .u32 0), (.int .u32 0), (.int .u32 0), (.int .u32 0), (.int .u32 0), (.int .u32 0), (.int .u32 0), (.int .u32 0), (.int .u32 0), (.int .u32 0), (.int .u32 0), (.int .u32 0), (.int .u32 0)]) (t := 74) rfl rfl H (by kernel_rfl) ?_)
  intro g1 w1 H1 hg1 hbw1
  refine l_cons (ev_store (i := 0) rfl rfl rfl H1 (k := 0) rfl (by kernel_rfl) (.agg #[(.int .u32 1116352408), (.int .u32 1899447441), (.int .u32 3049323471), (.int .u32 3921009573), (.int .u32 961987163), (.int .u32 1508970993), (.int .u32 2453635748), (.int .u32 2870763221), (.int .u32 3624381080), (.int .u32 310598401), (.int .u32 607225278), (.int .u32 1426881987), (.int .u32 1925078388), (.int .u32 2162078206), (.int .u32 2614888103), (.int .u32 3248222580), (.int .u32 3835390401), (.int .u32 4022224774), (.int .u32 264347078), (.int .u32 604807628), (.int .u32 770255983), (.int .u32 1249150122), (.int .u32 1555081692), (.int .u32 1996064986), (.int .u32 2554220882), (.int .u32 2821834349), (.int .u32 2952996808), (.int .u32 3210313671), (.int .u32 3336571891), (.int .u32 3584528711), (.int .u32 113926993), (.int .u32 338241895), (.int .u32 666307205), (.int .u32 773529912), (.int .u32 1294757372), (.int .u32 1396182291), (.int .u32 1695183700), (.int .u32 1986661051), (.int .u32 2177026350), (.int .u32 2456956037), (.int .u32 2730485921), (.int .u32 2820302411), (.int .u32 3259730800), (.int .u32 3345764771), (.int .u32 3516065817), (.int .u32 3600352804), (.int .u32 4094571909), (.int .u32 275423344), (.int .u32 430227734), (.int .u32 506948616), (.int .u32 659060556), (.int .u32 883997877), (.int .u32 958139571), (.int .u32 1322822218), (.int .u32 1537002063), (.int .u32 1747873779), (.int .u32 1955562222), (.int .u32 2024104815), (.int .u32 2227730452), (.int .u32 2361852424), (.int .u32 2428436474), (.int .u32 2756734187), (.int .u32 3204031479), (.int .u32 3329325298)]) (by kernel_rfl) [(.int .u32 1116352408), (.int .u32 1899447441), (.int .u32 3049323471), (.int .u32 3921009573), (.int .u32 961987163), (.int .u32 1508970993), (.int .u32 2453635748), (.int .u32 2870763221), (.int .u32 3624381080), (.int .u32 310598401), (.int .u32 607225278), (.int .u32 1426881987), (.int .u32 1925078388), (.int .u32 2162078206), (.int .u32 2614888103), (.int .u32 3248222580), (.int .u32 3835390401), (.int .u32 4022224774), (.int .u32 264347078), (.int .u32 604807628), (.int .u32 770255983), (.int .u32 1249150122), (.int .u32 1555081692), (.int .u32 1996064986), (.int .u32 2554220882), (.int .u32 2821834349), (.int .u32 2952996808), (.int .u32 3210313671), (.int .u32 3336571891), (.int .u32 3584528711), (.int .u32 113926993), (.int .u32 338241895), (.int .u32 666307205), (.int .u32 773529912), (.int .u32 1294757372), (.int .u32 1396182291), (.int .u32 1695183700), (.int .u32 1986661051), (.int .u32 2177026350), (.int .u32 2456956037), (.int .u32 2730485921), (.int .u32 2820302411), (.int .u32 3259730800), (.int .u32 3345764771), (.int .u32 3516065817), (.int .u32 3600352804), (.int .u32 4094571909), (.int .u32 275423344), (.int .u32 430227734), (.int .u32 506948616), (.int .u32 659060556), (.int .u32 883997877), (.int .u32 958139571), (.int .u32 1322822218), (.int .u32 1537002063), (.int .u32 1747873779), (.int .u32 1955562222), (.int .u32 2024104815), (.int .u32 2227730452), (.int .u32 2361852424), (.int .u32 2428436474), (.int .u32 2756734187), (.int .u32 3204031479), (.int .u32 3329325298)] (by kernel_rfl) (by kernel_rfl) (by kernel_rfl) (by kernel_rfl) [(.int .u32 1116352408), (.int .u32 1899447441), (.int .u32 3049323471), (.int .u32 3921009573), (.int .u32 961987163), (.int .u32 1508970993), (.int .u32 2453635748), (.int .u32 2870763221), (.int .u32 3624381080), (.int .u32 310598401), (.int .u32 607225278), (.int .u32 1426881987), (.int .u32 1925078388), (.int .u32 2162078206), (.int .u32 2614888103), (.int .u32 3248222580), (.int .u32 3835390401), (.int .u32 4022224774), (.int .u32 264347078), (.int .u32 604807628), (.int .u32 770255983), (.int .u32 1249150122), (.int .u32 1555081692), (.int .u32 1996064986), (.int .u32 2554220882), (.int .u32 2821834349), (.int .u32 2952996808), (.int .u32 3210313671), (.int .u32 3336571891), (.int .u32 3584528711), (.int .u32 113926993), (.int .u32 338241895), (.int .u32 666307205), (.int .u32 773529912), (.int .u32 1294757372), (.int .u32 1396182291), (.int .u32 1695183700), (.int .u32 1986661051), (.int .u32 2177026350), (.int .u32 2456956037), (.int .u32 2730485921), (.int .u32 2820302411), (.int .u32 3259730800), (.int .u32 3345764771), (.int .u32 3516065817), (.int .u32 3600352804), (.int .u32 4094571909), (.int .u32 275423344), (.int .u32 430227734), (.int .u32 506948616), (.int .u32 659060556), (.int .u32 883997877), (.int .u32 958139571), (.int .u32 1322822218), (.int .u32 1537002063), (.int .u32 1747873779), (.int .u32 1955562222), (.int .u32 2024104815), (.int .u32 2227730452), (.int .u32 2361852424), (.int .u32 2428436474), (.int .u32 2756734187), (.int .u32 3204031479), (.int .u32 3329325298)] (by kernel_rfl) ?_)
  intro w2 H2 hcw2
  refine l_nil ?_
  refine n_then ?_
  refine wp_seq ?_
  refine k_list ?_
  refine l_cons (ev_new (cs := [(.int .u32 0), (.int .u32 0), (.int .u32 0), (.int .u32 0), (.int .u32 0), (.int .u32 0), (.int .u32 0), (.int .u32 0), (.int .u32 0), (.int .u32 0), (.int .u32 0), (.int .u32 0), (.int .u32 0), (.int .u32 0), (.int .u32 0), (.int .u32 0), (.int .u32 0), (.int .u32 0), (.int .u32 0), (.int .u32 0), (.int .u32 0), (.int .u32 0), (.int .u32 0), (.int .u32 0), (.int .u32 0), (.int .u32 0), (.int .u32 0), (.int .u32 0), (.int .u32 0), (.int .u32 0), (.int .u32 0), (.int .u32 0), (.int .u32 0), (.int .u32 0), (.int .u32 0), (.int .u32 0), (.int .u32 0), (.int .u32 0), (.int .u32 0), (.int .u32 0), (.int .u32 0), (.int .u32 0), (.int .u32 0), (.int .u32 0), (.int .u32 0), (.int .u32 0), (.int .u32 0), (.int .u32 0), (.int .u32 0), (.int .u32 0), (.int .u32 0), (.int .u32 0), (.int .u32 0), (.int .u32 0), (.int .u32 0), (.int .u32 0), (.int .u32 0), (.int .u32 0), (.int .u32 0), (.int .u32 0), (.int .u32 0), (.int .u32 0), (.int .u32 0), (.int .u32 0)]) (t := 74) rfl rfl H2 (by kernel_rfl) ?_)
  intro g2 w3 H3 hg2 hbw3
  refine l_nil ?_
  refine n_then ?_
  refine wp_seq ?_
  refine wp_seq ?_
  refine k_list ?_
  refine l_cons (ev_run (v := (.int .i64 0)) (w1 := w3) rfl rfl (by kernel_rfl) ?_)
  refine l_nil ?_
  refine n_then ?_
  refine wp_block ?_
  have H4 : Hp (fun k => k = g) w w3 [blk g2 (wds (List.replicate 64 0)) 74, blk g1 (wds KS) 74, blk g (wds v0.l ++ tl) ty] := H3
  refine k_loop (σ := Nat × List Int) (fun x_ => match x_ with | (t, ws) => [(0, (.pointer (some (⟨g, 0, none⟩)))), (1, (.slice (some (ad)) 64 c)), (4, (.pointer (some (⟨g1, 0, none⟩)))), (5, (.pointer (some (⟨g2, 0, none⟩)))), (17, (.int .i64 (((t : Nat) : Int))))]) (fun x_ w' => match x_ with | (t, ws) => (t ≤ 64) ∧ (ws.length = 64) ∧ (ws = sch p t) ∧ Hp (fun k => k = g) w w' [blk g2 (wds ws) 74, blk g1 (wds KS) 74, blk g (wds v0.l ++ tl) ty]) (fun x_ => match x_ with | (t, ws) => 64 - t) (0, List.replicate 64 0) ⟨(by first | rfl | kernel_rfl), (by first | rfl | kernel_rfl), (by first | rfl | kernel_rfl), (by first | rfl | kernel_rfl), (by first | rfl | kernel_rfl), trivial⟩ ⟨(by omega), rfl, rfl, H4⟩ ?_
  rintro L1 ⟨t, ws⟩ w4 ⟨ht, hwl, hws, H5⟩
  change Code.wp _ _ _ (Fr _ _ [(0, (.pointer (some (⟨g, 0, none⟩)))), (1, (.slice (some (ad)) 64 c)), (4, (.pointer (some (⟨g1, 0, none⟩)))), (5, (.pointer (some (⟨g2, 0, none⟩)))), (17, (.int .i64 (((t : Nat) : Int))))]) _
  rcases cases64 t ht with h1 | ⟨h1, h1b⟩ | h1
  · skip
    refine wp_seq ?_
    refine k_list ?_
    refine l_cons (ev_eq (v := (.bool (decide ((((t : Nat) : Int) : Int) < 64)))) (v' := (.bool true)) (w1 := w4) rfl rfl (by kernel_rfl) (bt (by first | assumption | omega)) ?_)
    refine l_nil ?_
    refine n_then ?_
    refine wp_seq ?_
    refine k_true (by kernel_rfl) ?_
    refine wp_skip ?_
    refine n_then ?_
    refine wp_seq ?_
    refine wp_block ?_
    refine wp_seq ?_
    refine k_list ?_
    refine l_cons (ev_run (v := (.int .i64 (((t : Nat) : Int)))) (w1 := w4) rfl rfl (by kernel_rfl) ?_)
    refine l_cons (ev_run (v := (.int .i64 (((t : Nat) : Int)))) (w1 := w4) rfl rfl (by kernel_rfl) ?_)
    refine l_nil ?_
    refine n_then ?_
    refine wp_seq ?_
    refine wp_seq ?_
    refine k_list ?_
    refine l_cons (ev_run (v := (.int .i64 (((t : Nat) : Int)))) (w1 := w4) rfl rfl (by kernel_rfl) ?_)
    refine l_cons (ev_eq (v := (.bool (decide ((((t : Nat) : Int) : Int) < 16)))) (v' := (.bool true)) (w1 := w4) rfl rfl (by kernel_rfl) (bt (by first | assumption | omega)) ?_)
    refine l_nil ?_
    refine n_then ?_
    refine k_true (by kernel_rfl) ?_
    refine wp_seq ?_
    refine r_start (m := 36) (fun j => Nat.beq j 35) (fun w' => Hp (fun k => k = g) w w' [blk g2 (wds ws) 74, blk g1 (wds KS) 74, blk g (wds v0.l ++ tl) ty]) (by kernel_rfl) rfl (by kernel_rfl) (fun _ _ _ _ _ h => h) ?_
    have H6 := H5.drew
    refine r_take (i := 0) (v := (.int .i64 (((t : Nat) : Int)))) rfl (by kernel_rfl) (by kernel_rfl) (by kernel_rfl) rfl H6 (fun _ _ => by kernel_rfl) ?_
    refine r_take (i := 1) (v := (.slice (some (ad)) 64 c)) rfl (by kernel_rfl) (by kernel_rfl) (by kernel_rfl) rfl H6 (fun _ _ => by kernel_rfl) ?_
    refine r_take (i := 2) (v := (.int .i64 (((t : Nat) : Int)))) rfl (by kernel_rfl) (by kernel_rfl) (by kernel_rfl) rfl H6 (fun _ _ => by kernel_rfl) ?_
    refine r_take_eq (i := 3) (v := (.int .i64 (IntKind.i64.wrap (4 * ((t : Nat) : Int))))) (v' := (.int .i64 ((4 * ((t : Nat) : Int))))) rfl (by kernel_rfl) (by kernel_rfl) (by kernel_rfl) rfl H6 (fun _ _ => by kernel_rfl) (wr64 (by omega) (by omega)) ?_
    refine r_take (i := 4) (v := (.pointer (some ((ad).add ((4 * t) * 1))))) rfl (by kernel_rfl) (by kernel_rfl) (by kernel_rfl) rfl H6 (fun w_ hs_ => (run_ixa (sz := 1) (q := (4 * t)) (ad := ad) (len := 64) (cap := c) (k := .i64) (z := (4 * ((t : Nat) : Int))) rfl (by kernel_rfl) (by kernel_rfl) rfl (by kernel_rfl) (by first | rfl | omega) (by first | omega | decide))) ?_
    refine r_take (i := 5) (v := (.int .u8 (p.getD (4 * t) 0))) rfl (by kernel_rfl) (by kernel_rfl) (by kernel_rfl) rfl H6 (fun w_ hs_ => (run_ld rfl (by kernel_rfl) (C_scal_at (h1 := fun _ => rfl) (C_chg hF hs_) 0 (4 * t) (by omega)) (by kernel_rfl))) ?_
    refine r_take (i := 6) (v := (.int .u32 (IntKind.u32.wrap (p.getD (4 * t) 0)))) rfl (by kernel_rfl) (by kernel_rfl) (by kernel_rfl) rfl H6 (fun _ _ => by kernel_rfl) ?_
    refine r_take (i := 7) (v := (.int .u32 (shl .u32 (IntKind.u32.wrap (p.getD (4 * t) 0)) 24))) rfl (by kernel_rfl) (by kernel_rfl) (by kernel_rfl) rfl H6 (fun w_ hs_ => (run_shl (yk := .u64) rfl (by kernel_rfl) (by kernel_rfl) (by first | decide | omega))) ?_
    refine r_take (i := 8) (v := (.slice (some (ad)) 64 c)) rfl (by kernel_rfl) (by kernel_rfl) (by kernel_rfl) rfl H6 (fun _ _ => by kernel_rfl) ?_
    refine r_take (i := 9) (v := (.int .i64 (((t : Nat) : Int)))) rfl (by kernel_rfl) (by kernel_rfl) (by kernel_rfl) rfl H6 (fun _ _ => by kernel_rfl) ?_
    refine r_take_eq (i := 10) (v := (.int .i64 (IntKind.i64.wrap (4 * ((t : Nat) : Int))))) (v' := (.int .i64 ((4 * ((t : Nat) : Int))))) rfl (by kernel_rfl) (by kernel_rfl) (by kernel_rfl) rfl H6 (fun _ _ => by kernel_rfl) (wr64 (by omega) (by omega)) ?_
    refine r_take_eq (i := 11) (v := (.int .i64 (IntKind.i64.wrap ((4 * ((t : Nat) : Int)) + 1)))) (v' := (.int .i64 (((4 * ((t : Nat) : Int)) + 1)))) rfl (by kernel_rfl) (by kernel_rfl) (by kernel_rfl) rfl H6 (fun _ _ => by kernel_rfl) (wr64 (by omega) (by omega)) ?_
    refine r_take (i := 12) (v := (.pointer (some ((ad).add (((4 * t) + 1) * 1))))) rfl (by kernel_rfl) (by kernel_rfl) (by kernel_rfl) rfl H6 (fun w_ hs_ => (run_ixa (sz := 1) (q := ((4 * t) + 1)) (ad := ad) (len := 64) (cap := c) (k := .i64) (z := ((4 * ((t : Nat) : Int)) + 1)) rfl (by kernel_rfl) (by kernel_rfl) rfl (by kernel_rfl) (by first | rfl | omega) (by first | omega | decide))) ?_
    refine r_take (i := 13) (v := (.int .u8 (p.getD ((4 * t) + 1) 0))) rfl (by kernel_rfl) (by kernel_rfl) (by kernel_rfl) rfl H6 (fun w_ hs_ => (run_ld rfl (by kernel_rfl) (C_scal_at (h1 := fun _ => rfl) (C_chg hF hs_) 0 ((4 * t) + 1) (by omega)) (by kernel_rfl))) ?_
    refine r_take (i := 14) (v := (.int .u32 (IntKind.u32.wrap (p.getD ((4 * t) + 1) 0)))) rfl (by kernel_rfl) (by kernel_rfl) (by kernel_rfl) rfl H6 (fun _ _ => by kernel_rfl) ?_
    refine r_take (i := 15) (v := (.int .u32 (shl .u32 (IntKind.u32.wrap (p.getD ((4 * t) + 1) 0)) 16))) rfl (by kernel_rfl) (by kernel_rfl) (by kernel_rfl) rfl H6 (fun w_ hs_ => (run_shl (yk := .u64) rfl (by kernel_rfl) (by kernel_rfl) (by first | decide | omega))) ?_
    refine r_take (i := 16) (v := (.int .u32 (Go.bits .or .u32 (shl .u32 (IntKind.u32.wrap (p.getD (4 * t) 0)) 24) (shl .u32 (IntKind.u32.wrap (p.getD ((4 * t) + 1) 0)) 16)))) rfl (by kernel_rfl) (by kernel_rfl) (by kernel_rfl) rfl H6 (fun _ _ => by kernel_rfl) ?_
    refine r_take (i := 17) (v := (.slice (some (ad)) 64 c)) rfl (by kernel_rfl) (by kernel_rfl) (by kernel_rfl) rfl H6 (fun _ _ => by kernel_rfl) ?_
    refine r_take (i := 18) (v := (.int .i64 (((t : Nat) : Int)))) rfl (by kernel_rfl) (by kernel_rfl) (by kernel_rfl) rfl H6 (fun _ _ => by kernel_rfl) ?_
    refine r_take_eq (i := 19) (v := (.int .i64 (IntKind.i64.wrap (4 * ((t : Nat) : Int))))) (v' := (.int .i64 ((4 * ((t : Nat) : Int))))) rfl (by kernel_rfl) (by kernel_rfl) (by kernel_rfl) rfl H6 (fun _ _ => by kernel_rfl) (wr64 (by omega) (by omega)) ?_
    refine r_take_eq (i := 20) (v := (.int .i64 (IntKind.i64.wrap ((4 * ((t : Nat) : Int)) + 2)))) (v' := (.int .i64 (((4 * ((t : Nat) : Int)) + 2)))) rfl (by kernel_rfl) (by kernel_rfl) (by kernel_rfl) rfl H6 (fun _ _ => by kernel_rfl) (wr64 (by omega) (by omega)) ?_
    refine r_take (i := 21) (v := (.pointer (some ((ad).add (((4 * t) + 2) * 1))))) rfl (by kernel_rfl) (by kernel_rfl) (by kernel_rfl) rfl H6 (fun w_ hs_ => (run_ixa (sz := 1) (q := ((4 * t) + 2)) (ad := ad) (len := 64) (cap := c) (k := .i64) (z := ((4 * ((t : Nat) : Int)) + 2)) rfl (by kernel_rfl) (by kernel_rfl) rfl (by kernel_rfl) (by first | rfl | omega) (by first | omega | decide))) ?_
    refine r_take (i := 22) (v := (.int .u8 (p.getD ((4 * t) + 2) 0))) rfl (by kernel_rfl) (by kernel_rfl) (by kernel_rfl) rfl H6 (fun w_ hs_ => (run_ld rfl (by kernel_rfl) (C_scal_at (h1 := fun _ => rfl) (C_chg hF hs_) 0 ((4 * t) + 2) (by omega)) (by kernel_rfl))) ?_
    refine r_take (i := 23) (v := (.int .u32 (IntKind.u32.wrap (p.getD ((4 * t) + 2) 0)))) rfl (by kernel_rfl) (by kernel_rfl) (by kernel_rfl) rfl H6 (fun _ _ => by kernel_rfl) ?_
    refine r_take (i := 24) (v := (.int .u32 (shl .u32 (IntKind.u32.wrap (p.getD ((4 * t) + 2) 0)) 8))) rfl (by kernel_rfl) (by kernel_rfl) (by kernel_rfl) rfl H6 (fun w_ hs_ => (run_shl (yk := .u64) rfl (by kernel_rfl) (by kernel_rfl) (by first | decide | omega))) ?_
    refine r_take (i := 25) (v := (.int .u32 (Go.bits .or .u32 (Go.bits .or .u32 (shl .u32 (IntKind.u32.wrap (p.getD (4 * t) 0)) 24) (shl .u32 (IntKind.u32.wrap (p.getD ((4 * t) + 1) 0)) 16)) (shl .u32 (IntKind.u32.wrap (p.getD ((4 * t) + 2) 0)) 8)))) rfl (by kernel_rfl) (by kernel_rfl) (by kernel_rfl) rfl H6 (fun _ _ => by kernel_rfl) ?_
    refine r_take (i := 26) (v := (.slice (some (ad)) 64 c)) rfl (by kernel_rfl) (by kernel_rfl) (by kernel_rfl) rfl H6 (fun _ _ => by kernel_rfl) ?_
    refine r_take (i := 27) (v := (.int .i64 (((t : Nat) : Int)))) rfl (by kernel_rfl) (by kernel_rfl) (by kernel_rfl) rfl H6 (fun _ _ => by kernel_rfl) ?_
    refine r_take_eq (i := 28) (v := (.int .i64 (IntKind.i64.wrap (4 * ((t : Nat) : Int))))) (v' := (.int .i64 ((4 * ((t : Nat) : Int))))) rfl (by kernel_rfl) (by kernel_rfl) (by kernel_rfl) rfl H6 (fun _ _ => by kernel_rfl) (wr64 (by omega) (by omega)) ?_
    refine r_take_eq (i := 29) (v := (.int .i64 (IntKind.i64.wrap ((4 * ((t : Nat) : Int)) + 3)))) (v' := (.int .i64 (((4 * ((t : Nat) : Int)) + 3)))) rfl (by kernel_rfl) (by kernel_rfl) (by kernel_rfl) rfl H6 (fun _ _ => by kernel_rfl) (wr64 (by omega) (by omega)) ?_
    refine r_take (i := 30) (v := (.pointer (some ((ad).add (((4 * t) + 3) * 1))))) rfl (by kernel_rfl) (by kernel_rfl) (by kernel_rfl) rfl H6 (fun w_ hs_ => (run_ixa (sz := 1) (q := ((4 * t) + 3)) (ad := ad) (len := 64) (cap := c) (k := .i64) (z := ((4 * ((t : Nat) : Int)) + 3)) rfl (by kernel_rfl) (by kernel_rfl) rfl (by kernel_rfl) (by first | rfl | omega) (by first | omega | decide))) ?_
    refine r_take (i := 31) (v := (.int .u8 (p.getD ((4 * t) + 3) 0))) rfl (by kernel_rfl) (by kernel_rfl) (by kernel_rfl) rfl H6 (fun w_ hs_ => (run_ld rfl (by kernel_rfl) (C_scal_at (h1 := fun _ => rfl) (C_chg hF hs_) 0 ((4 * t) + 3) (by omega)) (by kernel_rfl))) ?_
    refine r_take (i := 32) (v := (.int .u32 (IntKind.u32.wrap (p.getD ((4 * t) + 3) 0)))) rfl (by kernel_rfl) (by kernel_rfl) (by kernel_rfl) rfl H6 (fun _ _ => by kernel_rfl) ?_
    refine r_take (i := 33) (v := (.int .u32 (Go.bits .or .u32 (Go.bits .or .u32 (Go.bits .or .u32 (shl .u32 (IntKind.u32.wrap (p.getD (4 * t) 0)) 24) (shl .u32 (IntKind.u32.wrap (p.getD ((4 * t) + 1) 0)) 16)) (shl .u32 (IntKind.u32.wrap (p.getD ((4 * t) + 2) 0)) 8)) (IntKind.u32.wrap (p.getD ((4 * t) + 3) 0))))) rfl (by kernel_rfl) (by kernel_rfl) (by kernel_rfl) rfl H6 (fun _ _ => by kernel_rfl) ?_
    refine r_take (i := 34) (v := (.pointer (some (((⟨g2, 0, none⟩ : Addr)).add (t * 1))))) rfl (by kernel_rfl) (by kernel_rfl) (by kernel_rfl) rfl H6 (fun w_ hs_ => (run_ixaA (sz := 1) (q := t) (ad := ⟨g2, 0, none⟩) (k := .i64) (z := ((t : Nat) : Int)) rfl (by kernel_rfl) (by kernel_rfl) rfl (by kernel_rfl) (by first | rfl | omega) (by omega))) ?_
    refine r_one (i := 35) (by kernel_rfl) rfl (ev_setarr0 (k := 0) (j := t) (y := (Go.bits .or .u32 (Go.bits .or .u32 (Go.bits .or .u32 (shl .u32 (IntKind.u32.wrap (p.getD (4 * t) 0)) 24) (shl .u32 (IntKind.u32.wrap (p.getD ((4 * t) + 1) 0)) 16)) (shl .u32 (IntKind.u32.wrap (p.getD ((4 * t) + 2) 0)) 8)) (IntKind.u32.wrap (p.getD ((4 * t) + 3) 0)))) (by kernel_rfl) rfl rfl H6 rfl (by kernel_rfl) (by kernel_rfl) (by kernel_rfl) (by omega) ?_)
    intro w5 H7 hcw5
    refine ⟨fun h_ => Bool.noConfusion h_, ?_⟩
    refine r_done (by kernel_rfl) ?_
    refine n_then ?_
    refine wp_exit ?_
    refine e_then ?_
    refine e_in ?_
    refine n_then ?_
    refine k_list ?_
    refine l_cons (ev_eq (v := (.int .i64 (IntKind.i64.wrap (((t : Nat) : Int) + 1)))) (v' := (.int .i64 ((((t : Nat) : Int) + 1)))) (w1 := w5) rfl rfl (by kernel_rfl) (wr64 (by omega) (by omega)) ?_)
    refine l_cons (ev_run (v := (.int .i64 ((((t : Nat) : Int) + 1)))) (w1 := w5) rfl rfl (by kernel_rfl) ?_)
    refine l_nil ?_
    refine n_then ?_
    exact k_round (t + 1, ws.set t (Go.bits .or .u32 (Go.bits .or .u32 (Go.bits .or .u32 (shl .u32 (IntKind.u32.wrap (p.getD (4 * t) 0)) 24) (shl .u32 (IntKind.u32.wrap (p.getD ((4 * t) + 1) 0)) 16)) (shl .u32 (IntKind.u32.wrap (p.getD ((4 * t) + 2) 0)) 8)) (IntKind.u32.wrap (p.getD ((4 * t) + 3) 0)))) ⟨(by first | rfl | kernel_rfl), (by first | rfl | kernel_rfl), (by first | rfl | kernel_rfl), (by first | rfl | kernel_rfl), (by first | rfl | kernel_rfl), trivial⟩ ⟨(by omega), (by rw [List.length_set]; exact hwl), (by first | (rw [sch_lo (by assumption), ← hws]; rfl) | (rw [sch_hi (by assumption), ← hws]; rfl)), H7⟩ (by first | omega | (simp; done) | (simp; omega))
  · skip
    refine wp_seq ?_
    refine k_list ?_
    refine l_cons (ev_eq (v := (.bool (decide ((((t : Nat) : Int) : Int) < 64)))) (v' := (.bool true)) (w1 := w4) rfl rfl (by kernel_rfl) (bt (by first | assumption | omega)) ?_)
    refine l_nil ?_
    refine n_then ?_
    refine wp_seq ?_
    refine k_true (by kernel_rfl) ?_
    refine wp_skip ?_
    refine n_then ?_
    refine wp_seq ?_
    refine wp_block ?_
    refine wp_seq ?_
    refine k_list ?_
    refine l_cons (ev_run (v := (.int .i64 (((t : Nat) : Int)))) (w1 := w4) rfl rfl (by kernel_rfl) ?_)
    refine l_cons (ev_run (v := (.int .i64 (((t : Nat) : Int)))) (w1 := w4) rfl rfl (by kernel_rfl) ?_)
    refine l_nil ?_
    refine n_then ?_
    refine wp_seq ?_
    refine wp_seq ?_
    refine k_list ?_
    refine l_cons (ev_run (v := (.int .i64 (((t : Nat) : Int)))) (w1 := w4) rfl rfl (by kernel_rfl) ?_)
    refine l_cons (ev_eq (v := (.bool (decide ((((t : Nat) : Int) : Int) < 16)))) (v' := (.bool false)) (w1 := w4) rfl rfl (by kernel_rfl) (bf (by first | assumption | omega)) ?_)
    refine l_nil ?_
    refine n_then ?_
    refine k_false (by kernel_rfl) ?_
    refine wp_skip ?_
    refine n_then ?_
    refine wp_seq ?_
    refine r_start (m := 10) (fun j => false) (fun w' => Hp (fun k => k = g) w w' [blk g2 (wds ws) 74, blk g1 (wds KS) 74, blk g (wds v0.l ++ tl) ty]) (by kernel_rfl) rfl (by kernel_rfl) (fun _ _ _ _ _ h => h) ?_
    have H8 := H5.drew
    refine r_take (i := 0) (v := (.int .i64 (((t : Nat) : Int)))) rfl (by kernel_rfl) (by kernel_rfl) (by kernel_rfl) rfl H8 (fun _ _ => by kernel_rfl) ?_
    refine r_take_eq (i := 1) (v := (.int .i64 (IntKind.i64.wrap (((t : Nat) : Int) - 15)))) (v' := (.int .i64 ((((t : Nat) : Int) - 15)))) rfl (by kernel_rfl) (by kernel_rfl) (by kernel_rfl) rfl H8 (fun _ _ => by kernel_rfl) (wr64 (by omega) (by omega)) ?_
    refine r_take (i := 2) (v := (.pointer (some (((⟨g2, 0, none⟩ : Addr)).add ((t - 15) * 1))))) rfl (by kernel_rfl) (by kernel_rfl) (by kernel_rfl) rfl H8 (fun w_ hs_ => (run_ixaA (sz := 1) (q := (t - 15)) (ad := ⟨g2, 0, none⟩) (k := .i64) (z := (((t : Nat) : Int) - 15)) rfl (by kernel_rfl) (by kernel_rfl) rfl (by kernel_rfl) (by first | rfl | omega) (by omega))) ?_
    refine r_take (i := 3) (v := (.int .u32 (ws.getD (t - 15) 0))) rfl (by kernel_rfl) (by kernel_rfl) (by kernel_rfl) rfl H8 (fun w_ hs_ => (run_ld rfl (by kernel_rfl) (At_arr0 (hs_.get 0 rfl) (t - 15) (by omega)) (by kernel_rfl))) ?_
    refine r_take (i := 4) (v := (.int .i64 (((t : Nat) : Int)))) rfl (by kernel_rfl) (by kernel_rfl) (by kernel_rfl) rfl H8 (fun _ _ => by kernel_rfl) ?_
    refine r_take_eq (i := 5) (v := (.int .i64 (IntKind.i64.wrap (((t : Nat) : Int) - 2)))) (v' := (.int .i64 ((((t : Nat) : Int) - 2)))) rfl (by kernel_rfl) (by kernel_rfl) (by kernel_rfl) rfl H8 (fun _ _ => by kernel_rfl) (wr64 (by omega) (by omega)) ?_
    refine r_take (i := 6) (v := (.pointer (some (((⟨g2, 0, none⟩ : Addr)).add ((t - 2) * 1))))) rfl (by kernel_rfl) (by kernel_rfl) (by kernel_rfl) rfl H8 (fun w_ hs_ => (run_ixaA (sz := 1) (q := (t - 2)) (ad := ⟨g2, 0, none⟩) (k := .i64) (z := (((t : Nat) : Int) - 2)) rfl (by kernel_rfl) (by kernel_rfl) rfl (by kernel_rfl) (by first | rfl | omega) (by omega))) ?_
    refine r_take (i := 7) (v := (.int .u32 (ws.getD (t - 2) 0))) rfl (by kernel_rfl) (by kernel_rfl) (by kernel_rfl) rfl H8 (fun w_ hs_ => (run_ld rfl (by kernel_rfl) (At_arr0 (hs_.get 0 rfl) (t - 2) (by omega)) (by kernel_rfl))) ?_
    refine r_take (i := 8) (v := (.int .u32 (ws.getD (t - 15) 0))) rfl (by kernel_rfl) (by kernel_rfl) (by kernel_rfl) rfl H8 (fun _ _ => by kernel_rfl) ?_
    refine r_take (i := 9) (v := (.int .u32 (ws.getD (t - 2) 0))) rfl (by kernel_rfl) (by kernel_rfl) (by kernel_rfl) rfl H8 (fun _ _ => by kernel_rfl) ?_
    refine r_done (by kernel_rfl) ?_
    refine n_then ?_
    refine r_start (m := 30) (fun j => Nat.beq j 29) (fun w' => Hp (fun k => k = g) w w' [blk g2 (wds ws) 74, blk g1 (wds KS) 74, blk g (wds v0.l ++ tl) ty]) (by kernel_rfl) rfl (by kernel_rfl) (fun _ _ _ _ _ h => h) ?_
    have H9 := H8.drew
    refine r_take (i := 0) (v := (.int .i64 (((t : Nat) : Int)))) rfl (by kernel_rfl) (by kernel_rfl) (by kernel_rfl) rfl H9 (fun _ _ => by kernel_rfl) ?_
    refine r_take (i := 1) (v := (.int .u32 (ws.getD (t - 2) 0))) rfl (by kernel_rfl) (by kernel_rfl) (by kernel_rfl) rfl H9 (fun _ _ => by kernel_rfl) ?_
    refine r_take (i := 3) (v := (.int .u32 (ws.getD (t - 2) 0))) rfl (by kernel_rfl) (by kernel_rfl) (by kernel_rfl) rfl H9 (fun _ _ => by kernel_rfl) ?_
    refine r_take (i := 6) (v := (.int .u32 (ws.getD (t - 2) 0))) rfl (by kernel_rfl) (by kernel_rfl) (by kernel_rfl) rfl H9 (fun _ _ => by kernel_rfl) ?_
    refine r_take (i := 7) (v := (.int .u32 (shr .u32 (ws.getD (t - 2) 0) 10))) rfl (by kernel_rfl) (by kernel_rfl) (by kernel_rfl) rfl H9 (fun w_ hs_ => (run_shr (yk := .u64) rfl (by kernel_rfl) (by kernel_rfl) (by first | decide | omega))) ?_
    refine r_take (i := 9) (v := (.int .i64 (((t : Nat) : Int)))) rfl (by kernel_rfl) (by kernel_rfl) (by kernel_rfl) rfl H9 (fun _ _ => by kernel_rfl) ?_
    refine r_take_eq (i := 10) (v := (.int .i64 (IntKind.i64.wrap (((t : Nat) : Int) - 7)))) (v' := (.int .i64 ((((t : Nat) : Int) - 7)))) rfl (by kernel_rfl) (by kernel_rfl) (by kernel_rfl) rfl H9 (fun _ _ => by kernel_rfl) (wr64 (by omega) (by omega)) ?_
    refine r_take (i := 11) (v := (.pointer (some (((⟨g2, 0, none⟩ : Addr)).add ((t - 7) * 1))))) rfl (by kernel_rfl) (by kernel_rfl) (by kernel_rfl) rfl H9 (fun w_ hs_ => (run_ixaA (sz := 1) (q := (t - 7)) (ad := ⟨g2, 0, none⟩) (k := .i64) (z := (((t : Nat) : Int) - 7)) rfl (by kernel_rfl) (by kernel_rfl) rfl (by kernel_rfl) (by first | rfl | omega) (by omega))) ?_
    refine r_take (i := 12) (v := (.int .u32 (ws.getD (t - 7) 0))) rfl (by kernel_rfl) (by kernel_rfl) (by kernel_rfl) rfl H9 (fun w_ hs_ => (run_ld rfl (by kernel_rfl) (At_arr0 (hs_.get 0 rfl) (t - 7) (by omega)) (by kernel_rfl))) ?_
    refine r_take (i := 14) (v := (.int .u32 (ws.getD (t - 15) 0))) rfl (by kernel_rfl) (by kernel_rfl) (by kernel_rfl) rfl H9 (fun _ _ => by kernel_rfl) ?_
    refine r_take (i := 16) (v := (.int .u32 (ws.getD (t - 15) 0))) rfl (by kernel_rfl) (by kernel_rfl) (by kernel_rfl) rfl H9 (fun _ _ => by kernel_rfl) ?_
    refine r_take (i := 19) (v := (.int .u32 (ws.getD (t - 15) 0))) rfl (by kernel_rfl) (by kernel_rfl) (by kernel_rfl) rfl H9 (fun _ _ => by kernel_rfl) ?_
    refine r_take (i := 20) (v := (.int .u32 (shr .u32 (ws.getD (t - 15) 0) 3))) rfl (by kernel_rfl) (by kernel_rfl) (by kernel_rfl) rfl H9 (fun w_ hs_ => (run_shr (yk := .u64) rfl (by kernel_rfl) (by kernel_rfl) (by first | decide | omega))) ?_
    refine r_take (i := 23) (v := (.int .i64 (((t : Nat) : Int)))) rfl (by kernel_rfl) (by kernel_rfl) (by kernel_rfl) rfl H9 (fun _ _ => by kernel_rfl) ?_
    refine r_take_eq (i := 24) (v := (.int .i64 (IntKind.i64.wrap (((t : Nat) : Int) - 16)))) (v' := (.int .i64 ((((t : Nat) : Int) - 16)))) rfl (by kernel_rfl) (by kernel_rfl) (by kernel_rfl) rfl H9 (fun _ _ => by kernel_rfl) (wr64 (by omega) (by omega)) ?_
    refine r_take (i := 25) (v := (.pointer (some (((⟨g2, 0, none⟩ : Addr)).add ((t - 16) * 1))))) rfl (by kernel_rfl) (by kernel_rfl) (by kernel_rfl) rfl H9 (fun w_ hs_ => (run_ixaA (sz := 1) (q := (t - 16)) (ad := ⟨g2, 0, none⟩) (k := .i64) (z := (((t : Nat) : Int) - 16)) rfl (by kernel_rfl) (by kernel_rfl) rfl (by kernel_rfl) (by first | rfl | omega) (by omega))) ?_
    refine r_take (i := 26) (v := (.int .u32 (ws.getD (t - 16) 0))) rfl (by kernel_rfl) (by kernel_rfl) (by kernel_rfl) rfl H9 (fun w_ hs_ => (run_ld rfl (by kernel_rfl) (At_arr0 (hs_.get 0 rfl) (t - 16) (by omega)) (by kernel_rfl))) ?_
    refine r_one (i := 2) (by kernel_rfl) rfl (ev_call (by kernel_rfl) rfl (f := 59) (args := #[(.int .u32 (ws.getD (t - 2) 0)), (.int .i64 17)]) (by kernel_rfl) (ror_c (ws.getD (t - 2) 0) 17 _ (by kernel_rfl)) ?_)
    rintro e w6 ⟨rfl, hb_⟩
    refine ⟨_, rfl, ?_⟩
    have H10 := H9.below hb_
    refine ⟨fun _ => H10, ?_⟩
    refine r_one (i := 4) (by kernel_rfl) rfl (ev_call (by kernel_rfl) rfl (f := 59) (args := #[(.int .u32 (ws.getD (t - 2) 0)), (.int .i64 19)]) (by kernel_rfl) (ror_c (ws.getD (t - 2) 0) 19 _ (by kernel_rfl)) ?_)
    rintro e w7 ⟨rfl, hb_⟩
    refine ⟨_, rfl, ?_⟩
    have H11 := H10.below hb_
    refine ⟨fun _ => H11, ?_⟩
    refine r_take (i := 5) (v := (.int .u32 (Go.bits .xor .u32 (ror (ws.getD (t - 2) 0) 17) (ror (ws.getD (t - 2) 0) 19)))) rfl (by kernel_rfl) (by kernel_rfl) (by kernel_rfl) rfl H11 (fun _ _ => by kernel_rfl) ?_
    refine r_take (i := 8) (v := (.int .u32 (Go.bits .xor .u32 (Go.bits .xor .u32 (ror (ws.getD (t - 2) 0) 17) (ror (ws.getD (t - 2) 0) 19)) (shr .u32 (ws.getD (t - 2) 0) 10)))) rfl (by kernel_rfl) (by kernel_rfl) (by kernel_rfl) rfl H11 (fun _ _ => by kernel_rfl) ?_
    refine r_take (i := 13) (v := (.int .u32 (IntKind.u32.wrap ((Go.bits .xor .u32 (Go.bits .xor .u32 (ror (ws.getD (t - 2) 0) 17) (ror (ws.getD (t - 2) 0) 19)) (shr .u32 (ws.getD (t - 2) 0) 10)) + (ws.getD (t - 7) 0))))) rfl (by kernel_rfl) (by kernel_rfl) (by kernel_rfl) rfl H11 (fun _ _ => by kernel_rfl) ?_
    refine r_one (i := 15) (by kernel_rfl) rfl (ev_call (by kernel_rfl) rfl (f := 59) (args := #[(.int .u32 (ws.getD (t - 15) 0)), (.int .i64 7)]) (by kernel_rfl) (ror_c (ws.getD (t - 15) 0) 7 _ (by kernel_rfl)) ?_)
    rintro e w8 ⟨rfl, hb_⟩
    refine ⟨_, rfl, ?_⟩
    have H12 := H11.below hb_
    refine ⟨fun _ => H12, ?_⟩
    refine r_one (i := 17) (by kernel_rfl) rfl (ev_call (by kernel_rfl) rfl (f := 59) (args := #[(.int .u32 (ws.getD (t - 15) 0)), (.int .i64 18)]) (by kernel_rfl) (ror_c (ws.getD (t - 15) 0) 18 _ (by kernel_rfl)) ?_)
    rintro e w9 ⟨rfl, hb_⟩
    refine ⟨_, rfl, ?_⟩
    have H13 := H12.below hb_
    refine ⟨fun _ => H13, ?_⟩
    refine r_take (i := 18) (v := (.int .u32 (Go.bits .xor .u32 (ror (ws.getD (t - 15) 0) 7) (ror (ws.getD (t - 15) 0) 18)))) rfl (by kernel_rfl) (by kernel_rfl) (by kernel_rfl) rfl H13 (fun _ _ => by kernel_rfl) ?_
    refine r_take (i := 21) (v := (.int .u32 (Go.bits .xor .u32 (Go.bits .xor .u32 (ror (ws.getD (t - 15) 0) 7) (ror (ws.getD (t - 15) 0) 18)) (shr .u32 (ws.getD (t - 15) 0) 3)))) rfl (by kernel_rfl) (by kernel_rfl) (by kernel_rfl) rfl H13 (fun _ _ => by kernel_rfl) ?_
    refine r_take (i := 22) (v := (.int .u32 (IntKind.u32.wrap ((IntKind.u32.wrap ((Go.bits .xor .u32 (Go.bits .xor .u32 (ror (ws.getD (t - 2) 0) 17) (ror (ws.getD (t - 2) 0) 19)) (shr .u32 (ws.getD (t - 2) 0) 10)) + (ws.getD (t - 7) 0))) + (Go.bits .xor .u32 (Go.bits .xor .u32 (ror (ws.getD (t - 15) 0) 7) (ror (ws.getD (t - 15) 0) 18)) (shr .u32 (ws.getD (t - 15) 0) 3)))))) rfl (by kernel_rfl) (by kernel_rfl) (by kernel_rfl) rfl H13 (fun _ _ => by kernel_rfl) ?_
    refine r_take (i := 27) (v := (.int .u32 (IntKind.u32.wrap ((IntKind.u32.wrap ((IntKind.u32.wrap ((Go.bits .xor .u32 (Go.bits .xor .u32 (ror (ws.getD (t - 2) 0) 17) (ror (ws.getD (t - 2) 0) 19)) (shr .u32 (ws.getD (t - 2) 0) 10)) + (ws.getD (t - 7) 0))) + (Go.bits .xor .u32 (Go.bits .xor .u32 (ror (ws.getD (t - 15) 0) 7) (ror (ws.getD (t - 15) 0) 18)) (shr .u32 (ws.getD (t - 15) 0) 3)))) + (ws.getD (t - 16) 0))))) rfl (by kernel_rfl) (by kernel_rfl) (by kernel_rfl) rfl H13 (fun _ _ => by kernel_rfl) ?_
    refine r_take (i := 28) (v := (.pointer (some (((⟨g2, 0, none⟩ : Addr)).add (t * 1))))) rfl (by kernel_rfl) (by kernel_rfl) (by kernel_rfl) rfl H13 (fun w_ hs_ => (run_ixaA (sz := 1) (q := t) (ad := ⟨g2, 0, none⟩) (k := .i64) (z := ((t : Nat) : Int)) rfl (by kernel_rfl) (by kernel_rfl) rfl (by kernel_rfl) (by first | rfl | omega) (by omega))) ?_
    refine r_one (i := 29) (by kernel_rfl) rfl (ev_setarr0 (k := 0) (j := t) (y := (IntKind.u32.wrap ((IntKind.u32.wrap ((IntKind.u32.wrap ((Go.bits .xor .u32 (Go.bits .xor .u32 (ror (ws.getD (t - 2) 0) 17) (ror (ws.getD (t - 2) 0) 19)) (shr .u32 (ws.getD (t - 2) 0) 10)) + (ws.getD (t - 7) 0))) + (Go.bits .xor .u32 (Go.bits .xor .u32 (ror (ws.getD (t - 15) 0) 7) (ror (ws.getD (t - 15) 0) 18)) (shr .u32 (ws.getD (t - 15) 0) 3)))) + (ws.getD (t - 16) 0)))) (by kernel_rfl) rfl rfl H13 rfl (by kernel_rfl) (by kernel_rfl) (by kernel_rfl) (by omega) ?_)
    intro w10 H14 hcw10
    refine ⟨fun h_ => Bool.noConfusion h_, ?_⟩
    refine r_done (by kernel_rfl) ?_
    refine n_in ?_
    refine n_then ?_
    refine k_list ?_
    refine l_cons (ev_eq (v := (.int .i64 (IntKind.i64.wrap (((t : Nat) : Int) + 1)))) (v' := (.int .i64 ((((t : Nat) : Int) + 1)))) (w1 := w10) rfl rfl (by kernel_rfl) (wr64 (by omega) (by omega)) ?_)
    refine l_cons (ev_run (v := (.int .i64 ((((t : Nat) : Int) + 1)))) (w1 := w10) rfl rfl (by kernel_rfl) ?_)
    refine l_nil ?_
    refine n_then ?_
    exact k_round (t + 1, ws.set t (IntKind.u32.wrap ((IntKind.u32.wrap ((IntKind.u32.wrap ((Go.bits .xor .u32 (Go.bits .xor .u32 (ror (ws.getD (t - 2) 0) 17) (ror (ws.getD (t - 2) 0) 19)) (shr .u32 (ws.getD (t - 2) 0) 10)) + (ws.getD (t - 7) 0))) + (Go.bits .xor .u32 (Go.bits .xor .u32 (ror (ws.getD (t - 15) 0) 7) (ror (ws.getD (t - 15) 0) 18)) (shr .u32 (ws.getD (t - 15) 0) 3)))) + (ws.getD (t - 16) 0)))) ⟨(by first | rfl | kernel_rfl), (by first | rfl | kernel_rfl), (by first | rfl | kernel_rfl), (by first | rfl | kernel_rfl), (by first | rfl | kernel_rfl), trivial⟩ ⟨(by omega), (by rw [List.length_set]; exact hwl), (by first | (rw [sch_lo (by assumption), ← hws]; rfl) | (rw [sch_hi (by assumption), ← hws]; rfl)), H14⟩ (by first | omega | (simp; done) | (simp; omega))
  · skip
    obtain rfl : t = 64 := by omega
    refine wp_seq ?_
    refine k_list ?_
    refine l_cons (ev_run (v := (.bool false)) (w1 := w4) rfl rfl (by kernel_rfl) ?_)
    refine l_nil ?_
    refine n_then ?_
    refine wp_seq ?_
    refine k_false (by kernel_rfl) ?_
    refine wp_exit ?_
    refine e_then ?_
    refine e_then ?_
    refine e_in ?_
    refine n_then ?_
    refine wp_seq ?_
    refine k_list ?_
    refine l_cons (ev_run (v := (.pointer (some (⟨g, 0, none⟩)))) (w1 := w4) rfl rfl (by kernel_rfl) ?_)
    refine l_cons (ev_run (v := (.pointer (some (⟨g, 0, none⟩)))) (w1 := w4) rfl rfl (by kernel_rfl) ?_)
    refine l_cons (ev_run (v := (.agg #[(.int .u32 v0.a), (.int .u32 v0.b), (.int .u32 v0.c), (.int .u32 v0.d), (.int .u32 v0.e), (.int .u32 v0.f), (.int .u32 v0.g), (.int .u32 v0.h)])) (w1 := w4) rfl rfl (run_ld rfl (by kernel_rfl) (At_st8 (H5.get 2 rfl)) (by kernel_rfl)) ?_)
    refine l_cons (ev_new (cs := [(.int .u32 0), (.int .u32 0), (.int .u32 0), (.int .u32 0), (.int .u32 0), (.int .u32 0), (.int .u32 0), (.int .u32 0)]) (t := 78) rfl rfl H5 (by kernel_rfl) ?_)
    intro g3 w11 H15 hg3 hbw11
    refine l_cons (ev_store (i := 0) rfl rfl rfl H15 (k := 0) rfl (by kernel_rfl) (.agg #[(.int .u32 v0.a), (.int .u32 v0.b), (.int .u32 v0.c), (.int .u32 v0.d), (.int .u32 v0.e), (.int .u32 v0.f), (.int .u32 v0.g), (.int .u32 v0.h)]) (by kernel_rfl) [(.int .u32 v0.a), (.int .u32 v0.b), (.int .u32 v0.c), (.int .u32 v0.d), (.int .u32 v0.e), (.int .u32 v0.f), (.int .u32 v0.g), (.int .u32 v0.h)] (by kernel_rfl) (by kernel_rfl) (by kernel_rfl) (by kernel_rfl) [(.int .u32 v0.a), (.int .u32 v0.b), (.int .u32 v0.c), (.int .u32 v0.d), (.int .u32 v0.e), (.int .u32 v0.f), (.int .u32 v0.g), (.int .u32 v0.h)] (by kernel_rfl) ?_)
    intro w12 H16 hcw12
    refine l_nil ?_
    refine n_then ?_
    refine wp_seq ?_
    refine wp_seq ?_
    refine k_list ?_
    refine l_cons (ev_run (v := (.int .i64 0)) (w1 := w12) rfl rfl (by kernel_rfl) ?_)
    refine l_nil ?_
    refine n_then ?_
    refine wp_block ?_
    have H17 := H16
    rw [hws] at H17
    refine k_loop (σ := Nat × V8) (fun x_ => match x_ with | (t, v) => [(0, (.pointer (some (⟨g, 0, none⟩)))), (4, (.pointer (some (⟨g1, 0, none⟩)))), (5, (.pointer (some (⟨g2, 0, none⟩)))), (9, (.pointer (some (⟨g3, 0, none⟩)))), (98, (.int .i64 (((t : Nat) : Int))))]) (fun x_ w' => match x_ with | (t, v) => (t ≤ 64) ∧ (v = rds p v0 t) ∧ Hp (fun k => k = g) w w' [blk g3 [(.int .u32 v.a), (.int .u32 v.b), (.int .u32 v.c), (.int .u32 v.d), (.int .u32 v.e), (.int .u32 v.f), (.int .u32 v.g), (.int .u32 v.h)] 78, blk g2 (wds (sch p 64)) 74, blk g1 (wds KS) 74, blk g (wds v0.l ++ tl) ty]) (fun x_ => match x_ with | (t, v) => 64 - t) (0, v0) ⟨(by first | rfl | kernel_rfl), (by first | rfl | kernel_rfl), (by first | rfl | kernel_rfl), (by first | rfl | kernel_rfl), (by first | rfl | kernel_rfl), trivial⟩ ⟨(by omega), rfl, H17⟩ ?_
    rintro L2 ⟨t, v⟩ w13 ⟨ht, hv, H18⟩
    change Code.wp _ _ _ (Fr _ _ [(0, (.pointer (some (⟨g, 0, none⟩)))), (4, (.pointer (some (⟨g1, 0, none⟩)))), (5, (.pointer (some (⟨g2, 0, none⟩)))), (9, (.pointer (some (⟨g3, 0, none⟩)))), (98, (.int .i64 (((t : Nat) : Int))))]) _
    rcases Nat.lt_or_ge t 64 with h1 | h1
    · skip
      refine wp_seq ?_
      refine k_list ?_
      refine l_cons (ev_eq (v := (.bool (decide ((((t : Nat) : Int) : Int) < 64)))) (v' := (.bool true)) (w1 := w13) rfl rfl (by kernel_rfl) (bt (by first | assumption | omega)) ?_)
      refine l_nil ?_
      refine n_then ?_
      refine wp_seq ?_
      refine k_true (by kernel_rfl) ?_
      refine wp_skip ?_
      refine n_then ?_
      refine wp_seq ?_
      refine wp_block ?_
      refine wp_seq ?_
      refine k_list ?_
      refine l_cons (ev_run (v := (.int .i64 (((t : Nat) : Int)))) (w1 := w13) rfl rfl (by kernel_rfl) ?_)
      refine l_cons (ev_run (v := (.int .i64 (((t : Nat) : Int)))) (w1 := w13) rfl rfl (by kernel_rfl) ?_)
      refine l_nil ?_
      refine n_then ?_
      refine wp_seq ?_
      refine r_start (m := 6) (fun j => false) (fun w' => Hp (fun k => k = g) w w' [blk g3 [(.int .u32 v.a), (.int .u32 v.b), (.int .u32 v.c), (.int .u32 v.d), (.int .u32 v.e), (.int .u32 v.f), (.int .u32 v.g), (.int .u32 v.h)] 78, blk g2 (wds (sch p 64)) 74, blk g1 (wds KS) 74, blk g (wds v0.l ++ tl) ty]) (by kernel_rfl) rfl (by kernel_rfl) (fun _ _ _ _ _ h => h) ?_
      have H19 := H18.drew
      refine r_take (i := 0) (v := (.pointer (some (⟨g3, 0, none⟩)))) rfl (by kernel_rfl) (by kernel_rfl) (by kernel_rfl) rfl H19 (fun _ _ => by kernel_rfl) ?_
      refine r_take (i := 1) (v := (.int .u32 v.a)) rfl (by kernel_rfl) (by kernel_rfl) (by kernel_rfl) rfl H19 (fun w_ hs_ => (run_ld rfl (by kernel_rfl) (At.blk (hs_.get 0 rfl) 0) (by kernel_rfl))) ?_
      refine r_take (i := 2) (v := (.pointer (some (⟨g3, 4, none⟩)))) rfl (by kernel_rfl) (by kernel_rfl) (by kernel_rfl) rfl H19 (fun _ _ => by kernel_rfl) ?_
      refine r_take (i := 3) (v := (.int .u32 v.e)) rfl (by kernel_rfl) (by kernel_rfl) (by kernel_rfl) rfl H19 (fun w_ hs_ => (run_ld rfl (by kernel_rfl) (At.blk (hs_.get 0 rfl) 4) (by kernel_rfl))) ?_
      refine r_take (i := 4) (v := (.int .u32 v.a)) rfl (by kernel_rfl) (by kernel_rfl) (by kernel_rfl) rfl H19 (fun _ _ => by kernel_rfl) ?_
      refine r_take (i := 5) (v := (.int .u32 v.e)) rfl (by kernel_rfl) (by kernel_rfl) (by kernel_rfl) rfl H19 (fun _ _ => by kernel_rfl) ?_
      refine r_done (by kernel_rfl) ?_
      refine n_then ?_
      refine wp_seq ?_
      refine r_start (m := 31) (fun j => false) (fun w' => Hp (fun k => k = g) w w' [blk g3 [(.int .u32 v.a), (.int .u32 v.b), (.int .u32 v.c), (.int .u32 v.d), (.int .u32 v.e), (.int .u32 v.f), (.int .u32 v.g), (.int .u32 v.h)] 78, blk g2 (wds (sch p 64)) 74, blk g1 (wds KS) 74, blk g (wds v0.l ++ tl) ty]) (by kernel_rfl) rfl (by kernel_rfl) (fun _ _ _ _ _ h => h) ?_
      have H20 := H19.drew
      refine r_take (i := 0) (v := (.pointer (some (⟨g3, 7, none⟩)))) rfl (by kernel_rfl) (by kernel_rfl) (by kernel_rfl) rfl H20 (fun _ _ => by kernel_rfl) ?_
      refine r_take (i := 1) (v := (.int .u32 v.h)) rfl (by kernel_rfl) (by kernel_rfl) (by kernel_rfl) rfl H20 (fun w_ hs_ => (run_ld rfl (by kernel_rfl) (At.blk (hs_.get 0 rfl) 7) (by kernel_rfl))) ?_
      refine r_take (i := 2) (v := (.int .u32 v.e)) rfl (by kernel_rfl) (by kernel_rfl) (by kernel_rfl) rfl H20 (fun _ _ => by kernel_rfl) ?_
      refine r_take (i := 4) (v := (.int .u32 v.e)) rfl (by kernel_rfl) (by kernel_rfl) (by kernel_rfl) rfl H20 (fun _ _ => by kernel_rfl) ?_
      refine r_take (i := 7) (v := (.int .u32 v.e)) rfl (by kernel_rfl) (by kernel_rfl) (by kernel_rfl) rfl H20 (fun _ _ => by kernel_rfl) ?_
      refine r_take (i := 11) (v := (.int .u32 v.e)) rfl (by kernel_rfl) (by kernel_rfl) (by kernel_rfl) rfl H20 (fun _ _ => by kernel_rfl) ?_
      refine r_take (i := 12) (v := (.pointer (some (⟨g3, 5, none⟩)))) rfl (by kernel_rfl) (by kernel_rfl) (by kernel_rfl) rfl H20 (fun _ _ => by kernel_rfl) ?_
      refine r_take (i := 13) (v := (.int .u32 v.f)) rfl (by kernel_rfl) (by kernel_rfl) (by kernel_rfl) rfl H20 (fun w_ hs_ => (run_ld rfl (by kernel_rfl) (At.blk (hs_.get 0 rfl) 5) (by kernel_rfl))) ?_
      refine r_take (i := 14) (v := (.int .u32 (Go.bits .and .u32 v.e v.f))) rfl (by kernel_rfl) (by kernel_rfl) (by kernel_rfl) rfl H20 (fun _ _ => by kernel_rfl) ?_
      refine r_take (i := 15) (v := (.int .u32 v.e)) rfl (by kernel_rfl) (by kernel_rfl) (by kernel_rfl) rfl H20 (fun _ _ => by kernel_rfl) ?_
      refine r_take (i := 16) (v := (.int .u32 (Go.bits .xor .u32 4294967295 v.e))) rfl (by kernel_rfl) (by kernel_rfl) (by kernel_rfl) rfl H20 (fun _ _ => by kernel_rfl) ?_
      refine r_take (i := 17) (v := (.pointer (some (⟨g3, 6, none⟩)))) rfl (by kernel_rfl) (by kernel_rfl) (by kernel_rfl) rfl H20 (fun _ _ => by kernel_rfl) ?_
      refine r_take (i := 18) (v := (.int .u32 v.g)) rfl (by kernel_rfl) (by kernel_rfl) (by kernel_rfl) rfl H20 (fun w_ hs_ => (run_ld rfl (by kernel_rfl) (At.blk (hs_.get 0 rfl) 6) (by kernel_rfl))) ?_
      refine r_take (i := 19) (v := (.int .u32 (Go.bits .and .u32 (Go.bits .xor .u32 4294967295 v.e) v.g))) rfl (by kernel_rfl) (by kernel_rfl) (by kernel_rfl) rfl H20 (fun _ _ => by kernel_rfl) ?_
      refine r_take (i := 20) (v := (.int .u32 (Go.bits .xor .u32 (Go.bits .and .u32 v.e v.f) (Go.bits .and .u32 (Go.bits .xor .u32 4294967295 v.e) v.g)))) rfl (by kernel_rfl) (by kernel_rfl) (by kernel_rfl) rfl H20 (fun _ _ => by kernel_rfl) ?_
      refine r_take (i := 22) (v := (.int .i64 (((t : Nat) : Int)))) rfl (by kernel_rfl) (by kernel_rfl) (by kernel_rfl) rfl H20 (fun _ _ => by kernel_rfl) ?_
      refine r_take (i := 23) (v := (.pointer (some (((⟨g1, 0, none⟩ : Addr)).add (t * 1))))) rfl (by kernel_rfl) (by kernel_rfl) (by kernel_rfl) rfl H20 (fun w_ hs_ => (run_ixaA (sz := 1) (q := t) (ad := ⟨g1, 0, none⟩) (k := .i64) (z := ((t : Nat) : Int)) rfl (by kernel_rfl) (by kernel_rfl) rfl (by kernel_rfl) (by first | rfl | omega) (by omega))) ?_
      refine r_take (i := 24) (v := (.int .u32 (KS.getD t 0))) rfl (by kernel_rfl) (by kernel_rfl) (by kernel_rfl) rfl H20 (fun w_ hs_ => (run_ld rfl (by kernel_rfl) (At_arr0 (hs_.get 2 rfl) t (by rw [KS_length]; omega)) (by kernel_rfl))) ?_
      refine r_take (i := 26) (v := (.int .i64 (((t : Nat) : Int)))) rfl (by kernel_rfl) (by kernel_rfl) (by kernel_rfl) rfl H20 (fun _ _ => by kernel_rfl) ?_
      refine r_take (i := 27) (v := (.pointer (some (((⟨g2, 0, none⟩ : Addr)).add (t * 1))))) rfl (by kernel_rfl) (by kernel_rfl) (by kernel_rfl) rfl H20 (fun w_ hs_ => (run_ixaA (sz := 1) (q := t) (ad := ⟨g2, 0, none⟩) (k := .i64) (z := ((t : Nat) : Int)) rfl (by kernel_rfl) (by kernel_rfl) rfl (by kernel_rfl) (by first | rfl | omega) (by omega))) ?_
      refine r_take (i := 28) (v := (.int .u32 ((sch p 64).getD t 0))) rfl (by kernel_rfl) (by kernel_rfl) (by kernel_rfl) rfl H20 (fun w_ hs_ => (run_ld rfl (by kernel_rfl) (At_arr0 (hs_.get 1 rfl) t (by rw [sch_length]; omega)) (by kernel_rfl))) ?_
      refine r_one (i := 3) (by kernel_rfl) rfl (ev_call (by kernel_rfl) rfl (f := 59) (args := #[(.int .u32 v.e), (.int .i64 6)]) (by kernel_rfl) (ror_c v.e 6 _ (by kernel_rfl)) ?_)
      rintro e w14 ⟨rfl, hb_⟩
      refine ⟨_, rfl, ?_⟩
      have H21 := H20.below hb_
      refine ⟨fun _ => H21, ?_⟩
      refine r_one (i := 5) (by kernel_rfl) rfl (ev_call (by kernel_rfl) rfl (f := 59) (args := #[(.int .u32 v.e), (.int .i64 11)]) (by kernel_rfl) (ror_c v.e 11 _ (by kernel_rfl)) ?_)
      rintro e w15 ⟨rfl, hb_⟩
      refine ⟨_, rfl, ?_⟩
      have H22 := H21.below hb_
      refine ⟨fun _ => H22, ?_⟩
      refine r_take (i := 6) (v := (.int .u32 (Go.bits .xor .u32 (ror v.e 6) (ror v.e 11)))) rfl (by kernel_rfl) (by kernel_rfl) (by kernel_rfl) rfl H22 (fun _ _ => by kernel_rfl) ?_
      refine r_one (i := 8) (by kernel_rfl) rfl (ev_call (by kernel_rfl) rfl (f := 59) (args := #[(.int .u32 v.e), (.int .i64 25)]) (by kernel_rfl) (ror_c v.e 25 _ (by kernel_rfl)) ?_)
      rintro e w16 ⟨rfl, hb_⟩
      refine ⟨_, rfl, ?_⟩
      have H23 := H22.below hb_
      refine ⟨fun _ => H23, ?_⟩
      refine r_take (i := 9) (v := (.int .u32 (Go.bits .xor .u32 (Go.bits .xor .u32 (ror v.e 6) (ror v.e 11)) (ror v.e 25)))) rfl (by kernel_rfl) (by kernel_rfl) (by kernel_rfl) rfl H23 (fun _ _ => by kernel_rfl) ?_
      refine r_take (i := 10) (v := (.int .u32 (IntKind.u32.wrap (v.h + (Go.bits .xor .u32 (Go.bits .xor .u32 (ror v.e 6) (ror v.e 11)) (ror v.e 25)))))) rfl (by kernel_rfl) (by kernel_rfl) (by kernel_rfl) rfl H23 (fun _ _ => by kernel_rfl) ?_
      refine r_take (i := 21) (v := (.int .u32 (IntKind.u32.wrap ((IntKind.u32.wrap (v.h + (Go.bits .xor .u32 (Go.bits .xor .u32 (ror v.e 6) (ror v.e 11)) (ror v.e 25)))) + (Go.bits .xor .u32 (Go.bits .and .u32 v.e v.f) (Go.bits .and .u32 (Go.bits .xor .u32 4294967295 v.e) v.g)))))) rfl (by kernel_rfl) (by kernel_rfl) (by kernel_rfl) rfl H23 (fun _ _ => by kernel_rfl) ?_
      refine r_take (i := 25) (v := (.int .u32 (IntKind.u32.wrap ((IntKind.u32.wrap ((IntKind.u32.wrap (v.h + (Go.bits .xor .u32 (Go.bits .xor .u32 (ror v.e 6) (ror v.e 11)) (ror v.e 25)))) + (Go.bits .xor .u32 (Go.bits .and .u32 v.e v.f) (Go.bits .and .u32 (Go.bits .xor .u32 4294967295 v.e) v.g)))) + (KS.getD t 0))))) rfl (by kernel_rfl) (by kernel_rfl) (by kernel_rfl) rfl H23 (fun _ _ => by kernel_rfl) ?_
      refine r_take (i := 29) (v := (.int .u32 (IntKind.u32.wrap ((IntKind.u32.wrap ((IntKind.u32.wrap ((IntKind.u32.wrap (v.h + (Go.bits .xor .u32 (Go.bits .xor .u32 (ror v.e 6) (ror v.e 11)) (ror v.e 25)))) + (Go.bits .xor .u32 (Go.bits .and .u32 v.e v.f) (Go.bits .and .u32 (Go.bits .xor .u32 4294967295 v.e) v.g)))) + (KS.getD t 0))) + ((sch p 64).getD t 0))))) rfl (by kernel_rfl) (by kernel_rfl) (by kernel_rfl) rfl H23 (fun _ _ => by kernel_rfl) ?_
      refine r_take (i := 30) (v := (.int .u32 (IntKind.u32.wrap ((IntKind.u32.wrap ((IntKind.u32.wrap ((IntKind.u32.wrap (v.h + (Go.bits .xor .u32 (Go.bits .xor .u32 (ror v.e 6) (ror v.e 11)) (ror v.e 25)))) + (Go.bits .xor .u32 (Go.bits .and .u32 v.e v.f) (Go.bits .and .u32 (Go.bits .xor .u32 4294967295 v.e) v.g)))) + (KS.getD t 0))) + ((sch p 64).getD t 0))))) rfl (by kernel_rfl) (by kernel_rfl) (by kernel_rfl) rfl H23 (fun _ _ => by kernel_rfl) ?_
      refine r_done (by kernel_rfl) ?_
      refine n_then ?_
      refine wp_seq ?_
      refine r_start (m := 25) (fun j => false) (fun w' => Hp (fun k => k = g) w w' [blk g3 [(.int .u32 v.a), (.int .u32 v.b), (.int .u32 v.c), (.int .u32 v.d), (.int .u32 v.e), (.int .u32 v.f), (.int .u32 v.g), (.int .u32 v.h)] 78, blk g2 (wds (sch p 64)) 74, blk g1 (wds KS) 74, blk g (wds v0.l ++ tl) ty]) (by kernel_rfl) rfl (by kernel_rfl) (fun _ _ _ _ _ h => h) ?_
      have H24 := H23.drew
      refine r_take (i := 0) (v := (.int .u32 v.a)) rfl (by kernel_rfl) (by kernel_rfl) (by kernel_rfl) rfl H24 (fun _ _ => by kernel_rfl) ?_
      refine r_take (i := 2) (v := (.int .u32 v.a)) rfl (by kernel_rfl) (by kernel_rfl) (by kernel_rfl) rfl H24 (fun _ _ => by kernel_rfl) ?_
      refine r_take (i := 5) (v := (.int .u32 v.a)) rfl (by kernel_rfl) (by kernel_rfl) (by kernel_rfl) rfl H24 (fun _ _ => by kernel_rfl) ?_
      refine r_take (i := 8) (v := (.int .u32 v.a)) rfl (by kernel_rfl) (by kernel_rfl) (by kernel_rfl) rfl H24 (fun _ _ => by kernel_rfl) ?_
      refine r_take (i := 9) (v := (.pointer (some (⟨g3, 1, none⟩)))) rfl (by kernel_rfl) (by kernel_rfl) (by kernel_rfl) rfl H24 (fun _ _ => by kernel_rfl) ?_
      refine r_take (i := 10) (v := (.int .u32 v.b)) rfl (by kernel_rfl) (by kernel_rfl) (by kernel_rfl) rfl H24 (fun w_ hs_ => (run_ld rfl (by kernel_rfl) (At.blk (hs_.get 0 rfl) 1) (by kernel_rfl))) ?_
      refine r_take (i := 11) (v := (.int .u32 (Go.bits .and .u32 v.a v.b))) rfl (by kernel_rfl) (by kernel_rfl) (by kernel_rfl) rfl H24 (fun _ _ => by kernel_rfl) ?_
      refine r_take (i := 12) (v := (.int .u32 v.a)) rfl (by kernel_rfl) (by kernel_rfl) (by kernel_rfl) rfl H24 (fun _ _ => by kernel_rfl) ?_
      refine r_take (i := 13) (v := (.pointer (some (⟨g3, 2, none⟩)))) rfl (by kernel_rfl) (by kernel_rfl) (by kernel_rfl) rfl H24 (fun _ _ => by kernel_rfl) ?_
      refine r_take (i := 14) (v := (.int .u32 v.c)) rfl (by kernel_rfl) (by kernel_rfl) (by kernel_rfl) rfl H24 (fun w_ hs_ => (run_ld rfl (by kernel_rfl) (At.blk (hs_.get 0 rfl) 2) (by kernel_rfl))) ?_
      refine r_take (i := 15) (v := (.int .u32 (Go.bits .and .u32 v.a v.c))) rfl (by kernel_rfl) (by kernel_rfl) (by kernel_rfl) rfl H24 (fun _ _ => by kernel_rfl) ?_
      refine r_take (i := 16) (v := (.int .u32 (Go.bits .xor .u32 (Go.bits .and .u32 v.a v.b) (Go.bits .and .u32 v.a v.c)))) rfl (by kernel_rfl) (by kernel_rfl) (by kernel_rfl) rfl H24 (fun _ _ => by kernel_rfl) ?_
      refine r_take (i := 17) (v := (.pointer (some (⟨g3, 1, none⟩)))) rfl (by kernel_rfl) (by kernel_rfl) (by kernel_rfl) rfl H24 (fun _ _ => by kernel_rfl) ?_
      refine r_take (i := 18) (v := (.int .u32 v.b)) rfl (by kernel_rfl) (by kernel_rfl) (by kernel_rfl) rfl H24 (fun w_ hs_ => (run_ld rfl (by kernel_rfl) (At.blk (hs_.get 0 rfl) 1) (by kernel_rfl))) ?_
      refine r_take (i := 19) (v := (.pointer (some (⟨g3, 2, none⟩)))) rfl (by kernel_rfl) (by kernel_rfl) (by kernel_rfl) rfl H24 (fun _ _ => by kernel_rfl) ?_
      refine r_take (i := 20) (v := (.int .u32 v.c)) rfl (by kernel_rfl) (by kernel_rfl) (by kernel_rfl) rfl H24 (fun w_ hs_ => (run_ld rfl (by kernel_rfl) (At.blk (hs_.get 0 rfl) 2) (by kernel_rfl))) ?_
      refine r_take (i := 21) (v := (.int .u32 (Go.bits .and .u32 v.b v.c))) rfl (by kernel_rfl) (by kernel_rfl) (by kernel_rfl) rfl H24 (fun _ _ => by kernel_rfl) ?_
      refine r_take (i := 22) (v := (.int .u32 (Go.bits .xor .u32 (Go.bits .xor .u32 (Go.bits .and .u32 v.a v.b) (Go.bits .and .u32 v.a v.c)) (Go.bits .and .u32 v.b v.c)))) rfl (by kernel_rfl) (by kernel_rfl) (by kernel_rfl) rfl H24 (fun _ _ => by kernel_rfl) ?_
      refine r_one (i := 1) (by kernel_rfl) rfl (ev_call (by kernel_rfl) rfl (f := 59) (args := #[(.int .u32 v.a), (.int .i64 2)]) (by kernel_rfl) (ror_c v.a 2 _ (by kernel_rfl)) ?_)
      rintro e w17 ⟨rfl, hb_⟩
      refine ⟨_, rfl, ?_⟩
      have H25 := H24.below hb_
      refine ⟨fun _ => H25, ?_⟩
      refine r_one (i := 3) (by kernel_rfl) rfl (ev_call (by kernel_rfl) rfl (f := 59) (args := #[(.int .u32 v.a), (.int .i64 13)]) (by kernel_rfl) (ror_c v.a 13 _ (by kernel_rfl)) ?_)
      rintro e w18 ⟨rfl, hb_⟩
      refine ⟨_, rfl, ?_⟩
      have H26 := H25.below hb_
      refine ⟨fun _ => H26, ?_⟩
      refine r_take (i := 4) (v := (.int .u32 (Go.bits .xor .u32 (ror v.a 2) (ror v.a 13)))) rfl (by kernel_rfl) (by kernel_rfl) (by kernel_rfl) rfl H26 (fun _ _ => by kernel_rfl) ?_
      refine r_one (i := 6) (by kernel_rfl) rfl (ev_call (by kernel_rfl) rfl (f := 59) (args := #[(.int .u32 v.a), (.int .i64 22)]) (by kernel_rfl) (ror_c v.a 22 _ (by kernel_rfl)) ?_)
      rintro e w19 ⟨rfl, hb_⟩
      refine ⟨_, rfl, ?_⟩
      have H27 := H26.below hb_
      refine ⟨fun _ => H27, ?_⟩
      refine r_take (i := 7) (v := (.int .u32 (Go.bits .xor .u32 (Go.bits .xor .u32 (ror v.a 2) (ror v.a 13)) (ror v.a 22)))) rfl (by kernel_rfl) (by kernel_rfl) (by kernel_rfl) rfl H27 (fun _ _ => by kernel_rfl) ?_
      refine r_take (i := 23) (v := (.int .u32 (IntKind.u32.wrap ((Go.bits .xor .u32 (Go.bits .xor .u32 (ror v.a 2) (ror v.a 13)) (ror v.a 22)) + (Go.bits .xor .u32 (Go.bits .xor .u32 (Go.bits .and .u32 v.a v.b) (Go.bits .and .u32 v.a v.c)) (Go.bits .and .u32 v.b v.c)))))) rfl (by kernel_rfl) (by kernel_rfl) (by kernel_rfl) rfl H27 (fun _ _ => by kernel_rfl) ?_
      refine r_take (i := 24) (v := (.int .u32 (IntKind.u32.wrap ((Go.bits .xor .u32 (Go.bits .xor .u32 (ror v.a 2) (ror v.a 13)) (ror v.a 22)) + (Go.bits .xor .u32 (Go.bits .xor .u32 (Go.bits .and .u32 v.a v.b) (Go.bits .and .u32 v.a v.c)) (Go.bits .and .u32 v.b v.c)))))) rfl (by kernel_rfl) (by kernel_rfl) (by kernel_rfl) rfl H27 (fun _ _ => by kernel_rfl) ?_
      refine r_done (by kernel_rfl) ?_
      refine n_then ?_
      refine wp_seq ?_
      refine r_start (m := 3) (fun j => Nat.beq j 2) (fun w' => Hp (fun k => k = g) w w' [blk g3 [(.int .u32 v.a), (.int .u32 v.b), (.int .u32 v.c), (.int .u32 v.d), (.int .u32 v.e), (.int .u32 v.f), (.int .u32 v.g), (.int .u32 v.h)] 78, blk g2 (wds (sch p 64)) 74, blk g1 (wds KS) 74, blk g (wds v0.l ++ tl) ty]) (by kernel_rfl) rfl (by kernel_rfl) (fun _ _ _ _ _ h => h) ?_
      have H28 := H27.drew
      refine r_take (i := 0) (v := (.slice (some (⟨g3, 1, none⟩)) 7 7)) rfl (by kernel_rfl) (by kernel_rfl) (by kernel_rfl) rfl H28 (fun _ _ => by kernel_rfl) ?_
      refine r_take (i := 1) (v := (.slice (some (⟨g3, 0, none⟩)) 7 8)) rfl (by kernel_rfl) (by kernel_rfl) (by kernel_rfl) rfl H28 (fun _ _ => by kernel_rfl) ?_
      refine r_one (i := 2) (by kernel_rfl) rfl (ev_copyblk (g := g3) (i := 1) (j := 0) (m := 7) (c1 := 7) (c2 := 8) (by kernel_rfl) rfl rfl H28 (k := 0) rfl (by kernel_rfl) (by kernel_rfl) Try.underlying85 (by kernel_rfl) [(.int .u32 v.a), (.int .u32 v.b), (.int .u32 v.c), (.int .u32 v.d), (.int .u32 v.e), (.int .u32 v.f), (.int .u32 v.g)] rfl rfl (by kernel_rfl) (by kernel_rfl) [(.int .u32 v.a), (.int .u32 v.a), (.int .u32 v.b), (.int .u32 v.c), (.int .u32 v.d), (.int .u32 v.e), (.int .u32 v.f), (.int .u32 v.g)] (by kernel_rfl) ?_)
      intro w20 H29 hcw20
      refine ⟨fun h_ => Bool.noConfusion h_, ?_⟩
      refine r_done (by kernel_rfl) ?_
      refine n_then ?_
      refine wp_seq ?_
      refine k_list ?_
      refine l_cons (ev_run (v := (.pointer (some (⟨g3, 4, none⟩)))) (w1 := w20) rfl rfl (by kernel_rfl) ?_)
      refine l_cons (ev_run (v := (.int .u32 v.d)) (w1 := w20) rfl rfl (run_ld rfl (by kernel_rfl) (At.blk (H29.get 0 rfl) 4) (by kernel_rfl)) ?_)
      refine l_cons (ev_run (v := (.int .u32 (IntKind.u32.wrap ((IntKind.u32.wrap ((IntKind.u32.wrap ((IntKind.u32.wrap (v.h + (Go.bits .xor .u32 (Go.bits .xor .u32 (ror v.e 6) (ror v.e 11)) (ror v.e 25)))) + (Go.bits .xor .u32 (Go.bits .and .u32 v.e v.f) (Go.bits .and .u32 (Go.bits .xor .u32 4294967295 v.e) v.g)))) + (KS.getD t 0))) + ((sch p 64).getD t 0))))) (w1 := w20) rfl rfl (by kernel_rfl) ?_)
      refine l_cons (ev_run (v := (.int .u32 (IntKind.u32.wrap (v.d + (IntKind.u32.wrap ((IntKind.u32.wrap ((IntKind.u32.wrap ((IntKind.u32.wrap (v.h + (Go.bits .xor .u32 (Go.bits .xor .u32 (ror v.e 6) (ror v.e 11)) (ror v.e 25)))) + (Go.bits .xor .u32 (Go.bits .and .u32 v.e v.f) (Go.bits .and .u32 (Go.bits .xor .u32 4294967295 v.e) v.g)))) + (KS.getD t 0))) + ((sch p 64).getD t 0))))))) (w1 := w20) rfl rfl (by kernel_rfl) ?_)
      refine l_cons (ev_run (v := (.pointer (some (⟨g3, 4, none⟩)))) (w1 := w20) rfl rfl (by kernel_rfl) ?_)
      refine l_cons (ev_store (i := 4) rfl rfl rfl H29 (k := 0) rfl (by kernel_rfl) (.int .u32 (IntKind.u32.wrap (v.d + (IntKind.u32.wrap ((IntKind.u32.wrap ((IntKind.u32.wrap ((IntKind.u32.wrap (v.h + (Go.bits .xor .u32 (Go.bits .xor .u32 (ror v.e 6) (ror v.e 11)) (ror v.e 25)))) + (Go.bits .xor .u32 (Go.bits .and .u32 v.e v.f) (Go.bits .and .u32 (Go.bits .xor .u32 4294967295 v.e) v.g)))) + (KS.getD t 0))) + ((sch p 64).getD t 0)))))) (by kernel_rfl) [(.int .u32 (IntKind.u32.wrap (v.d + (IntKind.u32.wrap ((IntKind.u32.wrap ((IntKind.u32.wrap ((IntKind.u32.wrap (v.h + (Go.bits .xor .u32 (Go.bits .xor .u32 (ror v.e 6) (ror v.e 11)) (ror v.e 25)))) + (Go.bits .xor .u32 (Go.bits .and .u32 v.e v.f) (Go.bits .and .u32 (Go.bits .xor .u32 4294967295 v.e) v.g)))) + (KS.getD t 0))) + ((sch p 64).getD t 0))))))] (by kernel_rfl) (by kernel_rfl) (by kernel_rfl) (by kernel_rfl) [(.int .u32 v.a), (.int .u32 v.a), (.int .u32 v.b), (.int .u32 v.c), (.int .u32 (IntKind.u32.wrap (v.d + (IntKind.u32.wrap ((IntKind.u32.wrap ((IntKind.u32.wrap ((IntKind.u32.wrap (v.h + (Go.bits .xor .u32 (Go.bits .xor .u32 (ror v.e 6) (ror v.e 11)) (ror v.e 25)))) + (Go.bits .xor .u32 (Go.bits .and .u32 v.e v.f) (Go.bits .and .u32 (Go.bits .xor .u32 4294967295 v.e) v.g)))) + (KS.getD t 0))) + ((sch p 64).getD t 0)))))), (.int .u32 v.e), (.int .u32 v.f), (.int .u32 v.g)] (by kernel_rfl) ?_)
      intro w21 H30 hcw21
      refine l_nil ?_
      refine n_then ?_
      refine k_list ?_
      refine l_cons (ev_run (v := (.int .u32 (IntKind.u32.wrap ((IntKind.u32.wrap ((IntKind.u32.wrap ((IntKind.u32.wrap (v.h + (Go.bits .xor .u32 (Go.bits .xor .u32 (ror v.e 6) (ror v.e 11)) (ror v.e 25)))) + (Go.bits .xor .u32 (Go.bits .and .u32 v.e v.f) (Go.bits .and .u32 (Go.bits .xor .u32 4294967295 v.e) v.g)))) + (KS.getD t 0))) + ((sch p 64).getD t 0))))) (w1 := w21) rfl rfl (by kernel_rfl) ?_)
      refine l_cons (ev_run (v := (.int .u32 (IntKind.u32.wrap ((Go.bits .xor .u32 (Go.bits .xor .u32 (ror v.a 2) (ror v.a 13)) (ror v.a 22)) + (Go.bits .xor .u32 (Go.bits .xor .u32 (Go.bits .and .u32 v.a v.b) (Go.bits .and .u32 v.a v.c)) (Go.bits .and .u32 v.b v.c)))))) (w1 := w21) rfl rfl (by kernel_rfl) ?_)
      refine l_cons (ev_run (v := (.int .u32 (IntKind.u32.wrap ((IntKind.u32.wrap ((IntKind.u32.wrap ((IntKind.u32.wrap ((IntKind.u32.wrap (v.h + (Go.bits .xor .u32 (Go.bits .xor .u32 (ror v.e 6) (ror v.e 11)) (ror v.e 25)))) + (Go.bits .xor .u32 (Go.bits .and .u32 v.e v.f) (Go.bits .and .u32 (Go.bits .xor .u32 4294967295 v.e) v.g)))) + (KS.getD t 0))) + ((sch p 64).getD t 0))) + (IntKind.u32.wrap ((Go.bits .xor .u32 (Go.bits .xor .u32 (ror v.a 2) (ror v.a 13)) (ror v.a 22)) + (Go.bits .xor .u32 (Go.bits .xor .u32 (Go.bits .and .u32 v.a v.b) (Go.bits .and .u32 v.a v.c)) (Go.bits .and .u32 v.b v.c)))))))) (w1 := w21) rfl rfl (by kernel_rfl) ?_)
      refine l_cons (ev_run (v := (.pointer (some (⟨g3, 0, none⟩)))) (w1 := w21) rfl rfl (by kernel_rfl) ?_)
      refine l_cons (ev_store (i := 0) rfl rfl rfl H30 (k := 0) rfl (by kernel_rfl) (.int .u32 (IntKind.u32.wrap ((IntKind.u32.wrap ((IntKind.u32.wrap ((IntKind.u32.wrap ((IntKind.u32.wrap (v.h + (Go.bits .xor .u32 (Go.bits .xor .u32 (ror v.e 6) (ror v.e 11)) (ror v.e 25)))) + (Go.bits .xor .u32 (Go.bits .and .u32 v.e v.f) (Go.bits .and .u32 (Go.bits .xor .u32 4294967295 v.e) v.g)))) + (KS.getD t 0))) + ((sch p 64).getD t 0))) + (IntKind.u32.wrap ((Go.bits .xor .u32 (Go.bits .xor .u32 (ror v.a 2) (ror v.a 13)) (ror v.a 22)) + (Go.bits .xor .u32 (Go.bits .xor .u32 (Go.bits .and .u32 v.a v.b) (Go.bits .and .u32 v.a v.c)) (Go.bits .and .u32 v.b v.c))))))) (by kernel_rfl) [(.int .u32 (IntKind.u32.wrap ((IntKind.u32.wrap ((IntKind.u32.wrap ((IntKind.u32.wrap ((IntKind.u32.wrap (v.h + (Go.bits .xor .u32 (Go.bits .xor .u32 (ror v.e 6) (ror v.e 11)) (ror v.e 25)))) + (Go.bits .xor .u32 (Go.bits .and .u32 v.e v.f) (Go.bits .and .u32 (Go.bits .xor .u32 4294967295 v.e) v.g)))) + (KS.getD t 0))) + ((sch p 64).getD t 0))) + (IntKind.u32.wrap ((Go.bits .xor .u32 (Go.bits .xor .u32 (ror v.a 2) (ror v.a 13)) (ror v.a 22)) + (Go.bits .xor .u32 (Go.bits .xor .u32 (Go.bits .and .u32 v.a v.b) (Go.bits .and .u32 v.a v.c)) (Go.bits .and .u32 v.b v.c)))))))] (by kernel_rfl) (by kernel_rfl) (by kernel_rfl) (by kernel_rfl) [(.int .u32 (IntKind.u32.wrap ((IntKind.u32.wrap ((IntKind.u32.wrap ((IntKind.u32.wrap ((IntKind.u32.wrap (v.h + (Go.bits .xor .u32 (Go.bits .xor .u32 (ror v.e 6) (ror v.e 11)) (ror v.e 25)))) + (Go.bits .xor .u32 (Go.bits .and .u32 v.e v.f) (Go.bits .and .u32 (Go.bits .xor .u32 4294967295 v.e) v.g)))) + (KS.getD t 0))) + ((sch p 64).getD t 0))) + (IntKind.u32.wrap ((Go.bits .xor .u32 (Go.bits .xor .u32 (ror v.a 2) (ror v.a 13)) (ror v.a 22)) + (Go.bits .xor .u32 (Go.bits .xor .u32 (Go.bits .and .u32 v.a v.b) (Go.bits .and .u32 v.a v.c)) (Go.bits .and .u32 v.b v.c))))))), (.int .u32 v.a), (.int .u32 v.b), (.int .u32 v.c), (.int .u32 (IntKind.u32.wrap (v.d + (IntKind.u32.wrap ((IntKind.u32.wrap ((IntKind.u32.wrap ((IntKind.u32.wrap (v.h + (Go.bits .xor .u32 (Go.bits .xor .u32 (ror v.e 6) (ror v.e 11)) (ror v.e 25)))) + (Go.bits .xor .u32 (Go.bits .and .u32 v.e v.f) (Go.bits .and .u32 (Go.bits .xor .u32 4294967295 v.e) v.g)))) + (KS.getD t 0))) + ((sch p 64).getD t 0)))))), (.int .u32 v.e), (.int .u32 v.f), (.int .u32 v.g)] (by kernel_rfl) ?_)
      intro w22 H31 hcw22
      refine l_nil ?_
      refine n_in ?_
      refine n_then ?_
      refine k_list ?_
      refine l_cons (ev_eq (v := (.int .i64 (IntKind.i64.wrap (((t : Nat) : Int) + 1)))) (v' := (.int .i64 ((((t : Nat) : Int) + 1)))) (w1 := w22) rfl rfl (by kernel_rfl) (wr64 (by omega) (by omega)) ?_)
      refine l_cons (ev_run (v := (.int .i64 ((((t : Nat) : Int) + 1)))) (w1 := w22) rfl rfl (by kernel_rfl) ?_)
      refine l_nil ?_
      refine n_then ?_
      exact k_round (t + 1, rnd v (KS.getD t 0) ((sch p 64).getD t 0)) ⟨(by first | rfl | kernel_rfl), (by first | rfl | kernel_rfl), (by first | rfl | kernel_rfl), (by first | rfl | kernel_rfl), (by first | rfl | kernel_rfl), trivial⟩ ⟨(by omega), (by rw [hv]; rfl), H31⟩ (by first | omega | (simp; done) | (simp; omega))
    · skip
      obtain rfl : t = 64 := by omega
      rw [hv] at H18
      refine wp_seq ?_
      refine k_list ?_
      refine l_cons (ev_run (v := (.bool false)) (w1 := w13) rfl rfl (by kernel_rfl) ?_)
      refine l_nil ?_
      refine n_then ?_
      refine wp_seq ?_
      refine k_false (by kernel_rfl) ?_
      refine wp_exit ?_
      refine e_then ?_
      refine e_then ?_
      refine e_in ?_
      refine n_then ?_
      refine wp_seq ?_
      refine k_list ?_
      refine l_cons (ev_run (v := (.int .i64 0)) (w1 := w13) rfl rfl (by kernel_rfl) ?_)
      refine l_nil ?_
      refine n_then ?_
      refine wp_block ?_
      have H32 : Hp (fun k => k = g) w w13 [blk g3 (wds ((rds p v0 64).l)) 78, blk g2 (wds (sch p 64)) 74, blk g1 (wds KS) 74, blk g (wds v0.l ++ tl) ty] := H18
      refine k_loop (σ := Nat × List Int) (fun x_ => match x_ with | (i, xs) => [(0, (.pointer (some (⟨g, 0, none⟩)))), (9, (.pointer (some (⟨g3, 0, none⟩)))), (172, (.int .i64 (((i : Nat) : Int))))]) (fun x_ w' => match x_ with | (i, xs) => (i ≤ 8) ∧ (xs.length = 8) ∧ (xs = addw v0.l (rds p v0 64).l i) ∧ Hp (fun k => k = g) w w' [blk g3 (wds ((rds p v0 64).l)) 78, blk g (wds xs ++ tl) ty]) (fun x_ => match x_ with | (i, xs) => 8 - i) (0, v0.l) ⟨(by first | rfl | kernel_rfl), (by first | rfl | kernel_rfl), (by first | rfl | kernel_rfl), trivial⟩ ⟨(by omega), rfl, rfl, H32.sel [0, 3] (by decide)⟩ ?_
      rintro L3 ⟨i, xs⟩ w23 ⟨hi, hxl, hxs, H33⟩
      change Code.wp _ _ _ (Fr _ _ [(0, (.pointer (some (⟨g, 0, none⟩)))), (9, (.pointer (some (⟨g3, 0, none⟩)))), (172, (.int .i64 (((i : Nat) : Int))))]) _
      rcases Nat.lt_or_ge i 8 with h1 | h1
      · skip
        refine wp_seq ?_
        refine k_list ?_
        refine l_cons (ev_eq (v := (.bool (decide ((((i : Nat) : Int) : Int) < 8)))) (v' := (.bool true)) (w1 := w23) rfl rfl (by kernel_rfl) (bt (by first | assumption | omega)) ?_)
        refine l_nil ?_
        refine n_then ?_
        refine wp_seq ?_
        refine k_true (by kernel_rfl) ?_
        refine wp_skip ?_
        refine n_then ?_
        refine wp_seq ?_
        refine wp_block ?_
        refine wp_seq ?_
        refine k_list ?_
        refine l_cons (ev_run (v := (.int .i64 (((i : Nat) : Int)))) (w1 := w23) rfl rfl (by kernel_rfl) ?_)
        refine l_cons (ev_run (v := (.int .i64 (((i : Nat) : Int)))) (w1 := w23) rfl rfl (by kernel_rfl) ?_)
        refine l_nil ?_
        refine n_then ?_
        refine r_start (m := 12) (fun j => Nat.beq j 11) (fun w' => Hp (fun k => k = g) w w' [blk g3 (wds ((rds p v0 64).l)) 78, blk g (wds xs ++ tl) ty]) (by kernel_rfl) rfl (by kernel_rfl) (fun _ _ _ _ _ h => h) ?_
        have H34 := H33.drew
        refine r_take (i := 0) (v := (.pointer (some (⟨g, 0, none⟩)))) rfl (by kernel_rfl) (by kernel_rfl) (by kernel_rfl) rfl H34 (fun _ _ => by kernel_rfl) ?_
        refine r_take (i := 1) (v := (.int .i64 (((i : Nat) : Int)))) rfl (by kernel_rfl) (by kernel_rfl) (by kernel_rfl) rfl H34 (fun _ _ => by kernel_rfl) ?_
        refine r_take (i := 2) (v := (.pointer (some (⟨g, 0, none⟩)))) rfl (by kernel_rfl) (by kernel_rfl) (by kernel_rfl) rfl H34 (fun _ _ => by kernel_rfl) ?_
        refine r_take (i := 3) (v := (.pointer (some (((⟨g, 0, none⟩ : Addr)).add (i * 1))))) rfl (by kernel_rfl) (by kernel_rfl) (by kernel_rfl) rfl H34 (fun w_ hs_ => (run_ixaA (sz := 1) (q := i) (ad := ⟨g, 0, none⟩) (k := .i64) (z := ((i : Nat) : Int)) rfl (by kernel_rfl) (by kernel_rfl) rfl (by kernel_rfl) (by first | rfl | omega) (by omega))) ?_
        refine r_take (i := 4) (v := (.int .u32 (xs.getD i 0))) rfl (by kernel_rfl) (by kernel_rfl) (by kernel_rfl) rfl H34 (fun w_ hs_ => (run_ld rfl (by kernel_rfl) (At_arr (hs_.get 1 rfl) i (by omega)) (by kernel_rfl))) ?_
        refine r_take (i := 5) (v := (.int .i64 (((i : Nat) : Int)))) rfl (by kernel_rfl) (by kernel_rfl) (by kernel_rfl) rfl H34 (fun _ _ => by kernel_rfl) ?_
        refine r_take (i := 6) (v := (.pointer (some (((⟨g3, 0, none⟩ : Addr)).add (i * 1))))) rfl (by kernel_rfl) (by kernel_rfl) (by kernel_rfl) rfl H34 (fun w_ hs_ => (run_ixaA (sz := 1) (q := i) (ad := ⟨g3, 0, none⟩) (k := .i64) (z := ((i : Nat) : Int)) rfl (by kernel_rfl) (by kernel_rfl) rfl (by kernel_rfl) (by first | rfl | omega) (by omega))) ?_
        refine r_take (i := 7) (v := (.int .u32 (((rds p v0 64).l).getD i 0))) rfl (by kernel_rfl) (by kernel_rfl) (by kernel_rfl) rfl H34 (fun w_ hs_ => (run_ld rfl (by kernel_rfl) (At_arr0 (hs_.get 0 rfl) i (show i < 8 by omega)) (by kernel_rfl))) ?_
        refine r_take (i := 8) (v := (.int .u32 (IntKind.u32.wrap ((xs.getD i 0) + (((rds p v0 64).l).getD i 0))))) rfl (by kernel_rfl) (by kernel_rfl) (by kernel_rfl) rfl H34 (fun _ _ => by kernel_rfl) ?_
        refine r_one (i := 9) (by kernel_rfl) rfl (ev_run (v := (.pointer (some (⟨g, 0, none⟩)))) (w1 := w23.drew) (by kernel_rfl) rfl (by kernel_rfl) ?_)
        refine ⟨fun _ => H34, ?_⟩
        refine r_take (i := 10) (v := (.pointer (some (((⟨g, 0, none⟩ : Addr)).add (i * 1))))) rfl (by kernel_rfl) (by kernel_rfl) (by kernel_rfl) rfl H34 (fun w_ hs_ => (run_ixaA (sz := 1) (q := i) (ad := ⟨g, 0, none⟩) (k := .i64) (z := ((i : Nat) : Int)) rfl (by kernel_rfl) (by kernel_rfl) rfl (by kernel_rfl) (by first | rfl | omega) (by omega))) ?_
        refine r_one (i := 11) (by kernel_rfl) rfl (ev_setarr (k := 1) (j := i) (y := (IntKind.u32.wrap ((xs.getD i 0) + (((rds p v0 64).l).getD i 0)))) (by kernel_rfl) rfl rfl H34 rfl (by kernel_rfl) (by kernel_rfl) (by kernel_rfl) (by omega) ?_)
        intro w24 H35 hcw24
        refine ⟨fun h_ => Bool.noConfusion h_, ?_⟩
        refine r_done (by kernel_rfl) ?_
        refine n_in ?_
        refine n_then ?_
        refine k_list ?_
        refine l_cons (ev_eq (v := (.int .i64 (IntKind.i64.wrap (((i : Nat) : Int) + 1)))) (v' := (.int .i64 ((((i : Nat) : Int) + 1)))) (w1 := w24) rfl rfl (by kernel_rfl) (wr64 (by omega) (by omega)) ?_)
        refine l_cons (ev_run (v := (.int .i64 ((((i : Nat) : Int) + 1)))) (w1 := w24) rfl rfl (by kernel_rfl) ?_)
        refine l_nil ?_
        refine n_then ?_
        exact k_round (i + 1, xs.set i (IntKind.u32.wrap ((xs.getD i 0) + (((rds p v0 64).l).getD i 0)))) ⟨(by first | rfl | kernel_rfl), (by first | rfl | kernel_rfl), (by first | rfl | kernel_rfl), trivial⟩ ⟨(by omega), (by rw [List.length_set]; exact hxl), (by rw [addw, ← hxs]; rfl), H35⟩ (by first | omega | (simp; done) | (simp; omega))
      · skip
        obtain rfl : i = 8 := by omega
        refine wp_seq ?_
        refine k_list ?_
        refine l_cons (ev_run (v := (.bool false)) (w1 := w23) rfl rfl (by kernel_rfl) ?_)
        refine l_nil ?_
        refine n_then ?_
        refine wp_seq ?_
        refine k_false (by kernel_rfl) ?_
        refine wp_exit ?_
        refine e_then ?_
        refine e_then ?_
        refine e_in ?_
        refine b_end (v := (.tuple #[])) (res0 rfl) ?_
        refine ⟨rfl, ?_, H33.chg⟩
        rw [blockF, ← hxs]
        exact H33.get 1 rfl
end Go.Proofs.Ytokpdecpmcbcpaa
