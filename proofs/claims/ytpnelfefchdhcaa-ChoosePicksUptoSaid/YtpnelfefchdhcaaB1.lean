/- Ballots compared; elements of rows that came in; which prep is best, in plain words. -/
import Derived.Test.YtpnelfefchdhcaaRow
import Derived.Test.YtpnelfefchdhcaaPChoosePicksx4
namespace Go.Proofs.Ytpnelfefchdhcaa
open Go.RowKit Go.Proofs.YtpnelfefchdhcaaW.PrintWords Go.Proofs.YtpnelfefchdhcaaW.PrintLast Go.Proofs.YtpnelfefchdhcaaW.PrintMore
open Go.Proofs.Ytpnelfefchdhcaa.PChoosePicks
set_option linter.unusedVariables false
set_option linter.unusedSimpArgs false
set_option maxRecDepth 100000

def cmpI (a b : Int) : Int := if a < b then -1 else if b < a then 1 else 0
def cmpB (a b : S25) : Int := if cmpI a.f0 b.f0 = 0 then cmpI a.f1 b.f1 else cmpI a.f0 b.f0
theorem compare_int (a b : Int) : cmp_Compare_int.f a b = some (cmpI a b) := by
  simp only [cmp_Compare_int.f, cmp_isNaN_int.f, cmpI, Option.bind_some]
  repeat' split
  all_goals first | rfl | omega | simp_all
theorem or_int (a b : Int) : cmp_Or_int.f 3 [a, b] = some (if a = 0 then b else a) := by
  have e1 : wrap64 1 = 1 := by unfold wrap64; omega
  have e2 : wrap64 2 = 2 := by unfold wrap64; omega
  simp only [cmp_Or_int.f, cmp_Or_int.l0, List.length_cons, List.length_nil, rd]
  by_cases ha : a = 0
  · by_cases hb : b = 0
    · simp [ha, hb, e1, e2]
    · simp [ha, hb, e1, e2]
  · simp [ha]
theorem compare_f (a b : S25) : ballot_Compare.f 3 a.f0 a.f1 b.f0 b.f1 = some (cmpB a b) := by
  simp only [ballot_Compare.f, compare_int, Option.bind_some, or_int, cmpB]
theorem compare_c (a b : S25) (w : World) : Calls Try.prog 17 #[.agg #[.int .i64 a.f0, .int .i64 a.f1], .agg #[.int .i64 b.f0, .int .i64 b.f1]] w fun e w' => e = .returned (.int .i64 (cmpB a b)) ∧ Below w.heap.size w w' :=
  ballot_Compare.calls 3 a.f0 a.f1 b.f0 b.f1 _ w (compare_f a b)
theorem elem30 {w : World} {ad : Addr} {n : Nat} {xs : List S30} (h : Kd.C k30 w (some ad) n xs) (j : Nat) (hj : j < n) : ∃ x A4 c4 A5 c5 A6 c6 A7 c7, x = xs.getD j z30 ∧ At w (ad.add (j * 8)) [(.int .i64 x.f0.f0), (.int .i64 x.f0.f1), (.int .i64 x.f1), (.int .i64 x.f2), (.slice A4 x.f3.length c4), (.slice A5 x.f4.length c5), (.slice A6 x.f5.length c6), (.slice A7 x.f6.length c7)] ∧ x.f3.length ≤ c4 ∧ Kd.C (Kd.int .u8) w A4 x.f3.length x.f3 ∧ x.f4.length ≤ c5 ∧ Kd.C k57 w A5 x.f4.length x.f4 ∧ x.f5.length ≤ c6 ∧ Kd.C k45 w A6 x.f5.length x.f5 ∧ x.f6.length ≤ c7 ∧ Kd.C (Kd.int .u8) w A7 x.f6.length x.f6 := by
  obtain ⟨c, hK, hA⟩ := C_at h z30 j hj
  obtain ⟨A4, c4, A5, c5, A6, c6, A7, c7, rfl, l4, g4, l5, g5, l6, g6, l7, g7⟩ := k30_open hK
  exact ⟨_, A4, c4, A5, c5, A6, c6, A7, c7, rfl, hA, l4, g4, l5, g5, l6, g6, l7, g7⟩
theorem elem45 {w : World} {ad : Addr} {n : Nat} {xs : List S45} (h : Kd.C k45 w (some ad) n xs) (j : Nat) (hj : j < n) : ∃ x A5 c5 A6 c6 A7 c7, x = xs.getD j z45 ∧ At w (ad.add (j * 8)) [(.int .i64 x.f0), (.int .i64 x.f1.f0), (.int .i64 x.f1.f1), (.int .i64 x.f2.f0), (.int .i64 x.f2.f1), (.slice A5 x.f2.f2.length c5), (.slice A6 x.f2.f3.length c6), (.slice A7 x.f3.length c7)] ∧ x.f2.f2.length ≤ c5 ∧ Kd.C (Kd.int .u8) w A5 x.f2.f2.length x.f2.f2 ∧ x.f2.f3.length ≤ c6 ∧ Kd.C (Kd.int .u8) w A6 x.f2.f3.length x.f2.f3 ∧ x.f3.length ≤ c7 ∧ Kd.C k57 w A7 x.f3.length x.f3 := by
  obtain ⟨c, hK, hA⟩ := C_at h z45 j hj
  obtain ⟨A5, c5, A6, c6, A7, c7, rfl, l5, g5, l6, g6, l7, g7⟩ := k45_open hK
  exact ⟨_, A5, c5, A6, c6, A7, c7, rfl, hA, l5, g5, l6, g6, l7, g7⟩
theorem elem57 {w : World} {ad : Addr} {n : Nat} {xs : List S57} (h : Kd.C k57 w (some ad) n xs) (j : Nat) (hj : j < n) : ∃ x A1 c1, x = xs.getD j z57 ∧ At w (ad.add (j * 2)) [(.int .i64 x.f0), (.slice A1 x.f1.length c1)] ∧ x.f1.length ≤ c1 ∧ Kd.C (Kd.int .u8) w A1 x.f1.length x.f1 := by
  obtain ⟨c, hK, hA⟩ := C_at h z57 j hj
  obtain ⟨A1, c1, rfl, l1, g1⟩ := k57_open hK
  exact ⟨_, A1, c1, rfl, hA, l1, g1⟩

/-- One more prep looked at. -/
def betr (slot : Int) (b : Option S45) (p : S45) : Option S45 := if p.f0 = slot ∧ (∀ q, b = some q → 0 < cmpB p.f1 q.f1) then some p else b
def bestIn (slot : Int) (l : List S30) : Option S45 := l.foldl (fun b r => r.f5.foldl (betr slot) b) none
theorem foldl_take {α β : Type} (f : β → α → β) (b : β) (l : List α) (j : Nat) (h : j < l.length) (z : α) : (l.take (j + 1)).foldl f b = f ((l.take j).foldl f b) (l.getD j z) := by
  rw [List.take_succ_eq_append_getElem h, List.foldl_append]
  simp [List.getD_eq_getElem?_getD, h]
end Go.Proofs.Ytpnelfefchdhcaa
