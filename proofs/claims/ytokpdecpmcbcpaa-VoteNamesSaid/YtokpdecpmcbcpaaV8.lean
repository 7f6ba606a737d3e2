/- What a key signs, its signature, and whether it is one. -/
import Derived.Laws.IdiomStrings
import Derived.Test.YtokpdecpmcbcpaaV7
namespace Go.Proofs.Ytokpdecpmcbcpaa
open Go.RowKit Go.Proofs.YtokpdecpmcbcpaaW.PrintWords Go.Proofs.YtokpdecpmcbcpaaW.PrintLast Go.Proofs.YtokpdecpmcbcpaaW.PrintMore
open Go.Proofs.Ytokpdecpmcbcpaa.PVoteMakes
set_option linter.unusedVariables false
set_option linter.unusedSimpArgs false
set_option maxRecDepth 100000

section
variable {P : Program} {ops : Array Oper} {Q : Exit → Act → World → Prop} {o : Oper} {K : Act → World → Prop} {n : Nat} {L : Nat → Value} {ps : List (Nat × Value)} {w : World} {S0 : Nat → Prop} {W0 : World} {rs : List Res}
theorem str_ok {g m c : Nat} {xs : List Int} {cur : Array Value} {t : TypeId} {fr : Nat × Nat} (hg : w.heap[g]? = some (.cells cur t fr)) (hm : m = xs.length) (hc : m ≤ c) (hl : m ≤ 9223372036854775807) (hcur : ∀ (j : Nat) (y : Int), xs[j]? = some y → cur[j]? = some (.int .u8 y)) : (slR (fun k => k = g) (some ⟨g, 0, none⟩) m c xs).ok w := by
  subst hm
  refine ⟨⟨hc, rfl, fun W' hW => ⟨rfl, hl, fun _ => ⟨_, rfl, fun j y hj => ⟨[.int .u8 y], rfl, rfl, fun i u hu => ?_⟩⟩⟩⟩, fun k hk => ?_⟩
  · have hgl : g < w.heap.size := (Array.getElem?_eq_some_iff.1 hg).1
    have hg' := (hW g rfl hgl).trans hg
    have hi : i = 0 := by have := (List.getElem?_eq_some_iff.1 hu).1; simp at this; omega
    subst hi
    simp at hu
    subst hu
    show W'.cell? ((⟨g, 0, none⟩ : Addr).add (j * 1 + 0)) = _
    rw [show j * 1 + 0 = j by omega, add_plain, cell_of_row W' g j cur t fr hg']
    exact hcur j y hj
  · subst hk; exact (Array.getElem?_eq_some_iff.1 hg).1
/-- []byte(s). -/
theorem ev_strB {d : Nat} {x : Operand} {src dst e m : Nat} {s : ByteArray} (xs : List Int) (hw : Region.wanted o (yielded ops (Fr n L ps).tmps) = true) (hd : o.dst = some d) (ho : o.op = .convert src dst x) (hx : evF n L ps x = .string s) (hs : P.underlying src = some .string) (hdst : P.underlying dst = some (.slice e)) (he : P.underlying e = some (.int .u8))
    (hxs : s.data.toList.map (fun b => ((b.toNat : Nat) : Int)) = xs) (hm : xs.length = m) (hl : m ≤ 9223372036854775807) (H : Hp S0 W0 w rs) (h : ∀ g c w1, Hp S0 W0 w1 (slR (fun k => k = g) (some ⟨g, 0, none⟩) m c xs :: rs) → Below w.heap.size w w1 → K (Fr n L ((d, .slice (some ⟨g, 0, none⟩) m c) :: ps)) w1) : OpW P ops Q o (Fr n L ps) w K := by
  have hr := run_bytes_of_string (P := P) w src dst e s hs hdst he
  have hsz : s.size = m := by rw [← hm, ← hxs, List.length_map, Array.length_toList]; rfl
  rw [hsz] at hr
  have hrun : (execOp (evF n L ps) o).run P w = .ok (.value (.slice (some ⟨w.heap.size, 0, none⟩) m (grownCap w m 0 e))) (w.drew.alloc (.cells (bytesRow s (grownCap w m 0 e)) e ((bytesRow s (grownCap w m 0 e)).size, (bytesRow s (grownCap w m 0 e)).size + 1))) := by
    unfold execOp
    simp only [ho, hx, Sem.run_bind, hr, Result.andThen_ok, Sem.run_pure]
  have hbl : Below w.heap.size w (w.drew.alloc (.cells (bytesRow s (grownCap w m 0 e)) e ((bytesRow s (grownCap w m 0 e)).size, (bytesRow s (grownCap w m 0 e)).size + 1))) := below_alloc (below_drew (Below.refl _ _)) _
  refine ev_run hw hd hrun (h _ _ _ (H.add hbl (slR (fun k => k = w.heap.size) (some ⟨w.heap.size, 0, none⟩) m (grownCap w m 0 e) xs) (str_ok (blk_new w.drew _) hm.symm (grownCap_ge _ _ _ _) hl (fun j y hj => ?_)) (fun k hk => Nat.le_of_eq hk.symm)) hbl)
  have hjl : j < s.data.size := by have := (List.getElem?_eq_some_iff.1 hj).1; rw [← hxs] at this; simpa using this
  rw [bytesRow, Array.getElem?_append_left (by simpa using hjl), Array.getElem?_map]
  rw [← hxs, List.getElem?_map, Array.getElem?_toList] at hj
  rw [Array.getElem?_eq_getElem hjl] at hj ⊢
  simp at hj ⊢
  exact hj
theorem run_conv {t e : TypeId} {C : Array Value} {n' c g : Nat} (ht : P.underlying t = some (.slice e)) (he : P.underlying e = some (.int .u8)) (hg : w.heap[g]? = some (.cells C e (0, 0))) :
    (convert t t (.slice (some ⟨g, 0, none⟩) n' c)).run P w = .ok (.slice (some ⟨g, 0, none⟩) n' c) (w.freeze ⟨g, C.size, none⟩ 1) := by
  have hsh : w.shape? g = some (e, C.size) := by unfold World.shape?; rw [hg]
  simp [convert, run_underlying ht, run_underlying he, markStringish, hsh]
theorem freeze_at {e : TypeId} {C : Array Value} {g : Nat} (hg : w.heap[g]? = some (.cells C e (0, 0))) : ∃ fr, (w.freeze ⟨g, C.size, none⟩ 1).heap[g]? = some (.cells C e fr) := by
  unfold World.freeze
  rw [if_neg (by decide)]
  simp only [Array.getElem?_modify, if_true, hg, Option.map_some]
  exact ⟨_, rfl⟩
theorem freeze_far {g m : Nat} : Chg (fun k => k = g) w (w.freeze ⟨g, m, none⟩ 1) := by
  unfold World.freeze
  rw [if_neg (by decide)]
  exact ⟨rfl, rfl, rfl, by simp, fun k _ hk => by simp only [Array.getElem?_modify]; rw [if_neg (fun h => hk h.symm)]⟩
/-- []byte(constant): the literal's row gets a mark. -/
theorem ev_conv {d : Nat} {x : Operand} {t e k g m c : Nat} {cs : List Value} (xs : List Int) (hw : Region.wanted o (yielded ops (Fr n L ps).tmps) = true) (hd : o.dst = some d) (ho : o.op = .convert t t x) (hx : evF n L ps x = .slice (some ⟨g, 0, none⟩) m c) (ht : P.underlying t = some (.slice e)) (he : P.underlying e = some (.int .u8))
    (H : Hp S0 W0 w rs) (hk : rs[k]? = some (blk g cs e)) (hcs : cs = xs.map (Value.int .u8)) (hm : m = xs.length) (hc : m ≤ c) (hl : m ≤ 9223372036854775807) (h : ∀ w1, Hp S0 W0 w1 (rs.set k (slR (fun k => k = g) (some ⟨g, 0, none⟩) m c xs)) → Chg (fun k => k = g) w w1 → K (Fr n L ((d, .slice (some ⟨g, 0, none⟩) m c) :: ps)) w1) : OpW P ops Q o (Fr n L ps) w K := by
  have hb : w.heap[g]? = some (.cells cs.toArray e (0, 0)) := H.get k hk
  have hr := run_conv (P := P) (n' := m) (c := c) ht he hb
  have hrun : (execOp (evF n L ps) o).run P w = .ok (.value (.slice (some ⟨g, 0, none⟩) m c)) (w.freeze ⟨g, cs.toArray.size, none⟩ 1) := by
    unfold execOp
    simp only [ho, hx, Sem.run_bind, hr, Result.andThen_ok, Sem.run_pure]
  obtain ⟨fr, hf⟩ := freeze_at hb
  refine ev_run hw hd hrun (h _ (H.upd k hk freeze_far (slR (fun k => k = g) (some ⟨g, 0, none⟩) m c xs) (str_ok hf hm hc hl (fun j y hj => ?_)) (fun q hq => .inl hq)) freeze_far)
  rw [hcs, List.getElem?_toArray, List.getElem?_map, hj]; rfl
end
end Go.Proofs.Ytokpdecpmcbcpaa
