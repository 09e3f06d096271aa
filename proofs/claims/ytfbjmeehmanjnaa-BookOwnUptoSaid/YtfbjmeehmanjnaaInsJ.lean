/- What is written into a row of the call's own beyond its end, and onto a beginning of it: what slices.Insert and slices.Delete do. Its conditions: none. -/
import Derived.Test.YtfbjmeehmanjnaaClearJ
import Derived.Lib.AppendZerosOnto
import Derived.Lib.Overlaps
namespace Go.Proofs.Ytfbjmeehmanjnaa
open Go.RowKit
set_option linter.unusedVariables false
section
variable {P : Program} {Q : Exit → Act → World → Prop} {M : List (Nat × Value)} {ops : Array Oper} {o : Oper} {N : Sz} {w0 w : World} {V : View} {H : List HObj} {K : Act → World → Prop}
variable {α : Type} {E : Enc α} {p : Bool} {t e : TypeId} {A : Option Addr} {c : Nat} {l : List α}
theorem exec_slice_cap {x : Operand} {lx hx : Option Operand} {n s : Nat} {lo hi : Int} {k k' : IntKind} (ho : o.op = .slice t x lx hx none)
 (hxv : evM M x = .slice A n c) (ht : P.underlying t = some (.slice e)) (hs : (sizeOf e).run P w = .ok s w)
 (hlo : match lx with | some y => evM M y = .int k lo | none => lo = 0) (hhi : match hx with | some y => evM M y = .int k' hi | none => hi = n) (h0 : 0 ≤ lo) (h1 : lo ≤ hi) (h2 : hi ≤ c) :
 (execOp (evM M) o).run P w = .ok (.value (.slice (cutA A c lo.toNat s) (hi.toNat - lo.toNat) (c - lo.toNat))) w := by
 have e1 := @run_sliceBound P w k' hi c .sliceAcap (by omega) (by omega)
 have e2 := @run_sliceBound P w k lo hi.toNat .sliceB h0 (by omega)
 cases lx with
 | none =>
  dsimp only at hlo
  subst hlo
  cases hx with
  | none =>
   dsimp only at hhi
   subst hhi
   simp [execOp, ho, hxv, Instr.sliceAt, run_underlying ht, Instr.slice, Instr.sliceBounds, hs, cutA]
  | some y =>
   dsimp only at hhi
   simp [execOp, ho, hxv, hhi, Instr.sliceAt, run_underlying ht, Instr.slice, Instr.sliceBounds, hs, cutA, e1]
 | some z =>
  dsimp only at hlo
  cases hx with
  | none =>
   dsimp only at hhi
   subst hhi
   rw [show ((n : Int)).toNat = n from Int.toNat_natCast _] at e2
   simp [execOp, ho, hxv, hlo, Instr.sliceAt, run_underlying ht, Instr.slice, Instr.sliceBounds, hs, cutA, e2]
  | some y =>
   dsimp only at hhi
   simp [execOp, ho, hxv, hlo, hhi, Instr.sliceAt, run_underlying ht, Instr.slice, Instr.sliceBounds, hs, cutA, e1, e2]
theorem rowok_in {g : Nat} {cur : Array Value} {fz : Nat × Nat} {xs ys : List Value} {m : List α} {lo : Nat} (hrow : RowAt p e E A c l V w g cur fz xs) (hcm : c ≤ maxLen) (hlc : l.length ≤ c) (hy : RowRep V E ys m) (hfit : lo + m.length ≤ l.length) :
 (rowb p e E A c (over l lo m)).ok V (w.setRow g (cur.toList.take (lo * E.size) ++ ys ++ cur.toList.drop (lo * E.size + ys.length)).toArray) := by
 have hyl : ys.length = m.length * E.size := hy.1
 have hcs := Nat.mul_le_mul_right E.size hlc
 have hfs : lo * E.size + ys.length ≤ l.length * E.size := by rw [hyl, ← Nat.add_mul]; exact Nat.mul_le_mul_right _ hfit
 have hlen : (cur.toList.take (lo * E.size) ++ ys ++ cur.toList.drop (lo * E.size + ys.length)).length = cur.size := by
  simp only [List.length_append, List.length_take (l := cur.toList), List.length_drop, Array.length_toList]; rw [hrow.size]; omega
 have hol : (over l lo m).length = l.length := over_length _ _ _ hfit
 refine ⟨by rw [hol]; exact hlc, hcm, .inr ⟨g, _, fz, _, ⟨hrow.adr, setRow_heap w g cur _ e _ hrow.heap, hrow.plain, ?_, ?_, rfl, ?_⟩⟩⟩
 · rw [List.size_toArray, hlen]; exact hrow.unfrz
 · rw [List.size_toArray, hlen]; exact hrow.size
 · have hset := hrow.rep.over hy lo
   refine (congrArg (fun q => RowRep V E q _) ?_).mp hset
   have hxl : xs.length = l.length * E.size := hrow.rep.1
   rw [hol]
   apply List.ext_getElem?
   intro j
   have hct : cur.toList.length = cur.size := Array.length_toList
   have hfit2 : lo * E.size + ys.length ≤ cur.toList.length := by rw [hct, hrow.size]; omega
   rw [splice_get xs ys (lo * E.size) j (by rw [hxl]; omega), List.getElem?_take]
   simp only [List.toList_toArray]
   rw [splice_get cur.toList ys (lo * E.size) j hfit2, ← hrow.take, List.getElem?_take]
   by_cases hj : j < l.length * E.size
   · rw [if_pos hj, if_pos hj]
   · rw [if_neg hj, if_neg hj, if_neg (by omega)]
theorem W1.appendIn (i k : Nat) {m : List α} {A2 : Option Addr} {c2 : Nat} (s x : Operand) (ti : TypeInfo) (hi : nth H i = some (row e E A c l)) (hk : k + m.length ≤ l.length)
 (hc : okO N ops M o = true) (ho : o.op = .call { callee := .builtin .append, args := #[s, x], argTypes := #[t, t] })
 (ht : P.underlying t = some (.slice e)) (hti : P.info? e = some ti) (hsize : ti.size = E.size) (hs0 : 0 < E.size)
 (hs : evM M s = .slice A k c) (hx : evM M x = .slice A2 m.length c2) (hsrc : ∀ w, Hp w0 V H w → ∃ news, RowRep V E news m ∧ Lies (vw w) A2 news)
 (h : T N w0 V (H.set i (row e E A c (over l k m))) (putM o.dst (.slice A (k + m.length) c) M) K) : W1 P Q ops o N w0 V H M K := fun a w hf hh => by
 obtain ⟨g1, _, _, h4⟩ := okO_parts hc
 rw [nth_eq] at hi
 refine ⟨gd_wanted hf g1, ?_⟩
 obtain ⟨hlc, hcm, hrow⟩ := hh.objs _ (List.mem_of_getElem? hi)
 obtain ⟨news, hnr, hnl⟩ := hsrc w hh
 unfold Oper.wp
 rw [okO_exec hc hf]
 rcases Nat.eq_zero_or_pos m.length with hm0 | hm0
 · have hm : m = [] := List.eq_nil_of_length_eq_zero hm0
   subst hm
   have hr := run_append_nosrc (P := P) w t o.type e ti ht hti A A2 k c (by simp at hk; omega) c2
   have hrun : (execOp (evM M) o).run P w = .ok (.value (.slice A k c)) w := by
    simp only [execOp, ho, resolve, invoke, builtin, Sem.run_bind, Sem.run_pure, Result.andThen_ok, List.map_toArray, List.map_cons, List.map_nil, hs, hx, List.length_nil, hr]
   rw [hrun]
   have hov : over l k ([] : List α) = l := by simp [over]
   rw [hov] at h
   have hsame : H.set i (row e E A c l) = H := List.ext_getElem? fun j => by
    rw [List.getElem?_set]
    split
    · rename_i ej; subst ej; rw [if_pos (List.getElem?_eq_some_iff.1 hi).1, hi]
    · rfl
   rw [hsame] at h
   exact h _ _ (hf.put h4 _) hh
 have hc0 : c ≠ 0 := by omega
 rcases hrow with hz | ⟨g, cur, fz, xs, hrow⟩
 · exact absurd hz hc0
 obtain ⟨ad, rfl⟩ : ∃ ad, A2 = some ad := by
  have hp : 0 < news.length := by rw [hnr.1]; exact Nat.mul_pos hm0 hs0
  obtain ⟨ad, h2, _⟩ := hnl 0 _ (List.getElem?_eq_getElem hp)
  exact ⟨ad, h2⟩
 obtain rfl : fz = (0, 0) := hrow.plain rfl
 have hfs : k * E.size + m.length * E.size ≤ l.length * E.size := by rw [← Nat.add_mul]; exact Nat.mul_le_mul_right _ hk
 have hcs := Nat.mul_le_mul_right E.size hlc
 have hr := run_append_room (P := P) w t o.type e ti ht hti g k c cur hrow.heap ad m.length c2 news (by rw [hsize]; exact hnr.1) (fun j u hu => by
  obtain ⟨a', ha, hcell⟩ := hnl j u hu
  injection ha with ha; subst ha; exact hcell) (fun u hu => hnr.one u hu) (by omega) (by rw [hsize, hnr.1, hrow.size]; omega)
 rw [hsize] at hr
 have hrun : (execOp (evM M) o).run P w = .ok (.value (.slice A (k + m.length) c)) (w.setRow g (cur.toList.take (k * E.size) ++ news ++ cur.toList.drop (k * E.size + news.length)).toArray) := by
  simp only [execOp, ho, resolve, invoke, builtin, Sem.run_bind, Sem.run_pure, Result.andThen_ok, List.map_toArray, List.map_cons, List.map_nil, hs, hx, hrow.adr, hr]
 rw [hrun]
 have hblk : rowblk A c = some g := by unfold rowblk; rw [if_neg hc0, hrow.adr]; rfl
 exact h _ _ (hf.put h4 _) (hh.turn (o := some g) hi ⟨rfl, rfl, rfl, by simp, fun b _ hb => setRow_other w g b _ (fun e => hb (by rw [e]))⟩ (rowok_in hrow hcm hlc hnr hk) (fun b hb => .inl hb) (fun b hb => by rw [← Option.some.inj hb]; exact hblk))
theorem T.rowlen {φ : Act → World → Prop} (i : Nat) (hi : nth H i = some (rowb p e E A c l)) (q : l.length ≤ c → c ≤ maxLen → T N w0 V H M φ) : T N w0 V H M φ := fun a w hf hh => by
 have h := hh.objs _ (by rw [nth_eq] at hi; exact List.mem_of_getElem? hi)
 exact q h.1 h.2.1 a w hf hh
end
end Go.Proofs.Ytfbjmeehmanjnaa
