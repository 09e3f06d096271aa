/- Arrays and books, opened. Its conditions: none. -/
import Derived.Test.YtdggcklddjndmaaLawJ
import Derived.Test.YtdggcklddjndmaaArrJ
import Derived.OpenShut
namespace Go.Proofs.Ytdggcklddjndmaa
open Go.ChangeShapes Go.WideShapes Go.ChangeAt Go.RowKit
set_option linter.unusedVariables false
section
variable {P : Program} {t : TypeId}
def okA16 (x : DA16) : Prop := ∀ v ∈ x.list, okInt .i64 v
theorem opens_a16 {e : TypeId} (ht : P.underlying t = some (.array 16 e)) (he : P.underlying e = some (.int .i64)) (hc : P.cellsOf t = 16) (hce : P.cellsOf e = 1) : Opens P t eA16 okA16 := fun H enc w base sp held fuel cs x h hw => by
 obtain ⟨xs, m, _, _, hl, hxl, hg⟩ := DataW.trod_array ht h
 rw [hc] at hl
 have key : ∀ i, ∃ n : Int, i < 16 → cs[i]? = some (.int .i64 n) ∧ okInt .i64 n := fun i => by
  by_cases hi : i < 16
  · have h1 := hg i hi
    rw [hce, Nat.mul_one, List.getElem?_eq_getElem (by omega)] at h1
    obtain ⟨n, hr, _, hok⟩ := DataW.trod_int he h1
    refine ⟨n, fun _ => ⟨?_, hok⟩⟩
    have h2 : ((cs.drop i).take 1)[0]? = some (.int .i64 n) := by rw [hr]; rfl
    rw [List.getElem?_take, if_pos (by decide), List.getElem?_drop] at h2
    simpa using h2
  · exact ⟨0, fun h => absurd h hi⟩
 obtain ⟨f, hf⟩ := Classical.axiomOfChoice key
 refine ⟨⟨f 0, f 1, f 2, f 3, f 4, f 5, f 6, f 7, f 8, f 9, f 10, f 11, f 12, f 13, f 14, f 15⟩, ?_, ?_⟩
 · have hmap : cs = (List.range 16).map fun i => Value.int .i64 (f i) := by
    apply List.ext_getElem?
    intro i
    by_cases hi : i < 16
    · rw [(hf i hi).1, List.getElem?_map, List.getElem?_range hi]; rfl
    · rw [List.getElem?_eq_none (by omega), List.getElem?_eq_none (by simp; omega)]
   show cs = DA16.cells _
   rw [hmap]; rfl
 · intro v hv
   have hv' : v ∈ (List.range 16).map f := hv
   rw [List.mem_map] at hv'
   obtain ⟨i, hi, rfl⟩ := hv'
   exact (hf i (List.mem_range.1 hi)).2
def okBook (x : DBook) : Prop := (okAllW 56 okElem) x.run ∧ okA16 x.roles ∧ okA16 x.fed
theorem opens_book {f0 f1 f2 : Field} (ht : P.underlying t = some (.struct #[f0, f1, f2])) (hc : P.cellsOf t = 33)
 (o0 : f0.offset = 0) (c0 : P.cellsOf f0.type = 1) (h0 : Opens P f0.type (eList eElem) (okAllW 56 okElem))
 (o1 : f1.offset = 1) (c1 : P.cellsOf f1.type = 16) (h1 : Opens P f1.type eA16 okA16)
 (o2 : f2.offset = 17) (c2 : P.cellsOf f2.type = 16) (h2 : Opens P f2.type eA16 okA16) : Opens P t eBook okBook := fun H enc w base sp held fuel cs x h hw => by
 have hl := trod_len ht h
 obtain ⟨d0, r0, k0⟩ := part_opens ht h hw (i := 0) (f := f0) rfl h0
 obtain ⟨d1, r1, k1⟩ := part_opens ht h hw (i := 1) (f := f1) rfl h1
 obtain ⟨d2, r2, k2⟩ := part_opens ht h hw (i := 2) (f := f2) rfl h2
 rw [o0, c0] at r0
 rw [o1, c1] at r1
 rw [o2, c2] at r2
 have e : cs = (cs.drop 0).take 1 ++ ((cs.drop 1).take 16 ++ ((cs.drop 17).take 16 ++ cs.drop 33)) := by
  rw [← drop_seg cs 17 16, ← drop_seg cs 1 16, ← drop_seg cs 0 1]
  rfl
 obtain ⟨A1, z1, q1, s1⟩ := r0
 refine ⟨⟨d0, d1, d2⟩, ⟨A1, z1, ?_, s1⟩, ⟨k0, k1, k2⟩⟩
 rw [e, q1, show (cs.drop 1).take 16 = DA16.cells d1 from r1, show (cs.drop 17).take 16 = DA16.cells d2 from r2, List.drop_eq_nil_of_le (by omega), List.append_nil]
 rfl
end
end Go.Proofs.Ytdggcklddjndmaa
