/- Plain Lean: streams are fed to runs. Its conditions: none. -/
import Derived.Test.YtdggcklddjndmaaPParseJ
import Derived.Test.YtdggcklddjndmaaPRunLJ
namespace Go.Proofs.Ytdggcklddjndmaa
open Go.ChangeShapes
set_option linter.unusedVariables false
set_option linter.unusedSimpArgs false
variable {F : Nat} [Big F]
theorem stream_Merge_eq (l fresh : List DElem) (hs : l.Pairwise SpO) (hl : l.length ≤ 400) (hf : fresh.length ≤ 2000000) : stream_Merge F l fresh = some (mergeR l fresh) := by
 unfold stream_Merge
 rw [grow_ok (by simp; omega) (by simp; omega), Option.bind_some]
 rw [loop_run (fun k => (mergeR l (fresh.take k), (k : Int))) fresh.length (r := mergeR l fresh) (by simp [mergeR]) (by omega) (fun k hk => ?_) ?_, Option.bind_some]
 · dsimp only
   rw [decide_eq_false (by omega), cond_false, List.take_length]
 · have hx := List.getElem?_eq_getElem hk
   generalize fresh[k] = e at hx
   have hso := mergeR_sorted (fresh.take k) hs
   have hle := mergeR_length (fresh.take k) l
   have htl : (fresh.take k).length = k := by rw [List.length_take]; omega
   have hnext : mergeR l (fresh.take (k + 1)) = ins1 (mergeR l (fresh.take k)) e := by
    rw [List.take_add_one, hx]
    show mergeR l (fresh.take k ++ [e]) = _
    unfold mergeR
    rw [List.foldl_append]; rfl
   rw [hnext]
   generalize mergeR l (fresh.take k) = out at hso hle
   dsimp only
   rw [decide_eq_true (by omega), cond_true, idx_nat', hx, Option.bind_some]
   have hsp := spo_split (spotE e) hso
   have hA : ∀ x ∈ belowS out (spotE e), cmpS (spotE x) (spotE e) < 0 := fun x hx => (mem_belowS.1 hx).2
   have hB : ∀ x ∈ aboveS out (spotE e), 0 < cmpS (spotE x) (spotE e) := fun x hx => (mem_aboveS.1 hx).2
   have hM := spo_at (spotE e) hso
   generalize hq : out.filter (fun x => spotE x == spotE e) = M at hsp hM
   unfold ins1
   generalize belowS out (spotE e) = A at hsp hA
   generalize aboveS out (spotE e) = B at hsp hB
   have hlen : out.length = A.length + (M.length + B.length) := by rw [hsp, List.length_append, List.length_append]
   rw [loop_search (fun j => match out[j]? with | some x => decide (0 ≤ cmpS (spotE x) (spotE e)) | none => false) out.length A.length (by omega) (by omega) (fun j hj => ?_) (fun j h1 h2 => ?_) (fun i j hij hj => ?_) (fun i => by simp), Option.bind_some, Option.bind_some]
   · rcases hM with ⟨x, rfl, hxm, hxs⟩ | ⟨rfl, hne⟩
     ·
      have hox : out = A ++ x :: B := by rw [hsp]; rfl
      have hg := get_mid hox
      have hl1 : A.length < out.length := by rw [hlen, List.length_singleton]; omega
      rw [decide_eq_true (by omega), cond_true, idx_nat', hg, Option.bind_some, elem_Spot_eq, Option.bind_some, elem_Spot_eq, Option.bind_some, Option.bind_some, hxs, show (spotE e == spotE e) = true by simp, cond_true, Option.bind_some, Int.toNat_natCast, set_mid hox, Option.bind_some]
      rw [w64 (by omega) (by omega)]; rfl
     · have hox : out = A ++ B := by rw [hsp]; rfl
       have e1 : ((bif decide ((A.length : Int) < (out.length : Int)) then (idx out (A.length : Int)).bind fun e3 => (elem_Spot e3).bind fun r5 => (elem_Spot e).bind fun r6 => some (r5 == r6) else some false) : Option Bool) = some false := by
        by_cases hl1 : A.length < out.length
        · have hy := List.getElem?_eq_getElem hl1
          rw [decide_eq_true (by omega), cond_true, idx_nat', hy, Option.bind_some, elem_Spot_eq, Option.bind_some, elem_Spot_eq, Option.bind_some]
          have := hne _ (List.getElem_mem hl1)
          rw [show (spotE out[A.length] == spotE e) = false by simpa using this]
        · rw [decide_eq_false (by omega), cond_false]
       rw [e1, Option.bind_some, cond_false]
       generalize (DElem.mk (DKey.mk 0 0 0) 0 0 (ByteArray.mk #[])) = z
       rw [hox]
       have hlen2 : ((A ++ B) ++ [z]).length = A.length + B.length + 1 := by simp; omega
       simp only [List.length_nil, Nat.zero_add] at hlen
       rw [grow_ok (by simp; omega) (by simp; omega), Option.bind_some, w64 (n := (A.length : Int) + 1) (by omega) (by omega),
        show ((A.length : Int) + 1) = ((A.length + 1 : Nat) : Int) by omega, lslice_from (by omega), Option.bind_some, lslice_from (by omega), Option.bind_some, idx_nat', Int.toNat_natCast, Int.toNat_natCast, insert_shift]
       have hov : A.length < (over ((A ++ B) ++ [z]) (A.length + 1) ((((A ++ B) ++ [z]).drop A.length).take (((A ++ B) ++ [z]).drop (A.length + 1)).length)).length := by
        rw [over_length]
        · omega
        · simp; omega
       rw [List.getElem?_eq_getElem hov, Option.bind_some, Option.bind_some]
       rw [w64 (by omega) (by omega)]; rfl
   · rw [hsp, List.getElem?_append_left hj, List.getElem?_eq_getElem hj]
     have := hA _ (List.getElem_mem hj)
     simp only [decide_eq_false_iff_not]; omega
   · have h2' : j - A.length < (M ++ B).length := by rw [List.length_append]; omega
     rw [hsp, List.getElem?_append_right h1, List.getElem?_eq_getElem h2']
     have hm := List.getElem_mem h2'
     simp only [decide_eq_true_eq]
     rcases List.mem_append.1 hm with hm | hm
     · rcases hM with ⟨x, rfl, hxm, hxs⟩ | ⟨rfl, hne⟩
       · rw [List.mem_singleton.1 hm, hxs, cmp_cmpS.refl]; omega
       · simp at hm
     · have := hB _ hm; omega
   · have hm : (i + j) / 2 < out.length := by omega
     dsimp only
     rw [decide_eq_true (by omega), cond_true, search_mid (by omega) (by omega), idx_nat', List.getElem?_eq_getElem hm, Option.bind_some, elem_Spot_eq, Option.bind_some, elem_Spot_eq, Option.bind_some, key_CmpSpot_eq, Option.bind_some, Option.bind_some]
     dsimp only
     by_cases hp : 0 ≤ cmpS (spotE out[(i + j) / 2]) (spotE e)
     · rw [decide_eq_true hp]; rfl
     · rw [decide_eq_false hp, w64 (by omega) (by omega)]; rfl
theorem parseP_len (p a b : Int) : ∀ (m : Nat) (acc : List DElem) (l : List UInt8), (parseP p a b m acc l).1.elems.length ≤ acc.length + l.length
 | 0, acc, l => by rw [parseP]; simp [zP]
 | m + 1, acc, l => by
  rw [parseP]
  by_cases h0 : (fget l).2.2 = 0
  · obtain ⟨k, n, B, g1, g2, g3, g4, g5, g6⟩ := fget_ok h0
    rw [if_neg (by simpa using h0)]
    split
    · dsimp only; omega
    · split
      · simp [zP]
      · have := parseP_len p a b m (acc ++ [(cget (fget l).1.body.data.toList).1]) (l.drop (fget l).2.1.toNat)
        rw [List.length_append, List.length_singleton, List.length_drop, g2, Int.toNat_natCast] at this
        rw [g2, Int.toNat_natCast]
        omega
  · rw [if_pos h0]; simp [zP]
theorem parseR_len (l : List UInt8) : (parseR l).1.elems.length ≤ l.length := by
 unfold parseR
 split
 · simp [zP]
 · split
   · simp [zP]
   · split
     · simp [zP]
     · have := parseP_len (valL (sl (fget l).1.body.data.toList 0 4)) (valL (sl (fget l).1.body.data.toList 4 8)) (valL (sl (fget l).1.body.data.toList 8 12)) (l.length + 1) [] (l.drop (fget l).2.1.toNat)
       rw [List.length_drop, List.length_nil] at this
       omega
theorem stream_Feed_some {l : List DElem} (h : Run l) {b : List UInt8} (hb : b.length ≤ 2000000) (hp : (parseR b).2 = 0) : stream_Feed F l (ofL b) = some (if 400 < (mergeR l (parseR b).1.elems).length then ([], 8) else if chkR (mergeR l (parseR b).1.elems) ≠ 0 then ([], 3) else (mergeR l (parseR b).1.elems, 0)) := by
 unfold stream_Feed
 have hpl := parseR_len b
 rw [run_Check_eq, Option.bind_some, bne0_false (chkR_zero.2 h), cond_false, stream_Parse_eq b (by omega), Option.bind_some, bne0_false hp, cond_false, stream_Merge_eq l _ (spots_of h.ord) h.len (by omega), Option.bind_some]
 by_cases h4 : 400 < (mergeR l (parseR b).1.elems).length
 · rw [decide_eq_true (by omega), cond_true, if_pos h4]
 · rw [decide_eq_false (by omega), cond_false, if_neg h4, run_Check_eq, Option.bind_some]
   by_cases hc : chkR (mergeR l (parseR b).1.elems) = 0
   · rw [bne0_false hc, cond_false, if_neg (show ¬ chkR (mergeR l (parseR b).1.elems) ≠ 0 by simpa using hc)]
   · rw [bne0_true hc, cond_true, if_pos (show chkR (mergeR l (parseR b).1.elems) ≠ 0 from hc)]
end Go.Proofs.Ytdggcklddjndmaa
