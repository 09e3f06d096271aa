/- Plain Lean: the law FileBounds. Its conditions: none. -/
import Derived.Test.YtaodaihoglcinacWFileBoundsF
import Derived.Test.YtaodaihoglcinacPFileL
import Derived.Test.YtaodaihoglcinacPLoop
namespace Go.Proofs.Ytaodaihoglcinac
set_option linter.unusedVariables false
set_option linter.unusedSimpArgs false
variable {F : Nat} [Big F]
section
variable {p o t : Int} {s : ByteArray}
/-- A block's record. -/
def blkE (p o t : Int) (s : ByteArray) (i : Nat) : DElem := newE (bkF p o i) (s.extract (16 * i) (min (16 * i + 16) s.size)) t
def blks (p o t : Int) (s : ByteArray) (n : Nat) : List DElem := (List.range n).map (blkE p o t s)
theorem blks_succ (n : Nat) : blks p o t s (n + 1) = blks p o t s n ++ [blkE p o t s n] := by
  unfold blks; rw [List.range_succ, List.map_append]; rfl
theorem blks_len (n : Nat) : (blks p o t s n).length = n := by simp [blks]
theorem blks_get {n k : Nat} (h : k < n) : (blks p o t s n)[k]? = some (blkE p o t s k) := by
  unfold blks; rw [List.getElem?_map, List.getElem?_range h]; rfl
theorem putR_blks (k : Nat) (v : ByteArray) : putR (blks p o t s k) (bkF p o k) v t = blks p o t s k ++ [newE (bkF p o k) v t] := by
  have h1 : ∀ e ∈ blks p o t s k, cmpK e.key (bkF p o k) < 0 := fun e he => by
    unfold blks at he
    obtain ⟨i, hi, rfl⟩ := List.mem_map.1 he
    exact bkF_lt (List.mem_range.1 hi)
  have a : lo (blks p o t s k) (bkF p o k) = blks p o t s k := by
    unfold lo; rw [List.filter_eq_self]; intro e he; simpa using h1 e he
  have b : hi (blks p o t s k) (bkF p o k) = [] := by
    unfold hi; rw [List.filter_eq_nil_iff]; intro e he; have := h1 e he; simp; omega
  have c : hist (blks p o t s k) (bkF p o k) = [] := hist_other fun e he e' => by
    have := h1 e he; rw [e', cmp_cmpK.refl] at this; omega
  unfold putR upd
  rw [a, b, c]; simp [clo]
theorem blk_size (k : Nat) : (s.extract (16 * k) (min (16 * k + 16) s.size)).size ≤ 40 := by rw [ByteArray.size_extract]; omega
theorem blks_ok (hk : chkK (bkF p o 0) = 0) (h0 : 1 ≤ t) (h1 : t ≤ 2147483647) : ∀ n, n ≤ 20 → Run (blks p o t s n) ∧ lastL (blks p o t s n) ≤ t
  | 0, _ => ⟨Run.nil, by show lastL [] ≤ t; rw [show lastL [] = 0 from rfl]; omega⟩
  | n + 1, hn => by
    have ih := blks_ok hk h0 h1 n (by omega)
    have hc : chkE (newE (bkF p o n) (s.extract (16 * n) (min (16 * n + 16) s.size)) t) = 0 := chkE_new (bkF_ok hk (by omega)) h0 h1 (blk_size n)
    have hp : blks p o t s (n + 1) = putR (blks p o t s n) (bkF p o n) (s.extract (16 * n) (min (16 * n + 16) s.size)) t := by rw [blks_succ, putR_blks]; rfl
    rw [hp]
    refine ⟨ih.1.putR ih.2 hc ?_, Int.le_of_eq (last_put ih.1 ih.2 hc)⟩
    rw [← hp, blks_len]; omega
theorem foldE_app {α τ ε : Type} (st : τ → α → τ ⊕ ε) : ∀ (l m : List α) (a : τ), foldE st a (l ++ m) = match foldE st a l with | .inl b => foldE st b m | .inr r => .inr r
  | [], _, _ => rfl
  | x :: l, m, a => by
    rw [List.cons_append, foldE, foldE]
    cases st a x with
    | inl b => exact foldE_app st l m b
    | inr r => rfl
theorem now_nil (k : DKey) : nowV [] k = none := rfl
theorem fold_blks (hk : chkK (bkF p o 0) = 0) (h0 : 1 ≤ t) (h1 : t ≤ 2147483647) : ∀ k, k ≤ 20 →
    foldE (optStep (doStep t) fun i => dif (bkF p o i) (nowV [] (bkF p o i)) (want s i)) [] (List.range k) = .inl (blks p o t s (min k ((s.size + 15) / 16)))
  | 0, _ => by
    show (Sum.inl [] : List DElem ⊕ Int) = _
    rw [Nat.zero_min]; rfl
  | k + 1, hn => by
    rw [List.range_succ, foldE_app, fold_blks hk h0 h1 k (by omega)]
    dsimp only
    by_cases hat : 16 * k < s.size
    · have hw : want s k = some (s.extract (16 * k) (min (16 * k + 16) s.size)) := by unfold want; rw [if_pos hat]
      have hst : optStep (doStep t) (fun i => dif (bkF p o i) (nowV [] (bkF p o i)) (want s i)) (blks p o t s k) k = .inl (blks p o t s (k + 1)) := by
        unfold optStep
        dsimp only
        rw [hw, now_nil]
        show (if putE (blks p o t s k) (bkF p o k) (s.extract (16 * k) (min (16 * k + 16) s.size)) t = 0 then Sum.inl (putR (blks p o t s k) (bkF p o k) (s.extract (16 * k) (min (16 * k + 16) s.size)) t) else Sum.inr (putE (blks p o t s k) (bkF p o k) (s.extract (16 * k) (min (16 * k + 16) s.size)) t)) = _
        have hr := blks_ok (s := s) hk h0 h1 k (by omega)
        rw [if_pos, putR_blks, blks_succ]; rfl
        refine putE_zero.2 ⟨hr.1, chkE_new (bkF_ok hk (by omega)) h0 h1 (blk_size k), hr.2, ?_⟩
        rw [putR_blks, List.length_append, blks_len]; simp; omega
      rw [show min k ((s.size + 15) / 16) = k by omega, show min (k + 1) ((s.size + 15) / 16) = k + 1 by omega, foldE, hst]; rfl
    · have hw : want s k = none := by unfold want; rw [if_neg hat]
      have hst : ∀ m, optStep (doStep t) (fun i => dif (bkF p o i) (nowV [] (bkF p o i)) (want s i)) m k = .inl m := fun m => by
        unfold optStep
        dsimp only
        rw [hw, now_nil]; rfl
      rw [show min (k + 1) ((s.size + 15) / 16) = min k ((s.size + 15) / 16) by omega, foldE, hst]; rfl
theorem set_blks (hk : chkK (bkF p o 0) = 0) (hs : s.size ≤ 320) (h0 : 1 ≤ t) (h1 : t ≤ 2147483647) : file_Set F [] p o s t = some (blks p o t s ((s.size + 15) / 16), 0) := by
  have h : setE [] p o s t = 0 := set_nil hk hs h0 h1
  have e : foldE (doStep t) [] (setC [] p o s) = .inl (blks p o t s ((s.size + 15) / 16)) := by
    unfold setC
    rw [foldE_filterMap, fold_blks hk h0 h1 20 (Nat.le_refl _), show min 20 ((s.size + 15) / 16) = (s.size + 15) / 16 by omega]
  exact (file_Set_is (F := F) h e).2
theorem set_big (hk : chkK (bkF p o 0) = 0) (hs : 320 < s.size) : file_Set F [] p o s t = some ([], 2) := by
  have h : setE [] p o s t = 2 := by
    unfold setE
    rw [if_neg (by simpa using lookF_zero.2 ⟨Run.nil, hk⟩), if_pos hs]
  rw [file_Set_eq, h]; rfl
end
theorem rep_x (n : Nat) (hn : n ≤ 100000) : ∃ r, strings_Repeat (ByteArray.mk #[120]) (n : Int) = some r ∧ r.size = n := by
  refine ⟨_, if_pos ⟨by omega, by omega, by decide⟩, ?_⟩
  show (Lib.repeatL [120] ((n : Int).toNat)).toArray.size = n
  rw [List.size_toArray, Lib.repeatL_length, Int.toNat_natCast]; simp
theorem annalkeep_FileBounds_true (F : Nat) [Big F] (s : ByteArray) (o t : Int) (_ : okStr s) (hs : s.size ≤ reachBytes) (oo : okInt .i64 o) (ot : okInt .i64 t) : annalkeep_FileBounds F s o t = some true := by
  unfold annalkeep_FileBounds
  obtain ⟨r1, e1, z1⟩ := rep_x 321 (by omega)
  obtain ⟨r3, e3, z3⟩ := rep_x 320 (by omega)
  rw [show ((321 : Int)) = ((321 : Nat) : Int) from rfl, e1, Option.bind_some, set_big (by decide) (by omega), Option.bind_some]
  rw [show ((2 : Int) != 2) = false by decide, cond_false]
  rw [show ((320 : Int)) = ((320 : Nat) : Int) from rfl, e3, Option.bind_some, set_blks (by decide) (by omega) (by decide) (by decide), Option.bind_some, z3]
  rw [blks_len]
  rw [show (((0 : Int) != 0) || ((((320 + 15) / 16 : Nat) : Int) != 20)) = false by decide, cond_false]
  obtain ⟨a, ha, ha1⟩ := within_eq (n := o) (m := 1048577) (by omega) (by omega) oo
  obtain ⟨b, hb, hb1⟩ := within_eq (n := t) (m := 1000) (by omega) (by omega) ot
  rw [ha, Option.bind_some, hb, Option.bind_some, w64 (n := 1 + (b : Int)) (by omega) (by omega)]
  have hk : chkK (bkF 3 (a : Int) 0) = 0 := by unfold chkK bkF; rw [if_neg]; dsimp only; omega
  have hr := hs
  unfold reachBytes at hr
  by_cases hb3 : 320 < s.size
  · rw [set_big hk hb3, Option.bind_some, decide_eq_true (by omega), cond_true]; rfl
  · rw [set_blks hk (by omega) (by omega) (by omega), Option.bind_some, decide_eq_false (by omega), cond_false]
    dsimp only
    rw [blks_len]
    have hq : IntKind.i64.wrap ((IntKind.i64.wrap ((s.size : Int) + 15)).tdiv 16) = (((s.size + 15) / 16 : Nat) : Int) := by
      rw [w64 (n := (s.size : Int) + 15) (by omega) (by omega)]
      have : ((s.size : Int) + 15).tdiv 16 = (((s.size + 15) / 16 : Nat) : Int) := by
        rw [Int.tdiv_eq_ediv_of_nonneg (by omega)]; omega
      rw [this, w64 (by omega) (by omega)]
    rw [hq]
    simp only [bne_self_eq_false, Bool.or_self, cond_false]
    rw [loop_run (s := 0) (fun k => (k : Int)) ((s.size + 15) / 16) (r := Sum.inl ()) rfl (by omega) (fun k hk' => ?_) ?_]
    · rfl
    · rw [decide_eq_false (by omega), cond_false]
    · rw [decide_eq_true (by omega), cond_true, idx_nat', blks_get hk', Option.bind_some, w64 (n := 1 + (k : Int)) (by omega) (by omega), key_Check_eq]
      have h1 : (blkE 3 (a : Int) (1 + (b : Int)) s k).key = DKey.mk 3 (a : Int) (1 + (k : Int)) := rfl
      have h2 : (blkE 3 (a : Int) (1 + (b : Int)) s k).made = 1 + (b : Int) := rfl
      have h3 : (blkE 3 (a : Int) (1 + (b : Int)) s k).gone = 0 := rfl
      have h4 : chkK (blkE 3 (a : Int) (1 + (b : Int)) s k).key = 0 := bkF_ok hk (by omega)
      rw [h4, h1, h2, h3]
      simp only [beq_self_eq_true, Bool.not_true, bne_self_eq_false, cond_false, Option.bind_some]
      rw [w64 (n := (k : Int) + 1) (by omega) (by omega)]; rfl
end Go.Proofs.Ytaodaihoglcinac
