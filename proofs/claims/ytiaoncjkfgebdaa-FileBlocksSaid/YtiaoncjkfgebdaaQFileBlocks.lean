/- Plain Lean: the law FileBlocks. Its conditions: none. -/
import Derived.Test.YtiaoncjkfgebdaaWFileBlocksF
import Derived.Test.YtiaoncjkfgebdaaPFileL
import Derived.Test.YtiaoncjkfgebdaaPRunL
namespace Go.Proofs.Ytiaoncjkfgebdaa
set_option linter.unusedVariables false
set_option linter.unusedSimpArgs false
variable {F : Nat} [Big F]
def blkX : ByteArray := ByteArray.mk #[48, 49, 50, 51, 52, 53, 54, 55, 56, 57, 97, 98, 99, 100, 101, 102, 88]
def blkY : ByteArray := ByteArray.mk #[48, 49, 50, 51, 52, 53, 54, 55, 56, 57, 97, 98, 99, 100, 101, 102, 89]
def blkM : List DElem := [⟨⟨0, 5, 1⟩, 1, 0, blkX.extract 0 16⟩, ⟨⟨0, 5, 2⟩, 1, 0, blkX.extract 16 17⟩]
def blkN : List DElem := [⟨⟨0, 5, 1⟩, 1, 0, blkX.extract 0 16⟩, ⟨⟨0, 5, 2⟩, 1, 2, blkX.extract 16 17⟩, ⟨⟨0, 5, 2⟩, 2, 0, blkY.extract 16 17⟩]
theorem blk_smoke : file_Set F [] 0 5 blkX 1 = some (blkM, 0) ∧ file_Set F blkM 0 5 blkY 2 = some (blkN, 0) := by
  have h : setE [] 0 5 blkX 1 = 0 := set_nil (by decide) (by decide) (by decide) (by decide)
  have e : foldE (doStep 1) [] (setC [] 0 5 blkX) = .inl blkM := by rfl
  obtain ⟨h1, h2⟩ := file_Set_is (F := F) h e
  have e' : foldE (doStep 2) blkM (setC blkM 0 5 blkY) = .inl blkN := by rfl
  obtain ⟨h3, h4⟩ := file_Set_is (F := F) (set_next (s' := blkY) (t' := 2) h h1 (by decide) (by decide) (by decide)) e'
  exact ⟨h2, h4⟩
/-- One byte turned: the blocks. -/
theorem want_turn (S : List UInt8) {r : Nat} {b c : UInt8} (hr : S[r]? = some b) (hne : b ≠ c) (i : Nat) : (want (ofL (S.set r c)) i = want (ofL S) i) ↔ r / 16 ≠ i := by
  have hrl := (List.getElem?_eq_some_iff.1 hr).1
  unfold want
  simp only [ofL_size, List.length_set, ofL_extract]
  by_cases hi : 16 * i < S.length
  · rw [if_pos hi, if_pos hi, Option.some.injEq, ofL_inj]
    constructor
    · intro h e
      have h1 := congrArg (fun l => l[r - 16 * i]?) h
      simp only [List.getElem?_drop, List.getElem?_take] at h1
      rw [if_pos (by omega), if_pos (by omega), show 16 * i + (r - 16 * i) = r by omega, hr, List.getElem?_set, if_pos rfl, if_pos hrl] at h1
      exact hne (Option.some.inj h1).symm
    · intro h
      apply List.ext_getElem?
      intro j
      simp only [List.getElem?_drop, List.getElem?_take]
      split
      · rw [List.getElem?_set, if_neg (by omega)]
      · rfl
  · rw [if_neg hi, if_neg hi]
    exact ⟨fun _ e => by omega, fun _ => rfl⟩
theorem set_turn (S : List UInt8) {r : Nat} {b : UInt8} (hr : S[r]? = some b) : ∃ c, b ≠ c ∧ bytesOf ((listOf (ofL S)).set r (IntKind.u8.wrap ((b.toNat : Int) + 1))) = ofL (S.set r c) := by
  refine ⟨b + 1, fun h => ?_, ?_⟩
  · have := congrArg UInt8.toNat h
    rw [UInt8.toNat_add] at this
    have hb := b.toNat_lt
    simp at this
    omega
  · rw [listOf_ofL, ← bytesOf_listOf, List.map_set]
    congr 2
theorem annalkeep_FileBlocks_true (F : Nat) [Big F] (l : List DElem) (p o : Int) (s : ByteArray) (x t : Int) (_ : okAllW 56 okElem l) (_ : okInt .i64 p) (_ : okInt .i64 o) (_ : okStr s) (hs : s.size ≤ reachBytes) (hx : okInt .i64 x) (_ : okInt .i64 t) : annalkeep_FileBlocks F l p o s x t = some true := by
  unfold annalkeep_FileBlocks
  obtain ⟨s1, s2⟩ := blk_smoke (F := F)
  show ((file_Set F [] 0 5 blkX 1).bind _) = _
  rw [s1, Option.bind_some]
  show ((file_Set F blkM 0 5 blkY 2).bind _) = _
  rw [s2]
  show (file_Set F l p o s t).bind _ = _
  rcases file_Set_cases (F := F) l p o s t with ⟨h, e⟩ | ⟨h, e | ⟨m, hm, e⟩⟩
  · rw [e, Option.bind_some, bne0_true h, Bool.true_or, cond_true]; simp
  · rw [e]; rfl
  · rw [e, Option.bind_some]
    obtain ⟨T, rfl⟩ := exists_ofL s
    rw [ofL_size] at hs
    unfold reachBytes at hs
    have he : seq (ofL T) (ByteArray.mk #[]) = (T == []) := seq_ofL T []
    rw [he]
    simp only [bne_self_eq_false, Bool.false_or]
    obtain ⟨hr, hk, hz, t0, t1, tl⟩ := setE_zero.1 h
    rw [ofL_size] at hz
    by_cases hT : T = []
    · subst hT; rfl
    · rw [beq_eq_false_iff_ne.2 hT, cond_false]
      have hlen : 0 < T.length := List.length_pos_iff.2 hT
      obtain ⟨r, w1, w2⟩ := within_eq (n := x) (m := ((ofL T).size : Int)) (by rw [ofL_size]; omega) (by rw [ofL_size]; omega) hx
      rw [ofL_size] at w2
      have hrT : r < T.length := by omega
      obtain ⟨b, hb⟩ : ∃ b, T[r]? = some b := ⟨T[r], List.getElem?_eq_getElem hrT⟩
      have hidx : idx (listOf (ofL T)) (r : Int) = some (b.toNat : Int) := by rw [idx_nat', listOf_ofL, List.getElem?_map, hb]; rfl
      have hfit : fits (ofL T) = some () := by unfold fits maxLen; rw [if_pos (by rw [ofL_size]; omega)]
      obtain ⟨c, hne, hc⟩ := set_turn T hb
      rw [w1, Option.bind_some, hfit, Option.bind_some, hidx, Option.bind_some, Option.bind_some, Int.toNat_natCast, hc]
      have ht' : t ≤ (if (2147483647 : Int) < IntKind.i64.wrap (t + 1) then 2147483647 else IntKind.i64.wrap (t + 1)) ∧ (if (2147483647 : Int) < IntKind.i64.wrap (t + 1) then 2147483647 else IntKind.i64.wrap (t + 1)) ≤ 2147483647 := by
        rw [w64 (by omega) (by omega)]; split <;> omega
      generalize (if (2147483647 : Int) < IntKind.i64.wrap (t + 1) then 2147483647 else IntKind.i64.wrap (t + 1)) = u at ht'
      have hE := set_next (s' := ofL (T.set r c)) (t' := u) h hm (by rw [ofL_size, List.length_set]; omega) ht'.1 ht'.2
      rcases file_Set_cases (F := F) m p o (ofL (T.set r c)) u with ⟨h', e'⟩ | ⟨h', e' | ⟨n, hn, e'⟩⟩
      · exact absurd hE h'
      · rw [e']; rfl
      · rw [e', Option.bind_some]
        simp only [bne_self_eq_false, cond_false]
        rw [loop_run (fun k : Nat => (1 : Int) + (k : Int)) 20 (r := Sum.inl ()) (show (1 : Int) = (fun k : Nat => (1 : Int) + (k : Int)) 0 from rfl) (by decide) (fun k hk => ?_) rfl, Option.bind_some]
        have hbk : DKey.mk p o (1 + (k : Int)) = bk p o k := rfl
        rw [decide_eq_true (by omega), cond_true, hbk, run_At_eq, run_At_eq, Option.bind_some, Option.bind_some]
        have hkk : chkK (bk p o k) = 0 := bk_ok (setE_zero.1 h).2.1 (by omega)
        have ew1 : IntKind.i64.wrap ((r : Int).tdiv 16) = ((r / 16 : Nat) : Int) := by
          rw [Int.tdiv_eq_ediv_of_nonneg (by omega), w64 (by omega) (by omega)]; omega
        have ew2 : IntKind.i64.wrap (1 + (k : Int) - 1) = (k : Int) := by rw [w64 (by omega) (by omega)]; omega
        have ew3 : IntKind.i64.wrap (1 + (k : Int) + 1) = 1 + ((k + 1 : Nat) : Int) := by rw [w64 (by omega) (by omega)]; omega
        rw [ew1, ew2, ew3]
        have v1 := set_want h hm t1 hk
        have v2 := set_want h' hn ht'.2 hk
        have hw := want_turn T hb hne k
        by_cases hrk : r / 16 = k
        · have hd : want (ofL (T.set r c)) k ≠ want (ofL T) k := fun e => hw.1 e hrk
          have x1 := (vAt_E hm.run hkk 2147483647).2
          have x2 := (vAt_E hn.run hkk 2147483647).2
          rw [v1] at x1
          rw [v2] at x2
          have hsq : seq (atV m (bk p o k) 2147483647).val (atV n (bk p o k) 2147483647).val = false := by
            rw [seq_dec, decide_eq_false_iff_not, x1, x2]
            intro e
            apply hd
            have y1 : 16 * k < (ofL T).size := by rw [ofL_size]; omega
            have y2 : 16 * k < (ofL (T.set r c)).size := by rw [ofL_size, List.length_set]; omega
            unfold want at e ⊢
            rw [if_pos y1, if_pos y2] at e
            rw [if_pos y1, if_pos y2]
            exact congrArg some e.symm
          dsimp only
          rw [hsq, hrk, beq_self_eq_true]; rfl
        · have hh : hist n (bk p o k) = hist m (bk p o k) := by
            rw [hn.at_, setC_at hk, ← nowV_at hm.run (Int.le_trans hm.last t1), v1, hw.2 hrk]
            unfold dif
            rw [if_pos rfl]; rfl
          have ha : atR n (bk p o k) 2147483647 = atR m (bk p o k) 2147483647 := by rw [atR_hist, atR_hist, hh]
          have hv : atV n (bk p o k) 2147483647 = atV m (bk p o k) 2147483647 := by rw [atV_run hn.run hkk, atV_run hm.run hkk, ha]
          have hee : atE n (bk p o k) 2147483647 = atE m (bk p o k) 2147483647 := by rw [atE_run hn.run hkk, atE_run hm.run hkk, ha]
          dsimp only
          rw [hv, hee, seq_self, beq_self_eq_true, beq_self_eq_true, beq_eq_false_iff_ne.2 (show ¬ ((r / 16 : Nat) : Int) = (k : Int) by omega)]; rfl
end Go.Proofs.Ytiaoncjkfgebdaa
