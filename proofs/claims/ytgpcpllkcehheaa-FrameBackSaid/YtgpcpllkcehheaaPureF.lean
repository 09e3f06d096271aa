/- Plain Lean: the laws of frames. Its conditions: none. -/
import Derived.Test.YtgpcpllkcehheaaPureC
namespace Go.Proofs.Ytgpcpllkcehheaa
open Go.ChangeShapes
set_option linter.unusedVariables false
set_option linter.unusedSimpArgs false

theorem two_val (X : BitVec 16) : valL (two X) = X.toNat := by
  have := X.isLt
  rw [two_big, valL_big]; exact Nat.mod_eq_of_lt this
theorem head_take (k : Nat) (B more : List UInt8) : (fput k B ++ more).take (B.length + 3) = fhead k B := by
  rw [fput, List.append_assoc]
  exact List.take_left' (fhead_length k B)
theorem head_drop (k : Nat) (B more : List UInt8) : (fput k B ++ more).drop (B.length + 3) = two (crc (fhead k B)) ++ more := by
  rw [fput, List.append_assoc]
  exact List.drop_left' (fhead_length k B)
theorem head_size (k : Nat) (B more : List UInt8) : ((fput k B ++ more).drop 1).take 2 = bigL B.length 2 := by
  simp only [fput, fhead, List.cons_append, List.append_assoc, List.drop_succ_cons, List.drop_zero]
  exact List.take_left' (bigL_length _ _)
theorem size_val {B : List UInt8} (h : B.length ≤ 3000) : valL (bigL B.length 2) = B.length := by
  rw [valL_big]; exact Nat.mod_eq_of_lt (by omega)
theorem kind_val {k : Nat} (h1 : k ≤ 255) : (UInt8.ofNat k).toNat = k := by
  rw [UInt8.toNat_ofNat']; exact Nat.mod_eq_of_lt (by omega)
theorem kind_ne {k : Nat} (h0 : 1 ≤ k) (h1 : k ≤ 255) : UInt8.ofNat k ≠ 0 := by
  intro h
  have := congrArg UInt8.toNat h
  rw [kind_val h1] at this
  have h3 : (0 : UInt8).toNat = 0 := rfl
  omega
theorem head_0 (k : Nat) (B more : List UInt8) : (fput k B ++ more).getD 0 0 = UInt8.ofNat k := rfl
theorem fhead_body (k : Nat) (B : List UInt8) : (fhead k B).drop 3 = B := by
  simp [fhead, bigL]

theorem fget_fput (k : Nat) (B more : List UInt8) (h0 : 1 ≤ k) (h1 : k ≤ 255) (h : B.length ≤ 3000) : fget (fput k B ++ more) = (⟨(k : Int), ofL B⟩, ((B.length + 5 : Nat) : Int), 0) := by
  unfold fget
  have hl : (fput k B ++ more).length = B.length + 5 + more.length := by rw [List.length_append, fput_length]
  rw [if_neg (by omega), head_size, size_val h]
  dsimp only
  rw [head_0, if_neg (by rintro (h' | h'); exact kind_ne h0 h1 h'; omega), if_neg (by omega), head_drop, head_take, List.take_left' (two_length _), two_val, if_neg (by simp), fhead_body, kind_val h1]
theorem fget_short (k : Nat) (B : List UInt8) (h0 : 1 ≤ k) (h1 : k ≤ 255) (h : B.length ≤ 3000) (j : Nat) (hj : j < B.length + 5) : (fget ((fput k B).take j)).2.2 = 7 := by
  unfold fget
  have hl : ((fput k B).take j).length = j := by rw [List.length_take, fput_length]; omega
  by_cases h5 : j < 5
  · rw [if_pos (by omega)]
  · have e0 := head_size k B []
    rw [List.append_nil] at e0
    have e1 : (((fput k B).take j).drop 1).take 2 = bigL B.length 2 := by
      rw [← e0, List.drop_take, List.take_take, Nat.min_eq_left (by omega)]
    have e2 : ((fput k B).take j).getD 0 0 = UInt8.ofNat k := by
      rw [List.getD_eq_getElem?_getD, List.getElem?_take, if_pos (by omega)]; rfl
    rw [if_neg (by omega), e1, size_val h]
    dsimp only
    rw [e2, if_neg (by rintro (h' | h'); exact kind_ne h0 h1 h'; omega), if_pos (by omega)]

theorem fput_fget {l : List UInt8} (h : (fget l).2.2 = 0) : ∃ (k : Nat) (B : List UInt8), 1 ≤ k ∧ k ≤ 255 ∧ B.length ≤ 3000 ∧ B.length + 5 ≤ l.length ∧ fget l = (⟨(k : Int), ofL B⟩, ((B.length + 5 : Nat) : Int), 0) ∧ fput k B = l.take (B.length + 5) := by
  unfold fget at h ⊢
  by_cases h5 : l.length < 5
  · rw [if_pos h5] at h; cases h
  rw [if_neg h5] at h ⊢
  dsimp only at h ⊢
  generalize hn : valL ((l.drop 1).take 2) = n at h ⊢
  by_cases hb : l.getD 0 0 = 0 ∨ 3000 < n
  · rw [if_pos hb] at h; cases h
  rw [if_neg hb] at h ⊢
  by_cases hs : l.length < n + 5
  · rw [if_pos hs] at h; cases h
  rw [if_neg hs] at h ⊢
  by_cases hv : valL ((l.drop (n + 3)).take 2) ≠ (crc (l.take (n + 3))).toNat
  · rw [if_pos hv] at h; cases h
  rw [if_neg hv]
  have hv' : valL ((l.drop (n + 3)).take 2) = (crc (l.take (n + 3))).toNat := Decidable.not_not.1 hv
  have hB : ((l.take (n + 3)).drop 3).length = n := by rw [List.length_drop, List.length_take]; omega
  have h0 : (l.getD 0 0).toNat ≠ 0 := fun e => hb (.inl (UInt8.toNat_inj.1 e))
  have hlt := (l.getD 0 0).toNat_lt
  refine ⟨(l.getD 0 0).toNat, (l.take (n + 3)).drop 3, by omega, by omega, by rw [hB]; omega, by rw [hB]; omega, by rw [hB], ?_⟩
  have hhead : fhead (l.getD 0 0).toNat ((l.take (n + 3)).drop 3) = l.take (n + 3) := by
    rw [fhead, hB]
    have e1 : bigL n 2 = (l.drop 1).take 2 := by
      have := big_val ((l.drop 1).take 2)
      rw [hn, show ((l.drop 1).take 2).length = 2 by rw [List.length_take, List.length_drop]; omega] at this
      exact this
    have e2 : UInt8.ofNat (l.getD 0 0).toNat = l.getD 0 0 := by simp
    rw [e1, e2]
    have three : ∀ l : List UInt8, 3 ≤ l.length → l.getD 0 0 :: ((l.drop 1).take 2 ++ (l.take (n + 3)).drop 3) = l.take (n + 3) := fun l hl => by
      match l, hl with
      | a :: b :: c :: l, _ => simp [List.take_succ_cons]
      | [a, b], h => simp at h
      | [a], h => simp at h
      | [], h => simp at h
    exact three l (by omega)
  rw [fput, hhead, hB, two_big, ← hv']
  have e3 := big_val ((l.drop (n + 3)).take 2)
  rw [show ((l.drop (n + 3)).take 2).length = 2 by rw [List.length_take, List.length_drop]; omega] at e3
  rw [e3, show n + 5 = (n + 3) + 2 by omega]
  exact List.take_add.symm

/-- What is put, by cases. -/
theorem frame_Put_cases (p : DFrame) : (∃ e : Int, e ≠ 0 ∧ frame_Put p = some (ofL [], e)) ∨ ∃ (k : Nat) (B : List UInt8), p = ⟨(k : Int), ofL B⟩ ∧ 1 ≤ k ∧ k ≤ 255 ∧ B.length ≤ 3000 ∧ frame_Put p = some (ofL (fput k B), 0) := by
  obtain ⟨kind, body⟩ := p
  obtain ⟨B, rfl⟩ := exists_ofL body
  by_cases h1 : kind < 1 ∨ 255 < kind
  · exact .inl ⟨1, by decide, frame_Put_bad1 _ h1⟩
  · by_cases h2 : 3000 < B.length
    · exact .inl ⟨2, by decide, frame_Put_bad2 kind B (by omega) (by omega) h2⟩
    · obtain ⟨k, rfl⟩ : ∃ k : Nat, kind = k := ⟨kind.toNat, by omega⟩
      exact .inr ⟨k, B, rfl, by omega, by omega, by omega, frame_Put_good k B (by omega) (by omega) (by omega)⟩
theorem beq_self_frame (p : DFrame) : (p == p) = true := by simp
theorem frame_Put_3 : frame_Put ⟨3, ByteArray.mk #[]⟩ = some (ofL (fput 3 []), 0) := frame_Put_good 3 [] (by decide) (by decide) (by decide)
theorem frame_Put_x : frame_Put ⟨1, ByteArray.mk #[120]⟩ = some (ofL (fput 1 [120]), 0) := frame_Put_good 1 [120] (by decide) (by decide) (by decide)
theorem ne0 {e : Int} (h : e ≠ 0) : (e != 0) = true := by simpa using h
theorem ne00 : ((0 : Int) != 0) = false := by decide
theorem eq00 : ((0 : Int) == 0) = true := by decide
theorem size_eq (l : List UInt8) : ((ofL l).size : Int) = (l.length : Int) := rfl

theorem annalkeep_FrameBack_true (p0 : DFrame) (p1 : ByteArray) (p2 : Int) (k0 : okFrame p0) (k1 : okStr p1) (k1_ : p1.size ≤ reachBytes) (k2 : (Lit.int .i64 p2).wf = true) : annalkeep_FrameBack p0 p1 p2 = some true := by
  obtain ⟨m, rfl⟩ := exists_ofL p1
  have hm : m.length ≤ 140737488351232 := reach k1_
  unfold annalkeep_FrameBack
  have s1 : sslice (ofL (fput 3 [])) 0 3 = some (ofL [3, 0, 0]) := by
    have := head_take 3 [] []
    rw [List.append_nil] at this
    rw [sslice_ofL (by decide) (by decide) (by rw [fput_length]; decide)]
    exact congrArg (fun l => some (ofL l)) this
  have c1 : (((ofL (fput 3 [])).size : Int) != 5) = false := by rw [size_eq, fput_length]; decide
  have c2 : seq (ofL [3, 0, 0]) (ByteArray.mk #[3, 0, 0]) = true := (seq_ofL [3, 0, 0] [3, 0, 0]).trans (by decide)
  rw [frame_Put_3, obind]
  dsimp only
  rw [ne00, cfalse, c1, cfalse, s1, obind, c2, Bool.not_true, obind, cfalse]
  rcases frame_Put_cases p0 with ⟨e, he, hp⟩ | ⟨k, B, rfl, h0, h1, h2, hp⟩
  · rw [hp, obind]
    dsimp only
    rw [ne0 he, ctrue]
    exact congrArg some ((seq_ofL [] []).trans (by decide))
  · rw [hp, obind]
    dsimp only
    have hlen := fput_length k B
    obtain ⟨r, hr, hr0, hr1⟩ := within_some p2 (n := ((ofL (fput k B)).size : Int)) (by rw [size_eq]; omega) (by rw [size_eq]; omega)
    rw [size_eq] at hr1
    have hcat : scat (ofL (fput k B)) (ofL m) = some (ofL (fput k B ++ m)) := scat_ofL (by omega)
    have hsl : sslice (ofL (fput k B)) 0 r = some (ofL ((fput k B).take r.toNat)) := sslice_ofL (by decide) hr0 (by omega)
    rw [ne00, cfalse, hcat, obind, frame_Get_eq _ (by rw [List.length_append]; omega), obind, hr, obind, hsl, obind, frame_Get_eq _ (by rw [List.length_take]; omega), obind, fget_fput k B m h0 h1 h2, fget_short k B h0 h1 h2 _ (by omega)]
    dsimp only
    rw [beq_self_frame, size_eq, hlen]
    simp

theorem fget_one : fget [1, 0, 0, 16, 33] = (⟨0, ofL []⟩, 0, 6) := by
  have hc : (crc [1, 0, 0]).toNat = 14128 := by
    rw [crc_foldl]; simp only [List.foldl_cons, List.foldl_nil]; rw [show byte8 0#16 1 = 4129#16 from by decide, show byte8 4129#16 0 = 13105#16 from by decide, show byte8 13105#16 0 = 14128#16 from by decide]; rfl
  simp [fget, valL, hc]
theorem fget_three : fget [3, 0, 0, 0, 0] = (⟨0, ofL []⟩, 0, 6) := by
  have hc : (crc [3, 0, 0]).toNat = 22864 := by
    rw [crc_foldl]; simp only [List.foldl_cons, List.foldl_nil]; rw [show byte8 0#16 3 = 12387#16 from by decide, show byte8 12387#16 0 = 21843#16 from by decide, show byte8 21843#16 0 = 22864#16 from by decide]; rfl
  simp [fget, valL, hc]
theorem fget_bad {l : List UInt8} (h : (fget l).2.2 ≠ 0) : (fget l).2.1 = 0 ∧ (fget l).1 = ⟨0, ofL []⟩ := by
  unfold fget at h ⊢
  by_cases h5 : l.length < 5
  · rw [if_pos h5]; exact ⟨rfl, rfl⟩
  rw [if_neg h5] at h ⊢
  dsimp only at h ⊢
  generalize valL ((l.drop 1).take 2) = n at h ⊢
  by_cases hb : l.getD 0 0 = 0 ∨ 3000 < n
  · rw [if_pos hb]; exact ⟨rfl, rfl⟩
  rw [if_neg hb] at h ⊢
  by_cases hs : l.length < n + 5
  · rw [if_pos hs]; exact ⟨rfl, rfl⟩
  rw [if_neg hs] at h ⊢
  by_cases hv : valL ((l.drop (n + 3)).take 2) ≠ (crc (l.take (n + 3))).toNat
  · rw [if_pos hv]; exact ⟨rfl, rfl⟩
  rw [if_neg hv] at h
  exact absurd rfl h

theorem annalkeep_FrameOne_true (p0 : ByteArray) (k0 : okStr p0) (k0_ : p0.size ≤ reachBytes) : annalkeep_FrameOne p0 = some true := by
  obtain ⟨l, rfl⟩ := exists_ofL p0
  have hl : l.length ≤ 140737488351232 := reach k0_
  unfold annalkeep_FrameOne
  have g1 : frame_Get (ByteArray.mk #[1, 0, 0, 16, 33]) = some (⟨0, ofL []⟩, 0, 6) := (frame_Get_eq [1, 0, 0, 16, 33] (by decide)).trans (congrArg some fget_one)
  have c1 : (((0 : Int) != 0) || (((6 : Int) != 6) || (!((⟨0, ofL []⟩ : DFrame) == (DFrame.mk 0 (ByteArray.mk #[])))))) = false := by
    have : ((⟨0, ofL []⟩ : DFrame) == (DFrame.mk 0 (ByteArray.mk #[]))) = true := beq_self_frame _
    rw [this]; decide
  rw [g1, obind]
  dsimp only
  rw [c1, cfalse, frame_Get_eq l (by omega), obind]
  by_cases hz : (fget l).2.2 = 0
  · obtain ⟨k, B, h0, h1, h2, h3, h4, h5⟩ := fput_fget hz
    rw [hz, ne00, cfalse, h4]
    dsimp only
    have hsl : sslice (ofL l) 0 ((B.length + 5 : Nat) : Int) = some (ofL (l.take (B.length + 5))) := by
      have := sslice_ofL (l := l) (lo := 0) (hi := ((B.length + 5 : Nat) : Int)) (by decide) (by omega) (by omega)
      rw [Int.toNat_natCast] at this
      exact this
    rw [frame_Put_good k B h0 h1 h2, obind]
    dsimp only
    rw [eq00, ctrue, decide_eq_true (show ((B.length + 5 : Nat) : Int) ≤ ((ofL l).size : Int) by rw [size_eq]; omega), ctrue, hsl, obind, obind, seq_ofL, h5]
    simp
  · obtain ⟨b1, b2⟩ := fget_bad hz
    rw [ne0 hz, ctrue, b1, b2]
    have : ((⟨0, ofL []⟩ : DFrame) == (DFrame.mk 0 (ByteArray.mk #[]))) = true := beq_self_frame _
    rw [this]; rfl

theorem annalkeep_FrameRow_true (p0 p1 : DFrame) (p2 : ByteArray) (k0 : okFrame p0) (k1 : okFrame p1) (k2 : okStr p2) (k2_ : p2.size ≤ reachBytes) : annalkeep_FrameRow p0 p1 p2 = some true := by
  obtain ⟨m, rfl⟩ := exists_ofL p2
  have hm : m.length ≤ 140737488351232 := reach k2_
  unfold annalkeep_FrameRow
  have c1 : (((0 : Int) != 0) || (((ofL (fput 1 [120])).size : Int) != 6)) = false := by rw [size_eq, fput_length]; decide
  rw [frame_Put_x, obind]
  dsimp only
  rw [c1, cfalse]
  have bad : ∀ e : Int, e ≠ 0 → some ((e == 0) || seq (ofL []) (ByteArray.mk #[])) = some true := fun e he => by
    have : seq (ofL []) (ByteArray.mk #[]) = true := (seq_ofL [] []).trans (by decide)
    rw [this, Bool.or_true]
  rcases frame_Put_cases p0 with ⟨e, he, hp⟩ | ⟨k, B, rfl, h0, h1, h2, hp⟩
  · rcases frame_Put_cases p1 with ⟨e', he', hp'⟩ | ⟨k', B', rfl, _, _, _, hp'⟩
    · rw [hp, hp', obind, obind]
      dsimp only
      rw [ne0 he, Bool.true_or, ctrue]
      exact bad e he
    · rw [hp, hp', obind, obind]
      dsimp only
      rw [ne0 he, Bool.true_or, ctrue]
      exact bad e he
  · rcases frame_Put_cases p1 with ⟨e', he', hp'⟩ | ⟨k', B', rfl, h0', h1', h2', hp'⟩
    · rw [hp, hp', obind, obind]
      dsimp only
      rw [ne0 he', Bool.or_true, ctrue, eq00, Bool.true_or]
    · rw [hp, hp', obind, obind]
      dsimp only
      have hlen := fput_length k B
      have hlen' := fput_length k' B'
      have e1 : scat (ofL (fput k B)) (ofL (fput k' B')) = some (ofL (fput k B ++ fput k' B')) := scat_ofL (by omega)
      have e2 : scat (ofL (fput k B ++ fput k' B')) (ofL m) = some (ofL (fput k B ++ (fput k' B' ++ m))) := by
        rw [scat_ofL (by rw [List.length_append]; omega), List.append_assoc]
      have e3 : sslice (ofL (fput k B ++ (fput k' B' ++ m))) ((B.length + 5 : Nat) : Int) ((ofL (fput k B ++ (fput k' B' ++ m))).size : Int) = some (ofL (fput k' B' ++ m)) := by
        have := sslice_ofL (l := fput k B ++ (fput k' B' ++ m)) (lo := ((B.length + 5 : Nat) : Int)) (hi := ((fput k B ++ (fput k' B' ++ m)).length : Int)) (by omega) (by rw [List.length_append]; omega) (by omega)
        rw [Int.toNat_natCast, Int.toNat_natCast, List.take_length, List.drop_left' hlen] at this
        exact this
      rw [ne00, Bool.or_self, cfalse, e1, obind, e2, obind, frame_Get_eq _ (by simp only [List.length_append]; omega), obind, fget_fput k B _ h0 h1 h2]
      dsimp only
      have c2 : (((B.length + 5 : Nat) : Int) != ((ofL (fput k B)).size : Int)) = false := by rw [size_eq, hlen]; simp
      rw [c2, Bool.or_false, ne00, cfalse, obind, e2, obind, e3, obind, frame_Get_eq _ (by simp only [List.length_append]; omega), obind, fget_fput k' B' _ h0' h1' h2']
      dsimp only
      rw [beq_self_frame, beq_self_frame, size_eq, hlen']
      simp

/-! ### Bursts in a frame -/
theorem flip_take (l : List UInt8) (p : Nat) (h : 24 ≤ p) : (flip l p).take 3 = l.take 3 := by
  rw [flip, List.take_set_of_le (by omega)]
theorem turn_take (l : List UInt8) (at_ t : Nat) (h : 24 ≤ at_) : ∀ k, (turn l at_ t k).take 3 = l.take 3
  | 0 => rfl
  | k + 1 => by
    have e : turn l at_ t (k + 1) = if t.testBit k then flip (turn l at_ t k) (at_ + k) else turn l at_ t k := rfl
    rw [e]
    split
    · rw [flip_take _ _ (by omega), turn_take l at_ t h k]
    · exact turn_take l at_ t h k
theorem fget_turned (k : Nat) (B : List UInt8) (h0 : 1 ≤ k) (h1 : k ≤ 255) (h : B.length ≤ 3000) (at_ T : Nat) (ha : 24 ≤ at_) (hb : at_ + 16 ≤ 8 * (B.length + 5)) (hT0 : T ≠ 0) (hT : T < 65536) :
    (fget (turn (fput k B) at_ T 16)).2.2 = 6 := by
  have hne := crc_turn (fput k B) (at_ := at_) (t := T) (by rw [fput_length]; exact hb) hT0 hT
  have hlen : (turn (fput k B) at_ T 16).length = B.length + 5 := by rw [turn_length, fput_length]
  have h3 := turn_take (fput k B) at_ T ha 16
  generalize turn (fput k B) at_ T 16 = l at hne hlen h3
  have hz : crc (fput k B) = 0#16 := crc_two (fhead k B)
  have e0 : l.getD 0 0 = UInt8.ofNat k := by
    have : (l.take 3).getD 0 0 = ((fput k B).take 3).getD 0 0 := by rw [h3]
    rw [List.getD_eq_getElem?_getD, List.getD_eq_getElem?_getD, List.getElem?_take, List.getElem?_take, if_pos (by decide), if_pos (by decide)] at this
    rw [List.getD_eq_getElem?_getD, this]; rfl
  have e1 : (l.drop 1).take 2 = bigL B.length 2 := by
    have : (l.take 3).drop 1 = ((fput k B).take 3).drop 1 := by rw [h3]
    rw [List.drop_take, List.drop_take] at this
    have h4 := head_size k B []
    rw [List.append_nil] at h4
    rw [← h4]; exact this
  unfold fget
  rw [if_neg (by omega), e1, size_val h]
  dsimp only
  rw [e0, if_neg (by rintro (h' | h'); exact kind_ne h0 h1 h'; omega), if_neg (by omega)]
  by_cases hv : valL ((l.drop (B.length + 3)).take 2) ≠ (crc (l.take (B.length + 3))).toNat
  · rw [if_pos hv]
  · exfalso
    have hv' : valL ((l.drop (B.length + 3)).take 2) = (crc (l.take (B.length + 3))).toNat := Decidable.not_not.1 hv
    have e3 := big_val ((l.drop (B.length + 3)).take 2)
    rw [show ((l.drop (B.length + 3)).take 2).length = 2 by rw [List.length_take, List.length_drop]; omega, hv', ← two_big] at e3
    have e4 : l = l.take (B.length + 3) ++ two (crc (l.take (B.length + 3))) := by
      rw [e3, ← List.take_add, List.take_of_length_le (by omega)]
    apply hne
    rw [hz, e4, crc_two]
theorem annalkeep_FrameBursts_true (p0 : DFrame) (p1 p2 : Int) (k0 : okFrame p0) (k1 : (Lit.int .i64 p1).wf = true) (k2 : (Lit.int .u16 p2).wf = true) : annalkeep_FrameBursts p0 p1 p2 = some true := by
  have hp2 := okInt_u16 k2
  unfold annalkeep_FrameBursts
  have g1 : frame_Get (ByteArray.mk #[3, 0, 0, 0, 0]) = some (⟨0, ofL []⟩, 0, 6) := (frame_Get_eq [3, 0, 0, 0, 0] (by decide)).trans (congrArg some fget_three)
  rw [g1, obind]
  dsimp only
  rw [show ((6 : Int) != 6) = false by decide, cfalse]
  rcases frame_Put_cases p0 with ⟨e, he, hp⟩ | ⟨k, B, rfl, h0, h1, h2, hp⟩
  · rw [hp, obind]
    dsimp only
    have : seq (ofL []) (ByteArray.mk #[]) = true := (seq_ofL [] []).trans (by decide)
    rw [ne0 he, Bool.true_or, ctrue, this, Bool.or_true]
  · rw [hp, obind]
    dsimp only
    by_cases hz : p2 = 0
    · subst hz
      rw [show ((0 : Int) == 0) = true by decide, Bool.or_true, ctrue, Bool.true_or]
    · rw [ne00, show (p2 == 0) = false by simpa using hz, Bool.or_self, cfalse]
      have hn : (ofL (fput k B)).size = B.length + 5 := fput_length k B
      have hf : fits (ofL (fput k B)) = some () := by unfold fits; exact if_pos (by rw [hn]; unfold maxLen; omega)
      generalize (ofL (fput k B)).size = n at hn ⊢
      subst hn
      have w : IntKind.i64.wrap (IntKind.i64.wrap (8 * IntKind.i64.wrap (((B.length + 5 : Nat) : Int) - 3)) - 15) = 8 * (B.length : Int) + 1 := by
        rw [wrap64 (n := ((B.length + 5 : Nat) : Int) - 3) (by omega) (by omega), wrap64 (n := 8 * _) (by omega) (by omega), wrap64 (by omega) (by omega)]; omega
      obtain ⟨r, hr, hr0, hr1⟩ := within_some p1 (n := 8 * (B.length : Int) + 1) (by omega) (by omega)
      rw [w, hr, obind, hf, obind, listOf_ofL]
      refine burst_loop (fput k B) (24 + r.toNat) p2.toNat (by omega) (by rw [fput_length]; omega) (by rw [fput_length]; omega) _ true ?_ (IntKind.i64.wrap (24 + r)) p2 (by rw [wrap64 (by omega) (by omega)]; omega) (by omega)
      rw [bytesOf_listOf, frame_Get_eq _ (by rw [turn_length, fput_length]; omega), obind, fget_turned k B h0 h1 h2 _ _ (by omega) (by omega) (by omega) (by omega)]
      rfl
end Go.Proofs.Ytgpcpllkcehheaa
