/- Plain Lean: a text read line by line; what was printed is read as it was. Its conditions: none. -/
import Derived.Test.YtaccejbajgmdnaaDoorPDump
namespace Go.Proofs.YtaccejbajgmdnaaDoor
set_option linter.unusedVariables false
set_option linter.unusedSimpArgs false
variable {F : Nat} [Big F]

/-! ### Texts read -/
def readN : Nat → List UInt8 → Option (List DElem)
  | 0, _ => some []
  | n + 1, l => if l = [] then some [] else if (Lib.cut l [10]).2.2 = false then none else
    match recS (Lib.cut l [10]).1 with
    | none => none
    | some e => (readN n (Lib.cut l [10]).2.1).map (e :: ·)
theorem cutL_len (l : List UInt8) : (Lib.cut l [10]).1.length ≤ l.length ∧ ((Lib.cut l [10]).2.2 = true → (Lib.cut l [10]).2.1.length < l.length) := by
  rcases split_mem 10 l with h | ⟨a, r, rfl, h⟩
  · rw [ctl_none h]; exact ⟨Nat.le_refl _, fun h => by cases h⟩
  · rw [ctl_at h]
    refine ⟨by simp, fun _ => ?_⟩
    simp only [List.length_append, List.length_cons]; omega
theorem readN_more : ∀ (n m : Nat) (l : List UInt8), l.length ≤ n → n ≤ m → readN m l = readN n l
  | 0, 0, _, _, _ => rfl
  | 0, m + 1, l, h, _ => by
    have : l = [] := List.length_eq_zero_iff.1 (by omega)
    subst this; rfl
  | n + 1, 0, _, _, h => by omega
  | n + 1, m + 1, l, h, hm => by
    unfold readN
    by_cases h0 : l = []
    · rw [if_pos h0, if_pos h0]
    · rw [if_neg h0, if_neg h0]
      cases hc : (Lib.cut l [10]).2.2 with
      | false => rfl
      | true =>
        have := (cutL_len l).2 hc
        rw [if_neg (by simp), if_neg (by simp), readN_more n m _ (by omega) (by omega)]
def readS (l : List UInt8) : Option (List DElem) := readN l.length l
theorem readS_nil : readS [] = some [] := rfl
theorem readS_none {l : List UInt8} (h0 : l ≠ []) (h : (10 : UInt8) ∉ l) : readS l = none := by
  cases l with
  | nil => exact absurd rfl h0
  | cons b l =>
    unfold readS
    rw [List.length_cons, readN, if_neg h0, ctl_none h, if_pos rfl]
theorem readS_at {a r : List UInt8} (h : (10 : UInt8) ∉ a) : readS (a ++ 10 :: r) = match recS a with | none => none | some e => (readS r).map (e :: ·) := by
  unfold readS
  have hl : (a ++ 10 :: r).length = (a.length + r.length) + 1 := by simp only [List.length_append, List.length_cons]; omega
  rw [hl, readN, if_neg (by simp), ctl_at h, if_neg (by simp)]
  dsimp only
  rw [readN_more r.length _ r (Nat.le_refl _) (by omega)]
def finR (m : List DElem) : List DElem × Int := if chkR m ≠ 0 then ([], 3) else (m, 0)
def finS (acc : List DElem) : Option (List DElem) → List DElem × Int
  | some v => finR (acc ++ v)
  | none => ([], 3)
theorem dump_Read_eq (l : List UInt8) (h : l.length ≤ 2000000) : dump_Read F (ofL l) = some (finS [] (readS l)) := by
  unfold dump_Read
  rw [show (ByteArray.mk #[] : ByteArray) = ofL [] from rfl, show (ByteArray.mk #[10] : ByteArray) = ofL [10] from rfl]
  refine loop_rec (fun m s q => ∃ (r : List UInt8) (acc : List DElem), m = r.length ∧ acc.length + r.length ≤ l.length ∧ s = (acc, ofL r) ∧ q = finS acc (readS r)) ?_ (m := l.length) (by omega) ⟨l, [], rfl, by simp, rfl, rfl⟩
  rintro m s q ⟨r, acc, rfl, hlen, rfl, rfl⟩
  dsimp only
  rw [seq_ofL]
  by_cases h0 : r = []
  · subst h0
    left
    rw [show (([] : List UInt8) == []) = true from rfl, show (!true) = false from rfl, cond_false]
    refine ⟨.inl acc, rfl, ?_⟩
    dsimp only
    rw [run_Check_eq, Option.bind_some, readS_nil]
    unfold finS finR
    dsimp only
    rw [List.append_nil]
    by_cases hc : chkR acc = 0
    · rw [bne0_false hc, cond_false, if_neg (by simpa using hc)]
    · rw [bne0_true hc, cond_true, if_pos hc]
  · rw [show (r == []) = false by simpa using h0, show (!false) = true from rfl, cond_true]
    have hcut : strings_Cut (ofL r) (ofL [10]) = some (ofL (Lib.cut r [10]).1, ofL (Lib.cut r [10]).2.1, (Lib.cut r [10]).2.2) := by
      unfold strings_Cut
      rw [if_pos (show (ofL r).size < 4294967281 by show r.length < _; omega)]; rfl
    rw [hcut, Option.bind_some]
    rcases split_mem 10 r with hn | ⟨a, b, rfl, hn⟩
    · rw [ctl_none hn]
      obtain ⟨e, he, -⟩ := dump_record_eq (F := F) (l := r) (by omega)
      dsimp only
      rw [he, Option.bind_some]
      left
      rw [show (!false || !(recS r).isSome) = true from rfl, cond_true]
      refine ⟨_, rfl, ?_⟩
      rw [readS_none h0 hn]; rfl
    · rw [ctl_at hn]
      simp only [List.length_append, List.length_cons] at hlen
      obtain ⟨e, he, hr⟩ := dump_record_eq (F := F) (l := a) (by omega)
      dsimp only
      rw [he, Option.bind_some, readS_at hn]
      dsimp only
      cases hq : recS a with
      | none =>
        left
        rw [show (!true || !(none : Option DElem).isSome) = true from rfl, cond_true]
        exact ⟨_, rfl, rfl⟩
      | some x =>
        right
        obtain rfl := hr x hq
        rw [show (!true || !(some e : Option DElem).isSome) = false from rfl, cond_false, grow_ok (by rw [List.length_singleton]; omega) (by rw [List.length_singleton]; omega), Option.bind_some]
        refine ⟨b.length, _, by simp only [List.length_append, List.length_cons]; omega, rfl, b, acc ++ [e], rfl, by simp only [List.length_append, List.length_singleton]; omega, rfl, ?_⟩
        dsimp only
        cases readS b with
        | none => rfl
        | some v => simp [finS]
/-- What was read are the text's lines. -/
theorem readS_lines : ∀ (n : Nat) (l : List UInt8), l.length ≤ n → ∀ m, readS l = some m → linesL m = l ∧ m.length ≤ l.length ∧ ∀ e ∈ m, Ints e ∧ e.val.size ≤ l.length := by
  intro n
  induction n with
  | zero =>
    intro l hl m hm
    have : l = [] := List.length_eq_zero_iff.1 (by omega)
    subst this
    rw [readS_nil] at hm
    obtain rfl := Option.some.inj hm
    exact ⟨rfl, by simp, fun e he => by cases he⟩
  | succ n ih =>
    intro l hl m hm
    rcases split_mem 10 l with hn | ⟨a, b, rfl, hn⟩
    · by_cases h0 : l = []
      · subst h0
        rw [readS_nil] at hm
        obtain rfl := Option.some.inj hm
        exact ⟨rfl, by simp, fun e he => by cases he⟩
      · rw [readS_none h0 hn] at hm; cases hm
    · rw [readS_at hn] at hm
      cases hq : recS a with
      | none => rw [hq] at hm; cases hm
      | some x =>
        rw [hq] at hm
        obtain ⟨v, hv, rfl⟩ := Option.map_eq_some_iff.1 hm
        simp only [List.length_append, List.length_cons] at hl ⊢
        obtain ⟨i1, i2, i3⟩ := ih b (by omega) v hv
        obtain ⟨j1, j2, j3⟩ := recS_some hq
        refine ⟨?_, by omega, fun e he => ?_⟩
        · show linesL (x :: v) = _
          unfold linesL at i1 ⊢
          rw [List.flatMap_cons, i1, j1]; simp
        · rcases List.mem_cons.1 he with rfl | he
          · exact ⟨j2, by omega⟩
          · obtain ⟨k1, k2⟩ := i3 e he
            exact ⟨k1, by omega⟩
/-! ### What was printed -/
theorem puD_append : ∀ (a b : List UInt8) (acc v : Nat), Lib.parseUint10 acc a = .ok v → Lib.parseUint10 acc (a ++ b) = Lib.parseUint10 v b
  | [], b, acc, v, h => by
    simp only [Lib.parseUint10] at h
    injection h with h
    subst h; rfl
  | c :: r, b, acc, v, h => by
    simp only [List.cons_append, Lib.parseUint10] at h ⊢
    split at h
    · rename_i h1
      rw [if_pos h1]
      split at h
      · cases h
      · rename_i h2
        rw [if_neg h2]
        split at h
        · cases h
        · rename_i h3
          rw [if_neg h3]
          exact puD_append r b _ v h
    · cases h
theorem digitD {d : Nat} (h : d < 10) : (UInt8.ofNat (48 + d)).toNat = 48 + d := by
  rw [UInt8.toNat_ofNat']; omega
theorem puD_digit {acc d : Nat} (hd : d < 10) (ha : acc ≤ 100000000000) : Lib.parseUint10 acc [UInt8.ofNat (48 + d)] = .ok (acc * 10 + d) := by
  simp only [Lib.parseUint10]
  rw [digitD hd, if_pos (by omega), if_neg (by omega), if_neg (by omega)]
  congr 1; omega
theorem puD_dec : ∀ u : Nat, u ≤ 100000000000 → Lib.parseUint10 0 (Lib.decDigits u) = .ok u := by
  intro u
  induction u using Nat.strongRecOn with
  | _ u ih =>
    intro hu
    rw [Lib.decDigits]
    split
    · rename_i h
      rw [puD_digit h (by omega)]; congr 1; omega
    · rename_i h
      rw [puD_append _ _ _ _ (ih (u / 10) (by omega) (by omega)), puD_digit (Nat.mod_lt _ (by decide)) (by omega)]
      congr 1; omega
theorem decD_head (u : Nat) : ∃ d r, d < 10 ∧ Lib.decDigits u = UInt8.ofNat (48 + d) :: r := by
  induction u using Nat.strongRecOn with
  | _ u ih =>
    rw [Lib.decDigits]
    split
    · rename_i h; exact ⟨u, [], h, rfl⟩
    · rename_i h
      obtain ⟨d, r, hd, e⟩ := ih (u / 10) (by omega)
      exact ⟨d, r ++ [UInt8.ofNat (48 + u % 10)], hd, by rw [e]; rfl⟩
theorem atoiD_itoa {n : Int} (h0 : 0 ≤ n) (h1 : n ≤ 4294967296) : atoiD (Lib.itoa n) = (n, false) := by
  have hi : Lib.itoa n = Lib.decDigits n.toNat := by unfold Lib.itoa; rw [if_neg (by omega)]
  obtain ⟨d, r, hd, e⟩ := decD_head n.toNat
  have hp := puD_dec n.toNat (by omega)
  have ha : Lib.atoiAll (Lib.itoa n) = .ok n := by
    rw [hi]
    unfold Lib.atoiAll
    rw [e] at hp ⊢
    dsimp only
    rw [digitD hd, if_neg (by omega)]
    unfold Lib.parseMag
    rw [if_neg (by simp), hp]
    dsimp only
    rw [if_neg (by omega), if_neg (by omega), if_neg (by omega)]
    congr 1; omega
  unfold atoiD
  rw [ha]
theorem lineL_mem {e : DElem} : (10 : UInt8) ∉ lineL e := by
  intro h
  unfold lineL numsL at h
  simp only [List.mem_append, List.mem_singleton] at h
  have k : ∀ n, (10 : UInt8) ∉ Lib.itoa n := fun n hn => (itoa_mem hn).2 rfl
  have d : ¬ (10 : UInt8) = 32 := by decide
  rcases h with (((((h | h) | (h | h)) | (h | h)) | (h | h)) | (h | h)) | h
  all_goals first | exact k _ h | exact d h | exact (wordL_mem h).2 rfl
theorem recS_line {e : DElem} (h : chkE e = 0) : recS (lineL e) = some e := by
  have hc := h
  obtain ⟨h1, h2, h3, h4, h5⟩ := chkE_ok h
  have hk : ¬ (e.key.pfs < 0 ∨ 15 < e.key.pfs ∨ e.key.obj < 0 ∨ 1048576 < e.key.obj ∨ e.key.off < 0 ∨ 1073741824 < e.key.off) := by
    unfold chkK at h1
    split at h1
    · cases h1
    · assumption
  have k : ∀ n, (32 : UInt8) ∉ Lib.itoa n := fun n hn => (itoa_mem hn).1 rfl
  have hp : pieces 32 (lineL e) = [Lib.itoa e.key.pfs, Lib.itoa e.key.obj, Lib.itoa e.key.off, Lib.itoa e.made, Lib.itoa e.gone, wordL e.val.data.toList] := by
    unfold lineL numsL
    simp only [List.append_assoc, List.cons_append, List.nil_append]
    rw [pieces_at _ (k _), pieces_at _ (k _), pieces_at _ (k _), pieces_at _ (k _), pieces_at _ (k _), pieces_none fun hw => (wordL_mem hw).1 rfl]
  have he : (⟨⟨e.key.pfs, e.key.obj, e.key.off⟩, e.made, e.gone, ofL e.val.data.toList⟩ : DElem) = e := rfl
  unfold recS
  rw [hp]
  dsimp only
  rw [atoiD_itoa (by omega) (by omega), atoiD_itoa (by omega) (by omega), atoiD_itoa (by omega) (by omega), atoiD_itoa (by omega) (by omega), atoiD_itoa (by omega) (by omega), valueL_word]
  dsimp only
  rw [if_neg (by simp), he, if_pos rfl]
theorem readS_app : ∀ (l : List DElem) (p : List UInt8), (∀ e ∈ l, chkE e = 0) → readS (linesL l ++ p) = (readS p).map (l ++ ·)
  | [], p, _ => by cases h : readS p <;> simp [linesL, h]
  | e :: l, p, h => by
    have ih := readS_app l p fun x hx => h x (List.mem_cons_of_mem _ hx)
    have e1 : linesL (e :: l) ++ p = lineL e ++ 10 :: (linesL l ++ p) := by
      unfold linesL
      rw [List.flatMap_cons]; simp
    rw [e1, readS_at lineL_mem, recS_line (h e List.mem_cons_self)]
    dsimp only
    rw [ih]
    cases readS p <;> rfl
theorem readS_printed {l : List DElem} (h : ∀ e ∈ l, chkE e = 0) : readS (linesL l) = some l := by
  have := readS_app l [] h
  rw [List.append_nil, readS_nil] at this
  rw [this]; simp
/-- A beginning of such a text: whole lines, and a piece of the next. -/
theorem lines_take : ∀ (l : List DElem) (r : Nat), ∃ j p, j ≤ l.length ∧ (linesL l).take r = linesL (l.take j) ++ p ∧ (10 : UInt8) ∉ p
  | [], r => ⟨0, [], Nat.le_refl _, by simp [linesL], by simp⟩
  | e :: l, r => by
    have e1 : linesL (e :: l) = lineL e ++ 10 :: linesL l := by
      unfold linesL
      rw [List.flatMap_cons]; simp
    by_cases hr : r ≤ (lineL e).length
    · refine ⟨0, (lineL e).take r, by omega, ?_, fun h => lineL_mem (List.mem_of_mem_take h)⟩
      rw [e1, List.take_append_of_le_length hr]; rfl
    · obtain ⟨j, p, hj, h1, h2⟩ := lines_take l (r - (lineL e).length - 1)
      refine ⟨j + 1, p, by simp only [List.length_cons]; omega, ?_, h2⟩
      rw [e1, List.take_append, List.take_of_length_le (by omega)]
      obtain ⟨q, hq⟩ : ∃ q, r - (lineL e).length = q + 1 := ⟨r - (lineL e).length - 1, by omega⟩
      rw [hq, List.take_succ_cons, show q = r - (lineL e).length - 1 by omega, h1, List.take_succ_cons]
      unfold linesL
      rw [List.flatMap_cons]; simp
theorem lines_count (l : List DElem) : (linesL l).count 10 = l.length := by
  induction l with
  | nil => rfl
  | cons e l ih =>
    have e1 : linesL (e :: l) = lineL e ++ 10 :: linesL l := by
      unfold linesL
      rw [List.flatMap_cons]; simp
    rw [e1, List.count_append, List.count_cons_self, ih, List.count_eq_zero.2 lineL_mem, List.length_cons]; omega
theorem lines_end {l : List DElem} (h : l ≠ []) : Lib.hasSuffix (linesL l) [10] = true := by
  unfold Lib.hasSuffix
  rw [List.isSuffixOf_iff_suffix]
  rcases List.eq_nil_or_concat l with h' | ⟨m, e, rfl⟩
  · exact absurd h' h
  · refine ⟨linesL m ++ lineL e, ?_⟩
    unfold linesL
    simp
theorem part_end {a p : List UInt8} (h : p ≠ []) (hp : (10 : UInt8) ∉ p) : Lib.hasSuffix (a ++ p) [10] = false := by
  unfold Lib.hasSuffix
  cases hs : List.isSuffixOf [10] (a ++ p) with
  | false => rfl
  | true =>
    exfalso
    rw [List.isSuffixOf_iff_suffix] at hs
    obtain ⟨t, ht⟩ := hs
    rcases List.eq_nil_or_concat p with h' | ⟨q, x, rfl⟩
    · exact h h'
    · rw [List.concat_eq_append] at hp ht
      rw [← List.append_assoc] at ht
      have := List.append_inj_right' ht (by simp)
      simp only [List.cons.injEq, and_true] at this
      exact hp (by rw [this]; simp)
end Go.Proofs.YtaccejbajgmdnaaDoor
