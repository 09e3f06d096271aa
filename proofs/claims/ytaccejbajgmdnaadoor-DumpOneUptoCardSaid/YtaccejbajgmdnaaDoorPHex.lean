/- Plain Lean: words and values (bytes by their hexadecimal digits), lines and words of a text. Its conditions: none. -/
import Derived.Test.YtaccejbajgmdnaaDoorBytes
import Derived.Lib.IndexLaws
import Derived.Lib.SplitLaws
import Derived.Lib.AtoiAll
import Derived.Lib.ItoaNum
namespace Go.Proofs.YtaccejbajgmdnaaDoor
set_option linter.unusedVariables false
set_option linter.unusedSimpArgs false
/-! ### Words and values -/
def hexL : List UInt8 := [48, 49, 50, 51, 52, 53, 54, 55, 56, 57, 97, 98, 99, 100, 101, 102]
def hx (n : Nat) : UInt8 := hexL.getD n 0
def unhx (c : UInt8) : Int := Lib.indexByte hexL c
/-- A byte that a word has as it is. -/
def okB (b : UInt8) : Bool := decide (32 < b.toNat) && (decide (b.toNat < 127) && (!(b == 37) && !(b == 95)))
def encB (b : UInt8) : List UInt8 := if okB b then [b] else [37, hx (b.toNat / 16), hx (b.toNat % 16)]
def wordL (l : List UInt8) : List UInt8 := if l = [] then [95] else l.flatMap encB
/-- The bytes of a word's piece. -/
def valN : Nat → List UInt8 → Option (List UInt8)
  | 0, _ => some []
  | _, [] => some []
  | n + 1, c :: r => if c = 37 then (match r with
      | a :: b :: r' => if unhx a < 0 ∨ unhx b < 0 then none else (valN n r').map (UInt8.ofNat ((unhx a).toNat * 16 + (unhx b).toNat) :: ·)
      | _ => none)
    else (valN n r).map (c :: ·)
theorem valN_more : ∀ (n m : Nat) (l : List UInt8), l.length ≤ n → n ≤ m → valN m l = valN n l
  | 0, 0, _, _, _ => rfl
  | 0, m + 1, [], _, _ => rfl
  | 0, m + 1, c :: r, h, _ => by simp at h
  | n + 1, 0, _, _, h => by omega
  | n + 1, m + 1, [], _, _ => rfl
  | n + 1, m + 1, c :: r, h, hm => by
    simp only [List.length_cons] at h
    unfold valN
    split
    · split
      · rename_i a b r'
        simp only [List.length_cons] at h
        rw [valN_more n m r' (by omega) (by omega)]
      · rfl
    · rw [valN_more n m r (by omega) (by omega)]
def valL (l : List UInt8) : Option (List UInt8) := valN l.length l
theorem valL_nil : valL [] = some [] := rfl
theorem valL_ne {c : UInt8} {r : List UInt8} (h : c ≠ 37) : valL (c :: r) = (valL r).map (c :: ·) := by
  unfold valL
  rw [List.length_cons]
  conv => lhs; unfold valN
  rw [if_neg h]
theorem valL_pct (a b : UInt8) (r : List UInt8) : valL (37 :: a :: b :: r) = if unhx a < 0 ∨ unhx b < 0 then none else (valL r).map (UInt8.ofNat ((unhx a).toNat * 16 + (unhx b).toNat) :: ·) := by
  unfold valL
  rw [List.length_cons]
  conv => lhs; unfold valN
  rw [if_pos rfl]
  dsimp only
  rw [valN_more r.length _ r (Nat.le_refl _) (by simp only [List.length_cons]; omega)]
theorem valL_bad0 : valL [37] = none := rfl
theorem valL_bad1 (a : UInt8) : valL [37, a] = none := rfl
def valueL (l : List UInt8) : List UInt8 × Bool := if l = [95] then ([], true) else match valL l with | some v => (v, true) | none => ([], false)
theorem hx_unhx {n : Nat} (h : n < 16) : unhx (hx n) = (n : Int) := by
  rcases n with _|_|_|_|_|_|_|_|_|_|_|_|_|_|_|_|n <;> first | rfl | omega
theorem okB_ne {b : UInt8} (h : okB b = true) : b ≠ 37 ∧ b ≠ 95 ∧ b ≠ 32 ∧ b ≠ 10 := by
  unfold okB at h
  simp only [Bool.and_eq_true, decide_eq_true_eq, Bool.not_eq_true', beq_eq_false_iff_ne] at h
  refine ⟨h.2.2.1, h.2.2.2, ?_, ?_⟩ <;> rintro rfl <;> exact absurd h.1 (by decide)
theorem hx_ne {n : Nat} (h : n < 16) : hx n ≠ 32 ∧ hx n ≠ 10 ∧ hx n ≠ 95 := by
  rcases n with _|_|_|_|_|_|_|_|_|_|_|_|_|_|_|_|n <;> first | decide | omega
theorem valL_enc (b : UInt8) (r : List UInt8) : valL (encB b ++ r) = (valL r).map (b :: ·) := by
  unfold encB
  split
  · rename_i h
    rw [List.singleton_append, valL_ne (okB_ne h).1]
  · have h1 : b.toNat / 16 < 16 := by have := b.toNat_lt; omega
    have h2 : b.toNat % 16 < 16 := by omega
    rw [show [37, hx (b.toNat / 16), hx (b.toNat % 16)] ++ r = 37 :: hx (b.toNat / 16) :: hx (b.toNat % 16) :: r from rfl, valL_pct]
    rw [hx_unhx h1, hx_unhx h2, if_neg (by omega)]
    congr 1
    funext l
    congr 1
    rw [Int.toNat_natCast, Int.toNat_natCast, show b.toNat / 16 * 16 + b.toNat % 16 = b.toNat by omega, UInt8.ofNat_toNat]
theorem valL_word (l : List UInt8) : valL (l.flatMap encB) = some l := by
  induction l with
  | nil => rfl
  | cons b l ih => rw [List.flatMap_cons, valL_enc, ih]; rfl
theorem encB_mem {b c : UInt8} (h : c ∈ encB b) : c ≠ 32 ∧ c ≠ 10 ∧ c ≠ 95 := by
  unfold encB at h
  split at h
  · rename_i h'
    simp only [List.mem_singleton] at h
    subst h
    have := okB_ne h'
    exact ⟨this.2.2.1, this.2.2.2, this.2.1⟩
  · have h1 : b.toNat / 16 < 16 := by have := b.toNat_lt; omega
    have h2 : b.toNat % 16 < 16 := by omega
    simp only [List.mem_cons, List.not_mem_nil, or_false] at h
    rcases h with rfl | rfl | rfl
    · decide
    · exact hx_ne h1
    · exact hx_ne h2
theorem valueL_word (l : List UInt8) : valueL (wordL l) = (l, true) := by
  unfold valueL wordL
  split
  · rename_i h
    subst h
    rfl
  · rename_i h
    rw [if_neg, valL_word]
    intro e
    cases l with
    | nil => exact h rfl
    | cons b l =>
      rw [List.flatMap_cons] at e
      have hm : (95 : UInt8) ∈ encB b := by
        cases hb : encB b with
        | nil => unfold encB at hb; split at hb <;> cases hb
        | cons c r => rw [hb, List.cons_append] at e; injection e with e _; rw [e]; exact List.mem_cons_self
      exact (encB_mem hm).2.2 rfl
theorem wordL_mem {l : List UInt8} {c : UInt8} (h : c ∈ wordL l) : c ≠ 32 ∧ c ≠ 10 := by
  unfold wordL at h
  split at h
  · simp only [List.mem_singleton] at h; subst h; decide
  · obtain ⟨b, _, hb⟩ := List.mem_flatMap.1 h
    exact ⟨(encB_mem hb).1, (encB_mem hb).2.1⟩
theorem encB_length (b : UInt8) : (encB b).length ≤ 3 := by unfold encB; split <;> simp
theorem wordL_length (l : List UInt8) : (wordL l).length ≤ 3 * l.length + 1 := by
  unfold wordL
  split
  · simp
  · have : ∀ l : List UInt8, (l.flatMap encB).length ≤ 3 * l.length := by
      intro l
      induction l with
      | nil => simp
      | cons b l ih =>
        have := encB_length b
        simp only [List.flatMap_cons, List.length_append, List.length_cons]
        omega
    have := this l
    omega
theorem valL_length : ∀ (n : Nat) (l : List UInt8), l.length ≤ n → ∀ v, valL l = some v → v.length ≤ l.length := by
  intro n
  induction n with
  | zero =>
    intro l hl v hv
    have : l = [] := List.length_eq_zero_iff.1 (by omega)
    subst this
    cases hv; simp
  | succ n ih =>
    intro l hl v hv
    cases l with
    | nil => cases hv; simp
    | cons c r =>
      simp only [List.length_cons] at hl
      by_cases hc : c = 37
      · subst hc
        match r, hl, hv with
        | [], _, hv => cases hv
        | [a], _, hv => cases hv
        | a :: b :: r', hl, hv =>
          rw [valL_pct] at hv
          split at hv
          · cases hv
          · obtain ⟨u, hu, rfl⟩ := Option.map_eq_some_iff.1 hv
            have := ih r' (by simp only [List.length_cons] at hl; omega) u hu
            simp only [List.length_cons]; omega
      · rw [valL_ne hc] at hv
        obtain ⟨u, hu, rfl⟩ := Option.map_eq_some_iff.1 hv
        have := ih r (by omega) u hu
        simp only [List.length_cons]; omega
theorem valueL_length (l : List UInt8) : (valueL l).1.length ≤ l.length := by
  unfold valueL
  split
  · simp
  · split
    · rename_i v hv; exact valL_length _ l (Nat.le_refl _) v hv
    · simp
/-! ### Numbers -/
theorem itoa_digits {n : Int} (h : 0 ≤ n) : Lib.itoa n = Lib.decDigits n.toNat := by unfold Lib.itoa; rw [if_neg (by omega)]
theorem decDigits_mem : ∀ u : Nat, ∀ c ∈ Lib.decDigits u, 48 ≤ c.toNat ∧ c.toNat ≤ 57 := by
  intro u
  induction u using Nat.strongRecOn with
  | _ u ih =>
    have hd : ∀ d, d < 10 → (UInt8.ofNat (48 + d)).toNat = 48 + d := fun d hd => by rw [UInt8.toNat_ofNat']; omega
    intro c hc
    rw [Lib.decDigits] at hc
    split at hc
    · rename_i h
      simp only [List.mem_singleton] at hc
      subst hc
      rw [hd _ h]; omega
    · rename_i h
      rcases List.mem_append.1 hc with hc | hc
      · exact ih (u / 10) (by omega) c hc
      · simp only [List.mem_singleton] at hc
        subst hc
        rw [hd _ (Nat.mod_lt _ (by decide))]; omega
theorem decDigits_length : ∀ u : Nat, (Lib.decDigits u).length ≤ u + 1 := by
  intro u
  induction u using Nat.strongRecOn with
  | _ u ih =>
    rw [Lib.decDigits]
    split
    · simp
    · have := ih (u / 10) (by omega)
      simp only [List.length_append, List.length_singleton]; omega
theorem decDigits_small : ∀ (k u : Nat), u < 10 ^ (k + 1) → (Lib.decDigits u).length ≤ k + 1 := by
  intro k
  induction k with
  | zero => intro u hu; rw [Lib.decDigits, dif_pos (by simpa using hu)]; simp
  | succ k ih =>
    intro u hu
    rw [Lib.decDigits]
    split
    · simp
    · have := ih (u / 10) (by rw [Nat.pow_succ] at hu; omega)
      simp only [List.length_append, List.length_singleton]; omega
theorem itoa_mem {n : Int} {c : UInt8} (h : c ∈ Lib.itoa n) : c ≠ 32 ∧ c ≠ 10 := by
  unfold Lib.itoa at h
  have key : ∀ u, c ∈ Lib.decDigits u → c ≠ 32 ∧ c ≠ 10 := fun u hu => by
    have := decDigits_mem u c hu
    constructor <;> rintro rfl <;> exact absurd this (by decide)
  split at h
  · rcases List.mem_cons.1 h with rfl | h
    · decide
    · exact key _ h
  · exact key _ h
theorem itoa_length {n : Int} (h0 : -9223372036854775808 ≤ n) (h1 : n ≤ 9223372036854775807) : (Lib.itoa n).length ≤ 20 := by
  unfold Lib.itoa
  split
  · have := decDigits_small 18 n.natAbs (by omega)
    simp only [List.length_cons]; omega
  · have := decDigits_small 18 n.toNat (by omega)
    omega
/-! ### Texts cut at a byte -/
theorem not_cons {b c : UInt8} {l : List UInt8} (h : c ∉ b :: l) : b ≠ c ∧ c ∉ l := by
  simp only [List.mem_cons, not_or] at h
  exact ⟨fun e => h.1 e.symm, h.2⟩
theorem index_nil (c : UInt8) : Lib.index [] [c] = -1 := rfl
theorem index_cons (b c : UInt8) (l : List UInt8) : Lib.index (b :: l) [c] = if b = c then 0 else if Lib.index l [c] = -1 then -1 else Lib.index l [c] + 1 := by
  rw [Lib.index]
  have e : ([c] : List UInt8).isPrefixOf (b :: l) = (c == b) := by simp [List.isPrefixOf]
  rw [e]
  by_cases h : b = c
  · rw [if_pos (by simp [h]), if_pos h]
  · have h' : (c == b) = false := by rw [beq_eq_false_iff_ne]; exact fun e => h e.symm
    rw [if_neg (by rw [h']; simp), if_neg h]
    simp only [beq_iff_eq]
theorem index_mem {c : UInt8} : ∀ {l : List UInt8}, c ∉ l → Lib.index l [c] = -1
  | [], _ => rfl
  | b :: l, h => by
    have h' := not_cons h
    rw [index_cons, if_neg h'.1, index_mem h'.2, if_pos rfl]
theorem index_app {c : UInt8} (r : List UInt8) : ∀ {l : List UInt8}, c ∉ l → Lib.index (l ++ c :: r) [c] = l.length
  | [], _ => by rw [List.nil_append, index_cons, if_pos rfl]; rfl
  | b :: l, h => by
    have h' := not_cons h
    rw [List.cons_append, index_cons, if_neg h'.1, index_app r h'.2, if_neg (by omega), List.length_cons]; rfl
/-- Of a text the piece up to the byte, or the whole. -/
theorem split_mem (c : UInt8) (l : List UInt8) : c ∉ l ∨ ∃ a r, l = a ++ c :: r ∧ c ∉ a := by
  induction l with
  | nil => exact .inl (by simp)
  | cons b l ih =>
    by_cases hb : b = c
    · exact .inr ⟨[], l, by rw [hb]; rfl, by simp⟩
    · rcases ih with h | ⟨a, r, h, ha⟩
      · exact .inl (by simp only [List.mem_cons, not_or]; exact ⟨fun e => hb e.symm, h⟩)
      · exact .inr ⟨b :: a, r, by rw [h]; rfl, by simp only [List.mem_cons, not_or]; exact ⟨fun e => hb e.symm, ha⟩⟩
theorem ctl_none {c : UInt8} {l : List UInt8} (h : c ∉ l) : Lib.cut l [c] = (l, [], false) := by
  unfold Lib.cut
  rw [index_mem h, if_neg (by decide)]
theorem ctl_at {c : UInt8} {a r : List UInt8} (h : c ∉ a) : Lib.cut (a ++ c :: r) [c] = (a, r, true) := by
  unfold Lib.cut
  rw [index_app r h, if_pos (by omega), Int.toNat_natCast, List.take_left, List.length_singleton]
  congr 2
  rw [show a ++ c :: r = (a ++ [c]) ++ r by simp, List.drop_left' (by simp)]
/-- The pieces of a text between the bytes c. -/
def pieces (c : UInt8) : List UInt8 → List (List UInt8)
  | [] => [[]]
  | b :: l => if b = c then [] :: pieces c l else match pieces c l with | p :: q => (b :: p) :: q | [] => [[b]]
theorem pieces_ne (c : UInt8) : ∀ l, pieces c l ≠ []
  | [] => by simp [pieces]
  | b :: l => by
    rw [pieces]
    split
    · simp
    · cases h : pieces c l <;> simp
theorem pieces_none {c : UInt8} : ∀ {l : List UInt8}, c ∉ l → pieces c l = [l]
  | [], _ => rfl
  | b :: l, h => by
    have h' := not_cons h
    rw [pieces, if_neg h'.1, pieces_none h'.2]
theorem pieces_at {c : UInt8} (r : List UInt8) : ∀ {a : List UInt8}, c ∉ a → pieces c (a ++ c :: r) = a :: pieces c r
  | [], _ => by rw [List.nil_append, pieces, if_pos rfl]
  | b :: a, h => by
    have h' := not_cons h
    rw [List.cons_append, pieces, if_neg h'.1, pieces_at r h'.2]
theorem split_pieces (c : UInt8) : ∀ (n : Nat) (l : List UInt8), l.length ≤ n → Lib.split l [c] = pieces c l := by
  intro n
  induction n with
  | zero =>
    intro l hl
    have : l = [] := List.length_eq_zero_iff.1 (by omega)
    subst this
    rfl
  | succ n ih =>
    intro l hl
    rcases split_mem c l with h | ⟨a, r, rfl, h⟩
    · rw [pieces_none h]
      unfold Lib.split
      rw [Lib.count_miss (index_mem h)]
      rfl
    · rw [pieces_at r h]
      have hr : r.length ≤ n := by simp only [List.length_append, List.length_cons] at hl; omega
      have hi := index_app r h
      have hd : (a ++ c :: r).drop (a.length + 1) = r := by
        rw [show a ++ c :: r = (a ++ [c]) ++ r by simp, List.drop_left' (by simp)]
      unfold Lib.split
      rw [Lib.count_hit (by simp) hi, List.length_singleton, hd, Nat.add_comm, Lib.splitK, hi]
      rw [if_neg (by simp only [beq_iff_eq]; omega), Int.toNat_natCast, Nat.add_zero, List.take_left, List.length_singleton, hd]
      congr 1
      exact ih r hr
end Go.Proofs.YtaccejbajgmdnaaDoor
