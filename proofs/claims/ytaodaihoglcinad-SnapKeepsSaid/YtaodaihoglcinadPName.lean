/- Plain Lean: the order of texts, names, lists that are sorted. Its conditions: none. -/
import Derived.Test.YtaodaihoglcinadSnapF
import Derived.Test.YtaodaihoglcinadPLoop
import Derived.Test.YtaodaihoglcinadBytes
namespace Go.Proofs.Ytaodaihoglcinad
set_option linter.unusedVariables false
set_option linter.unusedSimpArgs false

/-! ### Lists in order -/
section
variable {α : Type} {R : α → α → Prop}
theorem sorted_ext (irr : ∀ a, ¬ R a a) (tr : ∀ a b c, R a b → R b c → R a c) : ∀ {l m : List α}, l.Pairwise R → m.Pairwise R → (∀ e, e ∈ l ↔ e ∈ m) → l = m
  | [], [], _, _, _ => rfl
  | [], b :: m, _, _, h => absurd ((h b).2 List.mem_cons_self) (by simp)
  | a :: l, [], _, _, h => absurd ((h a).1 List.mem_cons_self) (by simp)
  | a :: l, b :: m, h1, h2, h => by
    obtain ⟨p1, q1⟩ := List.pairwise_cons.1 h1
    obtain ⟨p2, q2⟩ := List.pairwise_cons.1 h2
    have hab : a = b := by
      rcases List.mem_cons.1 ((h a).1 List.mem_cons_self) with e | ha
      · exact e
      · rcases List.mem_cons.1 ((h b).2 List.mem_cons_self) with e | hb
        · exact e.symm
        · exact absurd (tr _ _ _ (p1 b hb) (p2 a ha)) (irr a)
    subst hab
    rw [sorted_ext irr tr q1 q2 fun e => ⟨fun he => by
      rcases List.mem_cons.1 ((h e).1 (List.mem_cons_of_mem _ he)) with rfl | h3
      · exact absurd (p1 e he) (irr e)
      · exact h3, fun he => by
      rcases List.mem_cons.1 ((h e).2 (List.mem_cons_of_mem _ he)) with rfl | h3
      · exact absurd (p2 e he) (irr e)
      · exact h3⟩]
theorem pair_next (tr : ∀ a b c, R a b → R b c → R a c) : ∀ {l : List α}, (∀ (j : Nat) (a b : α), l[j]? = some a → l[j + 1]? = some b → R a b) → l.Pairwise R
  | [], _ => List.Pairwise.nil
  | [a], _ => List.pairwise_singleton _ _
  | a :: b :: l, h => by
    have ih : (b :: l).Pairwise R := pair_next tr fun j x y hx hy => h (j + 1) x y (by simpa using hx) (by simpa using hy)
    have hab : R a b := h 0 a b rfl rfl
    refine List.pairwise_cons.2 ⟨fun c hc => ?_, ih⟩
    rcases List.mem_cons.1 hc with rfl | hc
    · exact hab
    · exact tr _ _ _ hab ((List.pairwise_cons.1 ih).1 c hc)
theorem next_pair {l : List α} (h : l.Pairwise R) {j : Nat} {a b : α} (ha : l[j]? = some a) (hb : l[j + 1]? = some b) : R a b := by
  obtain ⟨h1, rfl⟩ := List.getElem?_eq_some_iff.1 ha
  obtain ⟨h2, rfl⟩ := List.getElem?_eq_some_iff.1 hb
  exact List.pairwise_iff_getElem.1 h j (j + 1) h1 h2 (by omega)
theorem pair_mem {l : List α} (h : l.Pairwise R) {a b : α} (ha : a ∈ l) (hb : b ∈ l) (hne : a ≠ b) : R a b ∨ R b a := by
  obtain ⟨i, hi⟩ := List.mem_iff_getElem?.1 ha
  obtain ⟨j, hj⟩ := List.mem_iff_getElem?.1 hb
  obtain ⟨h1, rfl⟩ := List.getElem?_eq_some_iff.1 hi
  obtain ⟨h2, rfl⟩ := List.getElem?_eq_some_iff.1 hj
  rcases Nat.lt_trichotomy i j with h3 | h3 | h3
  · exact .inl (List.pairwise_iff_getElem.1 h i j h1 h2 h3)
  · subst h3; exact absurd rfl hne
  · exact .inr (List.pairwise_iff_getElem.1 h j i h2 h1 h3)
theorem pair_split {p : α → Bool} (hp : ∀ a b, R a b → p b = true → p a = true) : ∀ {l : List α}, l.Pairwise R → l = l.filter p ++ l.filter fun e => !p e
  | [], _ => rfl
  | a :: l, h => by
    obtain ⟨h1, h2⟩ := List.pairwise_cons.1 h
    have ih := pair_split hp h2
    cases ha : p a with
    | true => rw [List.filter_cons_of_pos ha, List.filter_cons_of_neg (by simp [ha]), List.cons_append, ← ih]
    | false =>
      have h3 : l.filter p = [] := List.filter_eq_nil_iff.2 fun b hb hpb => by
        have := hp a b (h1 b hb) hpb
        rw [ha] at this; cases this
      rw [h3, List.nil_append] at ih
      rw [List.filter_cons_of_neg (by simp [ha]), h3, List.filter_cons_of_pos (by simp [ha]), List.nil_append, ← ih]
end

/-! ### The order of texts -/
theorem less_irrefl : ∀ x : List UInt8, Op.bytesLess x x = false
  | [] => rfl
  | a :: x => by rw [Op.bytesLess, less_irrefl x]; simp
theorem less_trans : ∀ {x y z : List UInt8}, Op.bytesLess x y = true → Op.bytesLess y z = true → Op.bytesLess x z = true
  | x, y, [], _, h => by cases y <;> simp [Op.bytesLess] at h
  | x, [], _ :: _, h, _ => by cases x <;> simp [Op.bytesLess] at h
  | [], _ :: _, _ :: _, _, _ => rfl
  | a :: x, b :: y, c :: z, h, k => by
    simp only [Op.bytesLess, Bool.or_eq_true, decide_eq_true_eq, Bool.and_eq_true, beq_iff_eq] at h k ⊢
    rcases h with h | ⟨rfl, h⟩
    · rcases k with k | ⟨rfl, k⟩
      · exact .inl (UInt8.lt_trans h k)
      · exact .inl h
    · rcases k with k | ⟨rfl, k⟩
      · exact .inl k
      · exact .inr ⟨rfl, less_trans h k⟩
theorem less_total : ∀ {x y : List UInt8}, Op.bytesLess x y = false → Op.bytesLess y x = false → x = y
  | [], [], _, _ => rfl
  | [], _ :: _, h, _ => by simp [Op.bytesLess] at h
  | _ :: _, [], _, h => by simp [Op.bytesLess] at h
  | a :: x, b :: y, h, k => by
    simp only [Op.bytesLess, Bool.or_eq_false_iff, decide_eq_false_iff_not, Bool.and_eq_false_iff, beq_eq_false_iff_ne] at h k
    have e : a = b := by
      apply UInt8.toNat_inj.1
      have h1 := h.1
      have k1 := k.1
      rw [UInt8.lt_iff_toNat_lt] at h1 k1
      omega
    subst e
    rw [less_total (h.2.resolve_left fun h => h rfl) (k.2.resolve_left fun h => h rfl)]
theorem toList_inj {x y : ByteArray} (h : x.toList = y.toList) : x = y := (seq_iff x y).1 (by unfold seq; rw [h]; simp)
theorem slt_irrefl (x : ByteArray) : slt x x = false := less_irrefl _
theorem slt_trans {x y z : ByteArray} (h : slt x y = true) (k : slt y z = true) : slt x z = true := less_trans h k
theorem slt_total {x y : ByteArray} (h : slt x y = false) (k : slt y x = false) : x = y := toList_inj (less_total h k)
theorem slt_ne {x y : ByteArray} (h : slt x y = true) : x ≠ y := fun e => by rw [e, slt_irrefl] at h; cases h
theorem slt_asymm {x y : ByteArray} (h : slt x y = true) : slt y x = false := by
  cases k : slt y x with
  | false => rfl
  | true => have := slt_trans h k; rw [slt_irrefl] at this; cases this

/-! ### Names -/
def badC (b : UInt8) : Bool := decide ((b.toNat : Int) ≤ 32) || (decide ((127 : Int) ≤ (b.toNat : Int)) || (((b.toNat : Int) == 47) || ((b.toNat : Int) == 64)))
def nameB (s : ByteArray) : Bool := !((seq s (ByteArray.mk #[])) || ((decide ((12 : Int) < (s.size : Int))) || ((seq s (ByteArray.mk #[46])) || (seq s (ByteArray.mk #[46, 46]))))) && !(s.data.toList.any badC)
theorem nameB_ofL (l : List UInt8) : nameB (ofL l) = (!((l == []) || (decide ((12 : Int) < (l.length : Int)) || ((l == [46]) || (l == [46, 46])))) && !(l.any badC)) := by
  unfold nameB
  rw [show (ByteArray.mk #[]) = ofL [] from rfl, show (ByteArray.mk #[46]) = ofL [46] from rfl, show (ByteArray.mk #[46, 46]) = ofL [46, 46] from rfl, seq_ofL, seq_ofL, seq_ofL]
  rfl
variable {F : Nat} [Big F]
theorem sidx_nat (s : ByteArray) {k : Nat} {b : UInt8} (h : s.data.toList[k]? = some b) : sidx s (k : Int) = some b := by
  have := sidx_ofL s.data.toList (k : Int)
  rw [ofL_toList, if_pos (by omega), Int.toNat_natCast] at this
  rw [this, h]
theorem dir_Name_eq (s : ByteArray) : dir_Name F s = some (nameB s) := by
  unfold dir_Name nameB
  cases hc : (seq s (ByteArray.mk #[])) || ((decide ((12 : Int) < (s.size : Int))) || ((seq s (ByteArray.mk #[46])) || (seq s (ByteArray.mk #[46, 46])))) with
  | true => rw [cond_true]; rfl
  | false =>
    rw [cond_false]
    have h12 : s.data.toList.length ≤ 12 := by
      simp only [Bool.or_eq_false_iff, decide_eq_false_iff_not] at hc
      have := hc.2.1
      show s.data.size ≤ 12
      have e : s.size = s.data.size := rfl
      omega
    have hsz : (s.size : Int) = (s.data.toList.length : Int) := rfl
    rw [loop_first (ρ := Unit ⊕ Bool) s.data.toList (fun b => if badC b then some (.inr false) else none) (.inl ()) (by omega) rfl ?hs ?he]
    case hs =>
      intro k b hk
      have hkl := (List.getElem?_eq_some_iff.1 hk).1
      rw [hsz, decide_eq_true (by omega), cond_true, sidx_nat s hk, w64 (by omega) (by omega)]
      simp only [Option.bind_some]
      unfold badC
      by_cases h1 : (b.toNat : Int) ≤ 32
      · simp [h1]
      by_cases h2 : (127 : Int) ≤ (b.toNat : Int)
      · simp [h1, h2]
      cases h3 : ((b.toNat : Int) == 47) with
      | true => simp [h1, h2]
      | false => cases h4 : ((b.toNat : Int) == 64) <;> simp [h1, h2]
    case he => rw [hsz, decide_eq_false (by omega), cond_false]
    rw [Option.bind_some]
    cases ha : s.data.toList.any badC with
    | true =>
      obtain ⟨b, hb, hbb⟩ := List.any_eq_true.1 ha
      cases hf : s.data.toList.findSome? (fun b => if badC b then some (Sum.inr false : Unit ⊕ Bool) else none) with
      | none => have := List.findSome?_eq_none_iff.1 hf b hb; rw [if_pos hbb] at this; cases this
      | some r =>
        obtain ⟨c, _, hc2⟩ := List.exists_of_findSome?_eq_some hf
        split at hc2
        · obtain rfl := Option.some.inj hc2; rfl
        · cases hc2
    | false =>
      rw [List.findSome?_eq_none_iff.2 fun b hb => by rw [if_neg (by have := List.any_eq_false.1 ha b hb; simpa using this)]]
      rfl
theorem nameB_size {s : ByteArray} (h : nameB s = true) : s.size ≤ 12 := by
  unfold nameB at h
  simp only [Bool.and_eq_true, Bool.not_eq_true', Bool.or_eq_false_iff, decide_eq_false_iff_not] at h
  have := h.1.2.1
  omega
end Go.Proofs.Ytaodaihoglcinad
