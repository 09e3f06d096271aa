/- Plain Lean: nodes as bytes. Its conditions: none. -/
import Derived.Test.YtldlakjemifdmaaPageF
import Derived.Test.YtldlakjemifdmaaPNode
import Derived.Test.YtldlakjemifdmaaFCode
import Derived.Test.YtldlakjemifdmaaPEq
namespace Go.Proofs.Ytldlakjemifdmaa
open Go.ChangeShapes
set_option linter.unusedVariables false
set_option linter.unusedSimpArgs false
variable {F : Nat} [Big F]

/-! ### Many records of a text -/
def allP : Nat → List DElem → List UInt8 → List DElem × Int
  | 0, acc, _ => (acc, 0)
  | m + 1, acc, l => if l = [] then (acc, 0) else if (cget l).2.2 ≠ 0 then ([], (cget l).2.2) else allP m (acc ++ [(cget l).1]) (l.drop (cget l).2.1.toNat)
def allR (l : List UInt8) : List DElem × Int := allP (l.length + 1) [] l
theorem seq_nil {l : List UInt8} : seq (ofL l) (ByteArray.mk #[]) = decide (l = []) := by
  have := seq_ofL l []
  rw [show (ByteArray.mk #[]) = ofL [] from rfl, this]
  cases l <;> rfl
theorem cget_ok {l : List UInt8} (h : (cget l).2.2 = 0) : ∃ n : Nat, (cget l).2.1 = (n : Int) ∧ 18 ≤ n ∧ n ≤ l.length ∧ ebE (cget l).1 = l.take n ∧ chkE (cget l).1 = 0 := by
  obtain ⟨a, b, c, d, g, v, hf, h1, h2, h3⟩ := eb_cget h
  refine ⟨18 + v.length, by rw [h2], by omega, h1, by rw [h2]; exact h3, by rw [h2]; exact chk_fit hf⟩
theorem code_All_eq (l : List UInt8) (hl : l.length ≤ 1000000) : code_All F (ofL l) = some (allR l) := by
  unfold code_All allR
  refine loop_rec (R := fun m s q => ∃ acc l, s = (acc, ofL l) ∧ l.length < m ∧ acc.length + l.length ≤ 1000000 ∧ q = allP m acc l) (fun m s q h => ?_) (m := l.length + 1) (by omega) ⟨[], l, rfl, by omega, by simpa using hl, rfl⟩
  obtain ⟨acc, l, rfl, h1, h2, rfl⟩ := h
  obtain ⟨m, rfl⟩ : ∃ k, m = k + 1 := ⟨m - 1, by omega⟩
  dsimp only
  rw [seq_nil, allP]
  by_cases h0 : l = []
  · rw [if_pos h0, decide_eq_true h0, Bool.not_true, cond_false]
    exact .inl ⟨_, rfl, rfl⟩
  rw [if_neg h0, decide_eq_false h0, Bool.not_false, cond_true, code_Get_eq, Option.bind_some]
  by_cases hc : (cget l).2.2 = 0
  · obtain ⟨n, e1, e2, e3, e4, e5⟩ := cget_ok hc
    have hsl : sslice (ofL l) (cget l).2.1 ((ofL l).size : Int) = some (ofL (l.drop n)) := by
      rw [e1, sslice_ofL (by omega) (show ((n : Nat) : Int) ≤ ((ofL l).size : Int) from by have : (ofL l).size = l.length := rfl; omega) (Int.le_refl _), Int.toNat_natCast, Int.toNat_natCast]
      rw [show (ofL l).size = l.length from rfl, List.take_length]
    have hl0 := List.length_pos_iff.2 h0
    rw [if_neg (by simpa using hc), bne0_false hc, cond_false, grow_ok (by simp; omega) (by simp; omega), Option.bind_some, hsl, Option.bind_some, e1, Int.toNat_natCast]
    refine .inr ⟨m, _, by omega, rfl, _, _, rfl, ?_, ?_, rfl⟩
    · rw [List.length_drop]; omega
    · rw [List.length_append, List.length_drop, List.length_singleton]; omega
  · rw [if_pos hc, bne0_true hc, cond_true]
    exact .inl ⟨_, rfl, rfl⟩
theorem allP_len : ∀ (m : Nat) (acc : List DElem) (l : List UInt8), (allP m acc l).1.length ≤ acc.length + l.length
  | 0, acc, l => by rw [allP]; dsimp only; omega
  | m + 1, acc, l => by
    rw [allP]
    by_cases h0 : l = []
    · rw [if_pos h0]; dsimp only; omega
    rw [if_neg h0]
    by_cases hc : (cget l).2.2 = 0
    · obtain ⟨n, e1, e2, e3, _⟩ := cget_ok hc
      rw [if_neg (by simpa using hc)]
      have := allP_len m (acc ++ [(cget l).1]) (l.drop (cget l).2.1.toNat)
      rw [e1, Int.toNat_natCast, List.length_append, List.length_singleton, List.length_drop] at this
      rw [e1, Int.toNat_natCast]
      omega
    · rw [if_pos hc]; simp
theorem allP_inv : ∀ (m : Nat) (acc : List DElem) (l : List UInt8) (es : List DElem), l.length < m → allP m acc l = (es, 0) → ∃ fs, es = acc ++ fs ∧ l = fs.flatMap ebE
  | 0, acc, l, es, h, _ => by omega
  | m + 1, acc, l, es, h, he => by
    rw [allP] at he
    by_cases h0 : l = []
    · rw [if_pos h0] at he
      cases he
      exact ⟨[], by simp, by rw [h0]; rfl⟩
    rw [if_neg h0] at he
    by_cases hc : (cget l).2.2 = 0
    · obtain ⟨n, e1, e2, e3, e4, _⟩ := cget_ok hc
      rw [if_neg (by simpa using hc), e1, Int.toNat_natCast] at he
      obtain ⟨fs, h1, h2⟩ := allP_inv m _ _ es (by rw [List.length_drop]; omega) he
      refine ⟨(cget l).1 :: fs, by rw [h1]; simp, ?_⟩
      rw [List.flatMap_cons, e4, ← h2, List.take_append_drop]
    · rw [if_pos hc] at he
      exact absurd (Prod.mk.inj he).2 hc
theorem allP_ebs : ∀ (m : Nat) (acc es : List DElem), (∀ e ∈ es, chkE e = 0) → (es.flatMap ebE).length < m → allP m acc (es.flatMap ebE) = (acc ++ es, 0)
  | 0, acc, es, _, h => by omega
  | m + 1, acc, [], _, h => by rw [allP, if_pos (by rfl)]; simp
  | m + 1, acc, e :: es, he, h => by
    have hc := cget_ebE (he e (by simp)) (es.flatMap ebE)
    have hl := ebE_length e
    rw [List.flatMap_cons] at h ⊢
    rw [allP, if_neg (by intro h0; have := congrArg List.length h0; rw [List.length_append, hl] at this; simp at this), hc, if_neg (by simp)]
    dsimp only
    rw [Int.toNat_natCast, List.drop_left' hl, allP_ebs m _ es (fun x hx => he x (List.mem_cons_of_mem _ hx)) (by rw [List.length_append] at h; omega)]
    simp

/-! ### The kids of a body -/
def tailB : List Int → List Int → List DSpot → List UInt8
  | k :: ks, t :: ts, s :: ss => bigL k.toNat 2 ++ (bigL t.toNat 4 ++ (ebE (zE s) ++ tailB ks ts ss))
  | _, _, _ => []
def headB : List Int → List Int → List DSpot → List UInt8
  | k :: ks, t :: ts, ss => bigL k.toNat 2 ++ (bigL t.toNat 4 ++ tailB ks ts ss)
  | _, _, _ => []
def kidsP : Nat → List DSpot → List Int → List Int → List UInt8 → Nat → DNode × Bool
  | 0, ss, ts, ks, _, _ => (⟨2, [], ks, ss, ts⟩, true)
  | m + 1, ss, ts, ks, l, i =>
    if l = [] then (⟨2, [], ks, ss, ts⟩, true)
    else if l.length < 6 then (⟨2, [], ks, ss, ts⟩, false)
    else if i = 0 then kidsP m ss (ts ++ [(valL (sl l 2 6) : Int)]) (ks ++ [(valL (sl l 0 2) : Int)]) (l.drop 6) 1
    else if (cget (l.drop 6)).2.2 ≠ 0 ∨ (cget (l.drop 6)).1.gone ≠ 0 ∨ (cget (l.drop 6)).1.val ≠ ofL [] then (⟨2, [], ks ++ [(valL (sl l 0 2) : Int)], ss, ts ++ [(valL (sl l 2 6) : Int)]⟩, false)
    else kidsP m (ss ++ [spotE (cget (l.drop 6)).1]) (ts ++ [(valL (sl l 2 6) : Int)]) (ks ++ [(valL (sl l 0 2) : Int)]) ((l.drop 6).drop (cget (l.drop 6)).2.1.toNat) (i + 1)
def kidsR (l : List UInt8) : DNode × Bool := kidsP (l.length + 1) [] [] [] l 0
theorem page_kids_eq (l : List UInt8) (hl : l.length ≤ 1000000) : page_kids F (ofL l) = some (kidsR l) := by
  unfold page_kids kidsR
  refine loop_rec (R := fun m s q => ∃ ss ts ks l i, s = (ss, ts, ks, ofL l, ((i : Nat) : Int)) ∧ l.length < m ∧ ss.length + l.length ≤ 1000000 ∧ ts.length + l.length ≤ 1000000 ∧ ks.length + l.length ≤ 1000000 ∧ i + l.length ≤ 1000000 ∧ q = kidsP m ss ts ks l i) (fun m s q h => ?_) (m := l.length + 1) (by omega)
    ⟨[], [], [], l, 0, rfl, by omega, by simpa using hl, by simpa using hl, by simpa using hl, by omega, rfl⟩
  obtain ⟨ss, ts, ks, l, i, rfl, h1, h2, h3, h4, h5, rfl⟩ := h
  obtain ⟨m, rfl⟩ : ∃ k, m = k + 1 := ⟨m - 1, by omega⟩
  dsimp only
  have hsz : (ofL l).size = l.length := rfl
  rw [seq_nil, kidsP, hsz]
  by_cases h0 : l = []
  · rw [if_pos h0, decide_eq_true h0, Bool.not_true, cond_false]
    exact .inl ⟨_, rfl, rfl⟩
  rw [if_neg h0, decide_eq_false h0, Bool.not_false, cond_true]
  by_cases h6 : l.length < 6
  · rw [if_pos h6, decide_eq_true (by omega), cond_true, Option.bind_some]
    exact .inl ⟨_, rfl, rfl⟩
  rw [if_neg h6, decide_eq_false (by omega), cond_false]
  have s1 : sslice (ofL l) 0 2 = some (ofL (sl l 0 2)) := sl_ofL (a := 0) (b := 2) (by omega) (by omega)
  have s2 : sslice (ofL l) 2 6 = some (ofL (sl l 2 6)) := sl_ofL (a := 2) (b := 6) (by omega) (by omega)
  have s3 : sslice (ofL l) 6 (l.length : Int) = some (ofL (l.drop 6)) := by
    have := sl_ofL (l := l) (a := 6) (b := l.length) (by omega) (by omega)
    rw [sl, List.take_length] at this
    exact this
  have b1 : big_Get F (ofL (sl l 0 2)) = some ((valL (sl l 0 2) : Nat) : Int) := big_Get_ofL _ (by rw [sl_length (by omega)]; omega)
  have b2 : big_Get F (ofL (sl l 2 6)) = some ((valL (sl l 2 6) : Nat) : Int) := big_Get_ofL _ (by rw [sl_length (by omega)]; omega)
  rw [s1, Option.bind_some, b1, Option.bind_some, grow_ok (by simp; omega) (by simp; omega), Option.bind_some, s2, Option.bind_some, b2, Option.bind_some, grow_ok (by simp; omega) (by simp; omega), Option.bind_some, s3, Option.bind_some]
  have hd : (l.drop 6).length = l.length - 6 := List.length_drop
  by_cases hi : i = 0
  · rw [if_pos hi, hi]
    rw [show (((0 : Nat) : Int) == 0) = true from rfl, cond_true, Option.bind_some]
    refine .inr ⟨m, _, by omega, rfl, _, _, _, _, 1, rfl, ?_, ?_, ?_, ?_, ?_, rfl⟩
    all_goals (try rw [List.length_append]); (try rw [List.length_singleton]); omega
  · rw [if_neg hi, show (((i : Nat) : Int) == 0) = false by simp; omega, cond_false, code_Get_eq, Option.bind_some]
    have hv : seq (cget (l.drop 6)).1.val (ByteArray.mk #[]) = decide ((cget (l.drop 6)).1.val = ofL []) := by
      rw [Bool.eq_iff_iff, seq_iff, decide_eq_true_eq]; rfl
    rw [hv]
    by_cases hb : (cget (l.drop 6)).2.2 ≠ 0 ∨ (cget (l.drop 6)).1.gone ≠ 0 ∨ (cget (l.drop 6)).1.val ≠ ofL []
    · rw [if_pos hb]
      have : ((cget (l.drop 6)).2.2 != 0 || ((cget (l.drop 6)).1.gone != 0 || !decide ((cget (l.drop 6)).1.val = ofL []))) = true := by simpa using hb
      rw [this, cond_true, Option.bind_some]
      exact .inl ⟨_, rfl, rfl⟩
    · rw [if_neg hb]
      have : ((cget (l.drop 6)).2.2 != 0 || ((cget (l.drop 6)).1.gone != 0 || !decide ((cget (l.drop 6)).1.val = ofL []))) = false := by simpa using hb
      have hc : (cget (l.drop 6)).2.2 = 0 := by
        rcases Classical.em ((cget (l.drop 6)).2.2 = 0) with h | h
        · exact h
        · exact absurd (.inl h) hb
      obtain ⟨n, e1, e2, e3, e4, e5⟩ := cget_ok hc
      have s5 : sslice (ofL (l.drop 6)) (cget (l.drop 6)).2.1 ((ofL (l.drop 6)).size : Int) = some (ofL ((l.drop 6).drop n)) := by
        have := sl_ofL (l := l.drop 6) (a := n) (b := (l.drop 6).length) (by omega) (by omega)
        rw [sl, List.take_length] at this
        rw [e1]; exact this
      rw [this, cond_false, elem_Spot_eq, Option.bind_some, grow_ok (by simp; omega) (by simp; omega), Option.bind_some, s5, Option.bind_some, Option.bind_some, e1, Int.toNat_natCast]
      dsimp only
      rw [w64 (by omega) (by omega)]
      refine .inr ⟨m, _, by omega, rfl, _, _, _, _, i + 1, rfl, ?_, ?_, ?_, ?_, ?_, rfl⟩
      all_goals (try rw [List.length_append]); (try rw [List.length_singleton]); (try rw [List.length_drop]); omega
theorem kidsP_len : ∀ (m : Nat) (ss : List DSpot) (ts ks : List Int) (l : List UInt8) (i : Nat), (kidsP m ss ts ks l i).1.kids.length ≤ ks.length + l.length ∧ (kidsP m ss ts ks l i).1.seps.length ≤ ss.length + l.length ∧ (kidsP m ss ts ks l i).1.tids.length ≤ ts.length + l.length ∧ (kidsP m ss ts ks l i).1.elems = [] ∧ (kidsP m ss ts ks l i).1.kind = 2
  | 0, ss, ts, ks, l, i => by rw [kidsP]; exact ⟨by simp, by simp, by simp, rfl, rfl⟩
  | m + 1, ss, ts, ks, l, i => by
    rw [kidsP]
    by_cases h0 : l = []
    · rw [if_pos h0]; exact ⟨by simp, by simp, by simp, rfl, rfl⟩
    rw [if_neg h0]
    by_cases h6 : l.length < 6
    · rw [if_pos h6]; exact ⟨by simp, by simp, by simp, rfl, rfl⟩
    rw [if_neg h6]
    by_cases hi : i = 0
    · rw [if_pos hi]
      obtain ⟨h1, h2, h3, h4, h5⟩ := kidsP_len m ss (ts ++ [(valL (sl l 2 6) : Int)]) (ks ++ [(valL (sl l 0 2) : Int)]) (l.drop 6) 1
      rw [List.length_append, List.length_singleton, List.length_drop] at h1 h3
      rw [List.length_drop] at h2
      exact ⟨by omega, by omega, by omega, h4, h5⟩
    rw [if_neg hi]
    by_cases hb : (cget (l.drop 6)).2.2 ≠ 0 ∨ (cget (l.drop 6)).1.gone ≠ 0 ∨ (cget (l.drop 6)).1.val ≠ ofL []
    · rw [if_pos hb]
      refine ⟨?_, by simp, ?_, rfl, rfl⟩ <;> (dsimp only; rw [List.length_append, List.length_singleton]; omega)
    · rw [if_neg hb]
      obtain ⟨h1, h2, h3, h4, h5⟩ := kidsP_len m (ss ++ [spotE (cget (l.drop 6)).1]) (ts ++ [(valL (sl l 2 6) : Int)]) (ks ++ [(valL (sl l 0 2) : Int)]) ((l.drop 6).drop (cget (l.drop 6)).2.1.toNat) (i + 1)
      rw [List.length_append, List.length_singleton, List.length_drop, List.length_drop] at h1 h2 h3
      exact ⟨by omega, by omega, by omega, h4, h5⟩
theorem six_take {l : List UInt8} (h : 6 ≤ l.length) : l = bigL ((valL (sl l 0 2) : Nat) : Int).toNat 2 ++ (bigL ((valL (sl l 2 6) : Nat) : Int).toNat 4 ++ l.drop 6) := by
  have b2 := big_val (sl l 0 2)
  have b4 := big_val (sl l 2 6)
  rw [sl_length (by omega)] at b2 b4
  rw [Int.toNat_natCast, Int.toNat_natCast, b2, b4]
  have t1 : sl l 0 2 = l.take 2 := rfl
  have t2 : sl l 2 6 = (l.take 6).drop 2 := rfl
  have t3 : (l.take 6).take 2 = l.take 2 := by rw [List.take_take]; rfl
  rw [t1, t2, ← List.append_assoc, ← t3, List.take_append_drop, List.take_append_drop]
theorem zE_of {e : DElem} (hg : e.gone = 0) (hv : e.val = ofL []) : zE (spotE e) = e := by
  obtain ⟨k, m, g, v⟩ := e
  simp only at hg hv
  subst hg hv
  rfl
theorem kidsP_inv : ∀ (m : Nat) (ss : List DSpot) (ts ks : List Int) (l : List UInt8) (i : Nat) (n : DNode), l.length < m → 1 ≤ i → kidsP m ss ts ks l i = (n, true) →
    ∃ (k2 t2 : List Int) (s2 : List DSpot), n = ⟨2, [], ks ++ k2, ss ++ s2, ts ++ t2⟩ ∧ l = tailB k2 t2 s2
  | 0, ss, ts, ks, l, i, n, h, _, _ => by omega
  | m + 1, ss, ts, ks, l, i, n, h, h1, he => by
    rw [kidsP] at he
    by_cases h0 : l = []
    · rw [if_pos h0] at he
      cases he
      exact ⟨[], [], [], by simp, by rw [h0]; rfl⟩
    rw [if_neg h0] at he
    by_cases h6 : l.length < 6
    · rw [if_pos h6] at he; cases he
    rw [if_neg h6, if_neg (show ¬ i = 0 by omega)] at he
    by_cases hb : (cget (l.drop 6)).2.2 ≠ 0 ∨ (cget (l.drop 6)).1.gone ≠ 0 ∨ (cget (l.drop 6)).1.val ≠ ofL []
    · rw [if_pos hb] at he; cases he
    · rw [if_neg hb] at he
      simp only [not_or, Decidable.not_not] at hb
      obtain ⟨x, e1, e2, e3, e4, e5⟩ := cget_ok hb.1
      rw [e1, Int.toNat_natCast] at he
      obtain ⟨k2, t2, s2, g1, g2⟩ := kidsP_inv m _ _ _ _ (i + 1) n (by rw [List.length_drop, List.length_drop]; omega) (by omega) he
      refine ⟨_ :: k2, _ :: t2, _ :: s2, by rw [g1]; simp; exact ⟨rfl, rfl, rfl⟩, ?_⟩
      rw [tailB, zE_of hb.2.1 hb.2.2, e4, ← g2, List.take_append_drop]
      exact six_take (by omega)
theorem kids_inv {l : List UInt8} {n : DNode} (h : kidsR l = (n, true)) : ∃ (k2 t2 : List Int) (s2 : List DSpot), n = ⟨2, [], k2, s2, t2⟩ ∧ l = headB k2 t2 s2 := by
  unfold kidsR at h
  rw [kidsP] at h
  by_cases h0 : l = []
  · rw [if_pos h0] at h
    cases h
    exact ⟨[], [], [], rfl, by rw [h0]; rfl⟩
  rw [if_neg h0] at h
  by_cases h6 : l.length < 6
  · rw [if_pos h6] at h; cases h
  rw [if_neg h6, if_pos rfl] at h
  obtain ⟨k2, t2, s2, g1, g2⟩ := kidsP_inv l.length _ _ _ _ 1 n (by rw [List.length_drop]; omega) (by omega) h
  refine ⟨_ :: k2, _ :: t2, s2, by rw [g1]; simp; exact ⟨rfl, rfl⟩, ?_⟩
  rw [headB, ← g2]
  exact six_take (by omega)
/-- Numbers that fit. -/
def FitK (k t : Int) : Prop := 0 ≤ k ∧ k < 65536 ∧ 0 ≤ t ∧ t < 4294967296
theorem six_got {k t : Int} (h : FitK k t) (r : List UInt8) : (valL (sl (bigL k.toNat 2 ++ (bigL t.toNat 4 ++ r)) 0 2) : Int) = k ∧ (valL (sl (bigL k.toNat 2 ++ (bigL t.toNat 4 ++ r)) 2 6) : Int) = t ∧ (bigL k.toNat 2 ++ (bigL t.toNat 4 ++ r)).drop 6 = r := by
  obtain ⟨h1, h2, h3, h4⟩ := h
  have l2 := bigL_length k.toNat 2
  have l4 := bigL_length t.toNat 4
  have e1 : sl (bigL k.toNat 2 ++ (bigL t.toNat 4 ++ r)) 0 2 = bigL k.toNat 2 := by
    rw [sl, List.take_left' l2]; rfl
  have e2 : sl (bigL k.toNat 2 ++ (bigL t.toNat 4 ++ r)) 2 6 = bigL t.toNat 4 := by
    rw [sl, ← List.append_assoc, List.take_left' (by rw [List.length_append, l2, l4]), List.drop_left' l2]
  refine ⟨?_, ?_, ?_⟩
  · rw [e1, valL_big, Nat.mod_eq_of_lt (by omega)]; omega
  · rw [e2, valL_big, Nat.mod_eq_of_lt (by omega)]; omega
  · rw [← List.append_assoc, List.drop_left' (by rw [List.length_append, l2, l4])]
theorem zE_length (s : DSpot) : (ebE (zE s)).length = 18 := by rw [ebE_length]; rfl
theorem kidsP_tail : ∀ (m : Nat) (ss : List DSpot) (ts ks : List Int) (i : Nat) (k2 t2 : List Int) (s2 : List DSpot), k2.length = s2.length → t2.length = s2.length → (∀ (j : Nat) (k t : Int), k2[j]? = some k → t2[j]? = some t → FitK k t) → (∀ s ∈ s2, chkE (zE s) = 0) → 1 ≤ i → (tailB k2 t2 s2).length < m →
    kidsP m ss ts ks (tailB k2 t2 s2) i = (⟨2, [], ks ++ k2, ss ++ s2, ts ++ t2⟩, true)
  | 0, ss, ts, ks, i, k2, t2, s2, _, _, _, _, _, h => by omega
  | m + 1, ss, ts, ks, i, [], [], [], _, _, _, _, _, h => by rw [kidsP, if_pos (show tailB [] [] [] = [] from rfl)]; simp
  | m + 1, ss, ts, ks, i, k :: k2, t :: t2, s :: s2, h1, h2, h3, h4, h5, h => by
    obtain ⟨g1, g2, g3⟩ := six_got (h3 0 k t rfl rfl) (ebE (zE s) ++ tailB k2 t2 s2)
    have hc := cget_ebE (h4 s (by simp)) (tailB k2 t2 s2)
    have hz := zE_length s
    have hlen : (bigL k.toNat 2 ++ (bigL t.toNat 4 ++ (ebE (zE s) ++ tailB k2 t2 s2))).length = 24 + (tailB k2 t2 s2).length := by
      rw [List.length_append, List.length_append, List.length_append, bigL_length, bigL_length, hz]; omega
    rw [tailB] at h ⊢
    rw [kidsP, if_neg (by intro h0; rw [h0] at hlen; simp at hlen; omega), if_neg (by omega), if_neg (show ¬ i = 0 by omega), g1, g2, g3, hc]
    rw [if_neg (by simp [zE]; rfl)]
    dsimp only
    rw [Int.toNat_natCast, List.drop_left' (show (ebE (zE s)).length = 18 + (zE s).val.size from ebE_length _)]
    rw [kidsP_tail m _ _ _ (i + 1) k2 t2 s2 (by simpa using h1) (by simpa using h2) (fun j => h3 (j + 1)) (fun x hx => h4 x (List.mem_cons_of_mem _ hx)) (by omega) (by omega)]
    simp [zE, spotE]
  | m + 1, ss, ts, ks, i, [], _ :: _, [], _, h2, _, _, _, _ => by simp at h2
  | m + 1, ss, ts, ks, i, _ :: _, _, [], h1, _, _, _, _, _ => by simp at h1
  | m + 1, ss, ts, ks, i, [], _, _ :: _, h1, _, _, _, _, _ => by simp at h1
  | m + 1, ss, ts, ks, i, _ :: _, [], _ :: _, _, h2, _, _, _, _ => by simp at h2
theorem kids_head {k2 t2 : List Int} {s2 : List DSpot} (h1 : s2.length + 1 = k2.length) (h2 : t2.length = k2.length) (h3 : ∀ (j : Nat) (k t : Int), k2[j]? = some k → t2[j]? = some t → FitK k t) (h4 : ∀ s ∈ s2, chkE (zE s) = 0) : kidsR (headB k2 t2 s2) = (⟨2, [], k2, s2, t2⟩, true) := by
  match k2, t2, h1, h2, h3 with
  | k :: k2, t :: t2, h1, h2, h3 =>
    obtain ⟨g1, g2, g3⟩ := six_got (h3 0 k t rfl rfl) (tailB k2 t2 s2)
    have hlen : (bigL k.toNat 2 ++ (bigL t.toNat 4 ++ tailB k2 t2 s2)).length = 6 + (tailB k2 t2 s2).length := by
      rw [List.length_append, List.length_append, bigL_length, bigL_length]; omega
    unfold kidsR
    rw [headB, kidsP, if_neg (by intro h0; rw [h0] at hlen; simp at hlen; omega), if_neg (by omega), if_pos rfl, g1, g2, g3]
    simp only [List.length_cons] at h1 h2
    rw [kidsP_tail _ _ _ _ 1 k2 t2 s2 (by omega) (by omega) (fun j => h3 (j + 1)) h4 (by omega) (by omega)]
    simp
  | [], [], h1, _, _ => simp at h1
  | k :: k2, [], _, h2, _ => simp at h2
  | [], t :: t2, _, h2, _ => simp at h2
/-! ### Nodes as bytes -/
theorem tail_snoc (k t : Int) (s : DSpot) : ∀ (k2 t2 : List Int) (s2 : List DSpot), k2.length = s2.length → t2.length = s2.length → tailB (k2 ++ [k]) (t2 ++ [t]) (s2 ++ [s]) = tailB k2 t2 s2 ++ (bigL k.toNat 2 ++ (bigL t.toNat 4 ++ ebE (zE s)))
  | [], [], [], _, _ => by simp [tailB]
  | k' :: k2, t' :: t2, s' :: s2, h1, h2 => by
    simp only [List.cons_append, tailB]
    rw [tail_snoc k t s k2 t2 s2 (by simpa using h1) (by simpa using h2)]
    simp
  | [], _ :: _, [], _, h2 => by simp at h2
  | _ :: _, _, [], h1, _ => by simp at h1
  | [], _, _ :: _, h1, _ => by simp at h1
  | _ :: _, [], _ :: _, _, h2 => by simp at h2
theorem head_snoc (k t : Int) (s : DSpot) {k2 t2 : List Int} {s2 : List DSpot} (h1 : s2.length + 1 = k2.length) (h2 : t2.length = k2.length) : headB (k2 ++ [k]) (t2 ++ [t]) (s2 ++ [s]) = headB k2 t2 s2 ++ (bigL k.toNat 2 ++ (bigL t.toNat 4 ++ ebE (zE s))) := by
  match k2, t2, h1, h2 with
  | k' :: k2, t' :: t2, h1, h2 =>
    simp only [List.length_cons] at h1 h2
    simp only [List.cons_append, headB]
    rw [tail_snoc k t s k2 t2 s2 (by omega) (by omega)]
    simp
  | [], _, h1, _ => simp at h1
  | _ :: _, [], _, h2 => simp at h2
theorem tailB_len : ∀ (k2 t2 : List Int) (s2 : List DSpot), (tailB k2 t2 s2).length ≤ 24 * s2.length
  | k :: k2, t :: t2, s :: s2 => by
    have := tailB_len k2 t2 s2
    rw [tailB, List.length_append, List.length_append, List.length_append, bigL_length, bigL_length, zE_length, List.length_cons]; omega
  | [], _, _ => by simp [tailB]
  | _ :: _, [], _ => by simp [tailB]
  | _ :: _, _ :: _, [] => by simp [tailB]
theorem headB_len (k2 t2 : List Int) (s2 : List DSpot) : (headB k2 t2 s2).length ≤ 6 + 24 * s2.length := by
  match k2, t2 with
  | k :: k2, t :: t2 =>
    have := tailB_len k2 t2 s2
    rw [headB, List.length_append, List.length_append, bigL_length, bigL_length]; omega
  | [], _ => simp [headB]
  | _ :: _, [] => simp [headB]
def bodyN (n : DNode) : List UInt8 := n.elems.flatMap ebE ++ headB n.kids n.tids n.seps
def pageB (n : DNode) : List UInt8 := fput (n.kind + 1).toNat (bodyN n)
/-- What holds of the parts of a right node. -/
structure Parts (n : DNode) : Prop where
  kind : 0 ≤ n.kind ∧ n.kind ≤ 2
  elems : n.elems.length ≤ 8
  kids : n.kids.length ≤ 8
  seps : n.seps.length ≤ 7
  ok : ∀ e ∈ n.elems, chkE e = 0
  fit : ∀ (j : Nat) (k t : Int), n.kids[j]? = some k → n.tids[j]? = some t → FitK k t
  sep : ∀ s ∈ n.seps, chkE (zE s) = 0
  tids : n.tids.length = n.kids.length
  form : (n.kids = [] ∧ n.tids = [] ∧ n.seps = []) ∨ (n.elems = [] ∧ n.seps.length + 1 = n.kids.length ∧ n.tids.length = n.kids.length)
theorem parts {n : DNode} (h : chkN n = 0) : Parts n := by
  rcases chkN_zero.1 h with ⟨h0, h1, h2, h3, h4⟩ | ⟨h0, hl⟩ | ⟨h0, hi⟩
  · exact ⟨by omega, by simp [h1], by simp [h2], by simp [h3], by simp [h1], by simp [h2], by simp [h3], by simp [h2, h4], .inl ⟨h2, h4, h3⟩⟩
  · exact ⟨by omega, hl.len, by simp [hl.kids], by simp [hl.seps], hl.ok, by simp [hl.kids], by simp [hl.seps], by simp [hl.kids, hl.tids], .inl ⟨hl.kids, hl.tids, hl.seps⟩⟩
  · have := hi.seps; have := hi.eight
    refine ⟨by omega, by simp [hi.elems], by omega, by omega, by simp [hi.elems], fun j k t hk ht => ?_, hi.ok, hi.tids, .inr ⟨hi.elems, hi.seps, hi.tids⟩⟩
    have h1 := hi.kid k (List.mem_of_getElem? hk)
    have h2 := hi.tid t (List.mem_of_getElem? ht)
    unfold FitK; omega
theorem body_len {n : DNode} (h : chkN n = 0) : (bodyN n).length ≤ 672 := by
  have p := parts h
  have h1 := flat_len n.elems p.ok
  have h2 := headB_len n.kids n.tids n.seps
  have h3 := p.elems; have h4 := p.seps
  unfold bodyN
  rw [List.length_append]; omega
theorem page_Write_eq (n : DNode) (hs : Small n) : page_Write F n = some (if chkN n = 0 then (ofL (pageB n), 0) else (ofL [], chkN n)) := by
  unfold page_Write
  rw [node_Check_eq n hs, Option.bind_some]
  by_cases h : chkN n = 0
  · rw [bne0_false h, cond_false, if_pos h]
    have p := parts h
    have h8 := p.elems
    have hk8 := p.kids
    have hs7 := p.seps
    have hfl : ∀ k, ((n.elems.take k).flatMap ebE).length ≤ 58 * 8 := fun k => by
      have := flat_len (n.elems.take k) (fun e he => p.ok e (List.mem_of_mem_take he))
      have h2 : (n.elems.take k).length ≤ 8 := by rw [List.length_take]; omega
      omega
    rw [loop_run (fun k => (ofL ((n.elems.take k).flatMap ebE), (k : Int))) n.elems.length (r := ofL (n.elems.flatMap ebE)) (by simp; rfl) (by omega) (fun k hk => ?_) ?_, Option.bind_some]
    · have hl0 := hfl n.elems.length
      rw [List.take_length] at hl0
      generalize hB : n.elems.flatMap ebE = B at hl0
      have hhl : ∀ j, (headB (n.kids.take j) (n.tids.take j) (n.seps.take (j - 1))).length ≤ 200 := fun j => by
        have h1 := headB_len (n.kids.take j) (n.tids.take j) (n.seps.take (j - 1))
        have h2 : (n.seps.take (j - 1)).length ≤ 7 := by rw [List.length_take]; omega
        omega
      rw [loop_run (fun j => (ofL (B ++ headB (n.kids.take j) (n.tids.take j) (n.seps.take (j - 1))), (j : Int))) n.kids.length (r := ofL (bodyN n)) (by simp [headB]) (by omega) (fun j hj => ?_) ?_, Option.bind_some]
      · have hbl := body_len h
        have e1 : IntKind.i64.wrap (1 + n.kind) = ((n.kind + 1).toNat : Int) := by rw [w64 (by have := p.kind; omega) (by have := p.kind; omega)]; have := p.kind; omega
        rw [e1, frame_Put_good _ _ (by have := p.kind; omega) (by have := p.kind; omega) (by omega), Option.bind_some]
        rfl
      · dsimp only
        rw [decide_eq_false (by omega), cond_false]
        have e1 : n.seps.take (n.kids.length - 1) = n.seps := by
          rcases p.form with ⟨_, _, e⟩ | ⟨_, e, _⟩
          · rw [e]; simp
          · rw [List.take_of_length_le (by omega)]
        rw [List.take_length, List.take_of_length_le (show n.tids.length ≤ n.kids.length by have := p.tids; omega), e1, ← hB]; rfl
      · have ht := p.tids
        have hf := p.form
        obtain ⟨f1, f2, f3⟩ : n.elems = [] ∧ n.seps.length + 1 = n.kids.length ∧ n.tids.length = n.kids.length := by
          rcases hf with ⟨e, _⟩ | e
          · rw [e] at hj; simp at hj
          · exact e
        have xk := List.getElem?_eq_getElem hj
        have xt := List.getElem?_eq_getElem (show j < n.tids.length by omega)
        obtain ⟨a1, a2, a3, a4⟩ := p.fit j _ _ xk xt
        have hh := hhl j
        generalize hkk : n.kids[j] = k at a1 a2 xk
        generalize htt : n.tids[j]'(by omega) = t at a3 a4 xt
        have p2 : big_Put F k 2 = some (ofL (bigL k.toNat 2)) := by
          have := big_Put_eq (F := F) k.toNat 2 (by omega)
          rw [Int.toNat_of_nonneg a1] at this; exact this
        have p4 : big_Put F t 4 = some (ofL (bigL t.toNat 4)) := by
          have := big_Put_eq (F := F) t.toNat 4 (by omega)
          rw [Int.toNat_of_nonneg a3] at this; exact this
        have l2 := bigL_length k.toNat 2
        have l4 := bigL_length t.toNat 4
        have tk : n.kids.take (j + 1) = n.kids.take j ++ [k] := by rw [List.take_add_one, xk]; rfl
        have tt : n.tids.take (j + 1) = n.tids.take j ++ [t] := by rw [List.take_add_one, xt]; rfl
        dsimp only
        rw [decide_eq_true (by omega), cond_true, idx_nat', xk, Option.bind_some, p2, Option.bind_some, idx_nat', xt, Option.bind_some, p4, Option.bind_some, scat_ofL (by omega), Option.bind_some, scat_ofL (by rw [List.length_append, List.length_append]; omega), Option.bind_some]
        cases j with
        | zero =>
          rw [decide_eq_false (by omega), cond_false, Option.bind_some, w64 (by omega) (by omega)]
          rw [tk, tt]
          simp [headB, tailB]
        | succ i =>
          have xs := List.getElem?_eq_getElem (show i < n.seps.length by omega)
          generalize hss : n.seps[i]'(by omega) = s at xs
          have hz := p.sep s (List.mem_of_getElem? xs)
          have ts : n.seps.take (i + 1) = n.seps.take i ++ [s] := by rw [List.take_add_one, xs]; rfl
          have zl := zE_length s
          have cw : code_Write F (DElem.mk s.key s.made 0 (ByteArray.mk #[])) = some (ofL (ebE (zE s)), 0) := by
            have := code_Write_eq (F := F) (zE s)
            rw [if_pos hz] at this; exact this
          have e1 : IntKind.i64.wrap (((i + 1 : Nat) : Int) - 1) = (i : Int) := by rw [w64 (by omega) (by omega)]; omega
          rw [decide_eq_true (show (0 : Int) < ((i + 1 : Nat) : Int) by omega), cond_true, e1, idx_nat', xs, Option.bind_some, Option.bind_some, cw, Option.bind_some]
          dsimp only
          rw [scat_ofL (by simp only [List.length_append]; omega), Option.bind_some, Option.bind_some, w64 (by omega) (by omega)]
          rw [tk, tt, show i + 1 + 1 - 1 = i + 1 from rfl, ts, show i + 1 - 1 = i from rfl, head_snoc k t s (by rw [List.length_take, List.length_take]; omega) (by rw [List.length_take, List.length_take]; omega)]
          simp
    · dsimp only
      rw [decide_eq_false (by omega), cond_false, List.take_length]
    · have xe := List.getElem?_eq_getElem hk
      have he := p.ok _ (List.getElem_mem hk)
      generalize n.elems[k] = e at xe he
      have hl0 := hfl k
      have hle := ebE_length e
      have hv := val_len he
      dsimp only
      rw [decide_eq_true (by omega), cond_true, idx_nat', xe, Option.bind_some, code_Write_eq, Option.bind_some, if_pos he]
      dsimp only
      rw [scat_ofL (by omega), Option.bind_some, w64 (by omega) (by omega), List.take_add_one, xe]
      simp
  · rw [bne0_true h, cond_true, if_neg h]; rfl

/-! ### Bytes as nodes -/
def zN : DNode := ⟨0, [], [], [], []⟩
def bodyP (k : Int) (B : List UInt8) : DNode × Bool :=
  if k = 0 then (⟨k, [], [], [], []⟩, decide (B = [])) else if k = 1 then (⟨k, (allR B).1, [], [], []⟩, (allR B).2 == 0) else if k = 2 then kidsR B else (⟨k, [], [], [], []⟩, true)
def readN (l : List UInt8) : DNode × Int :=
  if (fget l).2.2 ≠ 0 then (zN, (fget l).2.2) else if (fget l).2.1 ≠ (l.length : Int) then (zN, 3)
  else if (bodyP ((fget l).1.kind - 1) (fget l).1.body.data.toList).2 = true ∧ chkN (bodyP ((fget l).1.kind - 1) (fget l).1.body.data.toList).1 = 0 then ((bodyP ((fget l).1.kind - 1) (fget l).1.body.data.toList).1, 0) else (zN, 3)
theorem bodyP_small (k : Int) {B : List UInt8} (h : B.length ≤ 3000) : Small (bodyP k B).1 := by
  unfold bodyP
  split
  · exact ⟨by simp, by simp, by simp, by simp⟩
  · split
    · have := allP_len (B.length + 1) [] B
      exact ⟨by show (allR B).1.length ≤ _; unfold allR; simp at this; omega, by simp, by simp, by simp⟩
    · split
      · obtain ⟨h1, h2, h3, h4, _⟩ := kidsP_len (B.length + 1) [] [] [] B 0
        simp only [List.length_nil] at h1 h2 h3
        exact ⟨by show (kidsP _ _ _ _ _ _).1.elems.length ≤ _; rw [h4]; simp, by show (kidsP _ _ _ _ _ _).1.kids.length ≤ _; omega, by show (kidsP _ _ _ _ _ _).1.seps.length ≤ _; omega, by show (kidsP _ _ _ _ _ _).1.tids.length ≤ _; omega⟩
      · exact ⟨by simp, by simp, by simp, by simp⟩
theorem page_Read_eq (l : List UInt8) (hl : l.length ≤ 9223372036854775807) : page_Read F (ofL l) = some (readN l) := by
  unfold page_Read readN
  rw [frame_Get_eq l hl, Option.bind_some]
  have hsz : (ofL l).size = l.length := rfl
  by_cases h : (fget l).2.2 = 0
  · obtain ⟨k, B, g0, g1, g2, g3, g4, g5⟩ := fput_fget h
    rw [if_neg (by simpa using h), bne0_false h, cond_false, hsz]
    by_cases h2 : (fget l).2.1 = (l.length : Int)
    · rw [if_neg (by simpa using h2), show ((fget l).2.1 != (l.length : Int)) = false by simpa using h2, cond_false, g4]
      dsimp only
      have e1 : IntKind.i64.wrap ((k : Int) - 1) = (k : Int) - 1 := w64 (by omega) (by omega)
      have hb : (ofL B).data.toList = B := rfl
      rw [e1, hb]
      generalize hK : (k : Int) - 1 = K
      have hsm := bodyP_small K g2
      have step : ∀ n : DNode, ∀ b : Bool, Small n → ((bif !b then some true else (node_Check F n).bind fun r4 => some (r4 != 0) : Option Bool).bind fun z7 => bif z7 then some ((DNode.mk 0 [] [] [] []), (3 : Int)) else some (n, 0)) = some (if b = true ∧ chkN n = 0 then (n, 0) else (zN, 3)) := fun n b hn => by
        rw [node_Check_eq n hn]
        cases b
        · rw [Bool.not_false, cond_true, Option.bind_some, cond_true, if_neg (by simp)]; rfl
        · rw [Bool.not_true, cond_false, Option.bind_some, Option.bind_some]
          by_cases hc : chkN n = 0
          · rw [bne0_false hc, cond_false, if_pos ⟨rfl, hc⟩]
          · rw [bne0_true hc, cond_true, if_neg (fun hh => hc hh.2)]; rfl
      unfold bodyP at hsm ⊢
      by_cases k0 : K = 0
      · rw [if_pos k0] at hsm ⊢
        rw [show (K == 0) = true by simpa using k0, cond_true, Option.bind_some, seq_nil]
        exact step _ _ hsm
      rw [if_neg k0] at hsm ⊢
      rw [show (K == 0) = false by simpa using k0, cond_false]
      by_cases k1 : K = 1
      · rw [if_pos k1] at hsm ⊢
        rw [show (K == 1) = true by simpa using k1, cond_true, code_All_eq B (by omega), Option.bind_some, Option.bind_some]
        exact step _ _ hsm
      rw [if_neg k1] at hsm ⊢
      rw [show (K == 1) = false by simpa using k1, cond_false]
      by_cases k2 : K = 2
      · rw [if_pos k2] at hsm ⊢
        rw [show (K == 2) = true by simpa using k2, cond_true, page_kids_eq B (by omega), Option.bind_some, Option.bind_some]
        exact step (kidsR B).1 _ hsm
      · rw [if_neg k2] at hsm ⊢
        rw [show (K == 2) = false by simpa using k2, cond_false, Option.bind_some]
        exact step _ _ hsm
    · rw [if_pos h2, show ((fget l).2.1 != (l.length : Int)) = true by simpa using h2, cond_true]; rfl
  · rw [if_pos h, bne0_true h, cond_true]; rfl
theorem body_back {n : DNode} (h : chkN n = 0) : bodyP n.kind (bodyN n) = (n, true) := by
  have p := parts h
  rcases chkN_zero.1 h with ⟨h0, h1, h2, h3, h4⟩ | ⟨h0, hl⟩ | ⟨h0, hi⟩
  · obtain ⟨k, a, b, c, d⟩ := n
    simp only at h0 h1 h2 h3 h4
    subst h0 h1 h2 h3 h4
    rfl
  · unfold bodyP
    have e1 : bodyN n = n.elems.flatMap ebE := by unfold bodyN; rw [hl.kids]; simp [headB]
    rw [if_neg (by omega), if_pos h0, e1, allR, allP_ebs _ _ _ p.ok (by omega)]
    obtain ⟨k, a, b, c, d⟩ := n
    have h1 := hl.kids; have h2 := hl.seps; have h3 := hl.tids
    simp only at h0 h1 h2 h3
    subst h0 h1 h2 h3
    rfl
  · unfold bodyP
    have e1 : bodyN n = headB n.kids n.tids n.seps := by unfold bodyN; rw [hi.elems]; simp
    rw [if_neg (by omega), if_neg (by omega), if_pos h0, e1, kids_head hi.seps hi.tids p.fit p.sep]
    obtain ⟨k, a, b, c, d⟩ := n
    have h1 := hi.elems
    simp only at h0 h1
    subst h0 h1
    rfl
theorem page_length (n : DNode) : (pageB n).length = (bodyN n).length + 5 := fput_length _ _
theorem page_get {n : DNode} (h : chkN n = 0) (more : List UInt8) : fget (pageB n ++ more) = (⟨n.kind + 1, ofL (bodyN n)⟩, (((bodyN n).length + 5 : Nat) : Int), 0) := by
  have p := parts h
  have := body_len h
  have := p.kind
  unfold pageB
  rw [fget_fput _ _ _ (by omega) (by omega) (by omega), Int.toNat_of_nonneg (by omega)]
theorem read_page {n : DNode} (h : chkN n = 0) : readN (pageB n) = (n, 0) := by
  have hg := page_get h []
  have hl := page_length n
  rw [List.append_nil] at hg
  unfold readN
  rw [hg]
  dsimp only
  rw [if_neg (by simp), if_neg (by rw [hl]; simp), show n.kind + 1 - 1 = n.kind by omega, show (ofL (bodyN n)).data.toList = bodyN n from rfl, body_back h]
  exact if_pos ⟨rfl, h⟩
theorem read_short {n : DNode} (h : chkN n = 0) {j : Nat} (hj : j < (pageB n).length) : (readN ((pageB n).take j)).2 = 7 := by
  have p := parts h
  have := body_len h
  have := p.kind
  have hl := page_length n
  have hf := fget_short (n.kind + 1).toNat (bodyN n) (by omega) (by omega) (by omega) j (by omega)
  unfold readN
  rw [show fget ((pageB n).take j) = fget ((fput (n.kind + 1).toNat (bodyN n)).take j) from rfl, if_pos (by rw [hf]; decide)]
  exact hf
theorem read_long {n : DNode} (h : chkN n = 0) : readN (pageB n ++ [0]) = (zN, 3) := by
  have hl := page_length n
  unfold readN
  rw [page_get h [0]]
  dsimp only
  rw [if_neg (by simp), if_pos (by rw [List.length_append, hl, List.length_singleton]; omega)]
theorem page_read {l : List UInt8} {n : DNode} (h : readN l = (n, 0)) : chkN n = 0 ∧ pageB n = l := by
  unfold readN at h
  by_cases h0 : (fget l).2.2 = 0
  · obtain ⟨k, B, g0, g1, g2, g3, g4, g5⟩ := fput_fget h0
    rw [if_neg (by simpa using h0)] at h
    by_cases h2 : (fget l).2.1 = (l.length : Int)
    · rw [if_neg (by simpa using h2)] at h
      rw [g4] at h h2
      dsimp only at h h2
      rw [show (ofL B).data.toList = B from rfl] at h
      rw [List.take_of_length_le (by omega)] at g5
      split at h
      · rename_i hc
        obtain ⟨hc1, hc2⟩ := hc
        have hn := (Prod.mk.inj h).1
        rw [hn] at hc2
        refine ⟨hc2, ?_⟩
        have p := parts hc2
        have key : n.kind = (k : Int) - 1 ∧ bodyN n = B := by
          unfold bodyP at hn hc1
          by_cases k0 : (k : Int) - 1 = 0
          · rw [if_pos k0] at hn hc1
            subst hn
            refine ⟨rfl, ?_⟩
            have : B = [] := by simpa using hc1
            rw [this]; rfl
          rw [if_neg k0] at hn hc1
          by_cases k1 : (k : Int) - 1 = 1
          · rw [if_pos k1] at hn hc1
            subst hn
            refine ⟨rfl, ?_⟩
            obtain ⟨fs, e1, e2⟩ := allP_inv (B.length + 1) [] B (allR B).1 (by omega) (Prod.ext rfl (show (allR B).2 = 0 by simpa using hc1))
            unfold bodyN
            rw [show (allR B).1 = fs by simpa using e1]
            simp [headB, ← e2]
          rw [if_neg k1] at hn hc1
          by_cases k2 : (k : Int) - 1 = 2
          · rw [if_pos k2] at hn hc1
            obtain ⟨a, b, c, e1, e2⟩ := kids_inv (l := B) (n := n) (Prod.ext hn hc1)
            rw [e1]
            refine ⟨by show (2 : Int) = _; omega, ?_⟩
            unfold bodyN
            simp [← e2]
          · rw [if_neg k2] at hn
            exfalso
            have := p.kind
            rw [← hn] at this
            simp only at this
            omega
        unfold pageB
        rw [key.1, key.2, ← g5, show ((k : Int) - 1 + 1).toNat = k by omega]
      · cases (Prod.mk.inj h).2
    · rw [if_pos h2] at h
      cases (Prod.mk.inj h).2
  · rw [if_pos h0] at h
    exact absurd (Prod.mk.inj h).2 h0
theorem page_bad {l : List UInt8} (h : (readN l).2 ≠ 0) : (readN l).1 = zN := by
  unfold readN at h ⊢
  split
  · rfl
  · split
    · rfl
    · split
      · rename_i h1 h2 h3
        rw [if_neg h1, if_neg h2, if_pos h3] at h
        exact absurd rfl h
      · rfl
/-- Nodes are the same. -/
theorem eqSpot (p q : List DSpot) (hp : p.length ≤ 9223372036854775807) : slices_Equal_Spot F p q = some (decide (p = q)) := equalF (fun x y => x == y) (fun x y => by simp) p q hp
theorem sameNode_eq (a b : DNode) (h : Small a) : annalref_SameNode F a b = some (decide (a = b)) := by
  unfold annalref_SameNode
  have h1 := h.elems; have h2 := h.kids; have h3 := h.seps; have h4 := h.tids
  rw [eqElem _ _ (by omega), eqInt _ _ (by omega), eqSpot _ _ (by omega), eqInt _ _ (by omega)]
  obtain ⟨k, p, q, r, s⟩ := a
  obtain ⟨k', p', q', r', s'⟩ := b
  simp only [DNode.mk.injEq, Option.bind_some]
  by_cases c0 : k = k'
  · by_cases c1 : p = p'
    · by_cases c2 : q = q'
      · by_cases c3 : r = r'
        · simp [c0, c1, c2, c3]
        · simp [c0, c1, c2, c3]
      · simp [c0, c1, c2]
    · simp [c0, c1]
  · simp [c0, show (k == k') = false by simpa using c0]
end Go.Proofs.Ytldlakjemifdmaa
