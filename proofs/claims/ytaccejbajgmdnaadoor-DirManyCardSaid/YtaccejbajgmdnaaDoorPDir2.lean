/- Plain Lean: adding and dropping names. Its conditions: none. -/
import Derived.Test.YtaccejbajgmdnaaDoorPDir
namespace Go.Proofs.YtaccejbajgmdnaaDoor
set_option linter.unusedVariables false
set_option linter.unusedSimpArgs false
variable {F : Nat} [Big F]

theorem dec_colon : ∀ (u : Nat), ∀ x ∈ Lib.decDigits u, x ≠ 58 := by
  intro u
  induction u using Nat.strongRecOn with
  | _ u ih =>
    have hd : ∀ d, d < 10 → UInt8.ofNat (48 + d) ≠ 58 := by decide
    rw [Lib.decDigits]
    split
    · rename_i h
      intro x hx
      rw [List.mem_singleton.1 hx]
      exact hd u h
    · rename_i h
      intro x hx
      rcases List.mem_append.1 hx with hx | hx
      · exact ih (u / 10) (by omega) x hx
      · rw [List.mem_singleton.1 hx]
        exact hd (u % 10) (Nat.mod_lt _ (by decide))
theorem dec_len : ∀ (u : Nat), u ≤ 99999999 → (Lib.decDigits u).length ≤ 8 := by
  have key : ∀ (k u : Nat), u < 10 ^ (k + 1) → (Lib.decDigits u).length ≤ k + 1 := by
    intro k
    induction k with
    | zero => intro u hu; rw [Lib.decDigits, dif_pos (by simpa using hu)]; simp
    | succ k ih =>
      intro u hu
      rw [Lib.decDigits]
      split
      · simp
      · rw [List.length_append]
        have := ih (u / 10) (by rw [Nat.pow_succ] at hu; omega)
        simp only [List.length_cons, List.length_nil]; omega
  intro u hu
  exact key 7 u (by omega)
theorem cut_colon (a b : List UInt8) (h : ∀ x ∈ a, x ≠ 58) : Lib.cut (a ++ 58 :: b) [58] = (a, b, true) := by
  have hi : Lib.index (a ++ 58 :: b) [58] = (a.length : Int) := by
    refine Lib.index_first (by simp) ?_ (fun j hj => ?_)
    · unfold Lib.occAt
      rw [List.drop_left]; rfl
    · unfold Lib.occAt
      have hja : j < a.length := hj
      rw [List.drop_append_of_le_length (by omega), List.drop_eq_getElem_cons hja]
      show (([58] : List UInt8).isPrefixOf (a[j] :: (a.drop (j + 1) ++ 58 :: b))) = false
      have := h a[j] (List.getElem_mem hja)
      simp [List.isPrefixOf]
      exact fun hh => this hh.symm
  unfold Lib.cut
  rw [hi, if_pos (by omega), Int.toNat_natCast, List.take_left, show a.length + [(58 : UInt8)].length = a.length + 1 from rfl, List.drop_append]
  simp
def valD (of : Int) (s : List UInt8) : ByteArray := ofL (Lib.itoa of ++ 58 :: s)
theorem ent_new {e : DElem} {of : Int} {s : List UInt8} (h0 : 0 ≤ of) (hv : e.val = valD of s) (h : (entS e).2.2 = true) : (entS e).1 = ofL s := by
  have hc : Lib.cut e.val.data.toList [58] = (Lib.itoa of, s, true) := by
    rw [hv]
    show Lib.cut (Lib.itoa of ++ 58 :: s) [58] = _
    refine cut_colon _ _ ?_
    unfold Lib.itoa
    rw [if_neg (by omega)]
    exact dec_colon _
  unfold entS at h ⊢
  rw [hc] at h ⊢
  dsimp only at h ⊢
  split at h
  · cases h
  · rename_i hn
    rw [if_neg hn]
/-! ### What a search sees -/
theorem look_upd {β : Type} (w : DElem → Option β) {l h : List DElem} {k : DKey} (ho : l.Pairwise Bef) (h1 : (hist l k).findSome? w = h.findSome? w) : (upd l k h).findSome? w = l.findSome? w := by
  conv => rhs; rw [split3 k ho]
  unfold upd
  rw [List.findSome?_append, List.findSome?_append, List.findSome?_append, List.findSome?_append, h1]
theorem none_all {β : Type} {w : DElem → Option β} {l : List DElem} (h : ∀ e ∈ l, w e = none) : l.findSome? w = none := List.findSome?_eq_none_iff.2 h
theorem wD_none {p o t : Int} {s : ByteArray} {e : DElem} (h : live e t = true → (entS e).2.2 = true → (entS e).1 ≠ s) : wD p o s t e = none := by
  unfold wD
  split
  · rfl
  · rename_i hn
    rw [if_neg]
    rintro ⟨h1, h2⟩
    have hl : live e t = true := by
      cases hh : live e t with
      | true => rfl
      | false => exact absurd (Or.inr (Or.inr hh)) hn
    exact h hl h1 h2
theorem fdD_some {l : List DElem} {p o t : Int} {s : ByteArray} (h : (fdD l p o s t).2.2 = true) : ∃ e ∈ l, e.key.pfs = p ∧ e.key.obj = o ∧ live e t = true ∧ (entS e).2.2 = true ∧ (entS e).1 = s ∧ fdD l p o s t = (e, (entS e).2.1, true) := by
  unfold fdD at h ⊢
  cases hf : l.findSome? (wD p o s t) with
  | none => rw [hf] at h; cases h
  | some r =>
    obtain ⟨e, he, hw⟩ := List.exists_of_findSome?_eq_some hf
    unfold wD at hw
    split at hw
    · cases hw
    · rename_i hn
      split at hw
      · rename_i hy
        refine ⟨e, he, ?_, ?_, ?_, hy.1, hy.2, (Option.some.inj hw).symm⟩
        · exact Decidable.not_not.1 fun hh => hn (.inl hh)
        · exact Decidable.not_not.1 fun hh => hn (.inr (.inl hh))
        · cases hh : live e t with
          | true => rfl
          | false => exact absurd (Or.inr (Or.inr hh)) hn
      · cases hw
/-! ### Add -/
theorem atE_four {l : List DElem} {k : DKey} {t : Int} (hr : Run l) (h : atE l k t = 4) : atR l k t = none ∧ chkK k = 0 := by
  unfold atE at h
  rw [if_neg (by simpa using chkR_zero.2 hr)] at h
  rcases chkK_one k with hk | hk
  · rw [if_neg (by simpa using hk)] at h
    split at h
    · rename_i hn; exact ⟨Option.isNone_iff_eq_none.1 hn, hk⟩
    · cases h
  · rw [if_pos (by omega), hk] at h; cases h
def addW (l : List DElem) (p o : Int) (s : List UInt8) (of t : Int) (n : Nat) (_ : Unit) : Option (Unit ⊕ (List DElem × Int)) :=
  if atE l (slotS p o s (n : Int)) 2147483647 = 4 then some (Sum.inr (if putE l (slotS p o s (n : Int)) (valD of s) t = 0 then putR l (slotS p o s (n : Int)) (valD of s) t else [], putE l (slotS p o s (n : Int)) (valD of s) t)) else none
theorem add_cases (l : List DElem) (p o : Int) (s : List UInt8) (of t : Int) : ∃ m e, dir_Add F l p o (ofL s) of t = some (m, e) ∧ (e = 0 → Run l ∧ chkK ⟨p, o, 0⟩ = 0 ∧ nmB s = true ∧ 0 ≤ of ∧
    ∃ k : DKey, atR l k 2147483647 = none ∧ putE l k (valD of s) t = 0 ∧ m = putR l k (valD of s) t) := by
  unfold dir_Add
  rw [dir_look_eq, Option.bind_some]
  by_cases h : lookD l p o = 0
  rotate_left
  · rw [bne0_true h, cond_true]; exact ⟨_, _, rfl, fun h' => absurd h' h⟩
  obtain ⟨hr, hk⟩ := lookD_zero.1 h
  rw [bne0_false h, cond_false, dir_Name_eq, Option.bind_some]
  cases hn : nmB s with
  | false => exact ⟨_, _, rfl, fun h' => by cases h'⟩
  | true =>
    have hs : s.length ≤ 12 := by
      unfold nmB at hn
      simp only [Bool.and_eq_true, decide_eq_true_eq] at hn
      exact hn.2.1
    rw [show (!true) = false from rfl, cond_false]
    by_cases h1 : of < 0
    · rw [decide_eq_true h1]; exact ⟨_, _, rfl, fun h' => by cases h'⟩
    · rw [decide_eq_false h1]
      by_cases h2 : 1048576 < of
      · rw [decide_eq_true h2]; exact ⟨_, _, rfl, fun h' => by cases h'⟩
      · rw [decide_eq_false h2, Bool.or_false, cond_false, dir_find_eq l p o _ _ (by have := hr.len; omega) hr.vals, Option.bind_some]
        cases h3 : (fdD l p o (ofL s) 2147483647).2.2 with
        | true => exact ⟨_, _, rfl, fun h' => by cases h'⟩
        | false =>
          rw [cond_false, loop_find (List.replicate 8 ()) (addW l p o s of t) (.inl ()) (by decide) rfl (fun n x hx _ => ?_) rfl, Option.bind_some]
          · cases hf : ((List.replicate 8 ()).zipIdx).findSome? (fun q => addW l p o s of t q.2 q.1) with
            | none => exact ⟨_, _, rfl, fun h' => by cases h'⟩
            | some r =>
              obtain ⟨n, _, hn8, hw⟩ := find_some hf
              unfold addW at hw
              split at hw
              · rename_i h4
                obtain rfl := Option.some.inj hw
                refine ⟨_, _, rfl, fun h' => ⟨hr, hk, rfl, by omega, slotS p o s (n : Int), (atE_four hr h4).1, h', if_pos h'⟩⟩
              · cases hw
          · have hn8 : n < 8 := by have := (List.getElem?_eq_some_iff.1 hx).1; simpa using this
            have hit : strconv_Itoa of = some (ofL (Lib.itoa of)) := by
              unfold strconv_Itoa
              rw [if_pos ⟨by omega, by omega⟩]; rfl
            have hil : (Lib.itoa of).length ≤ 8 := by
              unfold Lib.itoa
              rw [if_neg h1]
              exact dec_len _ (by omega)
            rw [decide_eq_true (by omega), cond_true, dir_slot_eq _ _ _ (by omega) (by omega) (by omega), Option.bind_some, run_At_eq, Option.bind_some]
            dsimp only
            unfold addW
            by_cases h4 : atE l (slotS p o s (n : Int)) 2147483647 = 4
            · rw [show (atE l (slotS p o s (n : Int)) 2147483647 == 4) = true by simpa using h4, cond_true, hit, Option.bind_some, show (ByteArray.mk #[58] : ByteArray) = ofL [58] from rfl, scat_ofL (by simp; omega), Option.bind_some, scat_ofL (by simp; omega), Option.bind_some, if_pos h4, List.append_assoc]
              show (run_Put F l (slotS p o s (n : Int)) (valD of s) t).bind _ = _
              rw [run_Put_eq, Option.bind_some]
            · rw [show (atE l (slotS p o s (n : Int)) 2147483647 == 4) = false by simpa using h4, cond_false, if_neg h4, w64 (by omega) (by omega)]
/-! ### Drop -/
theorem drop_cases (l : List DElem) (p o : Int) (s : List UInt8) (t : Int) : ∃ m e, dir_Drop F l p o (ofL s) t = some (m, e) ∧ (e ≠ 0 → m = []) ∧ (e = 0 → Run l ∧ chkK ⟨p, o, 0⟩ = 0 ∧ nmB s = true ∧
    (fdD l p o (ofL s) 2147483647).2.2 = true ∧ cutE l (fdD l p o (ofL s) 2147483647).1.key t = 0 ∧ m = cutR l (fdD l p o (ofL s) 2147483647).1.key t) := by
  unfold dir_Drop
  rw [dir_look_eq, Option.bind_some]
  by_cases h : lookD l p o = 0
  rotate_left
  · rw [bne0_true h, cond_true]; exact ⟨_, _, rfl, fun _ => rfl, fun h' => absurd h' h⟩
  obtain ⟨hr, hk⟩ := lookD_zero.1 h
  rw [bne0_false h, cond_false, dir_Name_eq, Option.bind_some]
  cases hn : nmB s with
  | false => exact ⟨_, _, rfl, fun _ => rfl, fun h' => by cases h'⟩
  | true =>
    rw [show (!true) = false from rfl, cond_false, dir_find_eq l p o _ _ (by have := hr.len; omega) hr.vals, Option.bind_some]
    cases h3 : (fdD l p o (ofL s) 2147483647).2.2 with
    | false => exact ⟨_, _, rfl, fun _ => rfl, fun h' => by cases h'⟩
    | true =>
      rw [show (!true) = false from rfl, cond_false, run_Cut_eq, Option.bind_some]
      exact ⟨_, _, rfl, fun h' => if_neg h', fun h' => ⟨hr, hk, rfl, rfl, h', if_pos h'⟩⟩
/-! ### The first name -/
def K0 : DKey := slotS 0 1 [97, 98] 0
theorem K0_ok : chkK K0 = 0 := by
  have := (crc [97, 98]).isLt
  unfold K0 slotS chkK
  rw [if_neg]
  dsimp only
  omega
theorem itoa7 : Lib.itoa 7 = [55] := by
  unfold Lib.itoa
  rw [if_neg (by decide), show (7 : Int).toNat = 7 from rfl, Lib.decDigits, dif_pos (by decide)]; rfl
theorem val7 : valD 7 [97, 98] = ofL [55, 58, 97, 98] := by unfold valD; rw [itoa7]; rfl
def e0 : DElem := newE K0 (valD 7 [97, 98]) 1
theorem e0_ok : chkE e0 = 0 := chkE_new K0_ok (by decide) (by decide) (by rw [val7]; decide)
theorem put0 : putR [] K0 (valD 7 [97, 98]) 1 = [e0] := rfl
theorem put0_ok : putE [] K0 (valD 7 [97, 98]) 1 = 0 := putE_zero.2 ⟨Run.nil, e0_ok, by decide, by rw [put0]; decide⟩
theorem run0 : Run [e0] := by rw [← put0]; exact Run.nil.putR (by decide) e0_ok (by rw [put0]; decide)
theorem ent0 : ∀ x : DElem, x.key = K0 → x.val = valD 7 [97, 98] → entS x = (ofL [97, 98], 7, true) := fun x hk hv => by
  unfold entS
  have hc : Lib.cut x.val.data.toList [58] = ([55], [97, 98], true) := by rw [hv, val7]; decide
  rw [hc, hk]
  dsimp only
  rw [show atoiS [55] = (7, false) by decide]
  dsimp only
  rw [itoa7, if_neg (by decide)]
  show (ofL [97, 98], (7 : Int), decide (K0.off ≤ K0.off) && decide (K0.off < K0.off + 8)) = _
  rw [decide_eq_true (by omega), decide_eq_true (by omega)]; rfl
theorem find0 : ∀ (x : DElem) (t : Int), x.key = K0 → x.val = valD 7 [97, 98] → live x t = true → fdD [x] 0 1 (ofL [97, 98]) t = (x, 7, true) := fun x t hk hv hl => by
  unfold fdD
  rw [List.findSome?_cons]
  unfold wD
  rw [if_neg (by rw [hk, hl]; decide), if_pos (by rw [ent0 x hk hv]; exact ⟨rfl, rfl⟩), ent0 x hk hv]; rfl
theorem add0 : dir_Add F ([] : List DElem) 0 1 (ByteArray.mk #[97, 98]) 7 1 = some ([e0], 0) := by
  unfold dir_Add
  rw [show (ByteArray.mk #[97, 98] : ByteArray) = ofL [97, 98] from rfl, dir_look_eq, Option.bind_some, show lookD [] 0 1 = 0 by decide, bne0_false rfl, cond_false, dir_Name_eq, Option.bind_some, show nmB [97, 98] = true by decide, show (!true) = false from rfl, cond_false, show ((decide ((7 : Int) < 0)) || (decide ((1048576 : Int) < 7))) = false by decide, cond_false, dir_find_eq [] 0 1 _ _ (by decide) (fun e he => by cases he), Option.bind_some, show (fdD [] 0 1 (ofL [97, 98]) 2147483647).2.2 = false from rfl, cond_false, loop_run (s := (0 : Int)) (fun k => (k : Int)) 0 (r := .inr ([e0], 0)) rfl (by decide) (fun k hk => absurd hk (Nat.not_lt_zero _)) ?_, Option.bind_some]
  rw [show decide (((0 : Nat) : Int) < 8) = true by decide, cond_true, show ((0 : Nat) : Int) = 0 from rfl, dir_slot_eq _ _ _ (by decide) (by decide) (by decide), Option.bind_some, run_At_eq, Option.bind_some]
  dsimp only
  have h4 : atE [] (slotS 0 1 [97, 98] 0) 2147483647 = 4 := by
    unfold atE
    rw [if_neg (by decide), if_neg (by simpa using (show chkK (slotS 0 1 [97, 98] 0) = 0 from K0_ok))]; rfl
  rw [h4, show ((4 : Int) == 4) = true from rfl, cond_true, show strconv_Itoa 7 = some (ofL [55]) by unfold strconv_Itoa; rw [if_pos (by decide), itoa7]; rfl, Option.bind_some, show (ByteArray.mk #[58] : ByteArray) = ofL [58] from rfl, scat_ofL (by decide), Option.bind_some, scat_ofL (by decide), Option.bind_some]
  have hv : ofL (([55] ++ [58]) ++ [97, 98]) = valD 7 [97, 98] := val7.symm
  rw [hv]
  show (run_Put F [] K0 (valD 7 [97, 98]) 1).bind _ = _
  rw [run_Put_eq, Option.bind_some]
  dsimp only
  rw [if_pos put0_ok, put0_ok, put0]
theorem live0 {t : Int} (h : 1 ≤ t) : live e0 t = true := live_iff.2 ⟨h, .inl rfl⟩
theorem last0 : lastL [e0] ≤ 1 := by decide
theorem now0 : nowR [e0] K0 = some e0 := by
  rw [← put0]; exact now_put_self Run.nil (by decide) e0_ok (by rw [put0]; decide)
theorem drop0 {t : Int} (h1 : 1 ≤ t) (h2 : t ≤ 2147483647) : dir_Drop F [e0] 0 1 (ByteArray.mk #[97, 98]) t = some (cutR [e0] K0 t, 0) := by
  unfold dir_Drop
  have hc : cutE [e0] K0 t = 0 := cutE_zero.2 ⟨run0, K0_ok, h1, h2, Int.le_trans last0 h1, by rw [now0]; rfl⟩
  rw [show (ByteArray.mk #[97, 98] : ByteArray) = ofL [97, 98] from rfl, dir_look_eq, Option.bind_some, lookD_zero.2 ⟨run0, by decide⟩, bne0_false rfl, cond_false, dir_Name_eq, Option.bind_some, show nmB [97, 98] = true by decide, show (!true) = false from rfl, cond_false, dir_find_eq [e0] 0 1 _ _ (by decide) run0.vals, Option.bind_some, find0 e0 _ rfl rfl (live0 (by decide))]
  dsimp only
  rw [show (!true) = false from rfl, cond_false]
  show (run_Cut F [e0] K0 t).bind _ = _
  rw [run_Cut_eq, Option.bind_some, if_pos hc, hc]
theorem cut1 : cutR [e0] K0 1 = [] := by rw [← put0, cut_put Run.nil (by decide)]; rfl
theorem cut3 : cutR [e0] K0 3 = [{ e0 with gone := 3 }] := by
  have hh : hist [e0] K0 = [e0] := by unfold hist; simp [e0, newE]
  have hlo : lo [e0] K0 = [] := by unfold lo; simp [e0, newE, key_eq_iff.2 rfl]
  have hhi : hi [e0] K0 = [] := by unfold hi; simp [e0, newE, key_eq_iff.2 rfl]
  unfold cutR upd
  rw [hh, hlo, hhi]
  rfl
end Go.Proofs.YtaccejbajgmdnaaDoor
