/- Plain Lean: what the functions on runs compute. Its conditions: none. -/
import Derived.Test.YtacjdfhllomccaaGreatDoorRunFJ
import Derived.Test.YtacjdfhllomccaaGreatDoorMRunJ
import Derived.Test.YtacjdfhllomccaaGreatDoorPLoopJ
namespace Go.Proofs.YtacjdfhllomccaaGreatDoor
set_option linter.unusedVariables false
set_option linter.unusedSimpArgs false
variable {F : Nat} [Big F]
theorem elem_Spot_eq (e : DElem) : elem_Spot e = some (spotE e) := rfl
def befB (p e : DElem) : Bool := decide (cmpS (spotE p) (spotE e) < 0) && (p.key != e.key || (p.gone != 0 && decide (p.gone ≤ e.made)))
theorem befB_iff {p e : DElem} : befB p e = true ↔ Bef p e := by
 unfold befB Bef
 simp only [Bool.and_eq_true, Bool.or_eq_true, decide_eq_true_eq, bne_iff_ne, ne_eq]
 constructor
 · rintro ⟨h1, h2⟩; exact ⟨h1, fun hk => h2.resolve_left fun h => h hk⟩
 · rintro ⟨h1, h2⟩; exact ⟨h1, (Decidable.em (p.key = e.key)).elim (fun h => .inr (h2 h)) .inl⟩
def badAt (l : List DElem) (k : Nat) (e : DElem) : Option Int :=
 if chkE e ≠ 0 then some (chkE e) else if k = 0 then none else
  match l[k - 1]? with
  | some p => if befB p e then none else some 3
  | none => none
theorem badAt_zero {l : List DElem} {e : DElem} (h : chkE e = 0) : badAt l 0 e = none := by unfold badAt; rw [if_neg (by simpa using h), if_pos rfl]
theorem badAt_succ {l : List DElem} {j : Nat} {p e : DElem} (h : chkE e = 0) (hj : l[j]? = some p) : badAt l (j + 1) e = if befB p e then none else some 3 := by
 unfold badAt; rw [if_neg (by simpa using h), if_neg (by omega), Nat.add_sub_cancel, hj]
theorem badAt_bad {l : List DElem} {k : Nat} {e : DElem} (h : chkE e ≠ 0) : badAt l k e = some (chkE e) := by unfold badAt; rw [if_pos h]
def chkR (l : List DElem) : Int := if 400 < l.length then 2 else ((l.zipIdx).findSome? fun p => badAt l p.2 p.1).getD 0
theorem findSome_map {α β γ : Type} (g : β → γ) (w : α → Option β) : ∀ l : List α, (l.findSome? fun a => (w a).map g) = (l.findSome? w).map g
 | [] => rfl
 | a :: l => by
  rw [List.findSome?_cons, List.findSome?_cons]
  cases w a with
  | some b => rfl
  | none => exact findSome_map g w l
theorem run_Check_eq (l : List DElem) : run_Check F l = some (chkR l) := by
 unfold run_Check chkR
 by_cases hl : 400 < l.length
 · rw [if_pos hl, decide_eq_true (by omega), cond_true]
 · rw [if_neg hl, decide_eq_false (by omega), cond_false]
   rw [loop_find l (fun k e => (badAt l k e).map Sum.inr) (Sum.inl ()) (by omega) rfl (fun k e hk hb => ?_) (by simp)]
   · rw [findSome_map]
     cases l.zipIdx.findSome? fun p => badAt l p.2 p.1 <;> rfl
   · have hkl := (List.getElem?_eq_some_iff.1 hk).1
     rw [decide_eq_true (by omega), cond_true, idx_nat', hk, Option.bind_some, elem_Check_eq, Option.bind_some]
     by_cases hc : chkE e = 0
     · rw [bne0_false hc, cond_false]
       cases k with
       | zero => rw [badAt_zero hc]; simp [w64]
       | succ j =>
        obtain ⟨p, hj⟩ : ∃ p, l[j]? = some p := ⟨_, List.getElem?_eq_getElem (show j < l.length by omega)⟩
        rw [badAt_succ hc hj, show (((j + 1 : Nat) : Int) == 0) = false by rw [beq_eq_false_iff_ne]; omega, cond_false, w64 (by omega) (by omega), show (((j + 1 : Nat) : Int) - 1) = (j : Int) by omega, idx_nat', hj, w64 (by omega) (by omega)]
        simp only [Option.bind_some, elem_Spot_eq, key_CmpSpot_eq]
        unfold befB
        by_cases h1 : cmpS (spotE p) (spotE e) < 0
        · rw [decide_eq_false (by omega), cond_false, decide_eq_true h1, Bool.true_and]
          by_cases h2 : p.key = e.key
          · rw [show (p.key == e.key) = true by simpa using h2, cond_true, show (p.key != e.key) = false by simpa using h2, Bool.false_or]
            by_cases h3 : p.gone = 0
            · rw [show (p.gone == 0) = true by simpa using h3, cond_true, show (p.gone != 0) = false by simpa using h3]; rfl
            · rw [show (p.gone == 0) = false by simpa using h3, cond_false, show (p.gone != 0) = true by simpa using h3, Bool.true_and]
              by_cases h4 : p.gone ≤ e.made
              · rw [decide_eq_false (by omega), decide_eq_true h4]; rfl
              · rw [decide_eq_true (by omega), decide_eq_false h4]; rfl
          · rw [show (p.key == e.key) = false by simpa using h2, cond_false, show (p.key != e.key) = true by simpa using h2]; rfl
        · rw [decide_eq_true (by omega), cond_true, decide_eq_false h1]; rfl
     · rw [bne0_true hc, cond_true, badAt_bad hc]; rfl
theorem chkR_zero {l : List DElem} : chkR l = 0 ↔ Run l := by
 unfold chkR
 by_cases hl : 400 < l.length
 · rw [if_pos hl]
   constructor
   · intro h; cases h
   · intro h; have := h.len; omega
 · rw [if_neg hl]
   cases hf : l.zipIdx.findSome? fun p => badAt l p.2 p.1 with
   | some c =>
    obtain ⟨k, e, hk, hb⟩ := find_some hf
    rw [Option.getD_some]
    constructor
    · intro hc
      subst hc
      unfold badAt at hb
      split at hb
      · rename_i h; exact absurd (Option.some.inj hb) h
      · split at hb
        · cases hb
        · split at hb
          · split at hb
            · cases hb
            · cases hb
          · cases hb
    · intro h
      have he := h.ok e (List.mem_of_getElem? hk)
      cases k with
      | zero => rw [badAt_zero he] at hb; cases hb
      | succ j =>
       have hkl := (List.getElem?_eq_some_iff.1 hk).1
       have hj : l[j]? = some l[j] := List.getElem?_eq_getElem (by omega)
       have hp := List.pairwise_iff_getElem.1 h.ord j (j + 1) (by omega) hkl (by omega)
       rw [(List.getElem?_eq_some_iff.1 hk).2] at hp
       rw [badAt_succ he hj, if_pos (befB_iff.2 hp)] at hb
       cases hb
   | none =>
    rw [find_none] at hf
    refine ⟨fun _ => ?_, fun _ => rfl⟩
    have hok : ∀ e ∈ l, chkE e = 0 := fun e he => by
     obtain ⟨k, hk, rfl⟩ := List.getElem_of_mem he
     have h1 := hf k _ (List.getElem?_eq_getElem hk)
     by_cases hc : chkE l[k] = 0
     · exact hc
     · rw [badAt_bad hc] at h1; cases h1
    refine ⟨by omega, hok, ?_⟩
    rw [List.pairwise_iff_getElem]
    have step : ∀ j (hj : j + 1 < l.length), Bef l[j] l[j + 1] := fun j hj => by
     have h1 := hf (j + 1) _ (List.getElem?_eq_getElem hj)
     rw [badAt_succ (hok _ (List.getElem_mem hj)) (List.getElem?_eq_getElem (show j < l.length by omega))] at h1
     split at h1
     · rename_i h; exact befB_iff.1 h
     · cases h1
    have far : ∀ d i (hd : i + d + 1 < l.length), Bef (l[i]'(by omega)) l[i + d + 1] := by
     intro d
     induction d with
     | zero => intro i hd; exact step i hd
     | succ d ih =>
      intro i hd
      have h1 := ih i (by omega)
      have h2 := step (i + d + 1) (by omega)
      exact h1.trans (hok _ (List.getElem_mem _)) h2
    intro i j hi hj hij
    have := far (j - i - 1) i (by omega)
    have e : i + (j - i - 1) + 1 = j := by omega
    simp only [e] at this
    exact this
theorem run_last_eq (l : List DElem) (hl : l.length ≤ 9223372036854775807) : run_last F l = some (lastL l) := by
 unfold run_last lastL
 rw [loop_fold l (fun t e => if t < lastE e then lastE e else t) 0 (r := l.foldl (fun t e => if t < lastE e then lastE e else t) 0) hl rfl (fun k e hk => ?_) (by simp), Option.bind_some]
 have hkl := (List.getElem?_eq_some_iff.1 hk).1
 dsimp only
 rw [decide_eq_true (by omega), cond_true, idx_nat', hk, Option.bind_some, elem_Last_eq, Option.bind_some, w64 (by omega) (by omega)]
theorem run_Last_eq (l : List DElem) : run_Last F l = some (if chkR l = 0 then lastL l else 0, chkR l) := by
 unfold run_Last
 rw [run_Check_eq, Option.bind_some]
 by_cases h : chkR l = 0
 · have := (chkR_zero.1 h).len
   rw [bne0_false h, cond_false, run_last_eq l (by omega), h]; rfl
 · rw [bne0_true h, cond_true, if_neg h]
def zeroE : DElem := ⟨⟨0, 0, 0⟩, 0, 0, ByteArray.mk #[]⟩
def atE (l : List DElem) (k : DKey) (t : Int) : Int := if chkR l ≠ 0 then chkR l else if chkK k ≠ 0 then chkK k else if (atR l k t).isNone then 4 else 0
def atV (l : List DElem) (k : DKey) (t : Int) : DElem := if chkR l = 0 ∧ chkK k = 0 then (atR l k t).getD zeroE else zeroE
theorem run_At_eq (l : List DElem) (k : DKey) (t : Int) : run_At F l k t = some (atV l k t, atE l k t) := by
 unfold run_At atE atV
 rw [run_Check_eq, Option.bind_some, key_Check_eq, Option.bind_some]
 by_cases h : chkR l = 0
 · rw [bne0_false h, cond_false]
   by_cases h2 : chkK k = 0
   · have hlen := (chkR_zero.1 h).len
     rw [bne0_false h2, cond_false, if_pos ⟨h, h2⟩, if_neg (by simpa using h), if_neg (by simpa using h2)]
     rw [loop_first l (fun e => if (e.key == k && live e t) = true then some (Sum.inr (e, 0)) else none) (Sum.inl ()) (by omega) rfl (fun j e hj => ?_) (by simp)]
     · unfold atR
       have : ∀ l : List DElem, l.findSome? (fun e => if (e.key == k && live e t) = true then some (Sum.inr (e, 0) : Unit ⊕ (DElem × Int)) else none) = (l.find? fun e => e.key == k && live e t).map fun e => Sum.inr (e, 0) := by
        intro l
        induction l with
        | nil => rfl
        | cons a l ih =>
         rw [List.findSome?_cons, List.find?_cons]
         cases (a.key == k && live a t)
         · exact ih
         · rfl
       rw [this]
       cases l.find? fun e => e.key == k && live e t <;> rfl
     · have hkl := (List.getElem?_eq_some_iff.1 hj).1
       rw [decide_eq_true (by omega), cond_true, idx_nat', hj, Option.bind_some]
       by_cases hk : e.key = k
       · cases hv : live e t <;> simp [hk, elem_Live_eq, hv, w64 (n := (j : Int) + 1) (by omega) (by omega)]
       · rw [show (e.key == k) = false by simpa using hk, cond_false]
         simp [w64 (n := (j : Int) + 1) (by omega) (by omega)]
   · rw [bne0_true h2, cond_true, if_neg (fun hh => h2 hh.2), if_neg (by simpa using h), if_pos h2]; rfl
 · rw [bne0_true h, cond_true, if_neg (fun hh => h hh.1), if_pos h]; rfl
section
variable {α : Type} {l a b : List α} {x : α}
theorem get_mid (h : l = a ++ x :: b) : l[a.length]? = some x := by rw [h, List.getElem?_append_right (Nat.le_refl _)]; simp
theorem set_mid (h : l = a ++ x :: b) (y : α) : l.set a.length y = a ++ y :: b := by rw [h, List.set_append_right _ _ (Nat.le_refl _)]; simp
theorem take_mid (h : l = a ++ x :: b) : l.take a.length = a := by rw [h]; exact List.take_left
theorem drop_mid (h : l = a ++ x :: b) : l.drop (a.length + 1) = b := by rw [h, List.drop_append]; simp
end
theorem search_mid {i j : Nat} (hj : j ≤ 4611686018427387903) (hi : i ≤ j) : IntKind.i64.wrap (shr .u64 (IntKind.u64.wrap (IntKind.i64.wrap ((i : Int) + (j : Int)))) 1) = (((i + j) / 2 : Nat) : Int) := by
 have e0 : IntKind.i64.wrap ((i : Int) + (j : Int)) = (i : Int) + (j : Int) := w64 (by omega) (by omega)
 have e1 : IntKind.u64.wrap ((i : Int) + (j : Int)) = (i : Int) + (j : Int) := by
  simp [IntKind.wrap, IntKind.bits, IntKind.signed]; omega
 have e2 : shr .u64 ((i : Int) + (j : Int)) 1 = (((i + j) / 2 : Nat) : Int) := by
  unfold shr
  have e3 : min 1 (IntKind.bits .u64) = 1 := by decide
  rw [e3, Int.fdiv_eq_ediv_of_nonneg _ (by decide)]
  omega
 rw [e0, e1, e2, w64 (by omega) (by omega)]
theorem loop_search {f : Int × Int → Option ((Int × Int) ⊕ Int)} (p : Nat → Bool) (n c : Nat) (hn : n ≤ 4611686018427387903) (hc : c ≤ n) (hlo : ∀ j, j < c → p j = false) (hhi : ∀ j, c ≤ j → j < n → p j = true)
 (hs : ∀ i j : Nat, i < j → j ≤ n → f ((i : Int), (j : Int)) = some (.inl (bif p ((i + j) / 2) then ((i : Int), (((i + j) / 2 : Nat) : Int)) else ((((i + j) / 2 : Nat) : Int) + 1, (j : Int))))) (he : ∀ i : Nat, f ((i : Int), (i : Int)) = some (.inr (i : Int))) :
 iter f F (0, (n : Int)) = some (c : Int) := by
 have key : ∀ (d i j N : Nat), j - i ≤ d → i ≤ c → c ≤ j → j ≤ n → d < N → iter f N ((i : Int), (j : Int)) = some (c : Int) := by
  intro d
  induction d with
  | zero =>
   intro i j N hd h1 h2 h3 hN
   obtain ⟨N, rfl⟩ : ∃ M, N = M + 1 := ⟨N - 1, by omega⟩
   obtain rfl : i = c := by omega
   obtain rfl : j = i := by omega
   rw [iter, he]
  | succ d ih =>
   intro i j N hd h1 h2 h3 hN
   obtain ⟨N, rfl⟩ : ∃ M, N = M + 1 := ⟨N - 1, by omega⟩
   rcases Nat.lt_or_ge i j with hij | hij
   · rw [iter, hs i j hij h3]
     dsimp only
     by_cases hp : p ((i + j) / 2) = true
     · rw [hp, cond_true]
       refine ih i ((i + j) / 2) N (by omega) h1 ?_ (by omega) (by omega)
       rcases Nat.lt_or_ge ((i + j) / 2) c with h4 | h4
       · rw [hlo _ h4] at hp; cases hp
       · exact h4
     · rw [show p ((i + j) / 2) = false by simpa using hp, cond_false]
       refine ih ((i + j) / 2 + 1) j N (by omega) ?_ h2 h3 (by omega)
       rcases Nat.lt_or_ge ((i + j) / 2) c with h4 | h4
       · exact h4
       · exact absurd (hhi _ h4 (by omega)) hp
   · obtain rfl : i = c := by omega
     obtain rfl : j = i := by omega
     rw [iter, he]
 exact key n 0 n F (by omega) (by omega) hc (Nat.le_refl _) (lt_big (by omega))
theorem run_place_eq (A B : List DElem) (s : DSpot) (hn : (A ++ B).length ≤ 1000000) (hA : ∀ e ∈ A, cmpS (spotE e) s < 0) (hB : ∀ e ∈ B, 0 ≤ cmpS (spotE e) s) : run_place F (A ++ B) s = some (A.length : Int) := by
 unfold run_place
 have hlen : (A ++ B).length = A.length + B.length := List.length_append
 rw [loop_search (fun j => match (A ++ B)[j]? with | some e => decide (0 ≤ cmpS (spotE e) s) | none => false) (A ++ B).length A.length (by omega) (by omega) (fun j hj => ?_) (fun j h1 h2 => ?_) (fun i j hij hj => ?_) (fun i => by simp), Option.bind_some, Option.bind_some]
 · rw [List.getElem?_append_left hj, List.getElem?_eq_getElem hj]
   simpa using hA _ (List.getElem_mem hj)
 · rw [List.getElem?_append_right h1, List.getElem?_eq_getElem (by omega)]
   simpa using hB _ (List.getElem_mem _)
 · have hm : (i + j) / 2 < (A ++ B).length := by omega
   dsimp only
   rw [decide_eq_true (by omega), cond_true, search_mid (by omega) (by omega), idx_nat', List.getElem?_eq_getElem hm, Option.bind_some, elem_Spot_eq, Option.bind_some, key_CmpSpot_eq, Option.bind_some, Option.bind_some]
   dsimp only
   by_cases hp : 0 ≤ cmpS (spotE (A ++ B)[(i + j) / 2]) s
   · rw [decide_eq_true hp]; rfl
   · rw [decide_eq_false hp, w64 (by omega) (by omega)]; rfl
theorem Run.made {l : List DElem} (h : Run l) {e : DElem} (he : e ∈ l) : 1 ≤ e.made ∧ e.made ≤ 2147483647 := by
 obtain ⟨_, h1, h2, _⟩ := chkE_ok (h.ok e he); exact ⟨h1, h2⟩
theorem hi_spot {l : List DElem} {k : DKey} {t : Int} : ∀ e ∈ hi l k, 0 ≤ cmpS (spotE e) ⟨k, t⟩ := fun e he => by
 have h1 := (mem_hi.1 he).2
 have h2 : cmpS ⟨k, t⟩ (spotE e) < 0 := cmpS_lt.2 (.inl (cmp_cmpK.pos.1 h1))
 have := cmp_cmpS.neg (spotE e) ⟨k, t⟩
 omega
theorem lo_spot {l : List DElem} {k : DKey} {t : Int} : ∀ e ∈ lo l k, cmpS (spotE e) ⟨k, t⟩ < 0 := fun e he => cmpS_lt.2 (.inl (mem_lo.1 he).2)
theorem run_now_place {l : List DElem} (h : Run l) (k : DKey) : run_place F l ⟨k, 2147483648⟩ = some ((lo l k ++ hist l k).length : Int) := by
 have hs : l = (lo l k ++ hist l k) ++ hi l k := by rw [List.append_assoc]; exact split3 k h.ord
 conv => lhs; rw [hs]
 refine run_place_eq _ _ _ (by rw [← hs]; have := h.len; omega) (fun e he => ?_) hi_spot
 rcases List.mem_append.1 he with he | he
 · exact lo_spot e he
 · obtain ⟨h1, h2⟩ := mem_hist.1 he
   have := h.made h1
   exact cmpS_lt.2 (.inr ⟨h2, by show e.made < 2147483648; omega⟩)
theorem run_now_none {l : List DElem} (h : Run l) {k : DKey} (hn : nowR l k = none) : run_now F l k = some (-1) := by
 unfold run_now
 rw [run_now_place h k, Option.bind_some]
 have hs : l = (lo l k ++ hist l k) ++ hi l k := by rw [List.append_assoc]; exact split3 k h.ord
 have hlen : (lo l k ++ hist l k).length ≤ l.length := by have := congrArg List.length hs; rw [List.length_append] at this; omega
 have hl := h.len
 rw [w64 (by omega) (by omega)]
 by_cases h0 : (lo l k ++ hist l k).length = 0
 · rw [h0]; rfl
 · obtain ⟨n, hn'⟩ : ∃ n, (lo l k ++ hist l k).length = n + 1 := ⟨(lo l k ++ hist l k).length - 1, by omega⟩
   rw [hn', decide_eq_false (by omega), cond_false, show (((n + 1 : Nat) : Int) - 1) = (n : Int) by omega, idx_nat', List.getElem?_eq_getElem (show n < l.length by omega)]
   have he : l[n]'(by omega) = (lo l k ++ hist l k)[n]'(by omega) := by
    have e1 : l[n]? = ((lo l k ++ hist l k) ++ hi l k)[n]? := by rw [← hs]
    rw [List.getElem?_append_left (by omega), List.getElem?_eq_getElem (show n < l.length by omega), List.getElem?_eq_getElem (by omega)] at e1
    exact Option.some.inj e1
   simp only [Option.bind_some]
   have hm : l[n]'(by omega) ∈ l := List.getElem_mem _
   by_cases hk : (l[n]'(by omega)).key = k
   · have hg := nowR_none.1 hn _ hm hk
     rw [beq_iff_eq.2 hk, Bool.not_true, cond_false, bne0_true hg, Option.bind_some, cond_true]
   · rw [beq_eq_false_iff_ne.2 hk, Bool.not_false, cond_true, Option.bind_some, cond_true]
theorem run_now_some {l : List DElem} (h : Run l) {k : DKey} {e : DElem} (hn : nowR l k = some e) : ∃ a, hist l k = a ++ [e] ∧ l = (lo l k ++ a) ++ e :: hi l k ∧ run_now F l k = some ((lo l k ++ a).length : Int) := by
 obtain ⟨a, ha, _⟩ := hist_now_some h.ord hn
 obtain ⟨_, hk, hg⟩ := (nowR_some h.ord).1 hn
 have hs : l = (lo l k ++ a) ++ e :: hi l k := by
  conv => lhs; rw [split3 k h.ord, ha]
  simp
 refine ⟨a, ha, hs, ?_⟩
 unfold run_now
 rw [run_now_place h k, Option.bind_some, ha]
 have hl := h.len
 have hlen := congrArg List.length hs
 simp only [List.length_append, List.length_cons, List.length_nil] at hlen ⊢
 rw [w64 (by omega) (by omega), show (((lo l k).length + (a.length + (0 + 1)) : Nat) : Int) - 1 = (((lo l k ++ a).length : Nat) : Int) by simp; omega]
 rw [decide_eq_false (by omega), cond_false, idx_nat']
 have he : l[(lo l k ++ a).length]? = some e := get_mid hs
 rw [he]
 simp [hk, hg]
def putE (l : List DElem) (k : DKey) (v : ByteArray) (t : Int) : Int :=
 if chkR l ≠ 0 then chkR l else if chkE (newE k v t) ≠ 0 then chkE (newE k v t) else if t < lastL l then 9 else if 400 < (putR l k v t).length then 8 else 0
theorem putE_zero {l : List DElem} {k : DKey} {v : ByteArray} {t : Int} : putE l k v t = 0 ↔ Run l ∧ chkE (newE k v t) = 0 ∧ lastL l ≤ t ∧ (putR l k v t).length ≤ 400 := by
 unfold putE
 rw [← chkR_zero]
 split
 · simp_all
 · split
   · simp_all
   · split
     · constructor
       · intro h; cases h
       · omega
     · split
       · constructor
         · intro h; cases h
         · omega
       · simp_all
theorem insert_shift {α : Type} (a b : List α) (x z : α) : (over ((a ++ b) ++ [z]) (a.length + 1) ((((a ++ b) ++ [z]).drop a.length).take (((a ++ b) ++ [z]).drop (a.length + 1)).length)).set a.length x = a ++ x :: b := by
 have e1 : ((a ++ b) ++ [z]).drop a.length = b ++ [z] := by rw [List.append_assoc, List.drop_left]
 have e2 : (((a ++ b) ++ [z]).drop (a.length + 1)).length = b.length := by simp
 rw [e1, e2, List.take_left]
 have e3 : ∃ y, over ((a ++ b) ++ [z]) (a.length + 1) b = a ++ y :: b := by
  unfold over
  have e4 : ((a ++ b) ++ [z]).drop (a.length + 1 + b.length) = [] := List.drop_eq_nil_of_le (by simp; omega)
  rw [e4, List.append_nil]
  cases b with
  | nil => exact ⟨z, by rw [List.append_nil, List.append_nil, List.take_of_length_le (by simp)]⟩
  | cons y b =>
   refine ⟨y, ?_⟩
   rw [List.append_assoc, List.cons_append, List.take_append, List.take_of_length_le (by omega), show a.length + 1 - a.length = 1 by omega]
   simp
 obtain ⟨y, hy⟩ := e3
 rw [hy, set_mid rfl]
theorem put_in {F : Nat} [Big F] (A B : List DElem) (s : DSpot) (x z : DElem) (hn : (A ++ B).length < 400) (hA : ∀ e ∈ A, cmpS (spotE e) s < 0) (hB : ∀ e ∈ B, 0 ≤ cmpS (spotE e) s) :
 ((run_place F (A ++ B) s).bind fun r6 =>
  (grow 56 (A ++ B) [z]).bind fun _ =>
  (lslice ((A ++ B) ++ [z]) (IntKind.i64.wrap (r6 + 1)) (((A ++ B) ++ [z]).length : Int)).bind fun s1 =>
  (lslice ((A ++ B) ++ [z]) r6 (((A ++ B) ++ [z]).length : Int)).bind fun s2 =>
  (idx (over ((A ++ B) ++ [z]) ((IntKind.i64.wrap (r6 + 1)).toNat) (s2.take s1.length)) r6).bind fun e4 =>
  some (((over ((A ++ B) ++ [z]) ((IntKind.i64.wrap (r6 + 1)).toNat) (s2.take s1.length)).set r6.toNat x), (0 : Int))) = some (A ++ x :: B, 0) := by
 have hlen : (A ++ B).length = A.length + B.length := List.length_append
 have hlen2 : ((A ++ B) ++ [z]).length = A.length + B.length + 1 := by simp; omega
 rw [run_place_eq A B s (by omega) hA hB, Option.bind_some, grow_ok (by simp; omega) (by simp; omega), Option.bind_some, w64 (by omega) (by omega),
  show ((A.length : Int) + 1) = ((A.length + 1 : Nat) : Int) by omega, lslice_from (by omega), Option.bind_some, lslice_from (by omega), Option.bind_some, idx_nat', Int.toNat_natCast, Int.toNat_natCast, insert_shift]
 have hov : A.length < (over ((A ++ B) ++ [z]) (A.length + 1) ((((A ++ B) ++ [z]).drop A.length).take (((A ++ B) ++ [z]).drop (A.length + 1)).length)).length := by
  rw [over_length]
  · omega
  · simp; omega
 rw [List.getElem?_eq_getElem hov, Option.bind_some]
theorem run_Put_eq (l : List DElem) (k : DKey) (v : ByteArray) (t : Int) : run_Put F l k v t = some (if putE l k v t = 0 then putR l k v t else [], putE l k v t) := by
 unfold run_Put
 rw [run_Check_eq, Option.bind_some, elem_Check_eq, Option.bind_some]
 show (bif chkR l != 0 then some ([], chkR l) else bif chkE (newE k v t) != 0 then some ([], chkE (newE k v t)) else _) = _
 by_cases h1 : chkR l = 0
 · have hr := chkR_zero.1 h1
   have hl := hr.len
   rw [bne0_false h1, cond_false]
   by_cases h2 : chkE (newE k v t) = 0
   · obtain ⟨_, t0, t1, _⟩ := newE_ok h2
     rw [bne0_false h2, cond_false, run_last_eq l (by omega), Option.bind_some]
     by_cases h3 : t < lastL l
     · have hz : putE l k v t = 9 := by unfold putE; rw [if_neg (by simpa using h1), if_neg (by simpa using h2), if_pos h3]
       rw [decide_eq_true h3, cond_true, hz]; rfl
     · rw [decide_eq_false h3, cond_false, grow_ok (by simp; omega) (by simp; omega), Option.bind_some, List.nil_append]
       have ht : lastL l ≤ t := by omega
       obtain ⟨c1, c2, c3⟩ := hr.clo ht t0 t1 k
       have hpl := put_length (k := k) (v := v) (t := t) hr
       have hE : putE l k v t = if 400 < (putR l k v t).length then 8 else 0 := by
        unfold putE; rw [if_neg (by simpa using h1), if_neg (by simpa using h2), if_neg h3]
       cases hn : nowR l k with
       | none =>
        rw [hn] at hpl
        rw [run_now_none hr hn, Option.bind_some, decide_eq_false (by omega), cond_false]
        simp only [Option.bind_some]
        by_cases h4 : l.length = 400
        · rw [show ((l.length : Int) == 400) = true by rw [beq_iff_eq]; omega, cond_true]
          have hz : putE l k v t = 8 := by rw [hE, if_pos (by rw [hpl]; show 400 < l.length + 1; omega)]
          rw [hz]; rfl
        · rw [show ((l.length : Int) == 400) = false by rw [beq_eq_false_iff_ne]; omega, cond_false]
          have hz : putE l k v t = 0 := by rw [hE, if_neg (by rw [hpl]; show ¬ 400 < l.length + 1; omega)]
          have hs : l = (lo l k ++ hist l k) ++ hi l k := by rw [List.append_assoc]; exact split3 k hr.ord
          have hp := put_in (F := F) (lo l k ++ hist l k) (hi l k) ⟨k, t⟩ (newE k v t) zeroE (by rw [← hs]; omega) (fun e he => by
           rcases List.mem_append.1 he with he | he
           · exact lo_spot e he
           · rw [← hist_now_none (t := t) hn] at he
             exact cmpS_lt.2 (.inr ⟨keys_clo (hist_keys l k) e he, (c3 e he).2⟩)) hi_spot
          rw [← hs] at hp
          have : putR l k v t = (lo l k ++ hist l k) ++ newE k v t :: hi l k := by unfold putR upd; rw [hist_now_none hn]; simp
          rw [hz, if_pos rfl, this]
          exact hp
       | some e =>
        rw [hn] at hpl
        obtain ⟨a, ha, hs, hnow⟩ := run_now_some (F := F) hr hn
        obtain ⟨a', ha', hclo⟩ := clo_now (t := t) hr.ord hn
        obtain ⟨hm, hk, hg⟩ := (nowR_some hr.ord).1 hn
        obtain rfl : a = a' := by
         have := ha.symm.trans ha'
         exact List.append_cancel_right this
        have hget : l[(lo l k ++ a).length]? = some e := get_mid hs
        rw [hnow, Option.bind_some, decide_eq_true (by omega), cond_true, idx_nat', hget, Option.bind_some, Option.bind_some]
        by_cases hmt : e.made = t
        · have hz : putE l k v t = 0 := by rw [hE, if_neg (by rw [hpl]; show ¬ 400 < (if e.made = t then _ else _); rw [if_pos hmt]; omega)]
          rw [show (e.made == t) = true by simpa using hmt, cond_true]
          have hset : l.set (lo l k ++ a).length ⟨e.key, e.made, e.gone, v⟩ = putR l k v t := by
           rw [set_mid hs]
           unfold putR upd newE
           rw [hclo, if_pos hmt, hk, hmt, hg]
           simp
          rw [hz, if_pos rfl, ← hset, Int.toNat_natCast]; rfl
        · rw [show (e.made == t) = false by simpa using hmt, cond_false]
          have hset : l.set (lo l k ++ a).length ⟨e.key, e.made, t, e.val⟩ = (lo l k ++ clo (hist l k) t) ++ hi l k := by
           rw [set_mid hs, hclo, if_neg hmt]
           simp
          simp only [Option.bind_some, Int.toNat_natCast]
          rw [hset]
          have hlen3 : ((lo l k ++ clo (hist l k) t) ++ hi l k).length = l.length := by rw [← hset, List.length_set]
          by_cases h4 : l.length = 400
          · rw [show ((((lo l k ++ clo (hist l k) t) ++ hi l k).length : Int) == 400) = true by rw [beq_iff_eq]; omega, cond_true]
            have hz : putE l k v t = 8 := by rw [hE, if_pos (by rw [hpl]; show 400 < (if e.made = t then _ else _); rw [if_neg hmt]; omega)]
            rw [hz]; rfl
          · rw [show ((((lo l k ++ clo (hist l k) t) ++ hi l k).length : Int) == 400) = false by rw [beq_eq_false_iff_ne]; omega, cond_false]
            have hz : putE l k v t = 0 := by rw [hE, if_neg (by rw [hpl]; show ¬ 400 < (if e.made = t then _ else _); rw [if_neg hmt]; omega)]
            have hp := put_in (F := F) (lo l k ++ clo (hist l k) t) (hi l k) ⟨k, t⟩ (newE k v t) zeroE (by omega) (fun e he => by
             rcases List.mem_append.1 he with he | he
             · exact lo_spot e he
             · exact cmpS_lt.2 (.inr ⟨keys_clo (hist_keys l k) e he, (c3 e he).2⟩)) hi_spot
            have : putR l k v t = (lo l k ++ clo (hist l k) t) ++ newE k v t :: hi l k := by unfold putR upd; simp
            rw [hz, if_pos rfl, this]
            exact hp
   · have hz : putE l k v t = chkE (newE k v t) := by unfold putE; rw [if_neg (by simpa using h1), if_pos h2]
     rw [bne0_true h2, cond_true, hz, if_neg h2]
 · have hz : putE l k v t = chkR l := by unfold putE; rw [if_pos h1]
   rw [bne0_true h1, cond_true, hz, if_neg h1]
def cutE (l : List DElem) (k : DKey) (t : Int) : Int :=
 if chkR l ≠ 0 then chkR l else if chkK k ≠ 0 then chkK k else if t < 1 ∨ 2147483647 < t ∨ t < lastL l then 9 else if (nowR l k).isNone then 4 else 0
theorem cutE_zero {l : List DElem} {k : DKey} {t : Int} : cutE l k t = 0 ↔ Run l ∧ chkK k = 0 ∧ 1 ≤ t ∧ t ≤ 2147483647 ∧ lastL l ≤ t ∧ (nowR l k).isSome = true := by
 unfold cutE
 rw [← chkR_zero]
 split
 · simp_all
 · split
   · simp_all
   · split
     · constructor
       · intro h; cases h
       · omega
     · cases nowR l k
       · simp
       · simp_all
theorem run_Cut_eq (l : List DElem) (k : DKey) (t : Int) : run_Cut F l k t = some (if cutE l k t = 0 then cutR l k t else [], cutE l k t) := by
 unfold run_Cut
 rw [run_Check_eq, Option.bind_some, key_Check_eq, Option.bind_some]
 by_cases h1 : chkR l = 0
 · have hr := chkR_zero.1 h1
   have hl := hr.len
   rw [bne0_false h1, cond_false]
   by_cases h2 : chkK k = 0
   · rw [bne0_false h2, cond_false, run_last_eq l (by omega)]
     have hb : (bif decide (t < 1) then some true else bif decide ((2147483647 : Int) < t) then some true else (some (lastL l)).bind fun r3 => some (decide (t < r3)) : Option Bool) = some (decide (t < 1 ∨ 2147483647 < t ∨ t < lastL l)) := by
      by_cases c1 : t < 1
      · simp [c1]
      · by_cases c2 : 2147483647 < t
        · simp [c1, c2]
        · simp [c1, c2]
     rw [hb, Option.bind_some]
     by_cases h3 : t < 1 ∨ 2147483647 < t ∨ t < lastL l
     · have hz : cutE l k t = 9 := by unfold cutE; rw [if_neg (by simpa using h1), if_neg (by simpa using h2), if_pos h3]
       rw [decide_eq_true h3, cond_true, hz]; rfl
     · rw [decide_eq_false h3, cond_false]
       have hE : cutE l k t = if (nowR l k).isNone then 4 else 0 := by unfold cutE; rw [if_neg (by simpa using h1), if_neg (by simpa using h2), if_neg h3]
       cases hn : nowR l k with
       | none =>
        rw [hn] at hE
        rw [run_now_none hr hn, Option.bind_some, decide_eq_true (by omega), cond_true, hE]; rfl
       | some e =>
        rw [hn] at hE
        have hz : cutE l k t = 0 := hE
        obtain ⟨a, ha, hs, hnow⟩ := run_now_some (F := F) hr hn
        obtain ⟨a', ha', hclo⟩ := clo_now (t := t) hr.ord hn
        obtain ⟨hm, hk, hg⟩ := (nowR_some hr.ord).1 hn
        obtain rfl : a = a' := List.append_cancel_right (ha.symm.trans ha')
        have hget : l[(lo l k ++ a).length]? = some e := get_mid hs
        have hlen := congrArg List.length hs
        rw [List.length_append, List.length_cons] at hlen
        rw [hnow, Option.bind_some, decide_eq_false (by omega), cond_false, grow_ok (by simp; omega) (by simp; omega), Option.bind_some, List.nil_append, idx_nat', hget, Option.bind_some, Option.bind_some, hz, if_pos rfl]
        by_cases hmt : e.made = t
        · rw [show (e.made == t) = true by simpa using hmt, cond_true, lslice_to (by omega), Option.bind_some, w64 (by omega) (by omega), show (((lo l k ++ a).length : Int) + 1) = (((lo l k ++ a).length + 1 : Nat) : Int) by omega, lslice_from (by omega), Option.bind_some]
          rw [take_mid hs, drop_mid hs, grow_ok (by rw [List.length_append] at *; omega) (by omega), Option.bind_some]
          unfold cutR upd
          rw [hclo, if_pos hmt]
          simp
        · rw [show (e.made == t) = false by simpa using hmt, cond_false, Int.toNat_natCast]
          have hset : l.set (lo l k ++ a).length ⟨e.key, e.made, t, e.val⟩ = cutR l k t := by
           rw [set_mid hs]
           unfold cutR upd
           rw [hclo, if_neg hmt]
           simp
          rw [hset]
   · have hz : cutE l k t = chkK k := by unfold cutE; rw [if_neg (by simpa using h1), if_pos h2]
     rw [bne0_true h2, cond_true, hz, if_neg h2]
 · have hz : cutE l k t = chkR l := by unfold cutE; rw [if_pos h1]
   rw [bne0_true h1, cond_true, hz, if_neg h1]
end Go.Proofs.YtacjdfhllomccaaGreatDoor
