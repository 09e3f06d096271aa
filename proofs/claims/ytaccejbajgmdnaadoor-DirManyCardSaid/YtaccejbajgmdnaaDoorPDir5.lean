/- Plain Lean: many names, added one after the other. Its conditions: none. -/
import Derived.Test.YtaccejbajgmdnaaDoorPDir4
namespace Go.Proofs.YtaccejbajgmdnaaDoor
set_option linter.unusedVariables false
set_option linter.unusedSimpArgs false
variable {F : Nat} [Big F]

theorem ofL_eq {a b : List UInt8} (h : ofL a = ofL b) : a = b := by
  have h4 : a.toArray = b.toArray := congrArg ByteArray.data h
  simpa using h4
theorem add_name {l : List DElem} {p o of t : Int} {s : List UInt8} (h : lookD l p o = 0) (hn : nmB s = false) : dir_Add F l p o (ofL s) of t = some ([], 3) := by
  unfold dir_Add
  rw [dir_look_eq, Option.bind_some, bne0_false h, cond_false, dir_Name_eq, Option.bind_some, hn]; rfl
theorem add_there {l : List DElem} {p o of t : Int} {s : List UInt8} (h : lookD l p o = 0) (hn : nmB s = true) (h0 : 0 ≤ of) (h1 : of ≤ 1048576) (hf : (fdD l p o (ofL s) 2147483647).2.2 = true) : dir_Add F l p o (ofL s) of t = some ([], 5) := by
  obtain ⟨hr, _⟩ := lookD_zero.1 h
  unfold dir_Add
  rw [dir_look_eq, Option.bind_some, bne0_false h, cond_false, dir_Name_eq, Option.bind_some, hn, show (!true) = false from rfl, cond_false, decide_eq_false (by omega), decide_eq_false (by omega), Bool.or_false, cond_false, dir_find_eq _ p o _ _ (by have := hr.len; omega) hr.vals, Option.bind_some, hf]
  rfl
theorem add_free {l : List DElem} {p o of t : Int} {s : List UInt8} (h : lookD l p o = 0) (hn : nmB s = true) (h0 : 0 ≤ of) (h1 : of ≤ 1048576) (hf : (fdD l p o (ofL s) 2147483647).2.2 = false)
    (hput : ∀ n : Int, 0 ≤ n → n < 8 → atR l (slotS p o s n) 2147483647 = none → putE l (slotS p o s n) (valD of s) t = 0) :
    dir_Add F l p o (ofL s) of t = some ([], 8) ∨ ∃ n, Added l p o s of t n ∧ dir_Add F l p o (ofL s) of t = some (putR l (slotS p o s n) (valD of s) t, 0) := by
  obtain ⟨m, e, ea, hbad, ha⟩ := add_whole (F := F) l p o s of t
  by_cases he : e = 0
  · obtain ⟨n, A, rfl⟩ := ha he
    exact .inr ⟨n, A, by rw [ea, he]⟩
  · left
    obtain ⟨hr, hk⟩ := lookD_zero.1 h
    have hs : s.length ≤ 12 := by
      unfold nmB at hn
      simp only [Bool.and_eq_true, decide_eq_true_eq] at hn
      exact hn.2.1
    have hx := ea
    unfold dir_Add at hx
    rw [dir_look_eq, Option.bind_some, bne0_false h, cond_false, dir_Name_eq, Option.bind_some, hn, show (!true) = false from rfl, cond_false, decide_eq_false (by omega), decide_eq_false (by omega), Bool.or_false, cond_false, dir_find_eq l p o _ _ (by have := hr.len; omega) hr.vals, Option.bind_some, hf, cond_false] at hx
    have hloop : iter (σ := Int) (ρ := (Unit) ⊕ (((List DElem)) × Int)) (fun x1 =>
              bif decide (x1 < 8) then
                  (dir_slot F p o (ofL s) x1).bind fun r4 =>
                  (run_At F l r4 2147483647).bind fun r5 =>
                  bif (r5.2 == 4) then
                    (strconv_Itoa of).bind fun r6 =>
                    (scat r6 (ByteArray.mk #[58])).bind fun s1 =>
                    (scat s1 (ofL s)).bind fun s2 =>
                    (run_Put F l r4 s2 t).bind fun r7 =>
                    some (.inr (.inr (r7.1, r7.2)))
                  else
                    some (.inl (IntKind.i64.wrap (x1 + 1)))
                else
                  some (.inr (.inl ()))) F 0 = some ((((List.replicate 8 ()).zipIdx).findSome? (fun q => addW l p o s of t q.2 q.1)).getD (.inl ())) := by
      refine loop_find (List.replicate 8 ()) (addW l p o s of t) (.inl ()) (by decide) rfl (fun n x hx _ => ?_) rfl
      have hn8 : n < 8 := by have := (List.getElem?_eq_some_iff.1 hx).1; simpa using this
      have hit : strconv_Itoa of = some (ofL (Lib.itoa of)) := by
        unfold strconv_Itoa
        rw [if_pos ⟨by omega, by omega⟩]; rfl
      have hil : (Lib.itoa of).length ≤ 8 := by
        unfold Lib.itoa
        rw [if_neg (by omega)]
        exact dec_len _ (by omega)
      rw [decide_eq_true (by omega), cond_true, dir_slot_eq _ _ _ (by omega) (by omega) (by omega), Option.bind_some, run_At_eq, Option.bind_some]
      dsimp only
      unfold addW
      by_cases h4 : atE l (slotS p o s (n : Int)) 2147483647 = 4
      · rw [show (atE l (slotS p o s (n : Int)) 2147483647 == 4) = true by simpa using h4, cond_true, hit, Option.bind_some, show (ByteArray.mk #[58] : ByteArray) = ofL [58] from rfl, scat_ofL (by simp; omega), Option.bind_some, scat_ofL (by simp; omega), Option.bind_some, if_pos h4, List.append_assoc]
        show (run_Put F l (slotS p o s (n : Int)) (valD of s) t).bind _ = _
        rw [run_Put_eq, Option.bind_some]
      · rw [show (atE l (slotS p o s (n : Int)) 2147483647 == 4) = false by simpa using h4, cond_false, if_neg h4, w64 (by omega) (by omega)]
    rw [hloop, Option.bind_some] at hx
    rw [ea]
    cases hff : ((List.replicate 8 ()).zipIdx).findSome? (fun q => addW l p o s of t q.2 q.1) with
    | none => rw [hff] at hx; exact hx.symm
    | some r =>
      exfalso
      obtain ⟨n, _, hn8, hw⟩ := find_some hff
      have hn8' : n < 8 := by have := (List.getElem?_eq_some_iff.1 hn8).1; simpa using this
      unfold addW at hw
      split at hw
      · rename_i h4
        rw [hff, ← Option.some.inj hw] at hx
        have h5 := hput (n : Int) (by omega) (by omega) (atE_four hr h4).1
        rw [if_pos h5, h5] at hx
        have h6 : (putR l (slotS p o s (n : Int)) (valD of s) t, (0 : Int)) = (m, e) := Option.some.inj hx
        exact he (congrArg Prod.snd h6).symm
      · cases hw
/-! ### What holds between two of them -/
structure Many (o i : Int) (w : List (List UInt8)) (l : List DElem) : Prop where
  run : Run l
  last : lastL l ≤ i
  len : (l.length : Int) ≤ i
  own : ∀ e ∈ l, e.key.pfs = 0 ∧ e.key.obj = o ∧ e.gone = 0 ∧ (entS e).2.2 = true
  names : (l.map fun e => (entS e).1).Perm (ofLs w)
  nodup : w.Nodup
theorem Many.live {o i : Int} {w : List (List UInt8)} {l : List DElem} (h : Many o i w l) {e : DElem} (he : e ∈ l) : live e 2147483647 = true := live_iff.2 ⟨(h.run.made he).2, .inl (h.own e he).2.2.1⟩
theorem Many.seen {o i : Int} {w : List (List UInt8)} {l : List DElem} (h : Many o i w l) {s : List UInt8} : (fdD l 0 o (ofL s) 2147483647).2.2 = true ↔ s ∈ w := by
  constructor
  · intro hf
    obtain ⟨e, he, _, _, _, _, h6, _⟩ := fdD_some hf
    have : ofL s ∈ ofLs w := h.names.mem_iff.1 (List.mem_map.2 ⟨e, he, h6⟩)
    obtain ⟨x, hx, hxe⟩ := List.mem_map.1 this
    rw [← ofL_eq hxe]; exact hx
  · intro hs
    have : ofL s ∈ l.map fun e => (entS e).1 := h.names.mem_iff.2 (List.mem_map.2 ⟨s, hs, rfl⟩)
    obtain ⟨e, he, hee⟩ := List.mem_map.1 this
    obtain ⟨h1, h2, _, h4⟩ := h.own e he
    have hw : wD 0 o (ofL s) 2147483647 e = some (e, (entS e).2.1, true) := by
      unfold wD
      rw [if_neg (by rw [h1, h2, h.live he]; simp), if_pos ⟨h4, hee⟩]
    unfold fdD
    cases hf : l.findSome? (wD 0 o (ofL s) 2147483647) with
    | none => rw [List.findSome?_eq_none_iff.1 hf e he] at hw; cases hw
    | some r =>
      obtain ⟨x, _, hq⟩ := List.exists_of_findSome?_eq_some hf
      unfold wD at hq
      split at hq
      · cases hq
      · split at hq
        · rw [← Option.some.inj hq]; rfl
        · cases hq
theorem Many.next {o i : Int} {w : List (List UInt8)} {l : List DElem} (h : Many o i w l) : Many o (i + 1) w l := ⟨h.run, by have := h.last; omega, by have := h.len; omega, h.own, h.names, h.nodup⟩
theorem Many.puts {o i : Int} {w : List (List UInt8)} {l : List DElem} (h : Many o i w l) (o0 : 0 ≤ o) (o1 : o < 100) (i0 : 0 ≤ i) (i1 : i ≤ 30) {s : List UInt8} (hn : nmB s = true) : ∀ n : Int, 0 ≤ n → n < 8 → atR l (slotS 0 o s n) 2147483647 = none → putE l (slotS 0 o s n) (valD i s) (i + 1) = 0 := by
  intro n n0 n8 hat
  have hs : s.length ≤ 12 := by
    unfold nmB at hn
    simp only [Bool.and_eq_true, decide_eq_true_eq] at hn
    exact hn.2.1
  have hil : (Lib.itoa i).length ≤ 8 := by
    unfold Lib.itoa
    rw [if_neg (by omega)]
    exact dec_len _ (by omega)
  have hk : chkK (slotS 0 o s n) = 0 := by
    have := (crc s).isLt
    unfold slotS chkK
    rw [if_neg]
    dsimp only
    omega
  have hc : chkE (newE (slotS 0 o s n) (valD i s) (i + 1)) = 0 := chkE_new hk (by omega) (by omega) (by
    show (Lib.itoa i ++ 58 :: s).length ≤ 40
    rw [List.length_append, List.length_cons]; omega)
  refine putE_zero.2 ⟨h.run, hc, by have := h.last; omega, ?_⟩
  have hl := put_len (k := slotS 0 o s n) (v := valD i s) (t := i + 1) h.run
  have hd : dput l (slotS 0 o s n) (i + 1) ≤ 1 := by
    unfold dput
    cases nowR l (slotS 0 o s n) with
    | none => exact Nat.le_refl _
    | some x => dsimp only; split <;> omega
  have := h.len
  omega
theorem Many.add {o i n : Int} {w : List (List UInt8)} {l : List DElem} (h : Many o i w l) {s : List UInt8} (A : Added l 0 o s i (i + 1) n) (hs : s ∉ w) : Many o (i + 1) (w ++ [s]) (putR l (slotS 0 o s n) (valD i s) (i + 1)) := by
  obtain ⟨_, hc, ht, hlen⟩ := putE_zero.1 A.put
  have hh : hist l (slotS 0 o s n) = [] := by
    rw [List.eq_nil_iff_forall_not_mem]
    intro e he
    have := atR_none.1 A.none e (mem_hist.1 he).1 (mem_hist.1 he).2
    rw [h.live (mem_hist.1 he).1] at this
    cases this
  have hp : (putR l (slotS 0 o s n) (valD i s) (i + 1)).Perm (newE (slotS 0 o s n) (valD i s) (i + 1) :: l) := by
    conv => rhs; rw [split3 (slotS 0 o s n) h.run.ord]
    unfold putR upd
    rw [hh]
    exact List.perm_middle
  have he : entS (newE (slotS 0 o s n) (valD i s) (i + 1)) = (ofL s, i, true) := ent_add rfl rfl A.n0 A.n8 A.of0 A.of1 A.name
  refine ⟨h.run.putR ht hc hlen, by rw [last_put h.run ht hc]; exact Int.le_refl _, ?_, fun e hm => ?_, ?_, ?_⟩
  · rw [hp.length_eq, List.length_cons]
    have := h.len
    omega
  · rcases List.mem_cons.1 (hp.mem_iff.1 hm) with rfl | hm
    · exact ⟨rfl, rfl, rfl, by rw [he]⟩
    · exact h.own e hm
  · refine (hp.map _).trans ?_
    rw [List.map_cons, he, ofLs_append]
    exact (h.names.cons _).trans (List.perm_append_singleton _ _).symm
  · rw [List.nodup_append]
    refine ⟨h.nodup, by simp, fun a ha b hb => ?_⟩
    rw [List.mem_singleton.1 hb]
    exact fun e => hs (e ▸ ha)
end Go.Proofs.YtaccejbajgmdnaaDoor
