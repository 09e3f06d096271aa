/- Plain Lean: streams as bytes, written and read. Its conditions: none. -/
import Derived.Test.YtdggcklddjndmaaPStreamJ
namespace Go.Proofs.Ytdggcklddjndmaa
open Go.ChangeShapes
set_option linter.unusedVariables false
set_option linter.unusedSimpArgs false
variable {F : Nat} [Big F]
def foursB (ns : List Nat) : List UInt8 := ns.flatMap fun n => bigL n 4
theorem foursB_length : ∀ ns : List Nat, (foursB ns).length = 4 * ns.length
 | [] => rfl
 | n :: ns => by
  have := foursB_length ns
  unfold foursB at this ⊢
  rw [List.flatMap_cons, List.length_append, bigL_length, List.length_cons, this]; omega
theorem stream_fours_eq (ns : List Nat) (h : ns.length ≤ 1000) : stream_fours F (ns.map fun n : Nat => (n : Int)) = some (ofL (foursB ns)) := by
 unfold stream_fours
 have hl : (ns.map fun n : Nat => (n : Int)).length = ns.length := List.length_map ..
 rw [hl, loop_run (s := (ByteArray.mk #[], 0)) (fun k => (ofL (foursB (ns.take k)), (k : Int))) ns.length (r := ofL (foursB ns)) rfl (by omega) (fun k hk => ?_) ?_, Option.bind_some]
 · dsimp only
   rw [decide_eq_false (by omega), cond_false, List.take_length]
 · have hx := List.getElem?_eq_getElem hk
   generalize ns[k] = n at hx
   have hf := foursB_length (ns.take k)
   have ht : (ns.take k).length ≤ 1000 := by rw [List.length_take]; omega
   have hb := bigL_length n 4
   dsimp only
   rw [decide_eq_true (by omega), cond_true, idx_nat', List.getElem?_map, hx, Option.map_some, Option.bind_some, show (4 : Int) = ((4 : Nat) : Int) from rfl, big_Put_eq n 4 (by omega), Option.bind_some, scat_ofL (by omega), Option.bind_some, w64 (by omega) (by omega)]
   have e : foursB (ns.take (k + 1)) = foursB (ns.take k) ++ bigL n 4 := by
    unfold foursB
    rw [List.take_add_one, hx]; simp
   rw [e]; rfl
theorem filter_take_succ {α : Type} (p : α → Bool) {l : List α} {k : Nat} {e : α} (h : l[k]? = some e) : (l.take (k + 1)).filter p = (l.take k).filter p ++ (if p e then [e] else []) := by
 rw [List.take_add_one, h, List.filter_append]
 cases hp : p e <;> simp [hp, List.filter_cons]
def zP : Dstream_Parsed := ⟨0, 0, 0, []⟩
def moreB (p a b : Int) (acc : List DElem) (B : List UInt8) : Bool :=
 (cget B).2.2 == 0 && ((cget B).2.1 == (B.length : Int) && ((cget B).1.key.pfs == p && (decide (a < lastE (cget B).1) && (decide (lastE (cget B).1 ≤ b) && (match acc.getLast? with | some q => decide (cmpS (spotE q) (spotE (cget B).1) < 0) | none => true)))))
def parseP (p a b : Int) : Nat → List DElem → List UInt8 → Dstream_Parsed × Int
 | 0, _, _ => (zP, 3)
 | m + 1, acc, l =>
  if (fget l).2.2 ≠ 0 then (zP, (fget l).2.2)
  else if (fget l).1.kind = 3 ∧ (fget l).1.body = ofL (foursB [acc.length]) ∧ (fget l).2.1 = (l.length : Int) then (⟨p, a, b, acc⟩, 0)
  else if (fget l).1.kind ≠ 2 ∨ moreB p a b acc (fget l).1.body.data.toList = false then (zP, 3)
  else parseP p a b m (acc ++ [(cget (fget l).1.body.data.toList).1]) (l.drop (fget l).2.1.toNat)
def parseR (l : List UInt8) : Dstream_Parsed × Int :=
 if (fget l).2.2 ≠ 0 then (zP, (fget l).2.2)
 else if (fget l).1.kind ≠ 1 ∨ (fget l).1.body.size ≠ 12 then (zP, 3)
 else if lookE (valL (sl (fget l).1.body.data.toList 0 4)) (valL (sl (fget l).1.body.data.toList 4 8)) (valL (sl (fget l).1.body.data.toList 8 12)) ≠ 0 then (zP, 3)
 else parseP (valL (sl (fget l).1.body.data.toList 0 4)) (valL (sl (fget l).1.body.data.toList 4 8)) (valL (sl (fget l).1.body.data.toList 8 12)) (l.length + 1) [] (l.drop (fget l).2.1.toNat)
theorem fget_ok {l : List UInt8} (h : (fget l).2.2 = 0) : ∃ (k n : Nat) (B : List UInt8), (fget l).1 = ⟨(k : Int), ofL B⟩ ∧ (fget l).2.1 = (n : Int) ∧ n = B.length + 5 ∧ B.length ≤ 3000 ∧ n ≤ l.length ∧ k ≤ 255 := by
 obtain ⟨k, B, g0, g1, g2, g3, g4, g5⟩ := fput_fget h
 exact ⟨k, _, B, by rw [g4], by rw [g4], rfl, g2, g3, g1⟩
theorem drop_ofL {l : List UInt8} {n : Nat} (h : n ≤ l.length) : sslice (ofL l) (n : Int) ((ofL l).size : Int) = some (ofL (l.drop n)) := by
 have := sl_ofL (l := l) (a := n) (b := l.length) h (Nat.le_refl _)
 rw [sl, List.take_length] at this
 exact this
theorem cget_ok' {l : List UInt8} (h : (cget l).2.2 = 0) : ∃ n : Nat, (cget l).2.1 = (n : Int) ∧ 18 ≤ n ∧ n ≤ l.length ∧ ebE (cget l).1 = l.take n ∧ chkE (cget l).1 = 0 := by
 obtain ⟨a, b, c, d, g, v, hf, h1, h2, h3⟩ := eb_cget h
 refine ⟨18 + v.length, by rw [h2], by omega, h1, by rw [h2]; exact h3, by rw [h2]; exact chk_fit hf⟩
theorem last_of {acc : List DElem} (h : acc ≠ []) : ∃ q, acc.getLast? = some q ∧ acc[acc.length - 1]? = some q := by
 rw [← List.getLast?_eq_getElem?]
 cases hq : acc.getLast? with
 | none => rw [List.getLast?_eq_none_iff] at hq; exact absurd hq h
 | some q => exact ⟨q, rfl, rfl⟩
theorem moreB_iff {p a b : Int} {acc : List DElem} {B : List UInt8} : moreB p a b acc B = true ↔ (cget B).2.2 = 0 ∧ (cget B).2.1 = (B.length : Int) ∧ (cget B).1.key.pfs = p ∧ a < lastE (cget B).1 ∧ lastE (cget B).1 ≤ b ∧ ∀ q, acc.getLast? = some q → SpO q (cget B).1 := by
 unfold moreB
 simp only [Bool.and_eq_true, beq_iff_eq, decide_eq_true_eq]
 cases acc.getLast? with
 | none => simp
 | some q => simp [SpO]
theorem stream_Parse_eq (l : List UInt8) (hl : l.length ≤ 2000000) : stream_Parse F (ofL l) = some (parseR l) := by
 unfold stream_Parse parseR
 rw [frame_Get_eq l (by omega), Option.bind_some]
 by_cases h : (fget l).2.2 = 0
 · obtain ⟨k, n, B, g1, g2, g3, g4, g5, g6⟩ := fget_ok h
   rw [bne0_false h, cond_false, if_neg (show ¬ (fget l).2.2 ≠ 0 by simpa using h), g1, g2]
   dsimp only
   rw [show (ofL B).data.toList = B from rfl, show (ofL B).size = B.length from rfl, Int.toNat_natCast]
   by_cases hk : (k : Int) ≠ 1 ∨ B.length ≠ 12
   · rw [if_pos hk]
     have : ((k : Int) != 1 || ((B.length : Int) != 12)) = true := by
      rw [Bool.or_eq_true, bne_iff_ne, bne_iff_ne]; omega
     rw [this, cond_true, Option.bind_some]
     dsimp only
     rw [Bool.not_false, cond_true]; rfl
   · rw [if_neg hk]
     have : ((k : Int) != 1 || ((B.length : Int) != 12)) = false := by
      rw [Bool.or_eq_false_iff, bne_eq_false_iff_eq, bne_eq_false_iff_eq]; omega
     have hB : B.length = 12 := by omega
     have s1 : sslice (ofL B) 0 4 = some (ofL (sl B 0 4)) := sl_ofL (a := 0) (b := 4) (by omega) (by omega)
     have s2 : sslice (ofL B) 4 8 = some (ofL (sl B 4 8)) := sl_ofL (a := 4) (b := 8) (by omega) (by omega)
     have s3 : sslice (ofL B) 8 12 = some (ofL (sl B 8 12)) := sl_ofL (a := 8) (b := 12) (by omega) (by omega)
     have b1 : big_Get F (ofL (sl B 0 4)) = some ((valL (sl B 0 4) : Nat) : Int) := big_Get_ofL _ (by rw [sl_length (by omega)]; omega)
     have b2 : big_Get F (ofL (sl B 4 8)) = some ((valL (sl B 4 8) : Nat) : Int) := big_Get_ofL _ (by rw [sl_length (by omega)]; omega)
     have b3 : big_Get F (ofL (sl B 8 12)) = some ((valL (sl B 8 12) : Nat) : Int) := big_Get_ofL _ (by rw [sl_length (by omega)]; omega)
     rw [this, cond_false, s1, Option.bind_some, b1, Option.bind_some, Option.bind_some, s2, Option.bind_some, b2, Option.bind_some, Option.bind_some, s3, Option.bind_some, b3, Option.bind_some, Option.bind_some, stream_look_eq, Option.bind_some, Option.bind_some]
     dsimp only
     generalize hp : ((valL (sl B 0 4) : Nat) : Int) = p
     generalize ha : ((valL (sl B 4 8) : Nat) : Int) = a
     generalize hb : ((valL (sl B 8 12) : Nat) : Int) = b
     by_cases h2 : lookE p a b = 0
     · rw [if_neg (show ¬ lookE p a b ≠ 0 by simpa using h2), show (lookE p a b == 0) = true by simpa using h2, Bool.not_true, cond_false]
       have hd : (l.drop n).length = l.length - n := List.length_drop
       refine loop_rec (R := fun m s q => ∃ acc k b' t n l, s = (acc, k, b', ofL t, n) ∧ sslice (ofL t) n ((ofL t).size : Int) = some (ofL l) ∧ l.length < m ∧ acc.length + l.length ≤ 2000000 ∧ q = parseP p a b m acc l) (fun m s q h => ?_) (m := l.length + 1) (by omega)
        ⟨[], _, _, l, _, l.drop n, rfl, drop_ofL g5, by omega, by simp; omega, rfl⟩
       obtain ⟨acc, k, b', t, n, l, rfl, ht, h1, h2, rfl⟩ := h
       obtain ⟨m, rfl⟩ : ∃ k, m = k + 1 := ⟨m - 1, by omega⟩
       dsimp only
       rw [ht, Option.bind_some, frame_Get_eq l (by omega), Option.bind_some, parseP]
       have hsz : (ofL l).size = l.length := rfl
       by_cases hz : (fget l).2.2 = 0
       · obtain ⟨k', n', B', g1, g2, g3, g4, g5, g6⟩ := fget_ok hz
         rw [bne0_false hz, cond_false, if_neg (show ¬ (fget l).2.2 ≠ 0 by simpa using hz), g1, g2, hsz]
         dsimp only
         rw [show (ofL B').data.toList = B' from rfl, Int.toNat_natCast]
         have hf : stream_fours F [(acc.length : Int)] = some (ofL (foursB [acc.length])) := stream_fours_eq (F := F) [acc.length] (by simp)
         have e1 : ((bif ((k' : Int) == 3) then (stream_fours F [(acc.length : Int)]).bind fun r8 => bif seq (ofL B') r8 then some ((n' : Int) == (l.length : Int)) else some false else some false) : Option Bool) = some (decide ((k' : Int) = 3 ∧ ofL B' = ofL (foursB [acc.length]) ∧ (n' : Int) = (l.length : Int))) := by
          rw [hf, Option.bind_some]
          by_cases c1 : (k' : Int) = 3
          · rw [show ((k' : Int) == 3) = true by simpa using c1, cond_true]
            by_cases c2 : ofL B' = ofL (foursB [acc.length])
            · rw [(seq_iff _ _).2 c2, cond_true]
              congr 1
              rw [Bool.eq_iff_iff, beq_iff_eq, decide_eq_true_eq]
              exact ⟨fun c3 => ⟨c1, c2, c3⟩, fun c3 => c3.2.2⟩
            · rw [show seq (ofL B') (ofL (foursB [acc.length])) = false by rw [Bool.eq_false_iff]; exact fun hh => c2 ((seq_iff _ _).1 hh), cond_false, decide_eq_false (fun hh => c2 hh.2.1)]
          · rw [show ((k' : Int) == 3) = false by simpa using c1, cond_false, decide_eq_false (fun hh => c1 hh.1)]
         rw [e1, Option.bind_some]
         by_cases hend : (k' : Int) = 3 ∧ ofL B' = ofL (foursB [acc.length]) ∧ (n' : Int) = (l.length : Int)
         · rw [decide_eq_true hend, cond_true, if_pos hend]
           exact .inl ⟨_, rfl, rfl⟩
         rw [decide_eq_false hend, cond_false, if_neg hend]
         by_cases hk2 : (k' : Int) = 2
         · rw [show ((k' : Int) != 2) = false by simpa using hk2, cond_false, code_Get_eq, Option.bind_some]
           have hbs : (ofL B').size = B'.length := rfl
           rw [hbs]
           have hmore : ((((bif ((cget B').2.2 != 0) then some true else bif ((cget B').2.1 != (B'.length : Int)) then some true else bif ((cget B').1.key.pfs != p) then some true else (elem_Last (cget B').1).bind fun r10 => bif decide (r10 ≤ a) then some true else (elem_Last (cget B').1).bind fun r11 => some (decide (b < r11))) : Option Bool).bind fun z13 =>
            bif z13 then some (acc, false) else (((bif decide ((0 : Int) < (acc.length : Int)) then (idx acc (IntKind.i64.wrap ((acc.length : Int) - 1))).bind fun e1 => (elem_Spot e1).bind fun r12 => (elem_Spot (cget B').1).bind fun r13 => (key_CmpSpot r12 r13).bind fun r14 => some (decide ((0 : Int) ≤ r14)) else some false) : Option Bool).bind fun z14 =>
             bif z14 then some (acc, false) else (grow 56 acc [(cget B').1]).bind fun _ => some ((acc ++ [(cget B').1]), true))) : Option (List DElem × Bool)) = some (if moreB p a b acc B' = true then (acc ++ [(cget B').1], true) else (acc, false)) := by
            rw [elem_Last_eq, Option.bind_some, Option.bind_some]
            by_cases c1 : (cget B').2.2 = 0
            · rw [bne0_false c1, cond_false]
              by_cases c2 : (cget B').2.1 = (B'.length : Int)
              · rw [show ((cget B').2.1 != (B'.length : Int)) = false by simpa using c2, cond_false]
                by_cases c3 : (cget B').1.key.pfs = p
                · rw [show ((cget B').1.key.pfs != p) = false by simpa using c3, cond_false]
                  by_cases c4 : a < lastE (cget B').1
                  · rw [decide_eq_false (show ¬ lastE (cget B').1 ≤ a by omega), cond_false, Option.bind_some]
                    by_cases c5 : lastE (cget B').1 ≤ b
                    · rw [decide_eq_false (show ¬ b < lastE (cget B').1 by omega), cond_false]
                      have hl23 : 23 ≤ l.length := by
                       obtain ⟨x, x1, x2, x3, _⟩ := cget_ok' c1
                       omega
                      have hgr : grow 56 acc [(cget B').1] = some (acc ++ [(cget B').1]) := grow_ok (by simp; omega) (by simp; omega)
                      by_cases c6 : acc = []
                      · rw [if_pos (moreB_iff.2 ⟨c1, c2, c3, c4, c5, fun q hq => by rw [c6] at hq; cases hq⟩)]
                        rw [decide_eq_false (show ¬ (0 : Int) < (acc.length : Int) by rw [c6]; simp), cond_false, Option.bind_some, cond_false, hgr, Option.bind_some]
                      · obtain ⟨q, q1, q2⟩ := last_of c6
                        have hpos := List.length_pos_iff.2 c6
                        rw [decide_eq_true (show (0 : Int) < (acc.length : Int) by omega), cond_true, w64 (by omega) (by omega), show (acc.length : Int) - 1 = ((acc.length - 1 : Nat) : Int) by omega, idx_nat', q2, Option.bind_some, elem_Spot_eq, Option.bind_some, elem_Spot_eq, Option.bind_some, key_CmpSpot_eq, Option.bind_some, Option.bind_some]
                        by_cases c7 : SpO q (cget B').1
                        · rw [if_pos (moreB_iff.2 ⟨c1, c2, c3, c4, c5, fun q' hq => by rw [q1] at hq; cases hq; exact c7⟩)]
                          unfold SpO at c7
                          rw [decide_eq_false (by omega), cond_false, hgr, Option.bind_some]
                        · rw [if_neg (fun hh => c7 ((moreB_iff.1 hh).2.2.2.2.2 q q1))]
                          unfold SpO at c7
                          rw [decide_eq_true (by omega), cond_true]
                    · rw [if_neg (fun hh => c5 (moreB_iff.1 hh).2.2.2.2.1), decide_eq_true (show b < lastE (cget B').1 by omega), cond_true]
                  · rw [if_neg (fun hh => c4 (moreB_iff.1 hh).2.2.2.1), decide_eq_true (show lastE (cget B').1 ≤ a by omega), cond_true, Option.bind_some, cond_true]
                · rw [if_neg (fun hh => c3 (moreB_iff.1 hh).2.2.1), show ((cget B').1.key.pfs != p) = true by simpa using c3, cond_true, Option.bind_some, cond_true]
              · rw [if_neg (fun hh => c2 (moreB_iff.1 hh).2.1), show ((cget B').2.1 != (B'.length : Int)) = true by simpa using c2, cond_true, Option.bind_some, cond_true]
            · rw [if_neg (fun hh => c1 (moreB_iff.1 hh).1), bne0_true c1, cond_true, Option.bind_some, cond_true]
           rw [hmore, Option.bind_some]
           by_cases hm : moreB p a b acc B' = true
           · rw [if_pos hm, if_neg (show ¬ ((k' : Int) ≠ 2 ∨ moreB p a b acc B' = false) by rw [hm]; simp; exact hk2)]
             dsimp only
             rw [Bool.not_true, Option.bind_some]
             dsimp only
             rw [cond_false]
             refine .inr ⟨m, _, by omega, rfl, _, _, _, _, _, _, rfl, drop_ofL g5, ?_, ?_, rfl⟩
             · rw [List.length_drop]; omega
             · rw [List.length_append, List.length_singleton, List.length_drop]; omega
           · rw [if_neg hm, if_pos (show (k' : Int) ≠ 2 ∨ moreB p a b acc B' = false from .inr (by simpa using hm))]
             dsimp only
             rw [Bool.not_false, Option.bind_some]
             dsimp only
             rw [cond_true]
             exact .inl ⟨_, rfl, rfl⟩
         · rw [show ((k' : Int) != 2) = true by simpa using hk2, cond_true, Option.bind_some, if_pos (show (k' : Int) ≠ 2 ∨ moreB p a b acc B' = false from .inl hk2)]
           dsimp only
           rw [cond_true]
           exact .inl ⟨_, rfl, rfl⟩
       · rw [bne0_true hz, cond_true, if_pos (show (fget l).2.2 ≠ 0 from hz)]
         exact .inl ⟨_, rfl, rfl⟩
     · rw [if_pos (show lookE p a b ≠ 0 from h2), show (lookE p a b == 0) = false by simpa using h2, Bool.not_false, cond_true]; rfl
 · rw [bne0_true h, cond_true, if_pos (show (fget l).2.2 ≠ 0 from h)]; rfl
structure Fresh (p a b : Int) (es : List DElem) : Prop where
 ok : ∀ e ∈ es, chkE e = 0
 pfs : ∀ e ∈ es, e.key.pfs = p
 last : ∀ e ∈ es, a < lastE e ∧ lastE e ≤ b
 ord : es.Pairwise SpO
end Go.Proofs.Ytdggcklddjndmaa
