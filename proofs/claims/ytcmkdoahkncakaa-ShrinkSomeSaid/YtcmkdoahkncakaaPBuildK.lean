/- Plain Lean: what build.Of computes. Its conditions: none. -/
import Derived.Test.YtcmkdoahkncakaaBuildFK
import Derived.Test.YtcmkdoahkncakaaMBuildK
namespace Go.Proofs.Ytcmkdoahkncakaa
set_option linter.unusedVariables false
set_option linter.unusedSimpArgs false
variable {F : Nat} [Big F]
def share (n i : Nat) : Nat := off n (kOf n) (i + 1) - off n (kOf n) i
def sharesR (n : Nat) : List Int := (List.range (kOf n)).map fun i => ((share n i : Nat) : Int)
theorem sharesR_length (n : Nat) : (sharesR n).length = kOf n := by unfold sharesR; simp
theorem sharesR_get {n i : Nat} (h : i < kOf n) : (sharesR n)[i]? = some ((share n i : Nat) : Int) := by
 unfold sharesR; rw [List.getElem?_map, List.getElem?_range h]; rfl
theorem kOf_le (n : Nat) : kOf n ≤ n + 1 := by unfold kOf; split <;> omega
theorem take_snoc {α : Type} {l : List α} {i : Nat} {x : α} (h : l[i]? = some x) : l.take (i + 1) = l.take i ++ [x] := by
 rw [List.take_add_one, h]; rfl
theorem build_shares_eq {n : Nat} (hn : n ≤ 100000) : build_shares F (n : Int) = some (sharesR n) := by
 unfold build_shares
 have hE : (if (1 : Int) < (IntKind.i64.wrap ((IntKind.i64.wrap ((IntKind.i64.wrap ((n : Int) + 8)) - 1) : Int).tdiv 8)) then IntKind.i64.wrap ((IntKind.i64.wrap ((IntKind.i64.wrap ((n : Int) + 8)) - 1) : Int).tdiv 8) else 1) = (kOf n : Int) := by
  rw [w64 (n := (n : Int) + 8) (by omega) (by omega), w64 (n := (n : Int) + 8 - 1) (by omega) (by omega), show (n : Int) + 8 - 1 = ((n + 7 : Nat) : Int) by omega]
  have e : (((n + 7 : Nat) : Int)).tdiv 8 = (((n + 7) / 8 : Nat) : Int) := rfl
  rw [e, w64 (by omega) (by omega)]
  unfold kOf
  by_cases h : 8 < n
  · rw [if_pos h, if_pos (by omega)]
  · rw [if_neg h, if_neg (by omega)]; rfl
 rw [hE]
 have hk := kOf_pos n
 have hk1 := kOf_le n
 rw [loop_fold (List.range (kOf n)) (fun acc i => acc ++ [((share n i : Nat) : Int)]) [] (r := sharesR n) (by rw [List.length_range]; omega) rfl ?hs ?he]
 · rfl
 case hs =>
  intro i e hi
  have hi' := hi
  have hlt := (List.getElem?_eq_some_iff.1 hi).1
  rw [List.length_range] at hlt
  rw [List.getElem?_range hlt] at hi
  obtain rfl := Option.some.inj hi
  dsimp only
  rw [foldl_snoc]
  rw [show decide ((i : Int) < (kOf n : Int)) = true from decide_eq_true (by omega), cond_true]
  have ht : toDiv (kOf n : Int) = some (kOf n : Int) := by unfold toDiv; rw [if_neg (by omega)]
  rw [ht, Option.bind_some, Option.bind_some]
  have hb1 : n * (i + 1) ≤ 100000 * 100002 := Nat.mul_le_mul hn (by omega)
  have hb0 : n * i ≤ 100000 * 100002 := Nat.mul_le_mul hn (by omega)
  have e1 : (n : Int) * ((i : Int) + 1) = ((n * (i + 1) : Nat) : Int) := by push_cast; rfl
  have e0 : (n : Int) * (i : Int) = ((n * i : Nat) : Int) := by push_cast; rfl
  have d1 : (((n * (i + 1) : Nat) : Int)).tdiv (kOf n : Int) = ((off n (kOf n) (i + 1) : Nat) : Int) := rfl
  have d0 : (((n * i : Nat) : Int)).tdiv (kOf n : Int) = ((off n (kOf n) i : Nat) : Int) := rfl
  have hm := off_mono (n := n) (k := kOf n) (show i ≤ i + 1 by omega)
  have hl := off_le (n := n) hk (show i + 1 ≤ kOf n by omega)
  have es : ((off n (kOf n) (i + 1) : Nat) : Int) - ((off n (kOf n) i : Nat) : Int) = ((share n i : Nat) : Int) := by unfold share; omega
  have hsh : share n i ≤ n := by unfold share; omega
  rw [w64 (n := (i : Int) + 1) (by omega) (by omega), e1, e0, w64 (n := ((n * (i + 1) : Nat) : Int)) (by omega) (by omega), w64 (n := ((n * i : Nat) : Int)) (by omega) (by omega), d1, d0, w64 (n := ((off n (kOf n) (i + 1) : Nat) : Int)) (by omega) (by omega), w64 (n := ((off n (kOf n) i : Nat) : Int)) (by omega) (by omega), es, w64 (by omega) (by omega)]
  rw [grow_ok (by simp; omega) (by simp; omega)]
  rfl
 case he =>
  dsimp only
  rw [foldl_snoc, List.length_range, decide_eq_false (by omega), cond_false]; rfl
theorem small_chk {n : DNode} (h : chkN n = 0) : Small n := by
 obtain ⟨h1, h2⟩ := small8 h
 rcases chkN_zero.1 h with q | q | q
 · refine ⟨by omega, by omega, ?_, ?_⟩
   · rw [q.2.2.2.1]; simp
   · rw [q.2.2.2.2]; simp
 · refine ⟨by omega, by omega, ?_, ?_⟩
   · rw [q.2.seps]; simp
   · rw [q.2.tids]; simp
 · exact ⟨by omega, by omega, by have := q.2.seps; omega, by have := q.2.tids; omega⟩
def badR (l : List DElem) : Option Int := l.zipIdx.findSome? fun p => leafAt l p.2 p.1
def ofR (l : List DElem) : DTree × Int := if 400 < l.length then (⟨0, []⟩, 2) else match badR l with
 | some e => (⟨0, []⟩, e)
 | none => (buildT l, 0)
theorem badR_none {l : List DElem} : badR l = none ↔ (∀ e ∈ l, chkE e = 0) ∧ l.Pairwise SpO := by
 unfold badR
 rw [find_none]
 constructor
 · intro h
   refine ⟨fun e he => ?_, pairwise_step (R := SpO) (fun a b c h1 h2 => SpO.trans h1 h2) fun j p e hp he => ?_⟩
   · obtain ⟨k, hk⟩ := List.mem_iff_getElem?.1 he
     exact (leafAt_none.1 (h k e hk)).1
   · exact (leafAt_none.1 (h (j + 1) e he)).2 j p rfl hp
 · rintro ⟨h1, h2⟩ k e hk
   exact leafAt_none.2 ⟨h1 e (List.mem_of_getElem? hk), fun j p hj hp => pairwise_at h2 (by omega) hp hk⟩
theorem lows_get {α : Type} {G : List (List α)} {β : Type} {φ : List α × Nat → β} {i : Nat} {g : List α} (h : G[i]? = some g) : (G.zipIdx.map φ)[i]? = some (φ (g, i)) := by
 rw [List.getElem?_map, List.getElem?_zipIdx, h]; simp
theorem rest_next {α : Type} (l : List α) (i : Nat) : (l.drop (off l.length (kOf l.length) i)).drop (share l.length i) = l.drop (off l.length (kOf l.length) (i + 1)) := by
 rw [List.drop_drop]
 congr 1
 have := off_mono (n := l.length) (k := kOf l.length) (show i ≤ i + 1 by omega)
 unfold share; omega
theorem rest_long {α : Type} (l : List α) {i : Nat} (h : i < kOf l.length) : share l.length i ≤ (l.drop (off l.length (kOf l.length) i)).length := by
 have h1 := off_le (n := l.length) (kOf_pos l.length) (show i + 1 ≤ kOf l.length by omega)
 rw [List.length_drop]; unfold share; omega
theorem build_Of_eq (l : List DElem) : build_Of F l = some (ofR l) := by
 unfold build_Of ofR
 by_cases hl : 400 < l.length
 · rw [show decide ((400 : Int) < (l.length : Int)) = true from decide_eq_true (by omega), cond_true, if_pos hl]
 rw [show decide ((400 : Int) < (l.length : Int)) = false from decide_eq_false (by omega), cond_false, if_neg hl]
 rw [loop_find l (fun k e => (leafAt l k e).map fun x => Sum.inr ((⟨0, []⟩ : DTree), x)) (.inl ()) (by omega) rfl (fun k e hk hb => ?_) (by simp)]
 rotate_left
 · have hkl := (List.getElem?_eq_some_iff.1 hk).1
   rw [decide_eq_true (by omega), cond_true, idx_nat', hk, Option.bind_some, elem_Check_eq, Option.bind_some]
   unfold leafAt
   by_cases hc : chkE e = 0
   · rw [bne0_false hc, cond_false, if_neg (show ¬ (chkE e ≠ 0) by simpa using hc)]
     cases k with
     | zero =>
      rw [show decide ((0 : Int) < ((0 : Nat) : Int)) = false from rfl, cond_false, Option.bind_some, cond_false, w64 (by omega) (by omega)]; rfl
     | succ j =>
      obtain ⟨p, hp⟩ : ∃ p, l[j]? = some p := ⟨_, List.getElem?_eq_getElem (by omega)⟩
      have e1 : IntKind.i64.wrap (((j + 1 : Nat) : Int) - 1) = (j : Int) := by rw [w64 (by omega) (by omega)]; omega
      rw [decide_eq_true (show (0 : Int) < ((j + 1 : Nat) : Int) by omega), cond_true, e1, idx_nat', hp]
      simp only [Option.bind_some, elem_Spot_eq, key_CmpSpot_eq, hp]
      by_cases hs : 0 ≤ cmpS (spotE p) (spotE e)
      · rw [decide_eq_true hs, if_pos hs]; rfl
      · rw [decide_eq_false hs, if_neg hs, cond_false, w64 (by omega) (by omega)]; rfl
   · rw [bne0_true hc, cond_true, if_pos (show (chkE e ≠ 0) by simpa using hc)]; rfl
 have hbad : ((l.zipIdx.findSome? fun p => (leafAt l p.2 p.1).map fun x => (Sum.inr ((⟨0, []⟩ : DTree), x) : Unit ⊕ (DTree × Int))).getD (.inl ())) = match badR l with
  | some e => .inr (⟨0, []⟩, e)
  | none => .inl () := by
  have : ∀ q : List (DElem × Nat), (q.findSome? fun p => (leafAt l p.2 p.1).map fun x => (Sum.inr ((⟨0, []⟩ : DTree), x) : Unit ⊕ (DTree × Int))) = (q.findSome? fun p => leafAt l p.2 p.1).map fun x => Sum.inr (⟨0, []⟩, x) := by
   intro q
   induction q with
   | nil => rfl
   | cons a q ih => rw [List.findSome?_cons, List.findSome?_cons]; cases leafAt l a.2 a.1 with
    | none => exact ih
    | some x => rfl
  rw [this]
  unfold badR
  cases (l.zipIdx.findSome? fun p => leafAt l p.2 p.1) <;> rfl
 rw [hbad, Option.bind_some]
 cases hb : badR l with
 | some e => rfl
 | none =>
  obtain ⟨ho, hp⟩ := badR_none.1 hb
  dsimp only
  have hk := kOf_pos l.length
  have hk50 : kOf l.length ≤ 50 := kOf_least (by omega) (by decide)
  have hglen := groups_length l
  rw [build_shares_eq (by omega), Option.bind_some]
  rw [loop_run (fun i => (((nodes0 l).take i, (lev0 l).take i, l.drop (off l.length (kOf l.length) i), (i : Int)) : List DNode × List Dbuild_low × List DElem × Int)) (kOf l.length) (r := (nodes0 l, lev0 l)) (by rw [off_zero]; rfl) (by omega) ?hs ?he]
  case he =>
   dsimp only
   rw [sharesR_length, decide_eq_false (by omega), cond_false, List.take_of_length_le (by unfold nodes0; rw [List.length_map]; omega), List.take_of_length_le (by unfold lev0; rw [List.length_map, List.length_zipIdx]; omega)]
  case hs =>
   intro i hi
   dsimp only
   have hg := groups_get hi
   have hn0 : (nodes0 l)[i]? = some (leafN (piece l (kOf l.length) i)) := by unfold nodes0; rw [List.getElem?_map, hg]; rfl
   have hl0 : (lev0 l)[i]? = some ⟨(i : Int), lowS (piece l (kOf l.length) i)⟩ := lows_get hg
   have hrl := rest_long l hi
   have hrn := rest_next l i
   have hpc : piece l (kOf l.length) i = (l.drop (off l.length (kOf l.length) i)).take (share l.length i) := rfl
   have hpl : (piece l (kOf l.length) i).length ≤ 8 := (groups_small (List.mem_of_getElem? hg)).1
   generalize hrest : l.drop (off l.length (kOf l.length) i) = rest at *
   have htl : ((nodes0 l).take i).length = i := by rw [List.length_take]; unfold nodes0; rw [List.length_map]; omega
   have htl2 : ((lev0 l).take i).length = i := by rw [List.length_take]; unfold lev0; rw [List.length_map, List.length_zipIdx]; omega
   rw [sharesR_length, decide_eq_true (by omega), cond_true, idx_nat', sharesR_get hi, Option.bind_some]
   have hspot : (bif decide ((0 : Int) < ((share l.length i : Nat) : Int)) then (idx rest 0).bind fun e4 => (elem_Spot e4).bind fun r8 => some (r8.key.pfs, r8.key.obj, r8.key.off, r8.made) else some (0, 0, 0, 0) : Option (Int × Int × Int × Int)) =
    some ((lowS (piece l (kOf l.length) i)).key.pfs, (lowS (piece l (kOf l.length) i)).key.obj, (lowS (piece l (kOf l.length) i)).key.off, (lowS (piece l (kOf l.length) i)).made) := by
    by_cases h0 : 0 < share l.length i
    · rw [decide_eq_true (show (0 : Int) < ((share l.length i : Nat) : Int) by omega), cond_true]
      cases rest with
      | nil => simp at hrl; omega
      | cons e r =>
       obtain ⟨q, hq⟩ : ∃ q, share l.length i = q + 1 := ⟨share l.length i - 1, by omega⟩
       rw [hpc, hq, show idx (e :: r) 0 = some e from rfl, Option.bind_some, elem_Spot_eq]; rfl
    · have h00 : share l.length i = 0 := by omega
      rw [h00, List.take_zero] at hpc
      rw [hpc, h00]; rfl
   rw [hspot, Option.bind_some]
   dsimp only
   rw [lslice_to hrl, Option.bind_some, ← hpc, grow_ok (by simp; omega) (by simp; omega), Option.bind_some, grow_ok (by simp; omega) (by simp; omega), Option.bind_some, grow_ok (by simp; omega) (by simp; omega), Option.bind_some, lslice_from hrl, Option.bind_some, hrn, w64 (by omega) (by omega), htl, take_snoc hn0, take_snoc hl0]
   rfl
  rw [Option.bind_some]
  dsimp only
  have L0 := Lev.zero (by omega) ho hp
  have hlv0 : (lev0 l).length ≤ 400 := by have := L0.size; omega
  have hout : ∀ {K : List DNode × List Dbuild_low → Option (DTree × Int)} {f : List DNode × List Dbuild_low → Option ((List DNode × List Dbuild_low) ⊕ (List DNode × List Dbuild_low))},
   (∀ ns lv h, Lev ns lv l h → f (ns, lv) = some (if 1 < lv.length then .inl (stepB (ns, lv)) else .inr (ns, lv))) → (iter f F (nodes0 l, lev0 l)).bind K = K (up 400 (nodes0 l, lev0 l)) := by
   intro K f hf
   obtain ⟨q, hq⟩ : ∃ q, K (up 400 (nodes0 l, lev0 l)) = some q ∨ True := ⟨(⟨0, []⟩, 0), .inr trivial⟩
   have hit : iter f F (nodes0 l, lev0 l) = some (up 400 (nodes0 l, lev0 l)) := by
    have := loop_rec (F := F) (f := f) (K := some) (fun m s q => q = up m s ∧ s.2.length ≤ m ∧ ∃ h, Lev s.1 s.2 l h) ?_ (m := 400) (s := (nodes0 l, lev0 l)) (q := up 400 (nodes0 l, lev0 l)) (by omega) ⟨rfl, hlv0, 0, L0⟩
    · simpa using this
    · rintro m ⟨ns, lv⟩ q ⟨rfl, hm, h, L⟩
      dsimp only at hm L
      have hpos : 0 < lv.length := by rw [L.count]; exact cN_pos _ _
      by_cases h1 : 1 < lv.length
      · right
        obtain ⟨m, rfl⟩ : ∃ k, m = k + 1 := ⟨m - 1, by omega⟩
        have L' := L.next hp ho h1
        have hc : (stepB (ns, lv)).2.length = kOf lv.length := by unfold stepB; dsimp only; rw [List.length_map, List.length_zipIdx, groups_length]
        have hh := kOf_half h1
        refine ⟨m, stepB (ns, lv), by omega, by rw [hf ns lv h L, if_pos h1], ?_, Nat.le_trans (Nat.le_of_eq hc) (by omega), h + 1, L'⟩
        rw [up, if_pos h1]
      · left
        refine ⟨(ns, lv), by rw [hf ns lv h L, if_neg h1], ?_⟩
        cases m with
        | zero => rfl
        | succ m => rw [up, if_neg h1]
   rw [hit, Option.bind_some]
  rw [hout ?hstep]
  case hstep =>
   intro ns lv h L
   dsimp only
   have hsize := L.size
   by_cases h1 : 1 < lv.length
   rotate_left
   · rw [if_neg h1, show decide ((1 : Int) < (lv.length : Int)) = false from decide_eq_false (by omega), cond_false]
   rw [if_pos h1, show decide ((1 : Int) < (lv.length : Int)) = true from decide_eq_true (by omega), cond_true]
   rw [build_shares_eq (by omega), Option.bind_some]
   have hkl := kOf_half h1
   have hkp := kOf_pos lv.length
   have hgl := groups_length lv
   have hgm : ((groups lv).map (innerN ns)).length = kOf lv.length := by rw [List.length_map]; exact hgl
   have hlm : (stepB (ns, lv)).2.length = kOf lv.length := by unfold stepB; dsimp only; rw [List.length_map, List.length_zipIdx, groups_length]
   rw [loop_run (fun i => (((stepB (ns, lv)).2.take i, ns ++ ((groups lv).map (innerN ns)).take i, lv.drop (off lv.length (kOf lv.length) i), (i : Int)) : List Dbuild_low × List DNode × List Dbuild_low × Int)) (kOf lv.length) (r := ((stepB (ns, lv)).2, (stepB (ns, lv)).1)) (by rw [off_zero]; simp) (by omega) ?hs2 ?he2]
   · rfl
   case he2 =>
    dsimp only
    rw [sharesR_length, decide_eq_false (by omega), cond_false, List.take_of_length_le (by omega), List.take_of_length_le (by omega)]; rfl
   case hs2 =>
    intro i hi
    dsimp only
    have hg := groups_get hi
    have hn0 : ((groups lv).map (innerN ns))[i]? = some (innerN ns (piece lv (kOf lv.length) i)) := by rw [List.getElem?_map, hg]; rfl
    have hl0 : (stepB (ns, lv)).2[i]? = some ⟨((ns.length + i : Nat) : Int), headS (piece lv (kOf lv.length) i)⟩ := lows_get hg
    have hrl := rest_long lv hi
    have hrn := rest_next lv i
    have hpc : piece lv (kOf lv.length) i = (lv.drop (off lv.length (kOf lv.length) i)).take (share lv.length i) := rfl
    obtain ⟨hp8, _, _, hp1⟩ := groups_small (List.mem_of_getElem? hg)
    have hp1 := hp1 h1
    have hsub := (piece_sub (List.mem_of_getElem? hg)).subset
    generalize piece lv (kOf lv.length) i = g at *
    generalize lv.drop (off lv.length (kOf lv.length) i) = rest at *
    have htl : (((groups lv).map (innerN ns)).take i).length = i := by rw [List.length_take]; omega
    have htl2 : ((stepB (ns, lv)).2.take i).length = i := by rw [List.length_take]; omega
    rw [sharesR_length, decide_eq_true (by omega), cond_true, idx_nat', sharesR_get hi, Option.bind_some, lslice_to hrl, Option.bind_some, ← hpc]
    rw [loop_run (s := (([] : List DSpot), ([] : List Int), ([] : List Int), (0 : Int))) (fun j => (((g.take j).tail.map (·.s), (g.take j).map (fun k => greatR (nd ns k.i)), (g.take j).map (·.i), (j : Int)) : List DSpot × List Int × List Int × Int)) g.length (r := (g.tail.map (·.s), g.map (fun k => greatR (nd ns k.i)), g.map (·.i))) rfl (by omega) ?hs3 ?he3]
    case he3 =>
     dsimp only
     rw [decide_eq_false (by omega), cond_false, List.take_length]
    case hs3 =>
     intro j hj
     dsimp only
     have hgj : g[j]? = some g[j] := List.getElem?_eq_getElem hj
     have hin := hsub (List.mem_of_getElem? hgj)
     have hrange := (L.fit _ hin).range
     generalize g[j] = e at *
     have hnd : idx (ns ++ ((groups lv).map (innerN ns)).take i) e.i = some (nd ns e.i) := by
      rw [nd_get hrange.1 (by rw [List.length_append]; have := hrange.2; omega), nd_old ns _ hrange]
     have htk : (g.take j).length = j := by rw [List.length_take]; omega
     rw [decide_eq_true (by omega), cond_true, idx_nat', hgj, Option.bind_some, grow_ok (by rw [List.length_map, htk, List.length_singleton]; omega) (by rw [List.length_map, htk, List.length_singleton]; omega), Option.bind_some, hnd, Option.bind_some, node_Greatest_eq _ (small_chk (L.chk _ (nd_mem hrange.1 hrange.2))), Option.bind_some, grow_ok (by rw [List.length_map, htk, List.length_singleton]; omega) (by rw [List.length_map, htk, List.length_singleton]; omega), Option.bind_some, w64 (by omega) (by omega), take_snoc hgj, List.map_append, List.map_append]
     cases j with
     | zero => rfl
     | succ j =>
      have hne : g.take (j + 1) ≠ [] := fun h => by rw [h] at htk; simp at htk
      rw [decide_eq_true (show (0 : Int) < ((j + 1 : Nat) : Int) by omega), cond_true, grow_ok (by rw [List.length_map, List.length_tail, htk, List.length_singleton]; omega) (by rw [List.length_map, List.length_tail, htk, List.length_singleton]; omega), List.tail_append_of_ne_nil hne, List.map_append]
      rfl
    rw [Option.bind_some]
    dsimp only
    obtain ⟨y, g', rfl⟩ : ∃ y g', g = y :: g' := by
     cases g with
     | nil => simp at hp1
     | cons y g' => exact ⟨y, g', rfl⟩
    have hy : idx rest 0 = some y := by
     cases rest with
     | nil => simp at hpc
     | cons z r =>
      cases hsh : share lv.length i with
      | zero => rw [hsh] at hpc; simp at hpc
      | succ q => rw [hsh, List.take_succ_cons] at hpc; rw [(List.cons.inj hpc).1]; rfl
    rw [hy, Option.bind_some, grow_ok (by rw [htl2, List.length_singleton]; omega) (by rw [htl2, List.length_singleton]; omega), Option.bind_some, grow_ok (by rw [List.length_append, htl, List.length_singleton]; omega) (by rw [List.length_append, htl, List.length_singleton]; omega), Option.bind_some, lslice_from hrl, Option.bind_some, hrn, w64 (by omega) (by omega), List.length_append, htl, take_snoc hn0, take_snoc hl0, List.append_assoc]
    rfl
  obtain ⟨h, L, h1⟩ := Lev.up hp ho 400 L0 hlv0
  unfold buildT
  dsimp only
  generalize up 400 (nodes0 l, lev0 l) = x at L h1
  obtain ⟨ns, lv⟩ := x
  dsimp only at L h1 ⊢
  obtain ⟨y, rfl⟩ := List.length_eq_one_iff.1 h1
  rfl
end Go.Proofs.Ytcmkdoahkncakaa
