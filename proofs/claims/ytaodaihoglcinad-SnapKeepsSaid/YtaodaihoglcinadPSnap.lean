/- Plain Lean: what the functions on times with names compute. Its conditions: none. -/
import Derived.Test.YtaodaihoglcinadPName
import Derived.Test.YtaodaihoglcinadPRun
import Derived.Test.YtaodaihoglcinadIns
namespace Go.Proofs.Ytaodaihoglcinad
set_option linter.unusedVariables false
set_option linter.unusedSimpArgs false
variable {F : Nat} [Big F]

def Nlt (a b : DSnap) : Prop := slt a.name b.name = true
theorem Nlt.irrefl (a : DSnap) : ¬ Nlt a a := fun h => by unfold Nlt at h; rw [slt_irrefl] at h; cases h
theorem Nlt.trans (a b c : DSnap) (h : Nlt a b) (k : Nlt b c) : Nlt a c := slt_trans h k
def tidB (t : Int) : Bool := decide (t < 0) || decide ((2147483647 : Int) < t)
def prevB (l : List DSnap) : Nat → DSnap → Bool
  | 0, _ => false
  | j + 1, e => match l[j]? with | some p => !(slt p.name e.name) | none => false
theorem prevB_succ {l : List DSnap} {j : Nat} {e p : DSnap} (h : l[j]? = some p) : prevB l (j + 1) e = !(slt p.name e.name) := by
  show (match l[j]? with | some p => !(slt p.name e.name) | none => false) = _
  rw [h]
def snapAt (l : List DSnap) (k : Nat) (e : DSnap) : Option (Unit ⊕ Int) :=
  bif (!nameB e.name || prevB l k e) then some (.inr 3) else bif tidB e.tid then some (.inr 9) else none
theorem snapAt_some {l : List DSnap} {k : Nat} {e : DSnap} {r : Unit ⊕ Int} (h : snapAt l k e = some r) : r = .inr 3 ∨ r = .inr 9 := by
  unfold snapAt at h
  cases hc : (!nameB e.name || prevB l k e) with
  | true => rw [hc, cond_true] at h; exact .inl (Option.some.inj h).symm
  | false =>
    rw [hc, cond_false] at h
    cases ht : tidB e.tid with
    | true => rw [ht, cond_true] at h; exact .inr (Option.some.inj h).symm
    | false => rw [ht, cond_false] at h; cases h
structure Snaps (l : List DSnap) : Prop where
  len : l.length ≤ 20
  ok : ∀ e ∈ l, nameB e.name = true ∧ tidB e.tid = false
  ord : l.Pairwise Nlt
def chkSn (l : List DSnap) : Int := if 20 < l.length then 2 else match (l.zipIdx.findSome? fun p => snapAt l p.2 p.1) with | some (.inr e) => e | _ => 0
theorem snap_Check_eq (l : List DSnap) : snap_Check F l = some (chkSn l) := by
  unfold snap_Check chkSn
  by_cases h : 20 < l.length
  · rw [decide_eq_true (by omega), cond_true, if_pos h]
  rw [decide_eq_false (by omega), cond_false, if_neg h]
  rw [loop_find (ρ := Unit ⊕ Int) l (snapAt l) (.inl ()) (by omega) rfl ?hs ?he]
  case hs =>
    intro k e hk _
    have hkl := (List.getElem?_eq_some_iff.1 hk).1
    rw [decide_eq_true (by omega), cond_true, idx_nat', hk, Option.bind_some, dir_Name_eq, Option.bind_some]
    have ht : ∀ x y : Option (Int ⊕ (Unit ⊕ Int)), (bif ((decide (e.tid < 0)) || (decide ((2147483647 : Int) < e.tid))) then x else y) = bif tidB e.tid then x else y := fun _ _ => rfl
    unfold snapAt
    cases hn : nameB e.name with
    | false => rfl
    | true =>
      rw [Bool.not_true, cond_false, Bool.false_or]
      cases k with
      | zero =>
        rw [show decide ((0 : Int) < ((0 : Nat) : Int)) = false by decide, cond_false, Option.bind_some, cond_false, ht, show prevB l 0 e = false from rfl, cond_false]
        cases tidB e.tid <;> rfl
      | succ j =>
        have hj : l[j]? = some l[j] := List.getElem?_eq_getElem (by omega)
        rw [decide_eq_true (by omega), cond_true, w64 (by omega) (by omega), show ((j + 1 : Nat) : Int) - 1 = (j : Int) by omega, idx_nat', hj, Option.bind_some, Option.bind_some, prevB_succ hj, ht]
        cases slt l[j].name e.name with
        | false => rfl
        | true =>
          rw [Bool.not_true, cond_false, cond_false]
          cases tidB e.tid with
          | true => rfl
          | false =>
            rw [cond_false, cond_false, w64 (by omega) (by omega)]
  case he => rw [decide_eq_false (by omega), cond_false]
  rw [Option.bind_some]
  cases hf : l.zipIdx.findSome? fun p => snapAt l p.2 p.1 with
  | none => rfl
  | some r =>
    cases r with
    | inl u => obtain ⟨k, e, _, he⟩ := find_some hf; rcases snapAt_some he with h | h <;> cases h
    | inr e => rfl
theorem snapAt_none {l : List DSnap} {k : Nat} {e : DSnap} : snapAt l k e = none ↔ nameB e.name = true ∧ tidB e.tid = false ∧ ∀ j p, k = j + 1 → l[j]? = some p → Nlt p e := by
  unfold snapAt Nlt
  cases hn : nameB e.name with
  | false => rw [Bool.not_false, Bool.true_or, cond_true]; simp
  | true =>
    rw [Bool.not_true, Bool.false_or]
    have key : prevB l k e = false ↔ ∀ j p, k = j + 1 → l[j]? = some p → slt p.name e.name = true := by
      cases k with
      | zero => exact ⟨fun _ j p h => by omega, fun _ => rfl⟩
      | succ j =>
        cases hj : l[j]? with
        | none =>
          refine ⟨fun _ i p hi hp => ?_, fun _ => by show (match l[j]? with | some p => !(slt p.name e.name) | none => false) = _; rw [hj]⟩
          obtain rfl : j = i := by omega
          rw [hj] at hp; cases hp
        | some p =>
          rw [prevB_succ hj, Bool.not_eq_false']
          refine ⟨fun h i q hi hq => ?_, fun h => h j p rfl hj⟩
          obtain rfl : j = i := by omega
          rw [hj] at hq
          obtain rfl := Option.some.inj hq
          exact h
    rw [← key]
    cases prevB l k e <;> cases tidB e.tid <;> simp
theorem chkSn_zero {l : List DSnap} : chkSn l = 0 ↔ Snaps l := by
  unfold chkSn
  by_cases h : 20 < l.length
  · rw [if_pos h]
    exact ⟨fun h => (by cases h), fun hs => (by have := hs.len; omega)⟩
  rw [if_neg h]
  cases hf : l.zipIdx.findSome? fun p => snapAt l p.2 p.1 with
  | none =>
    have h1 := find_none.1 hf
    refine ⟨fun _ => ⟨by omega, fun e he => ?_, ?_⟩, fun _ => rfl⟩
    · obtain ⟨k, hk⟩ := List.mem_iff_getElem?.1 he
      have := snapAt_none.1 (h1 k e hk)
      exact ⟨this.1, this.2.1⟩
    · exact pair_next Nlt.trans fun j a b ha hb => (snapAt_none.1 (h1 (j + 1) b hb)).2.2 j a rfl ha
  | some r =>
    obtain ⟨k, e, hk, he⟩ := find_some hf
    cases r with
    | inl u => rcases snapAt_some he with h | h <;> cases h
    | inr x =>
      dsimp only
      have hx : x ≠ 0 := fun h => by subst h; rcases snapAt_some he with h | h <;> cases h
      refine ⟨fun h => absurd h hx, fun hs => ?_⟩
      have : snapAt l k e = none := snapAt_none.2 ⟨(hs.ok e (List.mem_of_getElem? hk)).1, (hs.ok e (List.mem_of_getElem? hk)).2, fun j p hj hp => by subst hj; exact next_pair hs.ord hp hk⟩
      rw [this] at he; cases he
theorem Snaps.nil : Snaps [] := ⟨by simp, by simp, List.Pairwise.nil⟩

/-! ### Where a name is -/
def loN (l : List DSnap) (n : ByteArray) : List DSnap := l.filter fun e => slt e.name n
def geN (l : List DSnap) (n : ByteArray) : List DSnap := l.filter fun e => !(slt e.name n)
theorem loge {l : List DSnap} (h : l.Pairwise Nlt) (n : ByteArray) : l = loN l n ++ geN l n := pair_split (fun a b hab hb => slt_trans hab hb) h
def hasN (l : List DSnap) (n : ByteArray) : Bool := l.any fun e => seq e.name n
theorem hasN_iff {l : List DSnap} {n : ByteArray} : hasN l n = true ↔ ∃ e ∈ l, e.name = n := by
  unfold hasN
  rw [List.any_eq_true]
  constructor
  · rintro ⟨e, he, h⟩; exact ⟨e, he, (seq_iff _ _).1 h⟩
  · rintro ⟨e, he, h⟩; exact ⟨e, he, (seq_iff _ _).2 h⟩
theorem geN_cases {l : List DSnap} (h : l.Pairwise Nlt) (n : ByteArray) : (∃ e r, geN l n = e :: r ∧ e.name = n ∧ hasN l n = true) ∨ hasN l n = false ∧ (∀ e r, geN l n = e :: r → seq e.name n = false) := by
  have hg : (geN l n).Pairwise Nlt := h.sublist List.filter_sublist
  have hmem : ∀ e, e ∈ geN l n ↔ e ∈ l ∧ slt e.name n = false := fun e => by simp [geN]
  cases hh : hasN l n with
  | true =>
    left
    obtain ⟨e, he, hen⟩ := hasN_iff.1 hh
    have hge : e ∈ geN l n := (hmem e).2 ⟨he, by rw [hen, slt_irrefl]⟩
    cases hgl : geN l n with
    | nil => rw [hgl] at hge; cases hge
    | cons a r =>
      rw [hgl] at hge hg
      rcases List.mem_cons.1 hge with rfl | hr
      · exact ⟨e, r, rfl, hen, rfl⟩
      · have h1 := (List.pairwise_cons.1 hg).1 e hr
        have h2 := ((hmem a).1 (by rw [hgl]; exact List.mem_cons_self)).2
        unfold Nlt at h1
        rw [hen, h2] at h1; cases h1
  | false =>
    right
    refine ⟨rfl, fun e r hgl => ?_⟩
    have h2 := (hmem e).1 (by rw [hgl]; exact List.mem_cons_self)
    cases hs : seq e.name n with
    | false => rfl
    | true =>
      have := hasN_iff.2 ⟨e, h2.1, (seq_iff _ _).1 hs⟩
      rw [hh] at this; cases this
theorem snap_place_eq {l : List DSnap} (h : Snaps l) (n : ByteArray) : snap_place F l n = some (((loN l n).length : Int), hasN l n) := by
  unfold snap_place
  have hs := loge h.ord n
  have hlen : l.length = (loN l n).length + (geN l n).length := by have := congrArg List.length hs; rwa [List.length_append] at this
  have h20 := h.len
  rw [loop_search (fun j => match l[j]? with | some e => !(slt e.name n) | none => false) l.length (loN l n).length (by omega) (by omega) (fun j hj => ?_) (fun j h1 h2 => ?_) (fun i j hij hj => ?_) (fun i => by simp), Option.bind_some, Option.bind_some]
  · rcases geN_cases h.ord n with ⟨e, r, hg, hen, hh⟩ | ⟨hh, hne⟩
    · rw [hg, List.length_cons] at hlen
      have hat : l[(loN l n).length]? = some e := by
        have : (loN l n ++ geN l n)[(loN l n).length]? = some e := by rw [hg, List.getElem?_append_right (Nat.le_refl _)]; simp
        rwa [← hs] at this
      rw [decide_eq_true (by omega), cond_true, idx_nat', hat, Option.bind_some, hh, (seq_iff _ _).2 hen]; rfl
    · cases hg : geN l n with
      | nil =>
        rw [hg, List.length_nil] at hlen
        rw [decide_eq_false (by omega), cond_false, hh]; rfl
      | cons e r =>
        rw [hg, List.length_cons] at hlen
        have hat : l[(loN l n).length]? = some e := by
          have : (loN l n ++ geN l n)[(loN l n).length]? = some e := by rw [hg, List.getElem?_append_right (Nat.le_refl _)]; simp
          rwa [← hs] at this
        rw [decide_eq_true (by omega), cond_true, idx_nat', hat, Option.bind_some, hh, hne e r hg]; rfl
  · have : l[j]? = (loN l n ++ geN l n)[j]? := by rw [← hs]
    rw [this, List.getElem?_append_left hj, List.getElem?_eq_getElem hj]
    have := (List.mem_filter.1 (List.getElem_mem hj)).2
    simp only [this, Bool.not_true]
  · have : l[j]? = (loN l n ++ geN l n)[j]? := by rw [← hs]
    rw [this, List.getElem?_append_right h1, List.getElem?_eq_getElem (by omega)]
    have := (List.mem_filter.1 (List.getElem_mem (l := geN l n) (n := j - (loN l n).length) (by omega))).2
    exact this
  · have hm : (i + j) / 2 < l.length := by omega
    dsimp only
    rw [decide_eq_true (by omega), cond_true, search_mid (by omega) (by omega), idx_nat', List.getElem?_eq_getElem hm, Option.bind_some, Option.bind_some]
    dsimp only
    cases hp : slt l[(i + j) / 2].name n with
    | false => rfl
    | true => rw [Bool.not_true, Bool.not_false, cond_true, cond_false, w64 (by omega) (by omega)]
theorem at_lo {l : List DSnap} (h : l.Pairwise Nlt) {n : ByteArray} {e : DSnap} {r : List DSnap} (hg : geN l n = e :: r) : idx l ((loN l n).length : Int) = some e := by
  rw [idx_nat']
  have : (loN l n ++ geN l n)[(loN l n).length]? = some e := by rw [hg, List.getElem?_append_right (Nat.le_refl _)]; simp
  rwa [← loge h n] at this
theorem snap_Find_has {l : List DSnap} (h : Snaps l) {n : ByteArray} {e : DSnap} (he : e ∈ l) (hn : e.name = n) : snap_Find F l n = some (e.tid, 0) := by
  unfold snap_Find
  have hh : hasN l n = true := hasN_iff.2 ⟨e, he, hn⟩
  rw [snap_Check_eq, Option.bind_some, bne0_false (chkSn_zero.2 h), cond_false, snap_place_eq h, Option.bind_some]
  dsimp only
  rcases geN_cases h.ord n with ⟨a, r, hg, han, _⟩ | ⟨h0, _⟩
  · rw [hh, Bool.not_true, cond_false, at_lo h.ord hg, Option.bind_some]
    have ha : a ∈ l := by have : a ∈ geN l n := by rw [hg]; exact List.mem_cons_self
                          exact (List.mem_filter.1 this).1
    have : a = e := by
      by_cases hae : a = e
      · exact hae
      · rcases pair_mem h.ord ha he hae with h1 | h1
        · unfold Nlt at h1; rw [han, hn, slt_irrefl] at h1; cases h1
        · unfold Nlt at h1; rw [han, hn, slt_irrefl] at h1; cases h1
    rw [this]
  · rw [hh] at h0; cases h0
theorem snap_Find_no {l : List DSnap} (h : Snaps l) {n : ByteArray} (hh : hasN l n = false) : snap_Find F l n = some (0, 4) := by
  unfold snap_Find
  rw [snap_Check_eq, Option.bind_some, bne0_false (chkSn_zero.2 h), cond_false, snap_place_eq h, Option.bind_some]
  dsimp only
  rw [hh, Bool.not_false, cond_true]
theorem snap_Find_bad {l : List DSnap} (h : chkSn l ≠ 0) (n : ByteArray) : snap_Find F l n = some (0, chkSn l) := by
  unfold snap_Find
  rw [snap_Check_eq, Option.bind_some, bne0_true h, cond_true]
def addS (l : List DSnap) (n : ByteArray) (t : Int) : List DSnap := loN l n ++ ⟨n, t⟩ :: geN l n
structure AddOk (l : List DSnap) (n : ByteArray) (t : Int) : Prop where
  snaps : Snaps l
  name : nameB n = true
  tid : tidB t = false
  no : hasN l n = false
  room : l.length < 20
theorem mem_addS {l : List DSnap} (h : l.Pairwise Nlt) {n : ByteArray} {t : Int} {e : DSnap} : e ∈ addS l n t ↔ e = ⟨n, t⟩ ∨ e ∈ l := by
  unfold addS
  rw [List.mem_append, List.mem_cons]
  have : e ∈ l ↔ e ∈ loN l n ∨ e ∈ geN l n := by rw [← List.mem_append, ← loge h n]
  rw [this]
  constructor
  · rintro (h | h | h)
    · exact .inr (.inl h)
    · exact .inl h
    · exact .inr (.inr h)
  · rintro (h | h | h)
    · exact .inr (.inl h)
    · exact .inl h
    · exact .inr (.inr h)
theorem addS_length {l : List DSnap} (h : l.Pairwise Nlt) (n : ByteArray) (t : Int) : (addS l n t).length = l.length + 1 := by
  have := congrArg List.length (loge h n)
  rw [List.length_append] at this
  unfold addS
  rw [List.length_append, List.length_cons]
  omega
theorem AddOk.ge {l : List DSnap} {n : ByteArray} {t : Int} (h : AddOk l n t) : ∀ e ∈ geN l n, slt n e.name = true := fun e he => by
  obtain ⟨h1, h2⟩ := List.mem_filter.1 he
  cases hs : slt n e.name with
  | true => rfl
  | false =>
    have := slt_total hs (by simpa using h2)
    have h3 := hasN_iff.2 ⟨e, h1, this.symm⟩
    rw [h.no] at h3; cases h3
theorem AddOk.run {l : List DSnap} {n : ByteArray} {t : Int} (h : AddOk l n t) : Snaps (addS l n t) := by
  refine ⟨by rw [addS_length h.snaps.ord]; exact h.room, fun e he => ?_, ?_⟩
  · rcases (mem_addS h.snaps.ord).1 he with rfl | he
    · exact ⟨h.name, h.tid⟩
    · exact h.snaps.ok e he
  · have ho := h.snaps.ord
    rw [loge ho n] at ho
    obtain ⟨h1, h2, h3⟩ := List.pairwise_append.1 ho
    refine List.pairwise_append.2 ⟨h1, List.pairwise_cons.2 ⟨fun e he => h.ge e he, h2⟩, fun a ha b hb => ?_⟩
    have hal : slt a.name n = true := by simpa using (List.mem_filter.1 ha).2
    rcases List.mem_cons.1 hb with rfl | hb
    · exact hal
    · exact slt_trans hal (h.ge b hb)
end Go.Proofs.Ytaodaihoglcinad
