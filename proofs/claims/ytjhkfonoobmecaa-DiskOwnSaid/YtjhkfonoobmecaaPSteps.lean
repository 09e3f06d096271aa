/- Plain Lean: the steps of a group. Its conditions: none. -/
import Derived.Test.YtjhkfonoobmecaaPUndoT
import Derived.Test.YtjhkfonoobmecaaStepF
namespace Go.Proofs.Ytjhkfonoobmecaa
set_option linter.unusedVariables false
set_option linter.unusedSimpArgs false
variable {F : Nat} [Big F]

/-! ### Whether a group may be so -/
structure FitOk (h : ByteArray) (l : List DWrite) : Prop where
  head : h.size ≤ 2900
  len : l.length ≤ 100
  page : ∀ w ∈ l, 1 ≤ w.page ∧ w.page < 101
  text : ∀ w ∈ l, w.text.size ≤ 2900
  one : l.Pairwise fun a b => a.page ≠ b.page
def marks (l : List DWrite) : List Bool := l.foldl (fun s w => s.set w.page.toNat true) (List.replicate 201 false)
theorem marks_snoc (l : List DWrite) (w : DWrite) : marks (l ++ [w]) = (marks l).set w.page.toNat true := by unfold marks; rw [List.foldl_append]; rfl
theorem marks_get (l : List DWrite) : (marks l).length = 201 ∧ ∀ p, p < 201 → (marks l)[p]? = some (l.any fun w => w.page.toNat == p) := by
  have key : ∀ (l : List DWrite) (s : List Bool), s.length = 201 → (l.foldl (fun s w => s.set w.page.toNat true) s).length = 201 ∧ ∀ p, p < 201 → (l.foldl (fun s w => s.set w.page.toNat true) s)[p]? = some (s.getD p false || l.any fun w => w.page.toNat == p) := by
    intro l
    induction l with
    | nil =>
      intro s hs
      refine ⟨hs, fun p hp => ?_⟩
      rw [List.foldl_nil, List.any_nil, Bool.or_false, List.getD_eq_getElem?_getD, List.getElem?_eq_getElem (by omega)]; rfl
    | cons w l ih =>
      intro s hs
      rw [List.foldl_cons]
      obtain ⟨h1, h2⟩ := ih (s.set w.page.toNat true) (by rw [List.length_set]; exact hs)
      refine ⟨h1, fun p hp => ?_⟩
      rw [h2 p hp, List.any_cons, List.getD_eq_getElem?_getD, List.getElem?_set, List.getD_eq_getElem?_getD]
      by_cases hw : w.page.toNat = p
      · rw [if_pos hw, if_pos (by omega), show (w.page.toNat == p) = true by simpa using hw]
        simp
      · rw [if_neg hw, show (w.page.toNat == p) = false by simpa using hw, Bool.false_or]
  obtain ⟨h1, h2⟩ := key l (List.replicate 201 false) List.length_replicate
  refine ⟨h1, fun p hp => ?_⟩
  have := h2 p hp
  rw [List.getD_eq_getElem?_getD, List.getElem?_replicate, if_pos hp] at this
  exact this
theorem idx_marks (l : List DWrite) {p : Int} (h0 : 0 ≤ p) (h1 : p < 201) : idx (marks l) p = some (l.any fun w => w.page.toNat == p.toNat) := by
  unfold idx
  rw [if_neg (by omega)]
  exact (marks_get l).2 p.toNat (by omega)
/-- What is wrong with the write at a place. -/
def badW (l : List DWrite) (k : Nat) : Option (Unit ⊕ Int) :=
  match l[k]? with
  | none => none
  | some w => if w.page < 1 ∨ 101 ≤ w.page then some (.inr 1) else if 2900 < w.text.size then some (.inr 2) else if ((l.take k).any fun v => v.page.toNat == w.page.toNat) = true then some (.inr 5) else none
theorem fit_spec (h : ByteArray) (l : List DWrite) : ∃ c : Int, undo_fit F h l = some c ∧ (c = 0 ↔ FitOk h l) := by
  unfold undo_fit
  by_cases hb : 2900 < h.size ∨ 100 < l.length
  · refine ⟨2, ?_, ?_⟩
    · rw [show (decide ((2900 : Int) < (h.size : Int)) || decide ((100 : Int) < (l.length : Int))) = true by simp; omega, ctrue]
    · constructor
      · intro h; cases h
      · intro g; have := g.head; have := g.len; omega
  · rw [show (decide ((2900 : Int) < (h.size : Int)) || decide ((100 : Int) < (l.length : Int))) = false by simp; omega, cfalse]
    have key := iter_scan (σ := (List Bool) × Int) (ρ := Unit ⊕ Int) (f := fun x => match x with
      | (x1, x2) =>
        bif decide (x2 < (l.length : Int)) then
            (idx l x2).bind fun e1 =>
            bif ((decide (e1.page < 1)) || (decide ((101 : Int) ≤ e1.page))) then
              some (.inr (.inr 1))
            else
              bif decide ((2900 : Int) < (e1.text.size : Int)) then
                some (.inr (.inr 2))
              else
                (idx x1 e1.page).bind fun e2 =>
                bif e2 then
                  some (.inr (.inr 5))
                else
                  (idx x1 e1.page).bind fun e3 =>
                  some (.inl ((x1.set e1.page.toNat true), IntKind.i64.wrap (x2 + 1)))
          else
            some (.inr (.inl ()))) (fun k => (marks (l.take k), (k : Int))) (badW l) l.length (res := .inl ()) (fun k hk => by
      dsimp only
      unfold badW
      rw [decide_eq_true (show (k : Int) < (l.length : Int) by omega), ctrue, idx_nat, List.getElem?_eq_getElem hk, obind]
      dsimp only
      by_cases h1 : (l[k]).page < 1 ∨ 101 ≤ (l[k]).page
      · rw [if_pos h1, show (decide ((l[k]).page < 1) || decide ((101 : Int) ≤ (l[k]).page)) = true by simpa using h1, ctrue]
      · rw [if_neg h1, show (decide ((l[k]).page < 1) || decide ((101 : Int) ≤ (l[k]).page)) = false by simpa using h1, cfalse]
        by_cases h2 : 2900 < (l[k]).text.size
        · rw [if_pos h2, decide_eq_true (by omega), ctrue]
        · rw [if_neg h2, decide_eq_false (by omega), cfalse, idx_marks _ (by omega) (by omega), obind]
          cases h3 : (l.take k).any fun v => v.page.toNat == (l[k]).page.toNat with
          | true => rw [ctrue, if_pos rfl]
          | false =>
            rw [cfalse, if_neg (by decide), obind, wrap64 (by omega) (by omega), List.take_add_one, List.getElem?_eq_getElem hk, Option.toList_some, marks_snoc]
            rfl) (by
      dsimp only
      rw [decide_eq_false (by omega)]; rfl) l.length 0 F (by omega) (lt_big (by omega))
    rw [show iter _ F ((List.replicate 201 false : List Bool), (0 : Int)) = _ from key, obind]
    cases hf : (List.range' 0 l.length).findSome? (badW l) with
    | some r =>
      obtain ⟨k, hk, hr⟩ := findSome_get hf
      unfold badW at hr
      rw [List.getElem?_eq_getElem hk] at hr
      dsimp only at hr
      split at hr
      · rename_i h1
        obtain rfl := Option.some.inj hr
        refine ⟨1, rfl, ?_⟩
        constructor
        · intro h; cases h
        · intro g; have := g.page _ (List.getElem_mem hk); omega
      · rename_i h1
        split at hr
        · rename_i h2
          obtain rfl := Option.some.inj hr
          refine ⟨2, rfl, ?_⟩
          constructor
          · intro h; cases h
          · intro g; have := g.text _ (List.getElem_mem hk); omega
        · split at hr
          · rename_i h3
            obtain rfl := Option.some.inj hr
            refine ⟨5, rfl, ?_⟩
            constructor
            · intro h; cases h
            · intro g
              rw [List.any_eq_true] at h3
              obtain ⟨v, hv, hp⟩ := h3
              obtain ⟨i, hi, rfl⟩ := List.getElem_of_mem hv
              rw [List.length_take] at hi
              rw [List.getElem_take] at hp
              have := (List.pairwise_iff_getElem.1 g.one) i k (by omega) hk (by omega)
              have p1 := g.page _ (List.getElem_mem (show i < l.length by omega))
              have p2 := g.page _ (List.getElem_mem hk)
              rw [beq_iff_eq] at hp
              omega
          · cases hr
    | none =>
      rw [findSome_none] at hf
      refine ⟨0, rfl, ?_⟩
      have part : ∀ k (hk : k < l.length), ¬ ((l[k]).page < 1 ∨ 101 ≤ (l[k]).page) ∧ ¬ 2900 < (l[k]).text.size ∧ ¬ ((l.take k).any fun v => v.page.toNat == (l[k]).page.toNat) = true := fun k hk => by
        have := hf k hk
        unfold badW at this
        rw [List.getElem?_eq_getElem hk] at this
        dsimp only at this
        split at this
        · cases this
        · rename_i h1
          split at this
          · cases this
          · rename_i h2
            split at this
            · cases this
            · rename_i h3; exact ⟨h1, h2, h3⟩
      constructor
      · intro _
        refine ⟨by omega, by omega, fun w hw => ?_, fun w hw => ?_, ?_⟩
        · obtain ⟨k, hk, rfl⟩ := List.getElem_of_mem hw
          have := (part k hk).1; omega
        · obtain ⟨k, hk, rfl⟩ := List.getElem_of_mem hw
          have := (part k hk).2.1; omega
        · rw [List.pairwise_iff_getElem]
          intro i j hi hj hij he
          refine (part j hj).2.2 ?_
          rw [List.any_eq_true]
          refine ⟨l[i], ?_, by rw [beq_iff_eq, he]⟩
          rw [List.mem_iff_getElem?]
          exact ⟨i, by rw [List.getElem?_take, if_pos hij, List.getElem?_eq_getElem hi]⟩
      · intro _; rfl

/-! ### The steps -/
def oldB (q : Nat) (P : List ByteArray) (p : Nat) : List UInt8 := bigL (q + 1) 4 ++ bigL p 4 ++ bl (pg P p)
/-- What keeps the page of a write. -/
def frW (q : Nat) (P : List ByteArray) (i : Nat) (w : DWrite) : DWrite := ⟨((101 + i : Nat) : Int), ofL (fput 9 (oldB q P w.page.toNat))⟩
def frWs (q : Nat) (P : List ByteArray) (l : List DWrite) : List DWrite := l.mapIdx (frW q P)
def hN (n : Nat) (h : ByteArray) : ByteArray := ofL (fput 8 (bigL n 4 ++ bl h))
def hB (q : Nat) (h : ByteArray) : ByteArray := hN (q + 1) h
def P2 (q : Nat) (P : List ByteArray) (l : List DWrite) : List ByteArray := apply (frWs q P l) P
def P3 (q : Nat) (P : List ByteArray) (l : List DWrite) : List ByteArray := apply l (P2 q P l)
def P4 (q : Nat) (P : List ByteArray) (h : ByteArray) (l : List DWrite) : List ByteArray := apply [⟨0, hB q h⟩] (P3 q P l)
def stepsI (q : Nat) (P : List ByteArray) (h : ByteArray) (l : List DWrite) : List DDisk :=
  ⟨P, []⟩ :: ((List.range l.length).map (fun k => ⟨P, (frWs q P l).take (k + 1)⟩) ++ ⟨P2 q P l, []⟩ :: ((List.range l.length).map (fun k => ⟨P2 q P l, l.take (k + 1)⟩) ++ [⟨P3 q P l, []⟩, ⟨P3 q P l, [⟨0, hB q h⟩]⟩]))
def stepsR (q : Nat) (P : List ByteArray) (h : ByteArray) (l : List DWrite) : List DDisk := stepsI q P h l ++ [⟨P4 q P h l, []⟩]
structure StepsOk (d : DDisk) (h : ByteArray) (l : List DWrite) (q : Nat) (t : ByteArray) : Prop where
  seq : SeqOk d q t
  fit : FitOk h l
  small : ∀ w ∈ l, (seen d w.page.toNat).size ≤ 2900
  more : q < 2147483647
theorem frWs_length (q : Nat) (P : List ByteArray) (l : List DWrite) : (frWs q P l).length = l.length := by unfold frWs; rw [List.length_mapIdx]
theorem frWs_get (q : Nat) (P : List ByteArray) (l : List DWrite) (k : Nat) (hk : k < l.length) : (frWs q P l)[k]? = some (frW q P k l[k]) := by
  unfold frWs; rw [List.getElem?_mapIdx, List.getElem?_eq_getElem hk]; rfl
theorem mem_frWs {q : Nat} {P : List ByteArray} {l : List DWrite} {w : DWrite} : w ∈ frWs q P l ↔ ∃ k, ∃ hk : k < l.length, w = frW q P k l[k] := by
  rw [List.mem_iff_getElem?]
  constructor
  · rintro ⟨k, hk⟩
    have hkl := (List.getElem?_eq_some_iff.1 hk).1
    rw [frWs_length] at hkl
    rw [frWs_get q P l k hkl] at hk
    exact ⟨k, hkl, (Option.some.inj hk).symm⟩
  · rintro ⟨k, hk, rfl⟩
    exact ⟨k, frWs_get q P l k hk⟩
theorem take_frWs (q : Nat) (P : List ByteArray) (l : List DWrite) (k : Nat) (hk : k < l.length) : (frWs q P l).take (k + 1) = (frWs q P l).take k ++ [frW q P k l[k]] := by
  rw [List.take_add_one, frWs_get q P l k hk]; rfl
theorem oldB_length (q : Nat) (P : List ByteArray) (p : Nat) : (oldB q P p).length = 8 + (pg P p).size := by
  unfold oldB; rw [List.length_append, List.length_append, bigL_length, bigL_length]; rfl
theorem head_eq (n : Nat) (hn : n ≤ 2147483647) (h : ByteArray) (hh : h.size ≤ 2900) : undo_Head F (n : Int) h = some (hN n h, 0) := by
  unfold undo_Head hN
  have hl : (bl h).length = h.size := rfl
  rw [show (decide ((n : Int) < 0) || decide ((2147483647 : Int) < (n : Int))) = false by simp; omega, cfalse, decide_eq_false (by omega), cfalse, four_eq, obind]
  have hs := scat_ofL (a := bigL n 4) (b := bl h) (by rw [bigL_length]; omega)
  rw [ofL_bl] at hs
  have hp := frame_Put_good (F := F) 8 (bigL n 4 ++ bl h) (by decide) (by decide) (by rw [List.length_append, bigL_length]; omega)
  rw [hs, obind, show (DFrame.mk 8 (ofL (bigL n 4 ++ bl h))) = ⟨((8 : Nat) : Int), ofL (bigL n 4 ++ bl h)⟩ from rfl, hp, obind]
theorem put_ok' {d : DDisk} {i : Int} {s : ByteArray} (h : MayPut d i s) : disk_Put F d i s = some (⟨d.pages, d.writes ++ [⟨i, s⟩]⟩, 0) := by
  rcases disk_Put_eq (F := F) d i s with ⟨_, h2⟩ | ⟨h1, _⟩
  · exact h2
  · exact absurd h h1
section
variable {d : DDisk} {h : ByteArray} {l : List DWrite} {q : Nat} {t : ByteArray}
/-- The facts that the steps stand on. -/
structure Ground (q : Nat) (P : List ByteArray) (h : ByteArray) (l : List DWrite) : Prop where
  len : P.length = 201
  size : ∀ s ∈ P, s.size ≤ 3500
  fit : FitOk h l
  small : ∀ w ∈ l, (pg P w.page.toNat).size ≤ 2900
  more : q < 2147483647
theorem StepsOk.ground (g : StepsOk d h l q t) : Ground q (apply d.writes d.pages) h l := by
  refine ⟨by rw [apply_length]; exact g.seq.len, (good_sync g.seq.good).pages, g.fit, fun w hw => ?_, g.more⟩
  have := g.fit.page w hw
  rw [seen_pg d g.seq.good _ (by rw [g.seq.len]; omega)]
  exact g.small w hw
variable {P : List ByteArray}
theorem Ground.frw (g : Ground q P h l) : ∀ w ∈ frWs q P l, okW 201 w := fun w hw => by
  obtain ⟨k, hk, rfl⟩ := mem_frWs.1 hw
  have := g.fit.len
  refine ⟨by show (0 : Int) ≤ ((101 + k : Nat) : Int); omega, by show ((101 + k : Nat) : Int) < ((201 : Nat) : Int); omega, ?_⟩
  show (fput 9 (oldB q P (l[k]).page.toNat)).length ≤ 3500
  have := g.small _ (List.getElem_mem hk)
  rw [fput_length, oldB_length]; omega
theorem Ground.len2 (g : Ground q P h l) : (P2 q P l).length = 201 := by unfold P2; rw [apply_length]; exact g.len
theorem Ground.len3 (g : Ground q P h l) : (P3 q P l).length = 201 := by unfold P3; rw [apply_length]; exact g.len2
theorem Ground.good1 (g : Ground q P h l) {ws : List DWrite} (hn : ws.length ≤ 400) (hw : ∀ w ∈ ws, okW 201 w) : GoodD ⟨P, ws⟩ := ⟨Nat.le_of_eq g.len, hn, g.size, fun w h => by show okW P.length w; rw [g.len]; exact hw w h⟩
theorem Ground.goodF (g : Ground q P h l) : GoodD ⟨P, frWs q P l⟩ := g.good1 (by rw [frWs_length]; have := g.fit.len; omega) g.frw
theorem Ground.size2 (g : Ground q P h l) : ∀ s ∈ P2 q P l, s.size ≤ 3500 := (good_sync g.goodF).pages
theorem Ground.okl (g : Ground q P h l) : ∀ w ∈ l, okW 201 w := fun w hw => by
  have := g.fit.page w hw
  have := g.fit.text w hw
  exact ⟨by omega, by show w.page < ((201 : Nat) : Int); omega, by omega⟩
theorem Ground.good2 (g : Ground q P h l) {ws : List DWrite} (hn : ws.length ≤ 400) (hw : ∀ w ∈ ws, okW 201 w) : GoodD ⟨P2 q P l, ws⟩ := ⟨Nat.le_of_eq g.len2, hn, g.size2, fun w h => by show okW (P2 q P l).length w; rw [g.len2]; exact hw w h⟩
theorem Ground.goodL (g : Ground q P h l) : GoodD ⟨P2 q P l, l⟩ := g.good2 (by have := g.fit.len; omega) g.okl
theorem Ground.size3 (g : Ground q P h l) : ∀ s ∈ P3 q P l, s.size ≤ 3500 := (good_sync g.goodL).pages
theorem Ground.hsize (g : Ground q P h l) : (hB q h).size ≤ 3500 := by
  show (fput 8 (bigL (q + 1) 4 ++ bl h)).length ≤ 3500
  have := g.fit.head
  have e : (bl h).length = h.size := rfl
  rw [fput_length, List.length_append, bigL_length]; omega
theorem Ground.mayH (g : Ground q P h l) : MayPut ⟨P3 q P l, []⟩ 0 (hB q h) :=
  ⟨⟨Nat.le_of_eq g.len3, Nat.zero_le _, g.size3, fun w h => by cases h⟩, by decide, by show (0 : Int) < ((P3 q P l).length : Int); rw [g.len3]; decide, g.hsize, by show (0 : Nat) < 400; decide⟩
theorem seen_fr (g : Ground q P h l) (k p : Nat) (hp : p < 101) : seen ⟨P, (frWs q P l).take k⟩ p = pg P p := by
  unfold seen
  rw [lastW_not]
  · rfl
  · intro w hw
    obtain ⟨i, hi, rfl⟩ := mem_frWs.1 (List.mem_of_mem_take hw)
    show ((101 + i : Nat) : Int) ≠ (p : Int)
    omega
theorem steps_good (s : StepsOk d h l q t) : undo_Steps F d h l = some (stepsR q (apply d.writes d.pages) h l, 0) := by
  have g := s.ground
  obtain ⟨c, hc, hc0⟩ := fit_spec (F := F) h l
  have c0 := hc0.2 s.fit
  subst c0
  have hn := s.fit.len
  have hq := s.more
  unfold undo_Steps
  rw [seq_good s.seq, obind]
  dsimp only
  rw [show ((0 : Int) != 0) = false by decide, cfalse, hc, obind, show ((0 : Int) != 0) = false by decide, cfalse]
  rw [loop_first l (fun w => if 2900 < (seen d w.page.toNat).size then some (.inr ([], 2)) else none) (.inl ()) (by omega) rfl (fun k e hk => ?_) (by rw [decide_eq_false (by omega), cfalse])]
  · have hnone : l.findSome? (fun w => if 2900 < (seen d w.page.toNat).size then some (.inr ([], 2) : Unit ⊕ ((List DDisk) × Int)) else none) = none := by
      rw [List.findSome?_eq_none_iff]
      intro w hw
      have := s.small w hw
      rw [if_neg (by omega)]
    rw [hnone, Option.getD_none, obind]
    dsimp only
    rw [show ((q : Int) == 2147483647) = false by rw [beq_eq_false_iff_ne]; omega, cfalse, disk_Sync_good s.seq.good, obind, growD (by simp) (by simp), obind, obind]
    dsimp only
    generalize apply d.writes d.pages = P at g ⊢
    rw [loop_run (F := F) (s := (([] : List DDisk) ++ [(⟨P, []⟩ : DDisk)], P, ([] : List DWrite), (0 : Int))) (fun k => ((⟨P, []⟩ : DDisk) :: (List.range k).map (fun k => (⟨P, (frWs q P l).take (k + 1)⟩ : DDisk)), P, (frWs q P l).take k, (k : Int))) l.length
      (r := ((⟨P, []⟩ : DDisk) :: (List.range l.length).map (fun k => (⟨P, (frWs q P l).take (k + 1)⟩ : DDisk)), P, (frWs q P l).take l.length)) rfl (by omega) (fun k hk => ?_) ?_, obind]
    · dsimp only
      rw [show (frWs q P l).take l.length = frWs q P l from List.take_of_length_le (by rw [frWs_length]; exact Nat.le_refl _), disk_Sync_good g.goodF, obind]
      dsimp only
      rw [growD (by simp; omega) (by simp; omega), obind, obind]
      dsimp only
      rw [show apply (frWs q P l) P = P2 q P l from rfl]
      generalize hA : (⟨P, []⟩ : DDisk) :: (List.range l.length).map (fun k => (⟨P, (frWs q P l).take (k + 1)⟩ : DDisk)) ++ [⟨P2 q P l, []⟩] = A
      have hAl : A.length ≤ 102 := by rw [← hA]; simp; omega
      rw [loop_run (F := F) (s := (A, P2 q P l, ([] : List DWrite), (0 : Int))) (fun k => (A ++ (List.range k).map (fun k => (⟨P2 q P l, l.take (k + 1)⟩ : DDisk)), P2 q P l, l.take k, (k : Int))) l.length
        (r := (A ++ (List.range l.length).map (fun k => (⟨P2 q P l, l.take (k + 1)⟩ : DDisk)), P2 q P l, l.take l.length)) (by simp) (by omega) (fun k hk => ?_) ?_, obind]
      · dsimp only
        rw [List.take_length, disk_Sync_good g.goodL, obind]
        dsimp only
        rw [growD (by simp; omega) (by simp; omega), obind, obind]
        dsimp only
        rw [wrap64 (n := (q : Int) + 1) (by omega) (by omega), show (q : Int) + 1 = ((q + 1 : Nat) : Int) by omega, head_eq (q + 1) (by omega) h s.fit.head, obind]
        dsimp only
        show ((disk_Put F ⟨P3 q P l, []⟩ 0 (hB q h)).bind _).bind _ = _
        rw [put_ok' g.mayH, obind]
        dsimp only
        rw [growD (by simp; omega) (by simp; omega), obind, obind]
        dsimp only
        rw [disk_Sync_good (good_put g.mayH), obind]
        dsimp only
        rw [growD (by simp; omega) (by simp; omega), obind, obind]
        dsimp only
        rw [← hA]
        unfold stepsR stepsI
        simp [P3, P4, P2]
      · dsimp only
        rw [decide_eq_false (by omega), cfalse]
      · dsimp only
        have hlk : (l.take k).length = k := by rw [List.length_take]; omega
        have hw := g.okl _ (List.getElem_mem hk)
        have hm : MayPut ⟨P2 q P l, l.take k⟩ (l[k]).page (l[k]).text := by
          refine ⟨g.good2 (by omega) (fun w hw => g.okl w (List.mem_of_mem_take hw)), hw.1, ?_, hw.2.2, by show (l.take k).length < 400; omega⟩
          show (l[k]).page < ((P2 q P l).length : Int)
          rw [g.len2]; exact hw.2.1
        rw [decide_eq_true (by omega), ctrue, idx_nat, List.getElem?_eq_getElem hk, obind, put_ok' hm, obind]
        dsimp only
        rw [growD (by simp; omega) (by simp; omega), obind, obind]
        dsimp only
        have htk : l.take (k + 1) = l.take k ++ [l[k]] := by rw [List.take_add_one, List.getElem?_eq_getElem hk]; rfl
        rw [wrap64 (by omega) (by omega), List.range_succ, List.map_append, List.map_singleton, htk, ← List.append_assoc]
        rfl
    · dsimp only
      rw [decide_eq_false (by omega), cfalse]
    · dsimp only
      have hlk : ((frWs q P l).take k).length = k := by rw [List.length_take, frWs_length]; omega
      have hwk := g.fit.page _ (List.getElem_mem hk)
      have hfr := g.frw _ (mem_frWs.2 ⟨k, hk, rfl⟩)
      have hse := disk_Seen_eq (F := F) ⟨P, (frWs q P l).take k⟩ (l[k]).page.toNat (by show (l[k]).page.toNat < P.length; rw [g.len]; omega) (by show ((frWs q P l).take k).length ≤ 1000000; omega)
      rw [seen_fr g k _ (by omega), show (((l[k]).page.toNat : Nat) : Int) = (l[k]).page by omega] at hse
      have h4 := four_eq (F := F) (l[k]).page.toNat
      rw [show (((l[k]).page.toNat : Nat) : Int) = (l[k]).page by omega] at h4
      have hsm := g.small _ (List.getElem_mem hk)
      have hbl : (bl (pg P (l[k]).page.toNat)).length = (pg P (l[k]).page.toNat).size := rfl
      have hs2 := scat_ofL (a := bigL (q + 1) 4 ++ bigL (l[k]).page.toNat 4) (b := bl (pg P (l[k]).page.toNat)) (by rw [List.length_append, bigL_length, bigL_length]; omega)
      rw [ofL_bl] at hs2
      have hp := frame_Put_good (F := F) 9 (oldB q P (l[k]).page.toNat) (by decide) (by decide) (by rw [oldB_length]; omega)
      have hm : MayPut ⟨P, (frWs q P l).take k⟩ ((101 + k : Nat) : Int) (ofL (fput 9 (oldB q P (l[k]).page.toNat))) := by
        refine ⟨g.good1 (by omega) (fun w hw => g.frw w (List.mem_of_mem_take hw)), hfr.1, ?_, hfr.2.2, by show ((frWs q P l).take k).length < 400; omega⟩
        show ((101 + k : Nat) : Int) < (P.length : Int)
        rw [g.len]; exact hfr.2.1
      rw [decide_eq_true (by omega), ctrue, idx_nat, List.getElem?_eq_getElem hk, obind, wrap64 (n := (q : Int) + 1) (by omega) (by omega), show (q : Int) + 1 = ((q + 1 : Nat) : Int) by omega, four_eq, obind, h4, obind,
        scat_ofL (by rw [bigL_length, bigL_length]; decide), obind, hse, obind, hs2, obind, show (DFrame.mk 9 (ofL (bigL (q + 1) 4 ++ bigL (l[k]).page.toNat 4 ++ bl (pg P (l[k]).page.toNat)))) = ⟨((9 : Nat) : Int), ofL (oldB q P (l[k]).page.toNat)⟩ from rfl, hp, obind]
      dsimp only
      rw [wrap64 (n := 101 + (k : Int)) (by omega) (by omega), show (101 : Int) + (k : Int) = ((101 + k : Nat) : Int) by omega, put_ok' hm, obind]
      dsimp only
      rw [growD (by simp; omega) (by simp; omega), obind, obind]
      dsimp only
      rw [wrap64 (by omega) (by omega), List.range_succ, List.map_append, List.map_singleton, take_frWs q P l k hk]
      rfl
  · have hkl := (List.getElem?_eq_some_iff.1 hk).1
    have hp := s.fit.page e (List.mem_of_getElem? hk)
    have hse := disk_Seen_eq (F := F) d e.page.toNat (by rw [s.seq.len]; omega) (by have := s.seq.good.nw; omega)
    rw [show ((e.page.toNat : Nat) : Int) = e.page by omega] at hse
    rw [decide_eq_true (by omega), ctrue, idx_nat, hk, obind, hse, obind]
    by_cases hb : 2900 < (seen d e.page.toNat).size
    · rw [if_pos hb, decide_eq_true (by omega), ctrue]
    · rw [if_neg hb, decide_eq_false (by omega), cfalse, wrap64 (by omega) (by omega)]
theorem steps_bad (hno : ¬ ∃ q t, StepsOk d h l q t) : ∃ c : Int, c ≠ 0 ∧ undo_Steps F d h l = some ([], c) := by
  unfold undo_Steps
  by_cases hs : ∃ q t, SeqOk d q t
  · obtain ⟨q, t, hs⟩ := hs
    rw [seq_good hs, obind]
    dsimp only
    rw [show ((0 : Int) != 0) = false by decide, cfalse]
    obtain ⟨c, hc, hc0⟩ := fit_spec (F := F) h l
    rw [hc, obind]
    by_cases c0 : c = 0
    · have fit := hc0.1 c0
      have hn := fit.len
      rw [c0, show ((0 : Int) != 0) = false by decide, cfalse]
      rw [loop_first l (fun w => if 2900 < (seen d w.page.toNat).size then some (.inr ([], 2)) else none) (.inl ()) (by omega) rfl (fun k e hk => ?_) (by rw [decide_eq_false (by omega), cfalse])]
      · cases hf : l.findSome? (fun w => if 2900 < (seen d w.page.toNat).size then some (.inr ([], 2) : Unit ⊕ ((List DDisk) × Int)) else none) with
        | some r =>
          obtain ⟨w, _, hr⟩ := List.exists_of_findSome?_eq_some hf
          split at hr
          · obtain rfl := Option.some.inj hr
            exact ⟨2, by decide, rfl⟩
          · cases hr
        | none =>
          rw [List.findSome?_eq_none_iff] at hf
          rw [Option.getD_none, obind]
          dsimp only
          have hq : q = 2147483647 := by
            by_cases hq : q = 2147483647
            · exact hq
            · exfalso
              refine hno ⟨q, t, hs, fit, fun w hw => ?_, by have := hs.le; omega⟩
              have := hf w hw
              split at this
              · cases this
              · omega
          rw [show ((q : Int) == 2147483647) = true by rw [beq_iff_eq]; omega, ctrue]
          exact ⟨8, by decide, rfl⟩
      · have hkl := (List.getElem?_eq_some_iff.1 hk).1
        have hp := fit.page e (List.mem_of_getElem? hk)
        have hse := disk_Seen_eq (F := F) d e.page.toNat (by rw [hs.len]; omega) (by have := hs.good.nw; omega)
        rw [show ((e.page.toNat : Nat) : Int) = e.page by omega] at hse
        rw [decide_eq_true (by omega), ctrue, idx_nat, hk, obind, hse, obind]
        by_cases hb : 2900 < (seen d e.page.toNat).size
        · rw [if_pos hb, decide_eq_true (by omega), ctrue]
        · rw [if_neg hb, decide_eq_false (by omega), cfalse, wrap64 (by omega) (by omega)]
    · rw [nz' c0, ctrue]
      exact ⟨c, c0, rfl⟩
  · obtain ⟨c, h0, hc⟩ := seq_bad (F := F) hs
    rw [hc, obind]
    dsimp only
    rw [nz' h0, ctrue]
    exact ⟨c, h0, rfl⟩
end
end Go.Proofs.Ytjhkfonoobmecaa
