/- From 'every call returns true and changes nothing that was there' to a law's statement; how arguments are opened. Its conditions: none. -/
import Derived.Test.YtacjdfhllomccaaGreatDoorOpsJ
import Derived.Test.YtacjdfhllomccaaGreatDoorRows
import Derived.ProofKit
import Derived.Below
import Derived.Deep.Slices
import Derived.SizedLaws
namespace Go.Proofs.YtacjdfhllomccaaGreatDoor
open Go.ChangeShapes Go.WideShapes Go.ChangeAt Go.RowKit
section
variable {H : Type} {enc : TypeId × Value → H} {P : Program}
theorem trodAll_stays (hl : laidOutB P = true) {W W' : World} {sp : Nat → Bool} : ∀ (ts : List TypeId) (vs : List Value) (ds : List (DataW H)) (p : List MemPlace),
 (∀ t ∈ ts, P.readableRec t = true ∧ t < P.types.size) → DataW.TrodAll enc P W 0 (fun _ => true) true ts vs ds p → (∀ x ∈ p, W.sameAt W' x) → (∀ x ∈ p, sp x.block = true) →
 DataW.TrodAll enc P W' 0 sp true ts vs ds p
 | [], [], [], _, _, h, _, _ => h
 | t :: ts, v :: vs, d :: ds, ps, ht, h, hs, hsp => by
  obtain ⟨p, q, h1, h2, rfl⟩ := h
  have hp : ∀ x ∈ p, x ∈ p ++ q := fun x hx => List.mem_append_left q hx
  have hq : ∀ x ∈ q, x ∈ p ++ q := fun x hx => List.mem_append_right p hx
  obtain ⟨hr, hlt⟩ := ht t (by simp)
  exact ⟨p, q, WideElems.Trod_stays hl hr hlt h1 (fun x hx => hs x (hp x hx)) (fun x hx => hsp x (hp x hx)),
   trodAll_stays hl ts vs ds q (fun t' h' => ht t' (by simp [h'])) h2 (fun x hx => hs x (hq x hx)) (fun x hx => hsp x (hq x hx)), rfl⟩
 | [], _ :: _, _, _, _, h, _, _ => h.elim
 | [], [], _ :: _, _, _, h, _, _ => h.elim
 | _ :: _, [], _, _, _, h, _, _ => h.elim
 | _ :: _, _ :: _, [], _, _, h, _, _ => h.elim
end
section
variable {H : Type} {enc : TypeId × Value → H} {P : Program} {w : World} {base : Nat} {spare : Nat → Bool} {held : Bool}
end
def Light {H : Type} (P : Program) (t : TypeId) (d : DataW H) : Prop := ∀ n ∈ DataW.weights P t d, n ≤ reachBytes
def Opens {α : Type} (P : Program) (t : TypeId) (E : Enc α) (ok : α → Prop) : Prop :=
 ∀ (H : Type) (enc : TypeId × Value → H) (w : World) (base : Nat) (sp : Nat → Bool) (held : Bool) (fuel : Nat) (cs : List Value) (x : DataW H × List MemPlace), DataW.trod enc P w base sp held fuel t cs = some x → Light P t x.1 → ∃ d, E.rep (vw w) cs d ∧ ok d
def okInt (k : IntKind) (n : Int) : Prop := (Lit.int k n).wf = true
def okStrW (s : ByteArray) : Prop := s.size ≤ reachBytes
def okAllW {α : Type} (bytes : Nat) (ok : α → Prop) (l : List α) : Prop := l.length * bytes ≤ reachBytes ∧ ∀ x ∈ l, ok x
theorem light_each {H : Type} {P : Program} {ts : List TypeId} {ds : List (DataW H)} (hw : (DataW.weightsEach P ts ds).all (· ≤ reachBytes) = true) {j : Nat} {t : TypeId} {d : DataW H} (ht : ts[j]? = some t) (hd : ds[j]? = some d) : Light P t d := fun n hn => by
 have := List.all_eq_true.1 hw n (DataW.weights_mem_each ht hd n hn)
 simpa using this
theorem mem_weightsAll {H : Type} {P : Program} {e : TypeId} : ∀ {ds : List (DataW H)} {d : DataW H} {n : Nat}, d ∈ ds → n ∈ DataW.weights P e d → n ∈ DataW.weightsAll P e ds
 | d0 :: ds, d, n, hd, hn => by
  unfold DataW.weightsAll
  rcases List.mem_cons.1 hd with rfl | hd
  · exact List.mem_append_left _ hn
  · exact List.mem_append_right _ (mem_weightsAll hd hn)
section
variable {P : Program} {t : TypeId}
theorem opens_str (ht : P.underlying t = some .string) : Opens P t eStr okStrW := fun H enc w base sp held fuel cs x h hw => by
 obtain ⟨s, hc, hx, _⟩ := DataW.trod_string ht h
 refine ⟨s, hc, ?_⟩
 show s.size ≤ reachBytes
 have := hw s.data.toList.length (by rw [hx]; simp [DataW.weights])
 simpa using this
theorem opens_list {α : Type} {e : TypeId} {E : Enc α} {ok : α → Prop} {bytes : Nat} (ht : P.underlying t = some (.slice e)) (hs : P.cellsOf e = E.size) (hby : P.bytesOf e = bytes) (he : Opens P e E ok) : Opens P t (eList E) (okAllW bytes ok) := fun H enc w base sp held fuel cs x h hw => by
 rcases Deep.open_slice ht h with ⟨rfl, _⟩ | ⟨a, len, cap, m, n, D, Pl, rfl, _, hlc, hcm, hm, hx, hi⟩
 · exact ⟨[], ⟨none, 0, rfl, SlOk.nil _ _⟩, by simp, fun x hx => by simp at hx⟩
 · have hlm : len ≤ m := by rw [hm]; split <;> omega
   subst hx
   have hlen : len * bytes ≤ reachBytes := by
    have := hw ((((List.range len).map D).length + ((List.range (m - len)).map fun j => D (len + j)).length) * P.bytesOf e) (by simp [DataW.weights, ht])
    rw [hby] at this
    simp only [List.length_map, List.length_range] at this
    exact Nat.le_trans (Nat.mul_le_mul_right _ (by omega)) this
   have hlight : ∀ i, i < len → Light P e (D i) := fun i hil n hn => hw n (by
    simp only [DataW.weights, ht]
    refine List.mem_cons_of_mem _ (List.mem_append_left _ (mem_weightsAll (List.mem_map.2 ⟨i, List.mem_range.2 hil, rfl⟩) hn)))
   have key : ∀ i, i < len → ∃ (cs' : List Value) (d : α), w.cells? base (a.add (i * E.size)) E.size = some cs' ∧ E.rep (vw w) cs' d ∧ ok d := fun i hil => by
    obtain ⟨cs', h1, h2⟩ := hi i (by omega)
    rw [hs] at h1
    obtain ⟨d, h3, h4⟩ := he H enc w base sp held n cs' _ h2 (hlight i hil)
    exact ⟨cs', d, h1, h3, h4⟩
   have build : ∀ k, k ≤ len → ∃ (l : List α) (xs : List Value), l.length = k ∧ RowRep (vw w) E xs l ∧ Lies (vw w) (some a) xs ∧ ∀ x ∈ l, ok x := by
    intro k
    induction k with
    | zero => intro _; exact ⟨[], [], rfl, ⟨by simp, fun k x hk => by simp at hk⟩, fun j u hu => by simp at hu, fun x hx => by simp at hx⟩
    | succ k ih =>
     intro hk
     obtain ⟨l, xs, h1, h2, h3, h4⟩ := ih (by omega)
     obtain ⟨cs', d, h5, h6, h7⟩ := key k (by omega)
     refine ⟨l ++ [d], xs ++ cs', by simp [h1], h2.append (rowrep_lit1 h6), fun j u hu => ?_, fun x hx => ?_⟩
     · by_cases hj : j < xs.length
       · rw [List.getElem?_append_left hj] at hu
         exact h3 j u hu
       · rw [List.getElem?_append_right (by omega)] at hu
         refine ⟨a, rfl, ?_⟩
         obtain ⟨_, _, hat⟩ := World.cells?_some h5
         have hl5 : cs'.length = E.size := E.len h6
         have hjl : j - xs.length < cs'.length := by
          rcases Nat.lt_or_ge (j - xs.length) cs'.length with h | h
          · exact h
          · rw [List.getElem?_eq_none h] at hu; cases hu
         have := hat (j - xs.length) (by omega)
         rw [hu, add_of_add] at this
         have e : k * E.size + (j - xs.length) = j := by rw [h2.1, h1] at hj ⊢; omega
         rw [e] at this
         exact this
     · rcases List.mem_append.1 hx with hx | hx
       · exact h4 x hx
       · simp at hx; subst hx; exact h7
   obtain ⟨l, xs, h1, h2, h3, h4⟩ := build len (Nat.le_refl _)
   subst h1
   exact ⟨l, ⟨some a, cap, rfl, hlc, hcm, xs, h2, h3⟩, hlen, h4⟩
end
end Go.Proofs.YtacjdfhllomccaaGreatDoor
