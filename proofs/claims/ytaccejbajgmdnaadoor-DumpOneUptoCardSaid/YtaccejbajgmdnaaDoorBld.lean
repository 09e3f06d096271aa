/- A strings.Builder that the call has made, as an object of the symbolic heap; what a writing call makes of it. Its conditions: as each states. -/
import Derived.Test.YtaccejbajgmdnaaDoorRow
import Derived.Test.YtaccejbajgmdnaaDoorOps
import Derived.Lib.FrozenHead
import Derived.Lib.OthersKept
namespace Go.Proofs.YtaccejbajgmdnaaDoor
open Go.RowKit
set_option linter.unusedVariables false
/-- A builder in block b, its bytes in block go, if any; it holds the string l. -/
def bld (T e : TypeId) (b : Nat) (go : Option Nat) (l : ByteArray) : HObj where
  own := fun b' => b' = b ∨ go = some b'
  ok := fun _ w => Lib.IsBuilderF T e b b (Lib.byteCells l.data.toList) w ∧ ∃ p v, w.heap[b]? = some (.cells #[p, v] T (0, 0)) ∧ v.ownBlock = go ∧ ∀ g, go = some g → ∃ c fz, w.heap[g]? = some (.cells c e fz)
  loc := fun _ w w' hb ⟨h, p, v, h1, h2, h3⟩ => by
    have key : ∀ q, Lib.BuilderAtF T e b b q (Lib.byteCells l.data.toList) w → Lib.BuilderAtF T e b b q (Lib.byteCells l.data.toList) w' := by
      rintro q ⟨a1, v', a2, a3, a4⟩
      have hv : v' = v := by
        rw [a2] at h1
        simp at h1
        exact h1.2
      subst hv
      refine ⟨a1, v', by rw [hb b (.inl rfl)]; exact a2, ⟨a3.1, ?_⟩, a4⟩
      rcases a3.2 with h5 | ⟨g, cap, cur, fz, h5, h6, h7, h8⟩
      · exact .inl h5
      · refine .inr ⟨g, cap, cur, fz, h5, h6, ?_, h8⟩
        rw [hb g (.inr (by rw [← h2, h5]; rfl))]
        exact h7
    refine ⟨h.imp (key _) (key _), p, v, by rw [hb b (.inl rfl)]; exact h1, h2, fun g hg => ?_⟩
    rw [hb g (.inr hg)]
    exact h3 g hg
  mono := fun _ _ _ _ h => h
  lt := fun _ w b' ⟨h, p, v, h1, h2, h3⟩ hb => by
    rcases hb with rfl | hb
    · exact lt_of_heap h1
    · obtain ⟨c, fz, hc⟩ := h3 b' hb
      exact lt_of_heap hc
/-- An object none of whose blocks is a row of e's. -/
def NoRow (e : TypeId) (x : HObj) : Prop := ∀ V w k, x.ok V w → x.own k → ∃ o, w.heap[k]? = some o ∧ ∀ c fz, o ≠ .cells c e fz
theorem noRow_box {e t : TypeId} {b : Nat} {cs : List Value} (h : t ≠ e) : NoRow e (box b t cs) := fun V w k hk ho => by
  injection ho with ho
  subst ho
  exact ⟨_, hk, fun c fz hc => h (by injection hc)⟩
theorem noRow_row {α : Type} {e t : TypeId} {p : Bool} {E : Enc α} {A : Option Addr} {c : Nat} {l : List α} (h : t ≠ e) : NoRow e (rowb p t E A c l) := fun V w k hk ho => by
  have ho' : rowblk A c = some k := ho
  obtain ⟨h1, h2, h3⟩ := hk
  unfold rowblk at ho'
  split at ho'
  · cases ho'
  · rename_i hc
    rcases h3 with h3 | ⟨g, cur, fz, xs, h3⟩
    · omega
    · rw [h3.adr] at ho'
      injection ho' with ho'
      have hg : g = k := ho'
      subst hg
      exact ⟨_, h3.heap, fun c' fz' hc' => h (by injection hc')⟩
/-- All other objects are of that kind. -/
def Others (e : TypeId) : Nat → List HObj → Prop
  | _, [] => True
  | 0, _ :: H => ∀ x ∈ H, NoRow e x
  | n + 1, x :: H => NoRow e x ∧ Others e n H
theorem Others.get {e : TypeId} : ∀ {n : Nat} {H : List HObj}, Others e n H → ∀ k x, H[k]? = some x → k ≠ n → NoRow e x
  | _, [], _, k, x, hk, _ => by simp at hk
  | 0, y :: H, h, 0, x, hk, hn => absurd rfl hn
  | 0, y :: H, h, k + 1, x, hk, hn => h x (List.mem_of_getElem? (by simpa using hk))
  | n + 1, y :: H, h, 0, x, hk, hn => by simp at hk; subst hk; exact h.1
  | n + 1, y :: H, h, k + 1, x, hk, hn => h.2.get k x (by simpa using hk) (by omega)
section
variable {w0 : World} {H : List HObj} {tb e : TypeId} {b : Nat} {go : Option Nat} {l : ByteArray}
/-- The builder holds something else now; nothing else has turned but rows of bytes. -/
theorem Hp.bld {w w' : World} {p : Value} {l' : ByteArray} {i : Nat} (hh : Hp w0 (vw w0) H w) (hi : nth H i = some (bld tb e b go l)) (hoth : Others e i H)
    (h : Lib.IsBuilderF tb e b b (Lib.byteCells l'.data.toList) w') (hb : Below b w w') (hk : Lib.OthersKept e (some b) w w') : ∃ go', Hp w0 (vw w0) (H.set i (Go.Proofs.YtaccejbajgmdnaaDoor.bld tb e b go' l')) w' := by
  rw [nth_eq] at hi
  have hil : i < H.length := (List.getElem?_eq_some_iff.1 hi).1
  have hxi : H[i] = Go.Proofs.YtaccejbajgmdnaaDoor.bld tb e b go l := (List.getElem?_eq_some_iff.1 hi).2
  have hxm := List.mem_of_getElem? hi
  obtain ⟨p, v, h1, h2, h3⟩ : ∃ p v, w'.heap[b]? = some (.cells #[p, v] tb (0, 0)) ∧ v.ownBlock ≠ some b ∧ ∀ g, v.ownBlock = some g → b ≤ g ∧ ∃ c fz, w'.heap[g]? = some (.cells c e fz) := by
    rcases h with ⟨_, v, a2, a3, a4⟩ | ⟨_, v, a2, a3, a4⟩
    · exact ⟨_, v, a2, a4, fun g hg => ⟨(a3.lt g hg).1, Lib.ownsRowF_kind a3 g hg⟩⟩
    · exact ⟨_, v, a2, a4, fun g hg => ⟨(a3.lt g hg).1, Lib.ownsRowF_kind a3 g hg⟩⟩
  have hbo : b = b ∨ go = some b := .inl rfl
  have hVb : ∀ k o, vw w0 k = some o → k < b := fun k o hk => by
    have hn : vw w0 b = none := hh.apart _ hxm b (.inl rfl)
    have hkl : k < w0.heap.size := lt_of_heap hk
    have hbl : ¬ b < w0.heap.size := fun hlt => by
      have : w0.heap[b]? = some w0.heap[b] := Array.getElem?_eq_getElem hlt
      have hn' : w0.heap[b]? = none := hn
      rw [hn'] at this; cases this
    omega
  have hsep := hh.sep
  rw [List.pairwise_iff_getElem] at hsep
  have other : ∀ k (hk : k < H.length), k ≠ i → ∀ c, H[k].own c → c ≠ b := fun k hkl hki c hkc e => by
    subst e
    rcases Nat.lt_or_ge k i with hlt | hge
    · exact hsep k i hkl hil hlt c hkc (by rw [hxi]; exact .inl rfl)
    · exact hsep i k hil hkl (by omega) c (by rw [hxi]; exact .inl rfl) hkc
  have keep : ∀ k (hk : k < H.length), k ≠ i → ∀ c, H[k].own c → w'.heap[c]? = w.heap[c]? ∧ v.ownBlock ≠ some c := fun k hkl hki c hkc => by
    obtain ⟨o, ho1, ho2⟩ := hoth.get k _ (List.getElem?_eq_getElem hkl) hki _ w c (hh.objs _ (List.getElem_mem hkl)) hkc
    have hw := hk c o ho1 (fun e => other k hkl hki c hkc (Option.some.inj e)) ho2
    refine ⟨hw.trans ho1.symm, fun e => ?_⟩
    obtain ⟨_, c', fz, hc⟩ := h3 c e
    rw [hw] at hc
    exact ho2 c' fz (Option.some.inj hc)
  refine ⟨v.ownBlock, hb.os.trans hh.os, hb.tape.trans hh.tape, hb.output.trans hh.output, Nat.le_trans hh.size hb.size, fun k o hk' => ?_, hh.base, fun z hz => ?_, fun z hz c hc => ?_, ?_⟩
  · have hkw := hh.view k o hk'
    show w'.heap[k]? = some o
    rw [hb.block k (hVb k o hk')]
    exact hkw
  · obtain ⟨k, hkl, rfl⟩ := List.getElem_of_mem hz
    rw [List.getElem_set]
    rw [List.length_set] at hkl
    split
    · exact ⟨h, p, v, h1, rfl, fun g hg => (h3 g hg).2⟩
    · rename_i hne
      exact H[k].loc _ w w' (fun c hc => (keep k hkl (fun e' => hne e'.symm) c hc).1) (hh.objs _ (List.getElem_mem hkl))
  · obtain ⟨k, hkl, rfl⟩ := List.getElem_of_mem hz
    rw [List.getElem_set] at hc
    rw [List.length_set] at hkl
    split at hc
    · rcases hc with rfl | hc
      · exact hh.apart _ hxm _ (.inl rfl)
      · cases hv : vw w0 c with
        | none => rfl
        | some o =>
          have := hVb c o hv
          have := (h3 c hc).1
          omega
    · exact hh.apart _ (List.getElem_mem hkl) c hc
  · rw [List.pairwise_iff_getElem]
    intro k m hkl hm hkm c hkc hmc
    have hkl' : k < H.length := by simpa using hkl
    have hm' : m < H.length := by simpa using hm
    rw [List.getElem_set] at hkc hmc
    split at hkc
    · split at hmc
      · omega
      · rename_i h5 h6
        rcases hkc with rfl | hkc
        · exact other m hm' (fun e' => h6 e'.symm) _ hmc rfl
        · exact (keep m hm' (fun e' => h6 e'.symm) c hmc).2 hkc
    · rename_i h5
      split at hmc
      · rcases hmc with rfl | hmc
        · exact other k hkl' (fun e' => h5 e'.symm) _ hkc rfl
        · exact (keep k hkl' (fun e' => h5 e'.symm) c hkc).2 hmc
      · exact hsep k m hkl' hm' hkm c hkc hmc
variable {P : Program} {N : Sz} {V : View} {M : List (Nat × Value)} {ops : Array Oper} {Q : Exit → Act → World → Prop} {o : Oper} {K : Act → World → Prop}
/-- A new builder: a variable of its type that holds nought. -/
theorem T.bld {φ : Act → World → Prop} (h : T N w0 V (Go.Proofs.YtaccejbajgmdnaaDoor.bld tb e b none (ByteArray.mk #[]) :: H) M φ) : T N w0 V (box b tb [.pointer none, .slice none 0 0] :: H) M φ := fun a w hf hh => by
  refine h a w hf ⟨hh.os, hh.tape, hh.output, hh.size, hh.view, hh.base, fun x hx => ?_, fun x hx c hc => ?_, ?_⟩
  · rcases List.mem_cons.1 hx with rfl | hx
    · have hb : w.heap[b]? = some (.cells #[.pointer none, .slice none 0 0] tb (0, 0)) := hh.objs _ List.mem_cons_self
      exact ⟨.inl ⟨Nat.le_refl _, .slice none 0 0, hb, World.ownsRowF_nil _ _ _ _, by simp [Value.ownBlock]⟩, _, _, hb, rfl, fun g hg => by cases hg⟩
    · exact hh.objs _ (List.mem_cons_of_mem _ hx)
  · rcases List.mem_cons.1 hx with rfl | hx
    · rcases hc with rfl | hc
      · exact hh.apart _ List.mem_cons_self _ rfl
      · cases hc
    · exact hh.apart _ (List.mem_cons_of_mem _ hx) c hc
  · have hs := List.pairwise_cons.1 hh.sep
    refine List.Pairwise.cons (fun y hy c hc => ?_) hs.2
    rcases hc with rfl | hc
    · exact hs.1 y hy _ rfl
    · cases hc
theorem byteCells_app (l s : ByteArray) : Lib.byteCells l.data.toList ++ Lib.strCells s = Lib.byteCells (l ++ s).data.toList := by
  rw [ByteArray.data_append, Array.toList_append]
  simp [Lib.byteCells, Lib.strCells]
/-- How many bytes a builder can hold. -/
def bgrow (l s : ByteArray) : Option ByteArray := if l.size + s.size ≤ 140737488355328 then some (l ++ s) else none
theorem bgrow_some {l s r : ByteArray} (h : bgrow l s = some r) : l.size + s.size ≤ 140737488355328 ∧ r = l ++ s := by
  unfold bgrow at h
  split at h
  · exact ⟨by assumption, (Option.some.inj h).symm⟩
  · cases h
/-- A call that writes into the builder. -/
theorem W1.bldPut (i : Nat) (f : FuncId) (vs : Array Value) (v : Value) (l' : ByteArray) (hi : nth H i = some (Go.Proofs.YtaccejbajgmdnaaDoor.bld tb e b go l)) (hoth : Others e i H) (hc : okO N ops M o = true)
    (hv : ∀ w, (execOp (evM M) o).run P w = .ok (.enter f vs) w)
    (hf : ∀ w, Lib.IsBuilderF tb e b b (Lib.byteCells l.data.toList) w → b ≤ w.heap.size → Calls P f vs w fun x w' => x = .returned v ∧ Lib.IsBuilderF tb e b b (Lib.byteCells l'.data.toList) w' ∧ Below b w w' ∧ Lib.OthersKept e (some b) w w')
    (h : ∀ go', T N w0 (vw w0) (H.set i (Go.Proofs.YtaccejbajgmdnaaDoor.bld tb e b go' l')) (putM o.dst v M) K) : W1 P Q ops o N w0 (vw w0) H M K := fun a w hfr hh => by
  obtain ⟨h1, _, _, h4⟩ := okO_parts hc
  refine ⟨gd_wanted hfr h1, ?_⟩
  unfold Oper.wp
  rw [okO_exec hc hfr, hv w, Oper.upon_enter]
  have hob := hh.objs _ (List.mem_of_getElem? (by rw [← nth_eq]; exact hi))
  refine (hf w hob.1 (Nat.le_of_lt ((Go.Proofs.YtaccejbajgmdnaaDoor.bld tb e b go l).lt (vw w0) w b hob (.inl rfl)))).mono ?_
  rintro x w' ⟨rfl, h5, h6, h7⟩
  obtain ⟨go', h8⟩ := Hp.bld (p := undef) hh hi hoth h5 h6 h7
  exact h go' _ _ (hfr.put h4 v) h8
/-- A call whose results are no memory: what is known of the memory stands. -/
theorem W1.callS {ρ : Type} (E : VEnc ρ) (r : ρ) (f : FuncId) (vs : Array Value) (v : Value) (hval : ∀ V u, E.rep V u r → u = v) (hc : okO N ops M o = true)
    (hv : ∀ w, (execOp (evM M) o).run P w = .ok (.enter f vs) w) (hf : ∀ w, Hp w0 V H w → Calls P f vs w (Post E r w))
    (h : T N w0 V H (putM o.dst v M) K) : W1 P Q ops o N w0 V H M K := fun a w hfr hh => by
  obtain ⟨h1, _, _, h4⟩ := okO_parts hc
  refine ⟨gd_wanted hfr h1, ?_⟩
  unfold Oper.wp
  rw [okO_exec hc hfr, hv w, Oper.upon_enter]
  refine (hf w hh).mono ?_
  rintro x w' ⟨u, rfl, hb, hr⟩
  rw [hval _ _ hr]
  exact h _ _ (hfr.put h4 v) (hh.called_same hb)
end
/-- What strings.Split hands back: a new row of strings. -/
theorem splitPost (w : World) (n : Nat) (l : List ByteArray) (t : TypeId) (hl : l.length = n + 1) (hm : n + 1 ≤ maxLen) :
    Post (vSc (eList eStr)) l w (.returned (.slice (some ⟨w.heap.size, 0, none⟩) (n + 1) (n + 1))) (w.alloc (.cells (l.map Value.string).toArray t)) := by
  refine ⟨_, rfl, (RowKit.Below.refl _ w).alloc (Nat.le_refl _) _, some ⟨w.heap.size, 0, none⟩, n + 1, by rw [hl], by omega, hm, l.map Value.string, ⟨by rw [List.length_map]; show l.length = l.length * 1; omega, fun k x hk => ?_⟩, fun j u hu => ⟨_, rfl, ?_⟩⟩
  · show ((l.map Value.string).drop (k * 1)).take 1 = [Value.string x]
    have hkl : k < l.length := (List.getElem?_eq_some_iff.1 hk).1
    rw [show k * 1 = k by omega, List.drop_eq_getElem_cons (by rw [List.length_map]; exact hkl), List.take_succ_cons, List.take_zero, List.getElem_map]
    rw [(List.getElem?_eq_some_iff.1 hk).2]
  · have hadd : (⟨w.heap.size, 0, none⟩ : Addr).add j = ⟨w.heap.size, j, none⟩ := by unfold Addr.add; split <;> simp_all
    rw [hadd]
    have hn : (w.alloc (.cells (l.map Value.string).toArray t)).heap[w.heap.size]? = some (.cells (l.map Value.string).toArray t) := heap_alloc_new w _
    have hv : fresh w (w.alloc (.cells (l.map Value.string).toArray t)) w.heap.size = some (.cells (l.map Value.string).toArray t (0, 0)) := by
      show (if w.heap.size < w.heap.size then none else _) = _
      rw [if_neg (Nat.lt_irrefl _)]; exact hn
    unfold View.cell
    dsimp only
    rw [hv]
    simpa using hu
end Go.Proofs.YtaccejbajgmdnaaDoor
