/- The program logic's rules for maps from whole numbers to strings that the call has made. Its conditions: none. -/
import Derived.Test.YtjhkfonoobmecaaOps
import Derived.MapKept
namespace Go.Proofs.Ytjhkfonoobmecaa
open Go.RowKit

/-- What a map's entries say. -/
def MapRep (es : Array MapEntry) (l : List (Int × ByteArray)) : Prop := es.toList.map (fun e => (e.key, e.val)) = l.map fun p => (Value.int .i64 p.1, Value.string p.2)
/-- A map of the call's own. -/
def mapo (b : Nat) (l : List (Int × ByteArray)) : HObj where
  own := fun b' => some b = some b'
  ok := fun _ w => ∃ es clock, w.heap[b]? = some (.map es clock) ∧ MapRep es l
  loc := fun _ w w' h ⟨es, c, h1, h2⟩ => ⟨es, c, by rw [h b rfl]; exact h1, h2⟩
  mono := fun _ _ _ _ h => h
  lt := fun _ w b' ⟨es, c, h1, _⟩ hb => by injection hb with hb; subst hb; exact lt_of_heap h1
/-- The first entry of a key: its place, its value. -/
def mfind (k : Int) : List (Int × ByteArray) → Nat → Option (Nat × ByteArray)
  | [], _ => none
  | p :: l, i => if p.1 = k then some (i, p.2) else mfind k l (i + 1)
/-- Of a map the value of a key. -/
def mget (l : List (Int × ByteArray)) (k : Int) : ByteArray := match mfind k l 0 with | some p => p.2 | none => ByteArray.mk #[]
def mhas (l : List (Int × ByteArray)) (k : Int) : Bool := (mfind k l 0).isSome
/-- A map with a value put. -/
def mput (l : List (Int × ByteArray)) (k : Int) (v : ByteArray) : List (Int × ByteArray) := match mfind k l 0 with
  | some p => l.modify p.1 fun q => (q.1, v)
  | none => l ++ [(k, v)]
theorem find_now {k : Int} : ∀ (es : List MapEntry) (l : List (Int × ByteArray)) (i : Nat), es.map (fun e => (e.key, e.val)) = l.map (fun p => (Value.int .i64 p.1, Value.string p.2)) →
    Instr.findNow (.int .i64) (.int .i64 k) es i = some ((mfind k l i).map fun p => (p.1, Value.string p.2))
  | [], [], _, _ => rfl
  | [], _ :: _, _, h => by simp at h
  | _ :: _, [], _, h => by simp at h
  | e :: es, p :: l, i, h => by
    simp only [List.map_cons, List.cons.injEq, Prod.mk.injEq] at h
    obtain ⟨⟨h1, h2⟩, h3⟩ := h
    have hs : Instr.sameNow (.int .i64) (.int .i64 k) e.key = some (k == p.1) := by rw [h1]; simp [Instr.sameNow]
    rw [Instr.findNow, hs, mfind]
    by_cases hk : p.1 = k
    · rw [if_pos hk, show (k == p.1) = true by rw [beq_iff_eq]; exact hk.symm, h2]; rfl
    · rw [if_neg hk, show (k == p.1) = false by rw [beq_eq_false_iff_ne]; exact fun e => hk e.symm]
      exact find_now es l (i + 1) h3
theorem mfind_lt {k : Int} : ∀ (l : List (Int × ByteArray)) (i : Nat) (p : Nat × ByteArray), mfind k l i = some p → i ≤ p.1 ∧ ∃ q, l[p.1 - i]? = some q ∧ q.1 = k ∧ q.2 = p.2
  | [], _, _, h => by cases h
  | q :: l, i, p, h => by
    unfold mfind at h
    split at h
    · rename_i hk
      obtain rfl := Option.some.inj h
      exact ⟨Nat.le_refl _, q, by simp, hk, rfl⟩
    · obtain ⟨h1, r, h2, h3⟩ := mfind_lt l (i + 1) p h
      refine ⟨by omega, r, ?_, h3⟩
      rw [show p.1 - i = (p.1 - (i + 1)) + 1 by omega, List.getElem?_cons_succ]
      exact h2
section
variable {P : Program} {N : Sz} {w0 : World} {V : View} {H : List HObj} {M : List (Nat × Value)} {ops : Array Oper} {Q : Exit → Act → World → Prop} {o : Oper} {K : Act → World → Prop} {t kt et : TypeId} {b : Nat} {l : List (Int × ByteArray)}
theorem W1.makeMap (hc : okO N ops M o = true) (ho : o.op = .makeMap t none) (h : ∀ b, T N w0 V (mapo b [] :: H) (putM o.dst (.map (some b)) M) K) : W1 P Q ops o N w0 V H M K := fun a w hf hh => by
  obtain ⟨h1, _, _, h4⟩ := okO_parts hc
  refine ⟨gd_wanted hf h1, ?_⟩
  have hrun : (execOp (evM M) o).run P w = .ok (.value (.map (some w.heap.size))) { w with heap := w.heap.push (.map #[] 0) } := by
    simp [execOp, ho, Instr.makeMap, run_newObj]
  unfold Oper.wp
  rw [okO_exec hc hf, hrun]
  refine h _ _ _ (hf.put h4 _) (hh.fresh_obj _ ⟨rfl, rfl, rfl, by simp, fun k hk _ => ?_⟩ ⟨#[], 0, by simp, rfl⟩ (fun b hb => ?_))
  · rw [Array.getElem?_push, if_neg (by omega)]
  · injection hb with hb; exact Nat.le_of_eq hb
theorem checkKey_int {k : Int} {e : Bool} {kt : TypeId} (hk : P.underlying kt = some (.int .i64)) (w : World) : (Instr.checkKey e 10000 kt (.int .i64 k)).run P w = .ok () w := by
  show (Instr.checkKey e (9999 + 1) kt (.int .i64 k)).run P w = _
  rw [Instr.checkKey]
  simp [run_underlying hk]
theorem W1.mapUpdate (i : Nat) {m x y : Operand} {k : Int} {v : ByteArray} (hi : nth H i = some (mapo b l)) (hc : okO N ops M o = true) (ho : o.op = .mapUpdate t m x y) (hm : evM M m = .map (some b)) (hx : evM M x = .int .i64 k) (hy : evM M y = .string v)
    (ht : P.underlying t = some (.map kt et)) (hk : P.underlying kt = some (.int .i64)) (h : T N w0 V (H.set i (mapo b (mput l k v))) (putM o.dst undef M) K) : W1 P Q ops o N w0 V H M K := fun a w hf hh => by
  obtain ⟨h1, _, _, h4⟩ := okO_parts hc
  rw [nth_eq] at hi
  refine ⟨gd_wanted hf h1, ?_⟩
  obtain ⟨es, clock, hb, hrep⟩ := hh.objs _ (List.mem_of_getElem? hi)
  have hblt := lt_of_heap hb
  have hfind := find_now (k := k) es.toList l 0 hrep
  have hlen : es.size = l.length := by have := congrArg List.length hrep; simpa using this
  have key : ∃ es' c', (execOp (evM M) o).run P w = .ok .skip { w with heap := w.heap.setIfInBounds b (.map es' c') } ∧ MapRep es' (mput l k v) := by
    unfold mput
    cases hq : mfind k l 0 with
    | none =>
      rw [hq] at hfind
      refine ⟨es.push ⟨.int .i64 k, .string v, clock⟩, clock + 1, ?_, ?_⟩
      · simp [execOp, ho, hm, hx, hy, Instr.mapUpdate, run_underlying ht, run_underlying hk, MapKept.run_getObj_map hb, checkKey_int hk, Instr.findKey, hfind, MapKept.run_setObj_map _ hb]
      · unfold MapRep at hrep ⊢
        simp [hrep]
    | some p =>
      rw [hq] at hfind
      obtain ⟨_, q, hq1, hq2, hq3⟩ := mfind_lt l 0 p hq
      rw [Nat.sub_zero] at hq1
      have hpl := (List.getElem?_eq_some_iff.1 hq1).1
      have hes : es[p.1]? = some es[p.1] := Array.getElem?_eq_getElem (by omega)
      have hek : es[p.1].key = .int .i64 k := by
        have e1 : (es.toList.map fun e => (e.key, e.val))[p.1]? = some (es[p.1].key, es[p.1].val) := by
          rw [List.getElem?_map, Array.getElem?_toList, hes]; rfl
        rw [hrep, List.getElem?_map, hq1] at e1
        have := (Prod.mk.inj (Option.some.inj e1)).1
        rw [← this, hq2]
      refine ⟨es.modify p.1 fun e => { e with key := .int .i64 k, val := .string v }, clock, ?_, ?_⟩
      · simp [execOp, ho, hm, hx, hy, Instr.mapUpdate, run_underlying ht, run_underlying hk, MapKept.run_getObj_map hb, checkKey_int hk, Instr.findKey, hfind, hes, hek, Instr.keyThatStays, Instr.sameBits, MapKept.run_setObj_map _ hb]
      · unfold MapRep at hrep ⊢
        dsimp only
        rw [Array.toList_modify]
        apply List.ext_getElem?
        intro j
        have hj := congrArg (fun z => z[j]?) hrep
        simp only [List.getElem?_map] at hj ⊢
        rw [List.getElem?_modify, List.getElem?_modify]
        cases he : es.toList[j]? with
        | none =>
          rw [he] at hj
          cases hl : l[j]? with
          | none => rfl
          | some r => rw [hl] at hj; cases hj
        | some e =>
          rw [he] at hj
          cases hl : l[j]? with
          | none => rw [hl] at hj; cases hj
          | some r =>
            rw [hl] at hj
            simp only [Option.map_some, Option.some.injEq, Prod.mk.injEq] at hj
            by_cases hpj : p.1 = j
            · subst hpj
              rw [hq1] at hl
              obtain rfl := Option.some.inj hl
              simp [hq2]
            · simp [hpj, hj]
  obtain ⟨es', c', hrun, hrep'⟩ := key
  unfold Oper.wp
  rw [okO_exec hc hf, hrun]
  refine h _ _ (hf.put h4 _) (hh.turn (o := some b) hi ⟨rfl, rfl, rfl, by simp, fun j hj hne => ?_⟩ ⟨es', c', ?_, hrep'⟩ (fun b' hb' => .inl hb'))
  · rw [Array.getElem?_setIfInBounds_ne (fun e => hne (by rw [← e]))]
  · rw [Array.getElem?_setIfInBounds_self_of_lt hblt]
theorem exec_lookup (i : Nat) {m x : Operand} {k : Int} {w : World} (hh : Hp w0 V H w) (hi : nth H i = some (mapo b l)) (ho : o.op = .lookup t m x false) (hm : evM M m = .map (some b)) (hx : evM M x = .int .i64 k)
    (ht : P.underlying t = some (.map kt et)) (hk : P.underlying kt = some (.int .i64)) (hz : (zeroValue et).run P w = .ok (.string (ByteArray.mk #[])) w) : (execOp (evM M) o).run P w = .ok (.value (.string (mget l k))) w := by
  rw [nth_eq] at hi
  obtain ⟨es, clock, hb, hrep⟩ := hh.objs _ (List.mem_of_getElem? hi)
  have hfind := find_now (k := k) es.toList l 0 hrep
  unfold mget
  cases hq : mfind k l 0 with
  | none => rw [hq] at hfind; simp [execOp, ho, hm, hx, Instr.lookup, run_underlying ht, run_underlying hk, MapKept.run_getObj_map hb, checkKey_int hk, Instr.findKey, hfind, hz]
  | some p => rw [hq] at hfind; simp [execOp, ho, hm, hx, Instr.lookup, run_underlying ht, run_underlying hk, MapKept.run_getObj_map hb, checkKey_int hk, Instr.findKey, hfind]
theorem exec_lookupOk (i : Nat) {m x : Operand} {k : Int} {w : World} (hh : Hp w0 V H w) (hi : nth H i = some (mapo b l)) (ho : o.op = .lookup t m x true) (hm : evM M m = .map (some b)) (hx : evM M x = .int .i64 k)
    (ht : P.underlying t = some (.map kt et)) (hk : P.underlying kt = some (.int .i64)) (hz : (zeroValue et).run P w = .ok (.string (ByteArray.mk #[])) w) : (execOp (evM M) o).run P w = .ok (.value (.tuple #[.string (mget l k), .bool (mhas l k)])) w := by
  rw [nth_eq] at hi
  obtain ⟨es, clock, hb, hrep⟩ := hh.objs _ (List.mem_of_getElem? hi)
  have hfind := find_now (k := k) es.toList l 0 hrep
  unfold mget mhas
  cases hq : mfind k l 0 with
  | none => rw [hq] at hfind; simp [execOp, ho, hm, hx, Instr.lookup, run_underlying ht, run_underlying hk, MapKept.run_getObj_map hb, checkKey_int hk, Instr.findKey, hfind, hz]
  | some p => rw [hq] at hfind; simp [execOp, ho, hm, hx, Instr.lookup, run_underlying ht, run_underlying hk, MapKept.run_getObj_map hb, checkKey_int hk, Instr.findKey, hfind]
end
end Go.Proofs.Ytjhkfonoobmecaa
