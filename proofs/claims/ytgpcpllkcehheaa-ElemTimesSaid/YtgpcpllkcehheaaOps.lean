/- What the lifted proofs use beside the rules: small run equations, and the pure operations that may fail. Its conditions: none. -/
import Derived.Test.YtgpcpllkcehheaaData
import Derived.OwnWalk
import Derived.Laws.StructEq
namespace Go.Proofs.Ytgpcpllkcehheaa
open Go.RowKit

/-- A shift's count, where Go does not panic. -/
def toShift (n : Int) : Option Nat := if n < 0 then none else some n.toNat
theorem toShift_some {n : Int} {k : Nat} (h : toShift n = some k) : 0 ≤ n ∧ n.toNat = k := by
  unfold toShift at h
  split at h
  · cases h
  · exact ⟨by omega, Option.some.inj h⟩
/-- A divisor, where Go does not panic. -/
def toDiv (n : Int) : Option Int := if n = 0 then none else some n
theorem toDiv_some {n k : Int} (h : toDiv n = some k) : n ≠ 0 ∧ n = k := by
  unfold toDiv at h
  split at h
  · cases h
  · exact ⟨by assumption, Option.some.inj h⟩
def slt (x y : ByteArray) : Bool := Op.bytesLess x.toList y.toList
def bytesOf (l : List Int) : ByteArray := l.foldl (fun s n => s.push (UInt8.ofNat n.toNat)) ByteArray.empty
/-- What an append makes, where the memory is there. -/
def grow {α : Type} (bytes : Nat) (l m : List α) : Option (List α) := if (l.length + m.length) * bytes ≤ 140737488355328 ∧ l.length + m.length ≤ maxLen then some (l ++ m) else none
theorem grow_some {α : Type} {bytes : Nat} {l m r : List α} (h : grow bytes l m = some r) : room (l.length + m.length) bytes = true ∧ l.length + m.length ≤ maxLen ∧ l ++ m = r := by
  unfold grow at h
  split at h
  · rename_i hc
    exact ⟨decide_eq_true hc.1, hc.2, Option.some.inj h⟩
  · cases h

section
variable {P : Program} {M : List (Nat × Value)} {o : Oper} {w : World}
theorem exec_shl {t t' : TypeId} {x y : Operand} {k k' : IntKind} {a b : Int} {n : Nat} (ho : o.op = .binOp .shl t x y t') (hx : evM M x = .int k a) (hy : evM M y = .int k' b) (hn : toShift b = some n) :
    (execOp (evM M) o).run P w = .ok (.value (.int k (shl k a n))) w := by
  obtain ⟨h0, rfl⟩ := toShift_some hn
  have h1 : ¬ b < 0 := by omega
  simp only [execOp, ho, hx, hy, eqGuard, binOp, Op.shift, if_neg h1, shl]
  rfl
theorem exec_shr {t t' : TypeId} {x y : Operand} {k k' : IntKind} {a b : Int} {n : Nat} (ho : o.op = .binOp .shr t x y t') (hx : evM M x = .int k a) (hy : evM M y = .int k' b) (hn : toShift b = some n) :
    (execOp (evM M) o).run P w = .ok (.value (.int k (shr k a n))) w := by
  obtain ⟨h0, rfl⟩ := toShift_some hn
  have h1 : ¬ b < 0 := by omega
  simp only [execOp, ho, hx, hy, eqGuard, binOp, Op.shift, if_neg h1, shr]
  rfl
theorem exec_quo {t t' : TypeId} {x y : Operand} {k : IntKind} {a b d : Int} (ho : o.op = .binOp .quo t x y t') (hx : evM M x = .int k a) (hy : evM M y = .int k b) (hn : toDiv b = some d) :
    (execOp (evM M) o).run P w = .ok (.value (.int k (k.wrap (a.tdiv d)))) w := by
  obtain ⟨h0, rfl⟩ := toDiv_some hn
  simp [execOp, ho, hx, hy, eqGuard, binOp, Op.intDiv, h0]
theorem exec_rem {t t' : TypeId} {x y : Operand} {k : IntKind} {a b d : Int} (ho : o.op = .binOp .rem t x y t') (hx : evM M x = .int k a) (hy : evM M y = .int k b) (hn : toDiv b = some d) :
    (execOp (evM M) o).run P w = .ok (.value (.int k (a.tmod d))) w := by
  obtain ⟨h0, rfl⟩ := toDiv_some hn
  simp [execOp, ho, hx, hy, eqGuard, binOp, Op.intDiv, h0]
end

theorem seg_at {cs seg : List Value} {off n : Nat} {j : Nat} {u : Value} (h : (cs.drop off).take n = seg) (hj : seg[j]? = some u) : cs[off + j]? = some u := by
  rw [← h, List.getElem?_take] at hj
  split at hj
  · rw [List.getElem?_drop] at hj; exact hj
  · cases hj

section
variable {α : Type} {w0 w : World} {V : View} {H : List HObj} {E : Enc α} {A : Option Addr} {c : Nat} {l : List α}
theorem Hp.cellBox (h : Hp w0 V H w) {i b : Nat} {t : TypeId} {cs : List Value} (hi : nth H i = some (box b t cs)) (j : Nat) : w.cell? ⟨b, j, none⟩ = cs[j]? := h.cell_box (by rw [← nth_eq]; exact hi) j
theorem Hp.box_at (h : Hp w0 V H w) {i b : Nat} {t : TypeId} {cs : List Value} (hi : nth H i = some (box b t cs)) (off j : Nat) : w.cell? ((⟨b, off, none⟩ : Addr).add j) = cs[off + j]? := by
  have hadd : (⟨b, off, none⟩ : Addr).add j = ⟨b, off + j, none⟩ := by unfold Addr.add; split <;> simp_all
  rw [hadd, h.cellBox hi]
theorem SlOk.cellF (h : SlOk V E A c l) {k : Nat} {x : α} (hk : l[k]? = some x) (j : Nat) {f : α → List Value} {u : Value} (hE : ∀ V cs x, E.rep V cs x → cs = f x) (hu : (f x)[j]? = some u) :
    V.cell (((sadr A).add (k * E.size)).add j) = some u := h.cell hk fun cs hr => by rw [hE _ _ _ hr]; exact hu
theorem SlOk.cellFG (h : SlOk V E A c l) {k : Nat} {x : α} (hk : l[k]? = some x) (off j : Nat) {f : α → List Value} {u : Value} (hE : ∀ V cs x, E.rep V cs x → cs = f x) (hu : (f x)[off + j]? = some u) :
    V.cell ((((sadr A).add (k * E.size)).add off).add j) = some u := by
  rw [add_of_add _ off j]
  exact h.cellF hk (off + j) hE hu
theorem SlOk.src (h : SlOk V E A c l) (hh : Hp w0 V H w) : ∃ news, RowRep V E news l ∧ Lies (vw w) A news := by
  obtain ⟨_, _, xs, h1, h2⟩ := h
  exact ⟨xs, h1, h2.mono hh.view⟩
theorem lies_box {b : Nat} {cs : List Value} (h : ∀ j, w.cell? ⟨b, j, none⟩ = cs[j]?) : Lies (vw w) (some ⟨b, 0, none⟩) cs := fun j u hu => by
  refine ⟨_, rfl, ?_⟩
  have hadd : (⟨b, 0, none⟩ : Addr).add j = ⟨b, j, none⟩ := by unfold Addr.add; split <;> simp_all
  rw [hadd, vw_cell, h j, hu]
theorem rowrep_lit1 {cs : List Value} {x : α} (h : E.rep V cs x) : RowRep V E cs [x] := by
  have hl := E.len h
  refine ⟨by simp [hl], fun k y hk => ?_⟩
  match k, hk with
  | 0, hk =>
    have : x = y := by simpa using hk
    subst this
    rw [Nat.zero_mul, List.drop_zero, ← hl, List.take_length]
    exact h
theorem slok_lit1 {b : Nat} {cs : List Value} {x : α} (h : ∀ j, w.cell? ⟨b, j, none⟩ = cs[j]?) (hx : E.rep (vw w) cs x) : SlOk (vw w) E (some ⟨b, 0, none⟩) 1 [x] :=
  ⟨Nat.le_refl _, by decide, cs, rowrep_lit1 hx, lies_box h⟩

theorem vlist_elim {u : Value} (h : (vSc (eList E)).rep V u l) : ∃ A c, u = .slice A l.length c ∧ SlOk V E A c l := by
  obtain ⟨A, c, h1, h2⟩ := h
  exact ⟨A, c, by simpa using h1, h2⟩
theorem vagg_elim {u : Value} {x : α} (h : (vAg E).rep V u x) : ∃ cs : List Value, u = .agg cs.toArray ∧ E.rep V cs x := h
theorem vT2_elim {α β : Type} {X : VEnc α} {Y : VEnc β} {u : Value} {r : α × β} (h : (vT2 X Y).rep V u r) : ∃ u1 u2, u = .tuple #[u1, u2] ∧ X.rep V u1 r.1 ∧ Y.rep V u2 r.2 := h
theorem vT3_elim {α β γ : Type} {X : VEnc α} {Y : VEnc β} {Z : VEnc γ} {u : Value} {r : α × β × γ} (h : (vT3 X Y Z).rep V u r) :
    ∃ u1 u2 u3, u = .tuple #[u1, u2, u3] ∧ X.rep V u1 r.1 ∧ Y.rep V u2 r.2.1 ∧ Z.rep V u3 r.2.2 := h
end

/-! ### Equality of data -/
theorem seq_iff (x y : ByteArray) : seq x y = true ↔ x = y := by
  unfold seq
  rw [beq_iff_eq, ByteArray.toList_eq, ByteArray.toList_eq]
  obtain ⟨⟨x⟩⟩ := x
  obtain ⟨⟨y⟩⟩ := y
  simp
theorem beq_DKey (x y : DKey) : (x == y) = (x.pfs == y.pfs && (x.obj == y.obj && x.off == y.off)) := by
  obtain ⟨a, b, c⟩ := x; obtain ⟨a', b', c'⟩ := y
  rw [Bool.eq_iff_iff]; simp [DKey.mk.injEq]
theorem beq_DSpot (x y : DSpot) : (x == y) = (x.key == y.key && x.made == y.made) := by
  obtain ⟨a, b⟩ := x; obtain ⟨a', b'⟩ := y
  rw [Bool.eq_iff_iff]; simp [DSpot.mk.injEq]
theorem beq_DElem (x y : DElem) : (x == y) = (x.key == y.key && (x.made == y.made && (x.gone == y.gone && seq x.val y.val))) := by
  obtain ⟨a, b, c, d⟩ := x; obtain ⟨a', b', c', d'⟩ := y
  rw [Bool.eq_iff_iff]; simp [DElem.mk.injEq, seq_iff]
theorem beq_DFrame (x y : DFrame) : (x == y) = (x.kind == y.kind && seq x.body y.body) := by
  obtain ⟨a, b⟩ := x; obtain ⟨a', b'⟩ := y
  rw [Bool.eq_iff_iff]; simp [DFrame.mk.injEq, seq_iff]
theorem beq_DWrite (x y : DWrite) : (x == y) = (x.page == y.page && seq x.text y.text) := by
  obtain ⟨a, b⟩ := x; obtain ⟨a', b'⟩ := y
  rw [Bool.eq_iff_iff]; simp [DWrite.mk.injEq, seq_iff]
theorem beq_DSnap (x y : DSnap) : (x == y) = (seq x.name y.name && x.tid == y.tid) := by
  obtain ⟨a, b⟩ := x; obtain ⟨a', b'⟩ := y
  rw [Bool.eq_iff_iff]; simp [DSnap.mk.injEq, seq_iff]
theorem beq_DChange (x y : DChange) : (x == y) = (x.key == y.key && (x.had == y.had && (x.has == y.has && (seq x.was y.was && seq x.is_ y.is_)))) := by
  obtain ⟨a, b, c, d, e⟩ := x; obtain ⟨a', b', c', d', e'⟩ := y
  rw [Bool.eq_iff_iff]; simp [DChange.mk.injEq, seq_iff]
end Go.Proofs.Ytgpcpllkcehheaa
