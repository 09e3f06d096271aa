/- What the lifted proofs use beside the rules: small run equations, and the pure operations that may fail. Its conditions: none. -/
import Derived.Test.YtjhkfonoobmecaaData
import Derived.OwnWalk
import Derived.Laws.StructEq
import Derived.Lib.Bytealg
import Derived.Laws.Externs
namespace Go.Proofs.Ytjhkfonoobmecaa
open Go.RowKit

/-- A shift's count, where Go does not panic. -/
def toShift (n : Int) : Option Nat := if n < 0 then none else some n.toNat
theorem toShift_some {n : Int} {k : Nat} (h : toShift n = some k) : 0 ≤ n ∧ n.toNat = k := by
  unfold toShift at h
  split at h
  · cases h
  · exact ⟨by omega, Option.some.inj h⟩
/-- A divisor, where Go does not panic. -/
def toDiv (n : Int) : Option Int := if n = 0 then none else some n
theorem toDiv_some {n k : Int} (h : toDiv n = some k) : n ≠ 0 ∧ n = k := by
  unfold toDiv at h
  split at h
  · cases h
  · exact ⟨by assumption, Option.some.inj h⟩
def slt (x y : ByteArray) : Bool := Op.bytesLess x.toList y.toList
/-- What an append makes, where the memory is there. -/
def grow {α : Type} (bytes : Nat) (l m : List α) : Option (List α) := if (l.length + m.length) * bytes ≤ 140737488355328 ∧ l.length + m.length ≤ maxLen then some (l ++ m) else none
theorem grow_some {α : Type} {bytes : Nat} {l m r : List α} (h : grow bytes l m = some r) : room (l.length + m.length) bytes = true ∧ l.length + m.length ≤ maxLen ∧ l ++ m = r := by
  unfold grow at h
  split at h
  · rename_i hc
    exact ⟨decide_eq_true hc.1, hc.2, Option.some.inj h⟩
  · cases h

section
variable {P : Program} {M : List (Nat × Value)} {o : Oper} {w : World}
theorem exec_shl {t t' : TypeId} {x y : Operand} {k k' : IntKind} {a b : Int} {n : Nat} (ho : o.op = .binOp .shl t x y t') (hx : evM M x = .int k a) (hy : evM M y = .int k' b) (hn : toShift b = some n) :
    (execOp (evM M) o).run P w = .ok (.value (.int k (shl k a n))) w := by
  obtain ⟨h0, rfl⟩ := toShift_some hn
  have h1 : ¬ b < 0 := by omega
  simp only [execOp, ho, hx, hy, eqGuard, binOp, Op.shift, if_neg h1, shl]
  rfl
theorem exec_shr {t t' : TypeId} {x y : Operand} {k k' : IntKind} {a b : Int} {n : Nat} (ho : o.op = .binOp .shr t x y t') (hx : evM M x = .int k a) (hy : evM M y = .int k' b) (hn : toShift b = some n) :
    (execOp (evM M) o).run P w = .ok (.value (.int k (shr k a n))) w := by
  obtain ⟨h0, rfl⟩ := toShift_some hn
  have h1 : ¬ b < 0 := by omega
  simp only [execOp, ho, hx, hy, eqGuard, binOp, Op.shift, if_neg h1, shr]
  rfl
theorem exec_quo {t t' : TypeId} {x y : Operand} {k : IntKind} {a b d : Int} (ho : o.op = .binOp .quo t x y t') (hx : evM M x = .int k a) (hy : evM M y = .int k b) (hn : toDiv b = some d) :
    (execOp (evM M) o).run P w = .ok (.value (.int k (k.wrap (a.tdiv d)))) w := by
  obtain ⟨h0, rfl⟩ := toDiv_some hn
  simp [execOp, ho, hx, hy, eqGuard, binOp, Op.intDiv, h0]
theorem exec_rem {t t' : TypeId} {x y : Operand} {k : IntKind} {a b d : Int} (ho : o.op = .binOp .rem t x y t') (hx : evM M x = .int k a) (hy : evM M y = .int k b) (hn : toDiv b = some d) :
    (execOp (evM M) o).run P w = .ok (.value (.int k (a.tmod d))) w := by
  obtain ⟨h0, rfl⟩ := toDiv_some hn
  simp [execOp, ho, hx, hy, eqGuard, binOp, Op.intDiv, h0]
end

/-- strings.Compare. -/
def scmp (x y : ByteArray) : Int := Lib.compareBytes x.data.toList y.data.toList
section
variable {P : Program} {M : List (Nat × Value)} {o : Oper} {w : World}
theorem exec_cmpstring {f : FuncId} {fn : Func} {x y : Operand} {ts : Array TypeId} {s r : ByteArray} (ho : o.op = .call { callee := .value (.func f), args := #[x, y], argTypes := ts }) (hx : evM M x = .string s) (hy : evM M y = .string r)
    (hf : P.funcs[f]? = some fn) (hname : (fn.name == "runtime.NumGoroutine") = false) (hb : fn.body.isNone = true) (hn : Extern.findNext fn = none) (he : Extern.find fn = some Extern.BytealgCompare.compare) :
    (execOp (evM M) o).run P w = .ok (.value (.int .i64 (scmp s r))) w := by
  have hr := run_callFunc_extern hf hname hb hn he #[.string s, .string r] w
  rw [Lib.run_compareString, Result.andThen_ok] at hr
  obtain ⟨d, op, ty, ps, af, g⟩ := o
  subst ho
  have e1 : evM M (.func f) = .func (.func f) #[] #[] := rfl
  simp [execOp, resolve, e1, Deferred.ofValue, invoke, hx, hy, hr, scmp]
end

theorem seg_at {cs seg : List Value} {off n : Nat} {j : Nat} {u : Value} (h : (cs.drop off).take n = seg) (hj : seg[j]? = some u) : cs[off + j]? = some u := by
  rw [← h, List.getElem?_take] at hj
  split at hj
  · rw [List.getElem?_drop] at hj; exact hj
  · cases hj

theorem take_at {cs seg : List Value} {n : Nat} {j : Nat} {u : Value} (h : cs.take n = seg) (hj : seg[j]? = some u) : cs[j]? = some u := by
  rw [← h, List.getElem?_take] at hj
  split at hj
  · exact hj
  · cases hj
section
variable {α : Type} {w0 w : World} {V : View} {H : List HObj} {E : Enc α} {A : Option Addr} {c : Nat} {l : List α}
theorem Hp.cellBox (h : Hp w0 V H w) {i b : Nat} {t : TypeId} {cs : List Value} (hi : nth H i = some (box b t cs)) (j : Nat) : w.cell? ⟨b, j, none⟩ = cs[j]? := h.cell_box (by rw [← nth_eq]; exact hi) j
theorem Hp.box_at (h : Hp w0 V H w) {i b : Nat} {t : TypeId} {cs : List Value} (hi : nth H i = some (box b t cs)) (off j : Nat) : w.cell? ((⟨b, off, none⟩ : Addr).add j) = cs[off + j]? := by
  have hadd : (⟨b, off, none⟩ : Addr).add j = ⟨b, off + j, none⟩ := by unfold Addr.add; split <;> simp_all
  rw [hadd, h.cellBox hi]
theorem SlOk.cellF (h : SlOk V E A c l) {k : Nat} {x : α} (hk : l[k]? = some x) (j : Nat) {f : α → List Value} {u : Value} (hE : ∀ V cs x, E.rep V cs x → cs = f x) (hu : (f x)[j]? = some u) :
    V.cell (((sadr A).add (k * E.size)).add j) = some u := h.cell hk fun cs hr => by rw [hE _ _ _ hr]; exact hu
theorem SlOk.cellF0 (h : SlOk V E A c l) {k : Nat} {x : α} (hk : l[k]? = some x) {f : α → List Value} {u : Value} (hE : ∀ V cs x, E.rep V cs x → cs = f x) (hu : (f x)[0]? = some u) :
    V.cell ((sadr A).add (k * E.size)) = some u := by
  have := h.cellF hk 0 hE hu
  rwa [addr_add0] at this
theorem SlOk.wcellF0 (h : SlOk (vw w) E A c l) {k : Nat} {x : α} (hk : l[k]? = some x) {f : α → List Value} {u : Value} (hE : ∀ V cs x, E.rep V cs x → cs = f x) (hu : (f x)[0]? = some u) :
    w.cell? ((sadr A).add (k * E.size)) = some u := h.cellF0 hk hE hu
theorem SlOk.wcellF (h : SlOk (vw w) E A c l) {k : Nat} {x : α} (hk : l[k]? = some x) (j : Nat) {f : α → List Value} {u : Value} (hE : ∀ V cs x, E.rep V cs x → cs = f x) (hu : (f x)[j]? = some u) :
    w.cell? (((sadr A).add (k * E.size)).add j) = some u := h.cellF hk j hE hu
theorem SlOk.cellFG (h : SlOk V E A c l) {k : Nat} {x : α} (hk : l[k]? = some x) (off j : Nat) {f : α → List Value} {u : Value} (hE : ∀ V cs x, E.rep V cs x → cs = f x) (hu : (f x)[off + j]? = some u) :
    V.cell ((((sadr A).add (k * E.size)).add off).add j) = some u := by
  rw [add_of_add _ off j]
  exact h.cellF hk (off + j) hE hu
theorem SlOk.wcellFG (h : SlOk (vw w) E A c l) {k : Nat} {x : α} (hk : l[k]? = some x) (off j : Nat) {f : α → List Value} {u : Value} (hE : ∀ V cs x, E.rep V cs x → cs = f x) (hu : (f x)[off + j]? = some u) :
    w.cell? ((((sadr A).add (k * E.size)).add off).add j) = some u := h.cellFG hk off j hE hu
theorem SlOk.src (h : SlOk V E A c l) (hh : Hp w0 V H w) : ∃ news, RowRep V E news l ∧ Lies (vw w) A news := by
  obtain ⟨_, _, xs, h1, h2⟩ := h
  exact ⟨xs, h1, h2.mono hh.view⟩
theorem SlOk.srcF {V' : View} (h : SlOk V' E A c l) (hE : ∀ V V' cs x, E.rep V cs x → E.rep V' cs x) : ∃ news, RowRep V E news l ∧ Lies V' A news := by
  obtain ⟨_, _, xs, h1, h2⟩ := h
  exact ⟨xs, ⟨h1.1, fun k x hk => hE _ _ _ _ (h1.2 k x hk)⟩, h2⟩
theorem lies_box {b : Nat} {cs : List Value} (h : ∀ j, w.cell? ⟨b, j, none⟩ = cs[j]?) : Lies (vw w) (some ⟨b, 0, none⟩) cs := fun j u hu => by
  refine ⟨_, rfl, ?_⟩
  have hadd : (⟨b, 0, none⟩ : Addr).add j = ⟨b, j, none⟩ := by unfold Addr.add; split <;> simp_all
  rw [hadd, vw_cell, h j, hu]
theorem rowrep_lit1 {cs : List Value} {x : α} (h : E.rep V cs x) : RowRep V E cs [x] := by
  have hl := E.len h
  refine ⟨by simp [hl], fun k y hk => ?_⟩
  match k, hk with
  | 0, hk =>
    have : x = y := by simpa using hk
    subst this
    rw [Nat.zero_mul, List.drop_zero, ← hl, List.take_length]
    exact h
theorem slok_lit1 {b : Nat} {cs : List Value} {x : α} (h : ∀ j, w.cell? ⟨b, j, none⟩ = cs[j]?) (hx : E.rep (vw w) cs x) : SlOk (vw w) E (some ⟨b, 0, none⟩) 1 [x] :=
  ⟨Nat.le_refl _, by decide, cs, rowrep_lit1 hx, lies_box h⟩

theorem vlist_elim {u : Value} (h : (vSc (eList E)).rep V u l) : ∃ A c, u = .slice A l.length c ∧ SlOk V E A c l := by
  obtain ⟨A, c, h1, h2⟩ := h
  exact ⟨A, c, by simpa using h1, h2⟩
theorem vagg_elim {u : Value} {x : α} (h : (vAg E).rep V u x) : ∃ cs : List Value, u = .agg cs.toArray ∧ E.rep V cs x := h
theorem vT2_elim {α β : Type} {X : VEnc α} {Y : VEnc β} {u : Value} {r : α × β} (h : (vT2 X Y).rep V u r) : ∃ u1 u2, u = .tuple #[u1, u2] ∧ X.rep V u1 r.1 ∧ Y.rep V u2 r.2 := h
theorem vT3_elim {α β γ : Type} {X : VEnc α} {Y : VEnc β} {Z : VEnc γ} {u : Value} {r : α × β × γ} (h : (vT3 X Y Z).rep V u r) :
    ∃ u1 u2 u3, u = .tuple #[u1, u2, u3] ∧ X.rep V u1 r.1 ∧ Y.rep V u2 r.2.1 ∧ Z.rep V u3 r.2.2 := h
end

/-! ### Literal slices -/
theorem rowrep_flat {α : Type} {E : Enc α} {V : View} {f : α → List Value} (hf : ∀ V x, E.rep V (f x) x) : ∀ l : List α, RowRep V E (l.flatMap f) l
  | [] => RowRep.nil
  | x :: l => by
    have := RowRep.append (rowrep_lit1 (hf V x)) (rowrep_flat hf l)
    simpa using this
theorem slok_lit {α : Type} {E : Enc α} {w : World} {b : Nat} {f : α → List Value} (l : List α) (hf : ∀ V x, E.rep V (f x) x) (hm : l.length ≤ maxLen) (h : ∀ j, w.cell? ⟨b, j, none⟩ = (l.flatMap f)[j]?) :
    SlOk (vw w) E (some ⟨b, 0, none⟩) l.length l := ⟨Nat.le_refl _, hm, _, rowrep_flat hf l, lies_box h⟩

theorem Hp.lit_fresh {α : Type} {E : Enc α} {w0 w : World} {V : View} {H : List HObj} (h : Hp w0 V H w) {f : α → List Value} (l : List α) (hf : ∀ V x, E.rep V (f x) x) (hm : l.length ≤ maxLen) {i b : Nat} {t : TypeId}
    (hi : nth H i = some (box b t (l.flatMap f))) : SlOk (fresh w0 w) E (some ⟨b, 0, none⟩) l.length l := by
  refine ⟨Nat.le_refl _, hm, _, rowrep_flat hf l, fun j u hu => ⟨_, rfl, ?_⟩⟩
  have hc := lies_box (h.cellBox hi) j u hu
  obtain ⟨a, ha, hcell⟩ := hc
  injection ha with ha
  subst ha
  have hnew : ¬ b < w0.heap.size := fun hlt => by
    rw [nth_eq] at hi
    have hb := h.apart _ (List.mem_of_getElem? hi) b rfl
    have hw : (vw w0) b = some w0.heap[b] := Array.getElem?_eq_getElem hlt
    rw [h.base b _ hw] at hb
    cases hb
  have e1 : ((⟨b, 0, none⟩ : Addr).add j).block = b := block_of_add _ _
  unfold View.cell fresh
  rw [e1, if_neg hnew]
  rw [vw_cell, World.cell?, e1] at hcell
  exact hcell

/-! ### Slices of slices -/
def lslice {α : Type} (l : List α) (lo hi : Int) : Option (List α) := if 0 ≤ lo ∧ lo ≤ hi ∧ hi ≤ l.length then some ((l.take hi.toNat).drop lo.toNat) else none
theorem lslice_some {α : Type} {l r : List α} {lo hi : Int} (h : lslice l lo hi = some r) : 0 ≤ lo ∧ lo ≤ hi ∧ hi ≤ l.length ∧ r = (l.take hi.toNat).drop lo.toNat ∧ r.length = hi.toNat - lo.toNat := by
  unfold lslice at h
  split at h
  · rename_i hc
    have := Option.some.inj h
    refine ⟨hc.1, hc.2.1, hc.2.2, this.symm, ?_⟩
    rw [← this, List.length_drop, List.length_take]
    omega
  · cases h

section
variable {α : Type} {V : View} {E : Enc α} {A : Option Addr} {c : Nat} {l r : List α} {lo hi : Int}
theorem SlOk.cut (h : SlOk V E A c l) (hr : lslice l lo hi = some r) : SlOk V E (cutA A c lo.toNat E.size) (c - lo.toNat) r := by
  obtain ⟨h0, h1, h2, hrl, hlen⟩ := lslice_some hr
  obtain ⟨hc, hm, xs, hrep, hlies⟩ := h
  have hxl := hrep.1
  refine ⟨by omega, by omega, ((xs.take (hi.toNat * E.size)).drop (lo.toNat * E.size)), ⟨?_, fun k x hk => ?_⟩, fun j u hu => ?_⟩
  · rw [List.length_drop, List.length_take, hlen, Nat.sub_mul, hxl]
    have := Nat.mul_le_mul_right E.size (show hi.toNat ≤ l.length by omega)
    omega
  · subst hrl
    have hk' : l[lo.toNat + k]? = some x := by
      rw [List.getElem?_drop, List.getElem?_take] at hk
      split at hk
      · exact hk
      · cases hk
    have hkl : k < hi.toNat - lo.toNat := by rw [← hlen]; exact (List.getElem?_eq_some_iff.1 hk).1
    have h3 := hrep.2 _ x hk'
    refine (congrArg (fun q => E.rep V q x) ?_).mp h3
    apply List.ext_getElem?
    intro j
    rw [List.getElem?_take, List.getElem?_take]
    split
    · rename_i hj
      rw [List.getElem?_drop, List.getElem?_drop, List.getElem?_drop, List.getElem?_take, Nat.add_mul]
      have hle : (lo.toNat + k + 1) * E.size ≤ hi.toNat * E.size := Nat.mul_le_mul_right E.size (by omega)
      rw [Nat.add_mul, Nat.add_mul, Nat.one_mul] at hle
      rw [if_pos (by omega)]
      congr 1
      omega
    · rfl
  · rw [List.getElem?_drop, List.getElem?_take] at hu
    split at hu
    · rename_i hlt
      obtain ⟨a, ha, hcell⟩ := hlies _ u hu
      have hne : c ≠ lo.toNat := fun e => by
        have : hi.toNat = lo.toNat := by omega
        rw [this] at hlt
        omega
      refine ⟨a.add (lo.toNat * E.size), by unfold cutA; rw [if_neg hne, ha]; rfl, ?_⟩
      rw [add_of_add]
      exact hcell
    · cases hu
end
section
variable {P : Program} {M : List (Nat × Value)} {o : Oper} {w : World}
theorem exec_slice_list {α : Type} {t e : TypeId} {x : Operand} {lx hx : Option Operand} {A : Option Addr} {c s : Nat} {l r : List α} {lo hi : Int} {k k' : IntKind} (ho : o.op = .slice t x lx hx none)
    (hxv : evM M x = .slice A l.length c) (ht : P.underlying t = some (.slice e)) (hs : (sizeOf e).run P w = .ok s w) (hlc : l.length ≤ c)
    (hlo : match lx with | some y => evM M y = .int k lo | none => lo = 0) (hhi : match hx with | some y => evM M y = .int k' hi | none => hi = l.length) (hr : lslice l lo hi = some r) :
    (execOp (evM M) o).run P w = .ok (.value (.slice (cutA A c lo.toNat s) r.length (c - lo.toNat))) w := by
  obtain ⟨h0, h1, h2, _, hlen⟩ := lslice_some hr
  have e1 := @run_sliceBound P w k' hi c .sliceAcap (by omega) (by omega)
  have e2 := @run_sliceBound P w k lo hi.toNat .sliceB h0 (by omega)
  rw [hlen]
  cases lx with
  | none =>
    dsimp only at hlo
    subst hlo
    cases hx with
    | none =>
      dsimp only at hhi
      subst hhi
      simp [execOp, ho, hxv, Instr.sliceAt, run_underlying ht, Instr.slice, Instr.sliceBounds, hs, cutA]
    | some y =>
      dsimp only at hhi
      simp [execOp, ho, hxv, hhi, Instr.sliceAt, run_underlying ht, Instr.slice, Instr.sliceBounds, hs, cutA, e1]
  | some z =>
    dsimp only at hlo
    cases hx with
    | none =>
      dsimp only at hhi
      subst hhi
      rw [show ((l.length : Int)).toNat = l.length from Int.toNat_natCast _] at e2
      simp [execOp, ho, hxv, hlo, Instr.sliceAt, run_underlying ht, Instr.slice, Instr.sliceBounds, hs, cutA, e2]
    | some y =>
      dsimp only at hhi
      simp [execOp, ho, hxv, hlo, hhi, Instr.sliceAt, run_underlying ht, Instr.slice, Instr.sliceBounds, hs, cutA, e1, e2]
end

theorem cutA_zero (A : Option Addr) (c s : Nat) : cutA A c 0 s = A := by
  unfold cutA
  split
  · rfl
  · cases A with
    | none => rfl
    | some a => simp [addr_add0]
theorem lslice_prefix {α : Type} {l r : List α} {hi : Int} (h : lslice l 0 hi = some r) : r <+: l := by
  obtain ⟨_, _, _, rfl, _⟩ := lslice_some h
  exact List.take_prefix _ _
theorem SlOk.cut0 {α : Type} {V : View} {E : Enc α} {A : Option Addr} {c : Nat} {l r : List α} {hi : Int} (h : SlOk V E A c l) (hr : lslice l 0 hi = some r) : SlOk V E A c r := by
  have := h.cut hr
  rwa [show (0 : Int).toNat = 0 from rfl, cutA_zero, Nat.sub_zero] at this
section
variable {P : Program} {M : List (Nat × Value)} {o : Oper} {w : World}
theorem exec_slice_list0 {α : Type} {t e : TypeId} {x : Operand} {lx hx : Option Operand} {A : Option Addr} {c s : Nat} {l r : List α} {hi : Int} {k k' : IntKind} (ho : o.op = .slice t x lx hx none)
    (hxv : evM M x = .slice A l.length c) (ht : P.underlying t = some (.slice e)) (hs : (sizeOf e).run P w = .ok s w) (hlc : l.length ≤ c)
    (hlo : match lx with | some y => evM M y = .int k 0 | none => (0 : Int) = 0) (hhi : match hx with | some y => evM M y = .int k' hi | none => hi = l.length) (hr : lslice l 0 hi = some r) :
    (execOp (evM M) o).run P w = .ok (.value (.slice A r.length c)) w := by
  have : (execOp (evM M) o).run P w = .ok (.value (.slice (cutA A c (0 : Int).toNat s) r.length (c - (0 : Int).toNat))) w := by
    cases lx with
    | none => cases hx with
      | none => exact exec_slice_list (k := k) (k' := k') (lx := none) (hx := none) ho hxv ht hs hlc rfl hhi hr
      | some y => exact exec_slice_list (k := k) (k' := k') (lx := none) (hx := some y) ho hxv ht hs hlc rfl hhi hr
    | some z => cases hx with
      | none => exact exec_slice_list (k := k) (k' := k') (lx := some z) (hx := none) ho hxv ht hs hlc hlo hhi hr
      | some y => exact exec_slice_list (k := k) (k' := k') (lx := some z) (hx := some y) ho hxv ht hs hlc hlo hhi hr
  rwa [show (0 : Int).toNat = 0 from rfl, cutA_zero, Nat.sub_zero] at this
theorem lslice_fit {α : Type} {l r : List α} {lo hi : Int} (h : lslice l lo hi = some r) : lo.toNat + r.length ≤ l.length := by
  obtain ⟨h0, h1, h2, _, h4⟩ := lslice_some h
  omega
end

/-! ### Regions whose order is open, more -/
inductive OldAll : List HObj → Prop
  | nil : OldAll []
  | box {b : Nat} {t : TypeId} {cs : List Value} {H : List HObj} : OldAll H → OldAll (box b t cs :: H)
  | row {α : Type} {p : Bool} {t : TypeId} {E : Enc α} {A : Option Addr} {c : Nat} {l : List α} {H : List HObj} : (∀ V V' cs x, E.rep V cs x → E.rep V' cs x) → OldAll H → OldAll (rowb p t E A c l :: H)
theorem OldAll.ok : ∀ {H : List HObj}, OldAll H → ∀ x ∈ H, ∀ V V' w, x.ok V w → x.ok V' w
  | _, .nil => fun _ hx => by cases hx
  | _, .box h => fun x hx V V' w hk => by
    rcases List.mem_cons.1 hx with rfl | hx
    · exact hk
    · exact h.ok x hx V V' w hk
  | _, .row hE h => fun x hx V V' w hk => by
    rcases List.mem_cons.1 hx with rfl | hx
    · obtain ⟨h1, h2, h3⟩ := hk
      exact ⟨h1, h2, h3.imp id fun ⟨g, cur, fz, xs, h⟩ => ⟨g, cur, fz, xs, { h with rep := ⟨h.rep.1, fun k x hx => hE V V' _ _ (h.rep.2 k x hx)⟩ }⟩⟩
    · exact h.ok x hx V V' w hk
theorem Hp.old {w0 : World} {V V0 : View} {H H0 : List HObj} (hv : View.le V0 V) (hb : View.le (vw w0) V0) (hs : H0.Sublist H) (ho : OldAll H0) : ∀ w, Hp w0 V H w → Hp w0 V0 H0 w :=
  fun _ h => Hp.older hv hb hs (fun x hx w hk => ho.ok x hx V V0 w hk) h
theorem Hp.perm {w0 w : World} {V : View} {H H' : List HObj} (h : Hp w0 V H w) (hp : H.Perm H') : Hp w0 V H' w :=
  ⟨h.os, h.tape, h.output, h.size, h.view, h.base, fun x hx => h.objs x (hp.mem_iff.2 hx), fun x hx => h.apart x (hp.mem_iff.2 hx),
    (hp.pairwise_iff (fun hxy b hy hx => hxy b hx hy)).1 h.sep⟩

section
variable {P : Program} {N : Sz} {w0 : World} {V V0 : View} {H H0 : List HObj} {M : List (Nat × Value)} {ops : Array Oper} {Q : Exit → Act → World → Prop} {fuel : Nat} {listed : Array Bool}
def TB (P : Program) (Q : Exit → Act → World → Prop) (ops : Array Oper) (N : Sz) (w0 : World) (V V0 : View) (H H0 : List HObj) (M : List (Nat × Value)) (fuel : Nat) (listed : Array Bool) (i : Nat) : Prop :=
  ∀ o, ops[i]? = some o → W1 P Q ops o N w0 V H M (fun a' w' => Hp w0 V0 H0 w' ∧ wpAnyH P .any ops Q (Hp w0 V0 H0) fuel (listed.setIfInBounds i true) a' w')
def TBs (φ : Nat → Prop) : List Nat → Prop
  | [] => True
  | i :: l => φ i ∧ TBs φ l
theorem TBs.get {φ : Nat → Prop} : ∀ {l : List Nat}, TBs φ l → ∀ i ∈ l, φ i
  | _ :: _, h, i, hi => by
    rcases List.mem_cons.1 hi with rfl | hi
    · exact h.1
    · exact TBs.get h.2 i hi
/-- Whichever comes up. -/
theorem TA.all (rs : List Nat) (hr : Region.ready .any ops listed = rs) (hne : rs.isEmpty = false) (h : TBs (TB P Q ops N w0 V V0 H H0 M fuel listed) rs) :
    T N w0 V H M (wpAnyH P .any ops Q (Hp w0 V0 H0) (fuel + 1) listed) := fun a w hf hh => by
  refine wpAnyH_all hr (fun e => by rw [e] at hne; cases hne) (fun i hi => ?_)
  have hlt : i < ops.size := by
    rw [← hr] at hi
    have h1 := (List.mem_filter.1 hi).1
    simpa using h1
  obtain ⟨h1, h2⟩ := h.get i hi ops[i] (Array.getElem?_eq_getElem hlt) a w hf hh
  unfold wpOp
  simp only [Array.getElem?_eq_getElem hlt]
  rw [if_pos h1]
  exact .inl h2
theorem TA.br {i : Nat} {o : Oper} (ho : ops[i]? = some o)
    (h : W1 P Q ops o N w0 V H M (fun a' w' => Hp w0 V0 H0 w' ∧ wpAnyH P .any ops Q (Hp w0 V0 H0) fuel (listed.setIfInBounds i true) a' w')) : TB P Q ops N w0 V V0 H H0 M fuel listed i := fun o' ho' => by
  obtain rfl := Option.some.inj (ho.symm.trans ho')
  exact h
theorem TA.on {V' : View} {H' : List HObj} {M' : List (Nat × Value)} {ψ : Act → World → Prop} (hS : ∀ w, Hp w0 V' H' w → Hp w0 V0 H0 w) (h : T N w0 V' H' M' ψ) : T N w0 V' H' M' (fun a w => Hp w0 V0 H0 w ∧ ψ a w) :=
  fun a w hf hh => ⟨hS w hh, h a w hf hh⟩
end

/-! ### A row that is written no longer -/
theorem erase_perm {β : Type _} : ∀ (l : List β) (i : Nat) (x : β), l[i]? = some x → (x :: l.eraseIdx i).Perm l
  | [], _, _, h => by simp at h
  | y :: l, 0, x, h => by
    obtain rfl : y = x := by simpa using h
    exact List.Perm.refl _
  | y :: l, i + 1, x, h => by
    have := erase_perm l i x (by simpa using h)
    exact (List.Perm.swap y x _).trans (this.cons y)
section
variable {α : Type} {N : Sz} {w0 : World} {V : View} {H H' : List HObj} {M : List (Nat × Value)} {φ : Act → World → Prop} {p : Bool} {e : TypeId} {E : Enc α} {A : Option Addr} {c : Nat} {l : List α}
theorem Hp.freeze {w : World} (h : Hp w0 V H w) (i : Nat) (hi : nth H i = some (rowb p e E A c l)) (hH : H.eraseIdx i = H') :
    ∃ V', View.le V V' ∧ Hp w0 V' H' w ∧ SlOk V' E A c l ∧ ((∀ V V' cs x, E.rep V cs x → E.rep V' cs x) → SlOk (made w0 V') E A c l) := by
  rw [nth_eq] at hi
  have hp : (rowb p e E A c l :: H').Perm H := by
    rw [← hH]; exact erase_perm _ _ _ hi
  have hh := h.perm hp.symm
  have hsep := List.pairwise_cons.1 hh.sep
  obtain ⟨h1, h2, h3⟩ := hh.objs _ (List.mem_cons_self)
  have htail : Hp w0 V H' w := hh.sub (List.sublist_cons_self _ _)
  by_cases hc : c = 0
  · have hl : l = [] := List.eq_nil_of_length_eq_zero (by omega)
    subst hl
    exact ⟨V, View.le_refl _, htail, ⟨h1, h2, [], RowRep.nil, fun j u hu => by simp at hu⟩, fun _ => ⟨h1, h2, [], RowRep.nil, fun j u hu => by simp at hu⟩⟩
  · rcases h3 with h3 | ⟨g, cur, fz, xs, h3⟩
    · exact absurd h3 hc
    have hblk : (rowb p e E A c l).own g := by show rowblk A c = some g; unfold rowblk; rw [if_neg hc, h3.adr]; rfl
    have hVg : V g = none := hh.apart _ (List.mem_cons_self) g hblk
    have hle : View.le V (fun b => if b = g then w.heap[g]? else V b) := fun b o hb => by
      have : b ≠ g := fun e => by rw [e, hVg] at hb; cases hb
      simp only [if_neg this]; exact hb
    have hnew : ¬ g < w0.heap.size := fun hlt => by
      have hw : (vw w0) g = some w0.heap[g] := Array.getElem?_eq_getElem hlt
      rw [h.base g _ hw] at hVg
      cases hVg
    have hlies : ∀ V' : View, V' g = w.heap[g]? → Lies V' A xs := fun V' hV j u hu => by
      obtain ⟨a, ha, hcell⟩ := h3.cells j u hu
      refine ⟨a, ha, ?_⟩
      have hag : a = ⟨g, 0, none⟩ := Option.some.inj (ha.symm.trans h3.adr)
      subst hag
      have e1 : ((⟨g, 0, none⟩ : Addr).add j).block = g := block_of_add _ _
      unfold View.cell
      rw [e1, hV]
      rw [vw_cell, World.cell?, e1] at hcell
      exact hcell
    refine ⟨fun b => if b = g then w.heap[g]? else V b, hle, ⟨htail.os, htail.tape, htail.output, htail.size, fun b o hb => ?_, View.le_trans h.base hle, fun x hx => x.mono V _ w hle (htail.objs x hx), fun x hx b hxb => ?_, htail.sep⟩, ⟨h1, h2, xs, h3.rep.mono hle, hlies _ (by simp)⟩, fun hflat => ⟨h1, h2, xs, ⟨h3.rep.1, fun k x hk => hflat _ _ _ _ (h3.rep.2 k x hk)⟩, hlies _ ?_⟩⟩
    · by_cases hbg : b = g
      · subst hbg
        simp only [if_pos] at hb
        exact hb
      · simp only [if_neg hbg] at hb
        exact htail.view b o hb
    · have hbg : b ≠ g := fun e => hsep.1 x hx g hblk (by rw [← e]; exact hxb)
      simp only [if_neg hbg]
      exact htail.apart x hx b hxb
    · unfold made
      rw [if_neg hnew]; simp
theorem T.freeze (i : Nat) (hi : nth H i = some (rowb p e E A c l)) (hH : H.eraseIdx i = H') (h : ∀ V', View.le V V' → SlOk V' E A c l → T N w0 V' H' M φ) : T N w0 V H M φ := fun a w hf hh => by
  obtain ⟨V', h1, h2, h3, _⟩ := hh.freeze i hi hH
  exact h V' h1 h3 a w hf h2
theorem T.freezeF (i : Nat) (hi : nth H i = some (rowb p e E A c l)) (hH : H.eraseIdx i = H') (hflat : ∀ V V' cs x, E.rep V cs x → E.rep V' cs x) (h : ∀ V', View.le V V' → SlOk (made w0 V') E A c l → T N w0 V' H' M φ) : T N w0 V H M φ := fun a w hf hh => by
  obtain ⟨V', h1, h2, _, h4⟩ := hh.freeze i hi hH
  exact h V' h1 (h4 hflat) a w hf h2
end

section
variable {α : Type} {N : Sz} {w0 : World} {V : View} {H H' : List HObj} {M : List (Nat × Value)} {φ : Act → World → Prop} {p : Bool} {e : TypeId} {E : Enc α} {A : Option Addr} {c : Nat} {l l0 : List α}
/-- Of a row its beginning is kept. -/
theorem T.shrink (i : Nat) (hi : nth H i = some (rowb p e E A c l0)) (hp : l <+: l0) (h : T N w0 V (H.set i (rowb p e E A c l)) M φ) : T N w0 V H M φ := fun a w hf hh => by
  refine h a w hf ?_
  rw [nth_eq] at hi
  exact hh.turn (o := none) hi ⟨rfl, rfl, rfl, Nat.le_refl _, fun _ _ _ => rfl⟩ (rowb_prefix (hh.objs _ (List.mem_of_getElem? hi)) hp) (fun b hb => .inl hb) (fun b e => by cases e)
end

/-! ### Calls that are gone through in place -/
section
variable {P : Program} {N : Sz} {N' : Nat} {w0 : World} {V : View} {H : List HObj} {M : List (Nat × Value)} {ops : Array Oper} {Q : Exit → Act → World → Prop} {o : Oper} {K : Act → World → Prop} {fn : Func} {c : Code}
theorem W1.within (f : FuncId) (l : List Value) (I : Value → World → Prop) (hfn : P.funcs[f]? = some fn) (hb : fn.body = some c) (hN : fn.ntmps = N') (hc : okO N ops M o = true)
    (hv : ∀ w, (execOp (evM M) o).run P w = .ok (.enter f l.toArray) w) (hn : Nat.ble l.length N' = true)
    (h : T ⟨N', []⟩ w0 V H (argM 0 l) (c.wpIn (RF none) 0 P (bodyPost P fn (fun e w' => ∃ v, e = .returned v ∧ I v w'))))
    (k : ∀ v w', I v w' → ∃ V' H', Hp w0 V' H' w' ∧ T N w0 V' H' (putM o.dst v M) K) : W1 P Q ops o N w0 V H M K :=
  W1.inline f l.toArray (argM 0 l) hfn hb hN hc hv (by simpa using Nat.le_of_ble_eq_true hn) (fun t v hv => by simpa using (lk_argM l 0 t v hv).2)
    (fun a w hf hh => Code.wpIn_mono (fun e a w hq => by
      have kk : ∀ e w, (∃ v, e = Ending.returned v ∧ I v w) → ∃ v, e = Ending.returned v ∧ ∀ a, Fr N (putM o.dst v M) a → K a w := fun e w ⟨v, hv, hI⟩ => ⟨v, hv, fun a hfr => by obtain ⟨V', H', hh', ht⟩ := k v w hI; exact ht a w hfr hh'⟩
      cases e with
      | ret => exact ⟨hq.1, hq.2.imp fun v hv => ⟨hv.1, kk _ _ hv.2⟩⟩
      | normal => exact ⟨hq.1, hq.2.imp fun v hv => ⟨hv.1, kk _ _ hv.2⟩⟩
      | panic ch => exact ⟨hq.1, kk _ _ hq.2⟩
      | outgrown => exact kk _ _ hq
      | _ => exact hq) (h a w hf hh))
end

/-! ### Equality of data -/
theorem seq_iff (x y : ByteArray) : seq x y = true ↔ x = y := by
  unfold seq
  rw [beq_iff_eq, ByteArray.toList_eq, ByteArray.toList_eq]
  obtain ⟨⟨x⟩⟩ := x
  obtain ⟨⟨y⟩⟩ := y
  simp
theorem beq_DKey (x y : DKey) : (x == y) = (x.pfs == y.pfs && (x.obj == y.obj && x.off == y.off)) := by
  obtain ⟨a, b, c⟩ := x; obtain ⟨a', b', c'⟩ := y
  rw [Bool.eq_iff_iff]; simp [DKey.mk.injEq]
theorem beq_DSpot (x y : DSpot) : (x == y) = (x.key == y.key && x.made == y.made) := by
  obtain ⟨a, b⟩ := x; obtain ⟨a', b'⟩ := y
  rw [Bool.eq_iff_iff]; simp [DSpot.mk.injEq]
theorem beq_DElem (x y : DElem) : (x == y) = (x.key == y.key && (x.made == y.made && (x.gone == y.gone && seq x.val y.val))) := by
  obtain ⟨a, b, c, d⟩ := x; obtain ⟨a', b', c', d'⟩ := y
  rw [Bool.eq_iff_iff]; simp [DElem.mk.injEq, seq_iff]
theorem beq_DFrame (x y : DFrame) : (x == y) = (x.kind == y.kind && seq x.body y.body) := by
  obtain ⟨a, b⟩ := x; obtain ⟨a', b'⟩ := y
  rw [Bool.eq_iff_iff]; simp [DFrame.mk.injEq, seq_iff]
theorem beq_DWrite (x y : DWrite) : (x == y) = (x.page == y.page && seq x.text y.text) := by
  obtain ⟨a, b⟩ := x; obtain ⟨a', b'⟩ := y
  rw [Bool.eq_iff_iff]; simp [DWrite.mk.injEq, seq_iff]
theorem beq_DSnap (x y : DSnap) : (x == y) = (seq x.name y.name && x.tid == y.tid) := by
  obtain ⟨a, b⟩ := x; obtain ⟨a', b'⟩ := y
  rw [Bool.eq_iff_iff]; simp [DSnap.mk.injEq, seq_iff]
theorem beq_DChange (x y : DChange) : (x == y) = (x.key == y.key && (x.had == y.had && (x.has == y.has && (seq x.was y.was && seq x.is_ y.is_)))) := by
  obtain ⟨a, b, c, d, e⟩ := x; obtain ⟨a', b', c', d', e'⟩ := y
  rw [Bool.eq_iff_iff]; simp [DChange.mk.injEq, seq_iff]
end Go.Proofs.Ytjhkfonoobmecaa
