/- Short words for the chains of lifted proofs; checks done by themselves. Its conditions: none. -/
import Derived.Test.YtfbjmeehmanjnaaMapJ
import Derived.Test.YtfbjmeehmanjnaaTreeOJ
import Derived.Test.YtfbjmeehmanjnaaAnyLJ
import Derived.Test.YtfbjmeehmanjnaaLocalJ
namespace Go.Proofs.Ytfbjmeehmanjnaa
set_option linter.unusedVariables false
set_option linter.unusedSimpArgs false
section
variable {α : Type _} {l m : List α}
theorem kp0 : List.Sublist ([] : List α) l := List.nil_sublist _
theorem kpr : List.Sublist l l := List.Sublist.refl _
theorem kp1 {x0 : α} (h : l.Sublist m) : (x0 :: l).Sublist (x0 :: m) := h.cons_cons _
theorem dr1 {x0 : α} (h : l.Sublist m) : l.Sublist (x0 :: m) := h.cons _
theorem dr2 {x0 x1 : α} (h : l.Sublist m) : l.Sublist (x0 :: x1 :: m) := (dr1 h).cons _
theorem dr3 {x0 x1 x2 : α} (h : l.Sublist m) : l.Sublist (x0 :: x1 :: x2 :: m) := (dr2 h).cons _
end
class Steady {α : Type} (E : Enc α) : Prop where
 st : ∀ V V' cs x, E.rep V cs x → E.rep V' cs x
instance : Steady (eK .i64) := ⟨fun _ _ _ _ h => h⟩
instance : Steady eBool := ⟨fun _ _ _ _ h => h⟩
instance : Steady eSpot := ⟨fun _ _ _ _ h => h⟩
instance : Steady eElem := ⟨fun _ _ _ _ h => h⟩
instance : Steady eHdr := ⟨fun _ _ _ _ h => h⟩
instance : Steady ebuild_low := ⟨fun _ _ _ _ h => h⟩
theorem ol0 : OldAll [] := OldAll.nil
theorem oB1 {b0 : Nat} {t0 : TypeId} {d0 : List Value} {H : List HObj} (h : OldAll H) : OldAll (box b0 t0 d0 :: H) := OldAll.box h
section
variable {α : Type _} {l m n : List α}
end
theorem vr {V : View} : View.le V V := View.le_refl _
theorem vt {V V' V'' : View} (h : View.le V V') (k : View.le V' V'') : View.le V V'' := View.le_trans h k
section
variable {P : Program} {N : Sz} {w0 : World} {V V0 : View} {H H0 : List HObj} {M : List (Nat × Value)} {ops : Array Oper} {Q : Exit → Act → World → Prop} {o : Oper} {fuel : Nat} {listed : Array Bool} {j0 : Nat}
theorem TA.tk (i : Nat) (v : Value) (hi : ops[i]? = some o) (hS : ∀ w, Hp w0 V H w → Hp w0 V0 H0 w) (hv : ∀ w, Hp w0 V0 H0 w → (execOp (evM M) o).run P w = .ok (.value v) w) (h : T N w0 V H (putM o.dst v M) (wpAnyH P .any ops Q (Hp w0 V0 H0) fuel (listed.setIfInBounds i true))) (hb : (Region.noSelect ops && Region.free .any ops listed i && (Region.ready .any ops listed).contains i && okO N ops M o) = true := by kernel_rfl) (hQ : ∀ c a w, Q (.panic c) (a.put o.dst v) w → Q (.panic c) a w := by exact fun _ _ _ h => h) :
 T N w0 V H M (wpAnyH P .any ops Q (Hp w0 V0 H0) (fuel + 1) listed) := by
 simp only [Bool.and_eq_true] at hb
 exact TA.take i v hi hb.1.1.1 hb.1.1.2 hb.1.2 hQ hS hb.2 hv h
theorem TL.tk (i : Nat) (v : Value) (c : List Nat) (hi : ops[i]? = some o) (hS : ∀ w, Hp w0 V H w → Hp w0 V0 H0 w) (hv : ∀ w, Hp w0 V0 H0 w → (execOp (evM M) o).run P w = .ok (.value v) w) (h : T N w0 V H (putM o.dst v M) (wpAnyL P .any ops Q j0 (Hp w0 V0 H0) fuel (listed.setIfInBounds i true))) (hb : (Region.noSelect ops && Region.free .any ops listed i && (Region.ready .any ops listed).contains i && !(i == j0) && chainB .any ops j0 c i && closedB .any ops listed && okO N ops M o) = true := by kernel_rfl) (hQ : ∀ c a w, Q (.panic c) (a.put o.dst v) w → Q (.panic c) a w := by exact fun _ _ _ h => h) :
 T N w0 V H M (wpAnyL P .any ops Q j0 (Hp w0 V0 H0) (fuel + 1) listed) := by
 simp only [Bool.and_eq_true, Bool.not_eq_true'] at hb
 exact TL.take i v c hi hb.1.1.1.1.1.1 hb.1.1.1.1.1.2 hb.1.1.1.1.2 hQ hb.1.1.1.2 hb.1.1.2 hb.1.2 hS hb.2 hv h
theorem TL.tp (i : Nat) (v : Value) (hi : ops[i]? = some o) (hb : (Region.noSelect ops && Region.free .any ops listed i && (Region.ready .any ops listed).contains i && !(i == j0) && okO N ops M o) = true) (hQ : ∀ c a w, Q (.panic c) (a.put o.dst v) w → Q (.panic c) a w)
 (hS : ∀ w, Hp w0 V H w → Hp w0 V0 H0 w) (hv : ∀ w, (execOp (evM M) o).run P w = .ok (.value v) w) (h : T N w0 V H (putM o.dst v M) (wpAnyL P .any ops Q j0 (Hp w0 V0 H0) fuel (listed.setIfInBounds i true))) :
 T N w0 V H M (wpAnyL P .any ops Q j0 (Hp w0 V0 H0) (fuel + 1) listed) := by
 simp only [Bool.and_eq_true, Bool.not_eq_true'] at hb
 exact TL.takeP i v hi hb.1.1.1.1 hb.1.1.1.2 hb.1.1.2 hQ hb.1.2 hS hb.2 hv h
theorem TA.tp (i : Nat) (v : Value) (hi : ops[i]? = some o) (hS : ∀ w, Hp w0 V H w → Hp w0 V0 H0 w) (h : T N w0 V H (putM o.dst v M) (wpAnyH P .any ops Q (Hp w0 V0 H0) fuel (listed.setIfInBounds i true))) (hb : ∀ w, ((Region.noSelect ops && Region.free .any ops listed i && (Region.ready .any ops listed).contains i && okO N ops M o), (execOp (evM M) o).run P w) = (true, .ok (.value v) w) := by intro _; kernel_rfl) (hQ : ∀ c a w, Q (.panic c) (a.put o.dst v) w → Q (.panic c) a w := by exact fun _ _ _ h => h) :
 T N w0 V H M (wpAnyH P .any ops Q (Hp w0 V0 H0) (fuel + 1) listed) := TA.tk i v hi hS (fun w _ => congrArg Prod.snd (hb w)) h (congrArg Prod.fst (hb w0)) hQ
end
section
variable {rl : Option Nat} {P : Program} {N : Sz} {w0 : World} {V : View} {H : List HObj} {M : List (Nat × Value)} {ops : Array Oper} {Q : Exit → Act → World → Prop} {rest : List Oper} {o : Oper}
theorem T.pk (v : Value) (hb : ∀ w, ((okO N ops M o && noDefer o.op), (execOp (evM M) o).run P w) = (true, .ok (.value v) w)) (h : T N w0 V H (putM o.dst v M) (wpListIn (RF rl) 0 P ops Q rest)) :
 T N w0 V H M (wpListIn (RF rl) 0 P ops Q (o :: rest)) := by
 have h1 := congrArg Prod.fst (hb w0)
 simp only [Bool.and_eq_true] at h1
 exact T.pure v h1.1 (fun w => congrArg Prod.snd (hb w)) h h1.2
end
section
variable {P : Program} {N : Sz} {w0 : World} {V : View} {H : List HObj} {M : List (Nat × Value)} {ops : Array Oper} {Q : Exit → Act → World → Prop} {o : Oper} {K : Act → World → Prop}
theorem W1.st (i : Nat) {b : Nat} {t t2 : TypeId} {cs : List Value} {x y : Operand} {off : Nat} {v : Value} (cs' : List Value) (H' : List HObj) (vs : List Value) (h : T N w0 V H' (putM o.dst undef M) K) (hi : nth H i = some (box b t cs) := by rfl) (hH : H.set i (box b t cs') = H' := by exact rfl) (ho : o.op = .store t2 x y := by exact rfl) (hx : evM M x = .pointer (some ⟨b, off, none⟩) := by exact rfl) (hy : evM M y = v := by exact rfl) (hvs : v.cells = vs.toArray := by exact rfl) (hcs : cs.take off ++ vs ++ cs.drop (off + vs.length) = cs' := by exact rfl) (hb : ∀ w, (okO N ops M o, vs.all Value.oneCell', Nat.ble (off + vs.length) cs.length, (sizeOf t2).run P w) = (true, true, true, .ok vs.length w) := by intro _; kernel_rfl) : W1 P Q ops o N w0 V H M K := by
 have h1 : ∀ u ∈ vs, u.oneCell' = true := List.all_eq_true.1 (congrArg (fun q => q.2.1) (hb w0))
 have h2 : off + vs.length ≤ cs.length := Nat.le_of_ble_eq_true (congrArg (fun q => q.2.2.1) (hb w0))
 exact W1.store i cs' H' hi hH (congrArg Prod.fst (hb w0)) (fun w hw => exec_store ho hx hy hvs (congrArg (fun q => q.2.2.2) (hb w)) h1 h2 hcs hw) h
theorem W1.np (t : TypeId) (cs : List Value) (h : ∀ b, T N w0 V (box b t cs :: H) (putM o.dst (.pointer (some ⟨b, 0, none⟩)) M) K) (hb : ∀ w : World, (okO N ops M o, (execOp (evM M) o).run P w) = (true, .ok (.value (.pointer (some ⟨w.heap.size, 0, none⟩))) { w with heap := w.heap.push (.cells cs.toArray t) }) := by intro _; kernel_rfl) : W1 P Q ops o N w0 V H M K :=
 W1.new t cs (fun b => .pointer (some ⟨b, 0, none⟩)) (congrArg Prod.fst (hb w0)) (fun w => congrArg Prod.snd (hb w)) h
end
section
variable {rl : Option Nat} {P : Program} {N : Sz} {w0 : World} {V : View} {H : List HObj} {M : List (Nat × Value)} {ops : Array Oper} {Q : Exit → Act → World → Prop} {rest : List Oper}
theorem T.k2 {o1 o2 : Oper} (v1 v2 : Value) (h : T N w0 V H (putM o2.dst v2 (putM o1.dst v1 (M))) (wpListIn (RF rl) 0 P ops Q rest)) (hb : ∀ w, ((okO N ops (M) o1 && noDefer o1.op), (execOp (evM (M)) o1).run P w, (okO N ops (putM o1.dst v1 (M)) o2 && noDefer o2.op), (execOp (evM (putM o1.dst v1 (M))) o2).run P w) = (true, .ok (.value v1) w, true, .ok (.value v2) w) := by intro _; kernel_rfl) :
 T N w0 V H M (wpListIn (RF rl) 0 P ops Q (o1 :: o2 :: rest)) :=
 T.pk v1 (fun w => Prod.ext (congrArg (fun q => q.1) (hb w)) (congrArg (fun q => q.2.1) (hb w))) (T.pk v2 (fun w => Prod.ext (congrArg (fun q => q.2.2.1) (hb w)) (congrArg (fun q => q.2.2.2) (hb w))) (h))
theorem T.k3 {o1 o2 o3 : Oper} (v1 v2 v3 : Value) (h : T N w0 V H (putM o3.dst v3 (putM o2.dst v2 (putM o1.dst v1 (M)))) (wpListIn (RF rl) 0 P ops Q rest)) (hb : ∀ w, ((okO N ops (M) o1 && noDefer o1.op), (execOp (evM (M)) o1).run P w, (okO N ops (putM o1.dst v1 (M)) o2 && noDefer o2.op), (execOp (evM (putM o1.dst v1 (M))) o2).run P w, (okO N ops (putM o2.dst v2 (putM o1.dst v1 (M))) o3 && noDefer o3.op), (execOp (evM (putM o2.dst v2 (putM o1.dst v1 (M)))) o3).run P w) = (true, .ok (.value v1) w, true, .ok (.value v2) w, true, .ok (.value v3) w) := by intro _; kernel_rfl) :
 T N w0 V H M (wpListIn (RF rl) 0 P ops Q (o1 :: o2 :: o3 :: rest)) :=
 T.pk v1 (fun w => Prod.ext (congrArg (fun q => q.1) (hb w)) (congrArg (fun q => q.2.1) (hb w))) (T.pk v2 (fun w => Prod.ext (congrArg (fun q => q.2.2.1) (hb w)) (congrArg (fun q => q.2.2.2.1) (hb w))) (T.pk v3 (fun w => Prod.ext (congrArg (fun q => q.2.2.2.2.1) (hb w)) (congrArg (fun q => q.2.2.2.2.2) (hb w))) (h)))
theorem T.k4 {o1 o2 o3 o4 : Oper} (v1 v2 v3 v4 : Value) (h : T N w0 V H (putM o4.dst v4 (putM o3.dst v3 (putM o2.dst v2 (putM o1.dst v1 (M))))) (wpListIn (RF rl) 0 P ops Q rest)) (hb : ∀ w, ((okO N ops (M) o1 && noDefer o1.op), (execOp (evM (M)) o1).run P w, (okO N ops (putM o1.dst v1 (M)) o2 && noDefer o2.op), (execOp (evM (putM o1.dst v1 (M))) o2).run P w, (okO N ops (putM o2.dst v2 (putM o1.dst v1 (M))) o3 && noDefer o3.op), (execOp (evM (putM o2.dst v2 (putM o1.dst v1 (M)))) o3).run P w, (okO N ops (putM o3.dst v3 (putM o2.dst v2 (putM o1.dst v1 (M)))) o4 && noDefer o4.op), (execOp (evM (putM o3.dst v3 (putM o2.dst v2 (putM o1.dst v1 (M))))) o4).run P w) = (true, .ok (.value v1) w, true, .ok (.value v2) w, true, .ok (.value v3) w, true, .ok (.value v4) w) := by intro _; kernel_rfl) :
 T N w0 V H M (wpListIn (RF rl) 0 P ops Q (o1 :: o2 :: o3 :: o4 :: rest)) :=
 T.pk v1 (fun w => Prod.ext (congrArg (fun q => q.1) (hb w)) (congrArg (fun q => q.2.1) (hb w))) (T.pk v2 (fun w => Prod.ext (congrArg (fun q => q.2.2.1) (hb w)) (congrArg (fun q => q.2.2.2.1) (hb w))) (T.pk v3 (fun w => Prod.ext (congrArg (fun q => q.2.2.2.2.1) (hb w)) (congrArg (fun q => q.2.2.2.2.2.1) (hb w))) (T.pk v4 (fun w => Prod.ext (congrArg (fun q => q.2.2.2.2.2.2.1) (hb w)) (congrArg (fun q => q.2.2.2.2.2.2.2) (hb w))) (h))))
theorem T.k5 {o1 o2 o3 o4 o5 : Oper} (v1 v2 v3 v4 v5 : Value) (h : T N w0 V H (putM o5.dst v5 (putM o4.dst v4 (putM o3.dst v3 (putM o2.dst v2 (putM o1.dst v1 (M)))))) (wpListIn (RF rl) 0 P ops Q rest)) (hb : ∀ w, ((okO N ops (M) o1 && noDefer o1.op), (execOp (evM (M)) o1).run P w, (okO N ops (putM o1.dst v1 (M)) o2 && noDefer o2.op), (execOp (evM (putM o1.dst v1 (M))) o2).run P w, (okO N ops (putM o2.dst v2 (putM o1.dst v1 (M))) o3 && noDefer o3.op), (execOp (evM (putM o2.dst v2 (putM o1.dst v1 (M)))) o3).run P w, (okO N ops (putM o3.dst v3 (putM o2.dst v2 (putM o1.dst v1 (M)))) o4 && noDefer o4.op), (execOp (evM (putM o3.dst v3 (putM o2.dst v2 (putM o1.dst v1 (M))))) o4).run P w, (okO N ops (putM o4.dst v4 (putM o3.dst v3 (putM o2.dst v2 (putM o1.dst v1 (M))))) o5 && noDefer o5.op), (execOp (evM (putM o4.dst v4 (putM o3.dst v3 (putM o2.dst v2 (putM o1.dst v1 (M)))))) o5).run P w) = (true, .ok (.value v1) w, true, .ok (.value v2) w, true, .ok (.value v3) w, true, .ok (.value v4) w, true, .ok (.value v5) w) := by intro _; kernel_rfl) :
 T N w0 V H M (wpListIn (RF rl) 0 P ops Q (o1 :: o2 :: o3 :: o4 :: o5 :: rest)) :=
 T.pk v1 (fun w => Prod.ext (congrArg (fun q => q.1) (hb w)) (congrArg (fun q => q.2.1) (hb w))) (T.pk v2 (fun w => Prod.ext (congrArg (fun q => q.2.2.1) (hb w)) (congrArg (fun q => q.2.2.2.1) (hb w))) (T.pk v3 (fun w => Prod.ext (congrArg (fun q => q.2.2.2.2.1) (hb w)) (congrArg (fun q => q.2.2.2.2.2.1) (hb w))) (T.pk v4 (fun w => Prod.ext (congrArg (fun q => q.2.2.2.2.2.2.1) (hb w)) (congrArg (fun q => q.2.2.2.2.2.2.2.1) (hb w))) (T.pk v5 (fun w => Prod.ext (congrArg (fun q => q.2.2.2.2.2.2.2.2.1) (hb w)) (congrArg (fun q => q.2.2.2.2.2.2.2.2.2) (hb w))) (h)))))
end
abbrev vi (x : Int) : Value := .int .i64 x
abbrev pB (b i : Nat) : Value := .pointer (some ⟨b, i, none⟩)
abbrev sN : Value := .slice none 0 0
section
variable {P : Program} {w0 : World} {V : View} {H : List HObj} {M : List (Nat × Value)} {o : Oper}
theorem ldN (i : Nat) {b off : Nat} {t t2 : TypeId} {C S : List Value} {x : Operand} (ho : o.op = .load t2 x := by exact rfl) (hx : evM M x = .pointer (some ⟨b, off, none⟩) := by exact rfl) (ht : ∀ w, ((isAgg t2).run P w, (sizeOf t2).run P w) = (.ok true w, .ok S.length w) := by intro _; kernel_rfl) (hi : nth H i = some (box b t C) := by rfl) (hc : (C.drop off).take S.length = S := by exact rfl) :
 ∀ w, Hp w0 V H w → (execOp (evM M) o).run P w = .ok (.value (.agg S.toArray)) w := fun w hh => exec_loadN ho hx (congrArg Prod.fst (ht w)) (congrArg Prod.snd (ht w)) fun j u hj => (hh.box_at hi off j).trans (seg_at hc hj)
end
section
variable {P : Program} {N : Sz} {w0 : World} {V : View} {H : List HObj} {M : List (Nat × Value)} {ops : Array Oper} {Q : Exit → Act → World → Prop} {o : Oper} {K : Act → World → Prop}
theorem W1.ns (t : TypeId) (cs : List Value) (h : ∀ b, T N w0 V (box b t cs :: H) (putM o.dst (.slice (some ⟨b, 0, none⟩) 1 1) M) K) (hb : ∀ w : World, (okO N ops M o, (execOp (evM M) o).run P w) = (true, .ok (.value (.slice (some ⟨w.heap.size, 0, none⟩) 1 1)) { w with heap := w.heap.push (.cells cs.toArray t) }) := by intro _; kernel_rfl) : W1 P Q ops o N w0 V H M K :=
 W1.new t cs (fun b => .slice (some ⟨b, 0, none⟩) 1 1) (congrArg Prod.fst (hb w0)) (fun w => congrArg Prod.snd (hb w)) h
theorem Fr.sel {M' : List (Nat × Value)} {a : Act} (hf : Fr N M a) (h : M'.map (fun p => lk M p.1) = M'.map (fun p => some p.2)) : Fr N M' a := by
 refine ⟨hf.defers, hf.size, fun t v hv => hf.get t v ?_⟩
 induction M' with
 | nil => cases hv
 | cons p M' ih =>
  obtain ⟨s, u⟩ := p
  simp only [List.map_cons, List.cons.injEq] at h
  simp only [lk] at hv
  cases hb : s.beq t with
  | true =>
   rw [hb, cond_true] at hv
   cases hv
   rw [← Nat.eq_of_beq_eq_true hb]; exact h.1
  | false =>
   rw [hb, cond_false] at hv
   exact ih h.2 hv
end
section
variable {P : Program} {N : Sz} {w0 : World} {V : View} {H : List HObj} {M : List (Nat × Value)} {Q : Exit → Act → World → Prop}
end
section
variable {rl : Option Nat} {P : Program} {N : Sz} {w0 : World} {V V0 : View} {H H0 : List HObj} {M : List (Nat × Value)} {ops : Array Oper} {Q : Exit → Act → World → Prop} {rest : List Oper} {o : Oper} {fuel : Nat} {listed : Array Bool} {j0 : Nat} {K : Act → World → Prop} {φ : Act → Prop}
theorem T.k (v : Value) (h : T N w0 V H (putM o.dst v M) (wpListIn (RF rl) 0 P ops Q rest)) (hb : ∀ w, ((okO N ops M o && noDefer o.op), (execOp (evM M) o).run P w) = (true, .ok (.value v) w) := by intro _; kernel_rfl) : T N w0 V H M (wpListIn (RF rl) 0 P ops Q (o :: rest)) := T.pk v hb h
theorem T.l (v : Value) (hv : ∀ w, Hp w0 V H w → (execOp (evM M) o).run P w = .ok (.value v) w) (h : T N w0 V H (putM o.dst v M) (wpListIn (RF rl) 0 P ops Q rest)) (hc : (okO N ops M o && noDefer o.op) = true := by kernel_rfl) : T N w0 V H M (wpListIn (RF rl) 0 P ops Q (o :: rest)) := by
 simp only [Bool.and_eq_true] at hc
 exact T.step (W1.look v hc.1 hv h) hc.2
theorem W1.l (v : Value) (hv : ∀ w, Hp w0 V H w → (execOp (evM M) o).run P w = .ok (.value v) w) (h : T N w0 V H (putM o.dst v M) K) (hc : okO N ops M o = true := by kernel_rfl) : W1 P Q ops o N w0 V H M K := W1.look v hc hv h
theorem TQ.l (v : Value) (hv : ∀ w, Hp w0 V H w → (execOp (evM M) o).run P w = .ok (.value v) w) (h : TQ N (putM o.dst v M) (wpQuiet P ops (Hp w0 V H) φ rest)) (hc : okO N ops M o = true := by kernel_rfl) : TQ N M (wpQuiet P ops (Hp w0 V H) φ (o :: rest)) := TQ.look v hc hv h
theorem TQ.k (v : Value) (h : TQ N (putM o.dst v M) (wpQuiet P ops (Hp w0 V H) φ rest)) (hb : ∀ w, (okO N ops M o, (execOp (evM M) o).run P w) = (true, .ok (.value v) w) := by intro _; kernel_rfl) : TQ N M (wpQuiet P ops (Hp w0 V H) φ (o :: rest)) := TQ.pure v (congrArg Prod.fst (hb w0)) (fun w => congrArg Prod.snd (hb w)) h
theorem TQ.z (h : TQ N (putM o.dst undef M) (wpQuiet P ops (Hp w0 V H) φ rest)) (hg : (gd ops M o.guard, dstOk N o.dst) = (some false, true) := by kernel_rfl) : TQ N M (wpQuiet P ops (Hp w0 V H) φ (o :: rest)) := TQ.pass (congrArg Prod.fst hg) (congrArg Prod.snd hg) h
theorem T.z (h : T N w0 V H (putM o.dst undef M) (wpListIn (RF rl) 0 P ops Q rest)) (hg : (gd ops M o.guard, dstOk N o.dst) = (some false, true) := by kernel_rfl) : T N w0 V H M (wpListIn (RF rl) 0 P ops Q (o :: rest)) := T.pass (congrArg Prod.fst hg) (congrArg Prod.snd hg) h
theorem TI.n {i : Nat} (h : T N w0 V H (putM o.dst undef M) (wpAnyIn (RF rl) 0 P .any ops Q fuel (listed.setIfInBounds i true))) (ho : ops[i]? = some o := by exact rfl) (hg : (gd ops M o.guard, dstOk N o.dst) = (some false, true) := by kernel_rfl) : TBI rl P Q ops N w0 V H M fuel listed i := TI.no ho (congrArg Prod.fst hg) (congrArg Prod.snd hg) h
theorem T.c {c : Operand} {x y : Code} {b : Bool} {α : Type _} {f g : Option α} {r : α} (ht : b = true → f = some r → T N w0 V H M (x.wpIn (RF rl) 0 P Q)) (hf : b = false → g = some r → T N w0 V H M (y.wpIn (RF rl) 0 P Q)) (hk : knows M c = true := by kernel_rfl) (hc : evM M c = .bool b := by kernel_rfl) :
 (bif b then f else g) = some r → T N w0 V H M ((Code.cond c x y).wpIn (RF rl) 0 P Q) := fun hF => T.cond b hk hc (fun h => ht h (by rw [h] at hF; exact hF)) (fun h => hf h (by rw [h] at hF; exact hF))
theorem T.cb {c : Operand} {x y : Code} (b : Bool) (ht : b = true → T N w0 V H M (x.wpIn (RF rl) 0 P Q)) (hf : b = false → T N w0 V H M (y.wpIn (RF rl) 0 P Q)) (hk : knows M c = true := by kernel_rfl) (hc : evM M c = .bool b := by kernel_rfl) :
 T N w0 V H M ((Code.cond c x y).wpIn (RF rl) 0 P Q) := T.cond b hk hc ht hf
theorem TA.a (rs : List Nat) (h : TBs (TB P Q ops N w0 V V0 H H0 M fuel listed) rs) (hr : Region.ready .any ops listed = rs := by kernel_rfl) (hne : rs.isEmpty = false := by exact rfl) : T N w0 V H M (wpAnyH P .any ops Q (Hp w0 V0 H0) (fuel + 1) listed) := TA.all rs hr hne h
theorem TL.a (rs : List Nat) (h : TBs (TBL P Q ops N w0 V V0 H H0 M j0 fuel listed) rs) (hr : Region.ready .any ops listed = rs := by kernel_rfl) (hne : rs.isEmpty = false := by exact rfl) : T N w0 V H M (wpAnyL P .any ops Q j0 (Hp w0 V0 H0) (fuel + 1) listed) := TL.all rs hr hne h
theorem TI.a (rs : List Nat) (h : TBs (TBI rl P Q ops N w0 V H M fuel listed) rs) (hr : Region.ready .any ops listed = rs := by kernel_rfl) (hne : rs.isEmpty = false := by exact rfl) : T N w0 V H M (wpAnyIn (RF rl) 0 P .any ops Q (fuel + 1) listed) := TI.all rs hr hne h
theorem TA.d (h : T N w0 V H M (Q .normal)) (hr : Region.ready .any ops listed = [] := by kernel_rfl) : T N w0 V H M (wpAnyH P .any ops Q (Hp w0 V0 H0) fuel listed) := TA.done hr h
theorem TL.d (h : T N w0 V H M (Q .normal)) (hr : Region.ready .any ops listed = [] := by kernel_rfl) : T N w0 V H M (wpAnyL P .any ops Q j0 (Hp w0 V0 H0) fuel listed) := TL.done hr h
theorem TI.d (h : T N w0 V H M (Q .normal)) (hr : Region.ready .any ops listed = [] := by kernel_rfl) : T N w0 V H M (wpAnyIn (RF rl) 0 P .any ops Q fuel listed) := TI.done hr h
theorem T.i {φ : Act → World → Prop} {a : Act} {w : World} (h : T N w0 V H M φ) : Fr N M a → Hp w0 V H w → φ a w := h a w
theorem W1.w1 {ρ : Type} (E : VEnc ρ) (r : ρ) (f : FuncId) (vs : Array Value) (hf : ∀ w, Hp w0 V H w → Calls P f vs w (Post E r w)) (h : ∀ v V', View.le V V' → E.rep (made w0 V') v r → T N w0 V' H (putM o.dst v M) K)
 (hb : ∀ w, (okO N ops M o, (execOp (evM M) o).run P w) = (true, .ok (.enter f vs) w) := by intro _; kernel_rfl) : W1 P Q ops o N w0 V H M K := W1.call E r f vs (congrArg Prod.fst (hb w0)) (fun w => congrArg Prod.snd (hb w)) hf h
theorem rT {t : Nat} {v : Value} (hv : lk M t = some v) : ResIs P N w0 V H M (.tmp t) v := ResIs.tmp hv
theorem T.sr {id : Nat} {l : List Oper} {y : Code} (h : T N w0 V H M (wpListIn (RF rl) 0 P l.toArray (Exit.then (y.wpIn (RF rl) 0 P Q) Q) l)) : T N w0 V H M ((Code.seq (Code.region id l.toArray false) y).wpIn (RF rl) 0 P Q) := T.seq (T.region h)
theorem TA.j (i : Nat) (ho : ops[i]? = some o) (h : W1 P Q ops o N w0 V H M (fun a' w' => Hp w0 V0 H0 w' ∧ wpAnyH P .any ops Q (Hp w0 V0 H0) fuel (listed.setIfInBounds i true) a' w')) (hr : Region.ready .any ops listed = [i] := by kernel_rfl) : T N w0 V H M (wpAnyH P .any ops Q (Hp w0 V0 H0) (fuel + 1) listed) := TA.all [i] hr rfl ⟨TA.br ho h, trivial⟩
theorem TL.j (i : Nat) (ho : ops[i]? = some o) (h : W1 P Q ops o N w0 V H M (fun a' w' => ((listed.setIfInBounds i true).getD j0 true = false → Hp w0 V0 H0 w') ∧ wpAnyL P .any ops Q j0 (Hp w0 V0 H0) fuel (listed.setIfInBounds i true) a' w')) (hr : Region.ready .any ops listed = [i] := by kernel_rfl) : T N w0 V H M (wpAnyL P .any ops Q j0 (Hp w0 V0 H0) (fuel + 1) listed) := TL.all [i] hr rfl ⟨TL.br ho h, trivial⟩
theorem TI.j (i : Nat) (ho : ops[i]? = some o) (h : W1R rl P Q ops o N w0 V H M (wpAnyIn (RF rl) 0 P .any ops Q fuel (listed.setIfInBounds i true))) (hr : Region.ready .any ops listed = [i] := by kernel_rfl) : T N w0 V H M (wpAnyIn (RF rl) 0 P .any ops Q (fuel + 1) listed) := TI.all [i] hr rfl ⟨TI.br ho h, trivial⟩
theorem T.r {ψ : Act → World → Prop} (h : T N w0 V H M ψ) (hq : Q .ret = ψ := by exact rfl) : T N w0 V H M (Code.ret.wpIn (RF rl) 0 P Q) := T.ret hq h
theorem Fr.s {M' : List (Nat × Value)} {a : Act} (hf : Fr N M a) (h : M'.map (fun p => lk M p.1) = M'.map (fun p => some p.2) := by exact rfl) : Fr N M' a := Fr.sel hf h
end
section
variable {P : Program} {α : Type} {N : Sz} {w0 : World} {V : View} {H : List HObj} {M : List (Nat × Value)} {ops : Array Oper} {Q : Exit → Act → World → Prop} {o : Oper} {K : Act → World → Prop} {E : Enc α} {p : Bool} {t e : TypeId} {A : Option Addr} {c : Nat} {l : List α}
theorem W1.a (i : Nat) {m : List α} {A2 : Option Addr} {c2 : Nat} {s x : Operand} (bytes : Nat) {z : Value} {k : Nat} (ip : ∃ ti, P.info? e = some ti ∧ ti.zero = some z ∧ ti.size = k ∧ ti.bytes = bytes)
 (hsrc : ∀ w, Hp w0 V H w → ∃ news, RowRep V E news m ∧ Lies (vw w) A2 news) (hroom : room (l.length + m.length) bytes = true) (hmax : l.length + m.length ≤ maxLen)
 (h : ∀ A' c', T N w0 V (H.set i (row e E A' c' (l ++ m))) (putM o.dst (.slice A' (l ++ m).length c') M) K)
 (hi : nth H i = some (row e E A c l) := by rfl) (hc : okO N ops M o = true := by kernel_rfl) (ho : o.op = .call { callee := .builtin .append, args := #[s, x], argTypes := #[t, t] } := by exact rfl)
 (ht : P.underlying t = some (.slice e) := by kernel_rfl) (hk : k = E.size := by exact rfl) (hzs : z.cells.size = E.size := by exact rfl) (hsz : 0 < E.size := by decide) (hs : evM M s = .slice A l.length c := by exact rfl) (hx : evM M x = .slice A2 m.length c2 := by exact rfl) : W1 P Q ops o N w0 V H M K := by
 obtain ⟨ti, h1, h2, h3, h4⟩ := ip
 exact W1.append i s x bytes ti z hi hc ho ht h1 h2 (h3.trans hk) h4 hzs hsz hs hx hsrc hroom hmax h
theorem SlOk.sF {V' : View} (h : SlOk V' E A c l) (hE : ∀ V V' cs x, E.rep V cs x → E.rep V' cs x := by exact fun _ _ _ _ h => h) : ∃ news, RowRep V E news l ∧ Lies V' A news := SlOk.srcF h hE
end
end Go.Proofs.Ytfbjmeehmanjnaa
