/- More short words for lifted proofs. Its conditions: none. -/
import Derived.Test.YtcmkdoahkncakaaShR
namespace Go.Proofs.Ytcmkdoahkncakaa
set_option linter.unusedVariables false
set_option linter.unusedSimpArgs false
section
variable {rl : Option Nat} {P : Program} {N : Sz} {w0 : World} {V : View} {H : List HObj} {M : List (Nat × Value)} {ops : Array Oper} {Q : Exit → Act → World → Prop} {rest : List Oper}
theorem T.p2 {o1 o2 : Oper} (v1 v2 : Value) (hb : ∀ w, ((okO N ops (M) o1 && noDefer o1.op), (execOp (evM (M)) o1).run P w, (okO N ops (putM o1.dst v1 (M)) o2 && noDefer o2.op), (execOp (evM (putM o1.dst v1 (M))) o2).run P w) = (true, .ok (.value v1) w, true, .ok (.value v2) w)) (h : T N w0 V H (putM o2.dst v2 (putM o1.dst v1 (M))) (wpListIn (RF rl) 0 P ops Q rest)) :
 T N w0 V H M (wpListIn (RF rl) 0 P ops Q (o1 :: o2 :: rest)) :=
 T.pk v1 (fun w => Prod.ext (congrArg (fun q => q.1) (hb w)) (congrArg (fun q => q.2.1) (hb w))) (T.pk v2 (fun w => Prod.ext (congrArg (fun q => q.2.2.1) (hb w)) (congrArg (fun q => q.2.2.2) (hb w))) (h))
theorem T.p3 {o1 o2 o3 : Oper} (v1 v2 v3 : Value) (hb : ∀ w, ((okO N ops (M) o1 && noDefer o1.op), (execOp (evM (M)) o1).run P w, (okO N ops (putM o1.dst v1 (M)) o2 && noDefer o2.op), (execOp (evM (putM o1.dst v1 (M))) o2).run P w, (okO N ops (putM o2.dst v2 (putM o1.dst v1 (M))) o3 && noDefer o3.op), (execOp (evM (putM o2.dst v2 (putM o1.dst v1 (M)))) o3).run P w) = (true, .ok (.value v1) w, true, .ok (.value v2) w, true, .ok (.value v3) w)) (h : T N w0 V H (putM o3.dst v3 (putM o2.dst v2 (putM o1.dst v1 (M)))) (wpListIn (RF rl) 0 P ops Q rest)) :
 T N w0 V H M (wpListIn (RF rl) 0 P ops Q (o1 :: o2 :: o3 :: rest)) :=
 T.pk v1 (fun w => Prod.ext (congrArg (fun q => q.1) (hb w)) (congrArg (fun q => q.2.1) (hb w))) (T.pk v2 (fun w => Prod.ext (congrArg (fun q => q.2.2.1) (hb w)) (congrArg (fun q => q.2.2.2.1) (hb w))) (T.pk v3 (fun w => Prod.ext (congrArg (fun q => q.2.2.2.2.1) (hb w)) (congrArg (fun q => q.2.2.2.2.2) (hb w))) (h)))
theorem T.p4 {o1 o2 o3 o4 : Oper} (v1 v2 v3 v4 : Value) (hb : ∀ w, ((okO N ops (M) o1 && noDefer o1.op), (execOp (evM (M)) o1).run P w, (okO N ops (putM o1.dst v1 (M)) o2 && noDefer o2.op), (execOp (evM (putM o1.dst v1 (M))) o2).run P w, (okO N ops (putM o2.dst v2 (putM o1.dst v1 (M))) o3 && noDefer o3.op), (execOp (evM (putM o2.dst v2 (putM o1.dst v1 (M)))) o3).run P w, (okO N ops (putM o3.dst v3 (putM o2.dst v2 (putM o1.dst v1 (M)))) o4 && noDefer o4.op), (execOp (evM (putM o3.dst v3 (putM o2.dst v2 (putM o1.dst v1 (M))))) o4).run P w) = (true, .ok (.value v1) w, true, .ok (.value v2) w, true, .ok (.value v3) w, true, .ok (.value v4) w)) (h : T N w0 V H (putM o4.dst v4 (putM o3.dst v3 (putM o2.dst v2 (putM o1.dst v1 (M))))) (wpListIn (RF rl) 0 P ops Q rest)) :
 T N w0 V H M (wpListIn (RF rl) 0 P ops Q (o1 :: o2 :: o3 :: o4 :: rest)) :=
 T.pk v1 (fun w => Prod.ext (congrArg (fun q => q.1) (hb w)) (congrArg (fun q => q.2.1) (hb w))) (T.pk v2 (fun w => Prod.ext (congrArg (fun q => q.2.2.1) (hb w)) (congrArg (fun q => q.2.2.2.1) (hb w))) (T.pk v3 (fun w => Prod.ext (congrArg (fun q => q.2.2.2.2.1) (hb w)) (congrArg (fun q => q.2.2.2.2.2.1) (hb w))) (T.pk v4 (fun w => Prod.ext (congrArg (fun q => q.2.2.2.2.2.2.1) (hb w)) (congrArg (fun q => q.2.2.2.2.2.2.2) (hb w))) (h))))
theorem T.p5 {o1 o2 o3 o4 o5 : Oper} (v1 v2 v3 v4 v5 : Value) (hb : ∀ w, ((okO N ops (M) o1 && noDefer o1.op), (execOp (evM (M)) o1).run P w, (okO N ops (putM o1.dst v1 (M)) o2 && noDefer o2.op), (execOp (evM (putM o1.dst v1 (M))) o2).run P w, (okO N ops (putM o2.dst v2 (putM o1.dst v1 (M))) o3 && noDefer o3.op), (execOp (evM (putM o2.dst v2 (putM o1.dst v1 (M)))) o3).run P w, (okO N ops (putM o3.dst v3 (putM o2.dst v2 (putM o1.dst v1 (M)))) o4 && noDefer o4.op), (execOp (evM (putM o3.dst v3 (putM o2.dst v2 (putM o1.dst v1 (M))))) o4).run P w, (okO N ops (putM o4.dst v4 (putM o3.dst v3 (putM o2.dst v2 (putM o1.dst v1 (M))))) o5 && noDefer o5.op), (execOp (evM (putM o4.dst v4 (putM o3.dst v3 (putM o2.dst v2 (putM o1.dst v1 (M)))))) o5).run P w) = (true, .ok (.value v1) w, true, .ok (.value v2) w, true, .ok (.value v3) w, true, .ok (.value v4) w, true, .ok (.value v5) w)) (h : T N w0 V H (putM o5.dst v5 (putM o4.dst v4 (putM o3.dst v3 (putM o2.dst v2 (putM o1.dst v1 (M)))))) (wpListIn (RF rl) 0 P ops Q rest)) :
 T N w0 V H M (wpListIn (RF rl) 0 P ops Q (o1 :: o2 :: o3 :: o4 :: o5 :: rest)) :=
 T.pk v1 (fun w => Prod.ext (congrArg (fun q => q.1) (hb w)) (congrArg (fun q => q.2.1) (hb w))) (T.pk v2 (fun w => Prod.ext (congrArg (fun q => q.2.2.1) (hb w)) (congrArg (fun q => q.2.2.2.1) (hb w))) (T.pk v3 (fun w => Prod.ext (congrArg (fun q => q.2.2.2.2.1) (hb w)) (congrArg (fun q => q.2.2.2.2.2.1) (hb w))) (T.pk v4 (fun w => Prod.ext (congrArg (fun q => q.2.2.2.2.2.2.1) (hb w)) (congrArg (fun q => q.2.2.2.2.2.2.2.1) (hb w))) (T.pk v5 (fun w => Prod.ext (congrArg (fun q => q.2.2.2.2.2.2.2.2.1) (hb w)) (congrArg (fun q => q.2.2.2.2.2.2.2.2.2) (hb w))) (h)))))
theorem T.p6 {o1 o2 o3 o4 o5 o6 : Oper} (v1 v2 v3 v4 v5 v6 : Value) (hb : ∀ w, ((okO N ops (M) o1 && noDefer o1.op), (execOp (evM (M)) o1).run P w, (okO N ops (putM o1.dst v1 (M)) o2 && noDefer o2.op), (execOp (evM (putM o1.dst v1 (M))) o2).run P w, (okO N ops (putM o2.dst v2 (putM o1.dst v1 (M))) o3 && noDefer o3.op), (execOp (evM (putM o2.dst v2 (putM o1.dst v1 (M)))) o3).run P w, (okO N ops (putM o3.dst v3 (putM o2.dst v2 (putM o1.dst v1 (M)))) o4 && noDefer o4.op), (execOp (evM (putM o3.dst v3 (putM o2.dst v2 (putM o1.dst v1 (M))))) o4).run P w, (okO N ops (putM o4.dst v4 (putM o3.dst v3 (putM o2.dst v2 (putM o1.dst v1 (M))))) o5 && noDefer o5.op), (execOp (evM (putM o4.dst v4 (putM o3.dst v3 (putM o2.dst v2 (putM o1.dst v1 (M)))))) o5).run P w, (okO N ops (putM o5.dst v5 (putM o4.dst v4 (putM o3.dst v3 (putM o2.dst v2 (putM o1.dst v1 (M)))))) o6 && noDefer o6.op), (execOp (evM (putM o5.dst v5 (putM o4.dst v4 (putM o3.dst v3 (putM o2.dst v2 (putM o1.dst v1 (M))))))) o6).run P w) = (true, .ok (.value v1) w, true, .ok (.value v2) w, true, .ok (.value v3) w, true, .ok (.value v4) w, true, .ok (.value v5) w, true, .ok (.value v6) w)) (h : T N w0 V H (putM o6.dst v6 (putM o5.dst v5 (putM o4.dst v4 (putM o3.dst v3 (putM o2.dst v2 (putM o1.dst v1 (M))))))) (wpListIn (RF rl) 0 P ops Q rest)) :
 T N w0 V H M (wpListIn (RF rl) 0 P ops Q (o1 :: o2 :: o3 :: o4 :: o5 :: o6 :: rest)) :=
 T.pk v1 (fun w => Prod.ext (congrArg (fun q => q.1) (hb w)) (congrArg (fun q => q.2.1) (hb w))) (T.pk v2 (fun w => Prod.ext (congrArg (fun q => q.2.2.1) (hb w)) (congrArg (fun q => q.2.2.2.1) (hb w))) (T.pk v3 (fun w => Prod.ext (congrArg (fun q => q.2.2.2.2.1) (hb w)) (congrArg (fun q => q.2.2.2.2.2.1) (hb w))) (T.pk v4 (fun w => Prod.ext (congrArg (fun q => q.2.2.2.2.2.2.1) (hb w)) (congrArg (fun q => q.2.2.2.2.2.2.2.1) (hb w))) (T.pk v5 (fun w => Prod.ext (congrArg (fun q => q.2.2.2.2.2.2.2.2.1) (hb w)) (congrArg (fun q => q.2.2.2.2.2.2.2.2.2.1) (hb w))) (T.pk v6 (fun w => Prod.ext (congrArg (fun q => q.2.2.2.2.2.2.2.2.2.2.1) (hb w)) (congrArg (fun q => q.2.2.2.2.2.2.2.2.2.2.2) (hb w))) (h))))))
end
abbrev vi (x : Int) : Value := .int .i64 x
abbrev pB (b i : Nat) : Value := .pointer (some ⟨b, i, none⟩)
abbrev sN : Value := .slice none 0 0
theorem ob {α β : Type _} {x : Option α} {f : α → Option β} {b : β} (h : x.bind f = some b) : ∃ a, x = some a ∧ f a = some b := Option.bind_eq_some_iff.1 h
section
variable {P : Program} {w0 : World} {V : View} {H : List HObj} {M : List (Nat × Value)} {o : Oper}
theorem ldN (i : Nat) {b off : Nat} {t t2 : TypeId} {C S : List Value} {x : Operand} (ho : o.op = .load t2 x) (hx : evM M x = .pointer (some ⟨b, off, none⟩)) (ht : ∀ w, ((isAgg t2).run P w, (sizeOf t2).run P w) = (.ok true w, .ok S.length w)) (hi : nth H i = some (box b t C)) (hc : (C.drop off).take S.length = S) :
 ∀ w, Hp w0 V H w → (execOp (evM M) o).run P w = .ok (.value (.agg S.toArray)) w := fun w hh => exec_loadN ho hx (congrArg Prod.fst (ht w)) (congrArg Prod.snd (ht w)) fun j u hj => (hh.box_at hi off j).trans (seg_at hc hj)
theorem ixR (i : Nat) {t e t' : TypeId} {x y : Operand} {A : Option Addr} {n c s k : Nat} {kk : IntKind} {iv : Int} {α : Type} {p : Bool} {E : Enc α} {l : List α} {z : α} (ho : o.op = .indexAddr t x y) (hx : evM M x = .slice A n c) (hi : evM M y = .int kk iv)
 (hb : ∀ w, (P.underlying t, (sizeOf e).run P w) = (some (.slice e), .ok s w)) (h0 : 0 ≤ iv) (hn : iv < n) (hr : nth H i = some (rowb p t' E A c l)) (hk : l[k]? = some z) (hz : 0 < E.size) :
 ∀ w, Hp w0 V H w → (execOp (evM M) o).run P w = .ok (.value (.pointer (some ((sadr A).add (iv.toNat * s))))) w := fun w hh => exec_indexAddr ho hx hi (congrArg Prod.fst (hb w)) (congrArg Prod.snd (hb w)) h0 hn ((hh.row_slOk hr).some_ hk hz)
theorem sl0 (i : Nat) {t e t' : TypeId} {x y : Operand} {A : Option Addr} {c s : Nat} {hi : Int} {α : Type} {p : Bool} {E : Enc α} {l r : List α} (ho : o.op = .slice t x none (some y) none) (hx : evM M x = .slice A l.length c)
 (hb : ∀ w, (P.underlying t, (sizeOf e).run P w) = (some (.slice e), .ok s w)) (hr : nth H i = some (rowb p t' E A c l)) (hy : evM M y = .int .i64 hi) (hl : lslice l 0 hi = some r) :
 ∀ w, Hp w0 V H w → (execOp (evM M) o).run P w = .ok (.value (.slice A r.length c)) w := fun w hh => exec_slice_list0 (lx := none) (hx := some y) (k := .i64) (k' := .i64) ho hx (congrArg Prod.fst (hb w)) (congrArg Prod.snd (hb w)) (hh.row_slOk hr).1 rfl hy hl
end
section
variable {P : Program} {N : Sz} {w0 : World} {V : View} {H : List HObj} {M : List (Nat × Value)} {ops : Array Oper} {Q : Exit → Act → World → Prop} {o : Oper} {K : Act → World → Prop}
theorem W1.cln {α : Type} {E : Enc α} {t : TypeId} {r : List α} (f : FuncId) (l : List Value) (hb : ∀ w, (okO N ops M o, (execOp (evM M) o).run P w) = (true, .ok (.enter f l.toArray) w))
 (hf : ∀ w', Hp w0 V H w' → Calls P f l.toArray w' (fun e w2 => ∃ A' c', e = .returned (.slice A' r.length c') ∧ Hp w0 V (row t E A' c' r :: H) w2)) (h : ∀ A c, T N w0 V (row t E A c r :: H) (putM o.dst (.slice A r.length c) M) K) : W1 P Q ops o N w0 V H M K :=
 W1.callI f l (fun v w' => ∃ A c, v = .slice A r.length c ∧ Hp w0 V (row t E A c r :: H) w') (congrArg Prod.fst (hb w0)) (fun w => congrArg Prod.snd (hb w)) (fun w hh => (hf w hh).mono (by rintro e_ w_ ⟨A_, c_, rfl, h_⟩; exact ⟨_, rfl, A_, c_, rfl, h_⟩))
  (by rintro v w' ⟨A, c, rfl, hh⟩; exact ⟨V, _, hh, h A c⟩)
theorem W1.ns (t : TypeId) (cs : List Value) (hb : ∀ w : World, (okO N ops M o, (execOp (evM M) o).run P w) = (true, .ok (.value (.slice (some ⟨w.heap.size, 0, none⟩) 1 1)) { w with heap := w.heap.push (.cells cs.toArray t) }))
 (h : ∀ b, T N w0 V (box b t cs :: H) (putM o.dst (.slice (some ⟨b, 0, none⟩) 1 1) M) K) : W1 P Q ops o N w0 V H M K :=
 W1.new t cs (fun b => .slice (some ⟨b, 0, none⟩) 1 1) (congrArg Prod.fst (hb w0)) (fun w => congrArg Prod.snd (hb w)) h
theorem Fr.sel {M' : List (Nat × Value)} {a : Act} (hf : Fr N M a) (h : M'.map (fun p => lk M p.1) = M'.map (fun p => some p.2)) : Fr N M' a := by
 refine ⟨hf.defers, hf.size, fun t v hv => hf.get t v ?_⟩
 induction M' with
 | nil => cases hv
 | cons p M' ih =>
  obtain ⟨s, u⟩ := p
  simp only [List.map_cons, List.cons.injEq] at h
  simp only [lk] at hv
  cases hb : s.beq t with
  | true =>
   rw [hb, cond_true] at hv
   cases hv
   rw [← Nat.eq_of_beq_eq_true hb]; exact h.1
  | false =>
   rw [hb, cond_false] at hv
   exact ih h.2 hv
end
abbrev npQ (Q : Exit → Act → World → Prop) : Exit → Act → World → Prop := fun e a w => match e with | .panic _ => False | e => Q e a w
section
variable {P : Program} {N : Sz} {w0 : World} {V : View} {H : List HObj} {M : List (Nat × Value)} {Q : Exit → Act → World → Prop}
theorem T.heldN {id : Nat} {l : List Oper} (H0 : List HObj) (hm : P.follows .mixedOrders = true)
 (h : T N w0 V H M (wpAnyH P .any l.toArray (npQ Q) (Hp w0 V H0) l.length (Array.replicate l.length false))) : T N w0 V H M ((Code.region id l.toArray true).wpIn (RF none) 0 P Q) :=
 fun a w hf hh => Code.wpIn_mono (fun e a w hq => by cases e <;> first | exact hq | exact hq.elim) (T.held H0 hm h a w hf hh)
end
end Go.Proofs.Ytcmkdoahkncakaa
