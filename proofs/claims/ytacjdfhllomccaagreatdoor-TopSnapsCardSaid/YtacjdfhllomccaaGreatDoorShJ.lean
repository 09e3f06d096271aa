/- Short words for the chains of lifted proofs. Its conditions: none. -/
import Derived.Test.YtacjdfhllomccaaGreatDoorMapJ
import Derived.Test.YtacjdfhllomccaaGreatDoorTreeOJ
import Derived.Test.YtacjdfhllomccaaGreatDoorAnyLJ
import Derived.Test.YtacjdfhllomccaaGreatDoorLocalJ
namespace Go.Proofs.YtacjdfhllomccaaGreatDoor
section
variable {α : Type _} {l m : List α}
theorem kp0 : List.Sublist ([] : List α) l := List.nil_sublist _
theorem kpr : List.Sublist l l := List.Sublist.refl _
theorem kp1 {x0 : α} (h : l.Sublist m) : (x0 :: l).Sublist (x0 :: m) := h.cons_cons _
theorem kp2 {x0 x1 : α} (h : l.Sublist m) : (x0 :: x1 :: l).Sublist (x0 :: x1 :: m) := (kp1 h).cons_cons _
theorem dr1 {x0 : α} (h : l.Sublist m) : l.Sublist (x0 :: m) := h.cons _
theorem dr2 {x0 x1 : α} (h : l.Sublist m) : l.Sublist (x0 :: x1 :: m) := (dr1 h).cons _
end
class Steady {α : Type} (E : Enc α) : Prop where
 st : ∀ V V' cs x, E.rep V cs x → E.rep V' cs x
instance : Steady (eK .i64) := ⟨fun _ _ _ _ h => h⟩
instance : Steady eStr := ⟨fun _ _ _ _ h => h⟩
instance : Steady eBool := ⟨fun _ _ _ _ h => h⟩
instance : Steady eSpot := ⟨fun _ _ _ _ h => h⟩
instance : Steady eElem := ⟨fun _ _ _ _ h => h⟩
instance : Steady eHdr := ⟨fun _ _ _ _ h => h⟩
instance : Steady ebuild_low := ⟨fun _ _ _ _ h => h⟩
theorem ol0 : OldAll [] := OldAll.nil
theorem oB1 {b0 : Nat} {t0 : TypeId} {d0 : List Value} {H : List HObj} (h : OldAll H) : OldAll (box b0 t0 d0 :: H) := OldAll.box h
theorem oR1 {α0 : Type} {p0 : Bool} {t0 : TypeId} {E0 : Enc α0} [Steady E0] {A0 : Option Addr} {c0 : Nat} {l0 : List α0} {H : List HObj} (h : OldAll H) : OldAll (rowb p0 t0 E0 A0 c0 l0 :: H) := OldAll.row Steady.st h
section
variable {α : Type _} {l m n : List α}
theorem pz : l.Perm l := List.Perm.refl _
theorem pt (h : l.Perm m) (k : m.Perm n) : l.Perm n := List.Perm.trans h k
theorem sw0 {a b : α} : (b :: a :: l).Perm (a :: b :: l) := List.Perm.swap _ _ _
end
theorem vr {V : View} : View.le V V := View.le_refl _
theorem vt {V V' V'' : View} (h : View.le V V') (k : View.le V' V'') : View.le V V'' := View.le_trans h k
section
variable {P : Program} {N : Sz} {w0 : World} {V V0 : View} {H H0 : List HObj} {M : List (Nat × Value)} {ops : Array Oper} {Q : Exit → Act → World → Prop} {o : Oper} {fuel : Nat} {listed : Array Bool} {j0 : Nat}
theorem TA.tk (i : Nat) (v : Value) (hi : ops[i]? = some o) (hb : (Region.noSelect ops && Region.free .any ops listed i && (Region.ready .any ops listed).contains i && okO N ops M o) = true) (hQ : ∀ c a w, Q (.panic c) (a.put o.dst v) w → Q (.panic c) a w)
 (hS : ∀ w, Hp w0 V H w → Hp w0 V0 H0 w) (hv : ∀ w, Hp w0 V0 H0 w → (execOp (evM M) o).run P w = .ok (.value v) w)
 (h : T N w0 V H (putM o.dst v M) (wpAnyH P .any ops Q (Hp w0 V0 H0) fuel (listed.setIfInBounds i true))) :
 T N w0 V H M (wpAnyH P .any ops Q (Hp w0 V0 H0) (fuel + 1) listed) := by
 simp only [Bool.and_eq_true] at hb
 exact TA.take i v hi hb.1.1.1 hb.1.1.2 hb.1.2 hQ hS hb.2 hv h
theorem TL.tk (i : Nat) (v : Value) (c : List Nat) (hi : ops[i]? = some o) (hb : (Region.noSelect ops && Region.free .any ops listed i && (Region.ready .any ops listed).contains i && !(i == j0) && chainB .any ops j0 c i && closedB .any ops listed && okO N ops M o) = true) (hQ : ∀ c a w, Q (.panic c) (a.put o.dst v) w → Q (.panic c) a w)
 (hS : ∀ w, Hp w0 V H w → Hp w0 V0 H0 w) (hv : ∀ w, Hp w0 V0 H0 w → (execOp (evM M) o).run P w = .ok (.value v) w)
 (h : T N w0 V H (putM o.dst v M) (wpAnyL P .any ops Q j0 (Hp w0 V0 H0) fuel (listed.setIfInBounds i true))) :
 T N w0 V H M (wpAnyL P .any ops Q j0 (Hp w0 V0 H0) (fuel + 1) listed) := by
 simp only [Bool.and_eq_true, Bool.not_eq_true'] at hb
 exact TL.take i v c hi hb.1.1.1.1.1.1 hb.1.1.1.1.1.2 hb.1.1.1.1.2 hQ hb.1.1.1.2 hb.1.1.2 hb.1.2 hS hb.2 hv h
theorem TL.tp (i : Nat) (v : Value) (hi : ops[i]? = some o) (hb : (Region.noSelect ops && Region.free .any ops listed i && (Region.ready .any ops listed).contains i && !(i == j0) && okO N ops M o) = true) (hQ : ∀ c a w, Q (.panic c) (a.put o.dst v) w → Q (.panic c) a w)
 (hS : ∀ w, Hp w0 V H w → Hp w0 V0 H0 w) (hv : ∀ w, (execOp (evM M) o).run P w = .ok (.value v) w) (h : T N w0 V H (putM o.dst v M) (wpAnyL P .any ops Q j0 (Hp w0 V0 H0) fuel (listed.setIfInBounds i true))) :
 T N w0 V H M (wpAnyL P .any ops Q j0 (Hp w0 V0 H0) (fuel + 1) listed) := by
 simp only [Bool.and_eq_true, Bool.not_eq_true'] at hb
 exact TL.takeP i v hi hb.1.1.1.1 hb.1.1.1.2 hb.1.1.2 hQ hb.1.2 hS hb.2 hv h
theorem TA.tp (i : Nat) (v : Value) (hi : ops[i]? = some o) (hb : ∀ w, ((Region.noSelect ops && Region.free .any ops listed i && (Region.ready .any ops listed).contains i && okO N ops M o), (execOp (evM M) o).run P w) = (true, .ok (.value v) w)) (hQ : ∀ c a w, Q (.panic c) (a.put o.dst v) w → Q (.panic c) a w)
 (hS : ∀ w, Hp w0 V H w → Hp w0 V0 H0 w) (h : T N w0 V H (putM o.dst v M) (wpAnyH P .any ops Q (Hp w0 V0 H0) fuel (listed.setIfInBounds i true))) :
 T N w0 V H M (wpAnyH P .any ops Q (Hp w0 V0 H0) (fuel + 1) listed) := TA.tk i v hi (congrArg Prod.fst (hb w0)) hQ hS (fun w _ => congrArg Prod.snd (hb w)) h
theorem TA.keep (hS : ∀ w, Hp w0 V H w → Hp w0 V0 H0 w) (h : (∀ w, Hp w0 V H w → Hp w0 V0 H0 w) → T N w0 V H M (wpAnyH P .any ops Q (Hp w0 V0 H0) fuel listed)) : T N w0 V H M (wpAnyH P .any ops Q (Hp w0 V0 H0) fuel listed) := h hS
theorem TL.keep (hS : ∀ w, Hp w0 V H w → Hp w0 V0 H0 w) (h : (∀ w, Hp w0 V H w → Hp w0 V0 H0 w) → T N w0 V H M (wpAnyL P .any ops Q j0 (Hp w0 V0 H0) fuel listed)) : T N w0 V H M (wpAnyL P .any ops Q j0 (Hp w0 V0 H0) fuel listed) := h hS
theorem TA.onk {ψ : Act → World → Prop} (hS : ∀ w, Hp w0 V H w → Hp w0 V0 H0 w) (h : (∀ w, Hp w0 V H w → Hp w0 V0 H0 w) → T N w0 V H M ψ) : T N w0 V H M (fun a w => Hp w0 V0 H0 w ∧ ψ a w) := TA.on hS (h hS)
theorem TL.onk {b : Bool} {ψ : Act → World → Prop} (hS : ∀ w, Hp w0 V H w → Hp w0 V0 H0 w) (h : (∀ w, Hp w0 V H w → Hp w0 V0 H0 w) → T N w0 V H M ψ) : T N w0 V H M (fun a w => (b = false → Hp w0 V0 H0 w) ∧ ψ a w) := TL.on hS (h hS)
end
section
variable {rl : Option Nat} {P : Program} {N : Sz} {w0 : World} {V : View} {H : List HObj} {M : List (Nat × Value)} {ops : Array Oper} {Q : Exit → Act → World → Prop} {rest : List Oper} {o : Oper}
theorem T.pk (v : Value) (hb : ∀ w, ((okO N ops M o && noDefer o.op), (execOp (evM M) o).run P w) = (true, .ok (.value v) w)) (h : T N w0 V H (putM o.dst v M) (wpListIn (RF rl) 0 P ops Q rest)) :
 T N w0 V H M (wpListIn (RF rl) 0 P ops Q (o :: rest)) := by
 have h1 := congrArg Prod.fst (hb w0)
 simp only [Bool.and_eq_true] at h1
 exact T.pure v h1.1 (fun w => congrArg Prod.snd (hb w)) h h1.2
end
section
variable {P : Program} {N : Sz} {w0 : World} {V : View} {H : List HObj} {M : List (Nat × Value)} {ops : Array Oper} {Q : Exit → Act → World → Prop} {o : Oper} {K : Act → World → Prop}
theorem W1.st (i : Nat) {b : Nat} {t t2 : TypeId} {cs : List Value} {x y : Operand} {off : Nat} {v : Value} (cs' : List Value) (H' : List HObj) (vs : List Value) (hi : nth H i = some (box b t cs)) (hH : H.set i (box b t cs') = H')
 (ho : o.op = .store t2 x y) (hx : evM M x = .pointer (some ⟨b, off, none⟩)) (hy : evM M y = v) (hvs : v.cells = vs.toArray) (hcs : cs.take off ++ vs ++ cs.drop (off + vs.length) = cs')
 (hb : ∀ w, (okO N ops M o, vs.all Value.oneCell', Nat.ble (off + vs.length) cs.length, (sizeOf t2).run P w) = (true, true, true, .ok vs.length w)) (h : T N w0 V H' (putM o.dst undef M) K) : W1 P Q ops o N w0 V H M K := by
 have h1 : ∀ u ∈ vs, u.oneCell' = true := List.all_eq_true.1 (congrArg (fun q => q.2.1) (hb w0))
 have h2 : off + vs.length ≤ cs.length := Nat.le_of_ble_eq_true (congrArg (fun q => q.2.2.1) (hb w0))
 exact W1.store i cs' H' hi hH (congrArg Prod.fst (hb w0)) (fun w hw => exec_store ho hx hy hvs (congrArg (fun q => q.2.2.2) (hb w)) h1 h2 hcs hw) h
theorem ld1 (i : Nat) {b j : Nat} {t t2 : TypeId} {cs : List Value} {x : Operand} {v : Value} (ho : o.op = .load t2 x) (hx : evM M x = .pointer (some ⟨b, j, none⟩)) (ht : ∀ w, (isAgg t2).run P w = .ok false w) (hi : nth H i = some (box b t cs)) (hc : cs[j]? = some v) :
 ∀ w, Hp w0 V H w → (execOp (evM M) o).run P w = .ok (.value v) w := fun w hh => exec_load1 ho hx (ht w) ((hh.cellBox hi j).trans hc)
theorem W1.np (t : TypeId) (cs : List Value) (hb : ∀ w : World, (okO N ops M o, (execOp (evM M) o).run P w) = (true, .ok (.value (.pointer (some ⟨w.heap.size, 0, none⟩))) { w with heap := w.heap.push (.cells cs.toArray t) }))
 (h : ∀ b, T N w0 V (box b t cs :: H) (putM o.dst (.pointer (some ⟨b, 0, none⟩)) M) K) : W1 P Q ops o N w0 V H M K :=
 W1.new t cs (fun b => .pointer (some ⟨b, 0, none⟩)) (congrArg Prod.fst (hb w0)) (fun w => congrArg Prod.snd (hb w)) h
end
section
def pk (H : List HObj) (k : Nat) : List Nat → List HObj
 | [] => H.drop k
 | i :: is => match nth H i with
  | some x => x :: pk H k is
  | none => pk H k is
def okIx (k : Nat) : List Nat → Bool
 | [] => true
 | i :: is => Nat.blt i k && is.all (fun j => !Nat.beq i j) && okIx k is
theorem pk_mem {H : List HObj} {k : Nat} {y : HObj} : ∀ {is : List Nat}, y ∈ pk H k is → ∃ j, H[j]? = some y ∧ (j ∈ is ∨ k ≤ j)
 | [], h => by
  obtain ⟨i, hi⟩ := List.mem_iff_getElem?.1 (show y ∈ H.drop k from h)
  rw [List.getElem?_drop] at hi
  exact ⟨_, hi, .inr (Nat.le_add_right _ _)⟩
 | i :: is, h => by
  have go : y ∈ pk H k is → ∃ j, H[j]? = some y ∧ (j ∈ i :: is ∨ k ≤ j) := fun h => by
   obtain ⟨j, h1, h2⟩ := pk_mem h
   exact ⟨j, h1, h2.imp (List.mem_cons_of_mem _) id⟩
  unfold pk at h
  cases hn : nth H i with
  | none => rw [hn] at h; exact go h
  | some x =>
   rw [hn] at h
   rcases List.mem_cons.1 h with rfl | h
   · exact ⟨i, by rw [← nth_eq, hn], .inl (List.mem_cons_self ..)⟩
   · exact go h
theorem pk_pw {H : List HObj} {R : HObj → HObj → Prop} {k : Nat} (hs : ∀ x y, R x y → R y x) (hp : H.Pairwise R) : ∀ {is : List Nat}, okIx k is = true → (pk H k is).Pairwise R
 | [], _ => hp.sublist (List.drop_sublist _ _)
 | i :: is, h => by
  unfold okIx at h
  simp only [Bool.and_eq_true] at h
  have ih := pk_pw hs hp h.2
  unfold pk
  cases hn : nth H i with
  | none => exact ih
  | some x =>
   refine List.pairwise_cons.2 ⟨fun y hy => ?_, ih⟩
   obtain ⟨j, hj, hd⟩ := pk_mem hy
   have hi : H[i]? = some x := by rw [← nth_eq, hn]
   have hlt : i < k := Nat.le_of_ble_eq_true h.1.1
   have hne : i ≠ j := by
    rcases hd with hd | hd
    · have := List.all_eq_true.1 h.1.2 j hd
      intro e
      rw [e, Nat.beq_refl] at this
      cases this
    · omega
   obtain ⟨a1, e1⟩ := List.getElem?_eq_some_iff.1 hi
   obtain ⟨a2, e2⟩ := List.getElem?_eq_some_iff.1 hj
   rw [List.pairwise_iff_getElem] at hp
   rw [← e1, ← e2]
   rcases Nat.lt_or_gt_of_ne hne with hl | hl
   · exact hp i j a1 a2 hl
   · exact hs _ _ (hp j i a2 a1 hl)
theorem Hp.ix {w0 w : World} {V : View} {H H' : List HObj} (h : Hp w0 V H w) (k : Nat) (is : List Nat) (hd : okIx k is = true := by kernel_rfl) (he : H' = pk H k is := by rfl) : Hp w0 V H' w := by
 subst he
 have hm : ∀ x ∈ pk H k is, x ∈ H := fun x hx => by
  obtain ⟨j, hj, _⟩ := pk_mem hx
  exact List.mem_of_getElem? hj
 exact ⟨h.os, h.tape, h.output, h.size, h.view, h.base, fun x hx => h.objs x (hm x hx), fun x hx => h.apart x (hm x hx), pk_pw (fun x y hxy b hy hx => hxy b hx hy) h.sep hd⟩
end
end Go.Proofs.YtacjdfhllomccaaGreatDoor
