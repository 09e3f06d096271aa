/- Short words for the chains of lifted proofs. Its conditions: none. -/
import Derived.Test.YtcmkdoahkncakaaMapQ
import Derived.Test.YtcmkdoahkncakaaTreeOQ
import Derived.Test.YtcmkdoahkncakaaAnyLQ
import Derived.Test.YtcmkdoahkncakaaLocalQ
namespace Go.Proofs.Ytcmkdoahkncakaa
set_option linter.unusedVariables false
set_option linter.unusedSimpArgs false
section
variable {α : Type _} {l m : List α}
theorem kp0 : List.Sublist ([] : List α) l := List.nil_sublist _
theorem kpr : List.Sublist l l := List.Sublist.refl _
theorem kp1 {x0 : α} (h : l.Sublist m) : (x0 :: l).Sublist (x0 :: m) := h.cons_cons _
theorem kp2 {x0 x1 : α} (h : l.Sublist m) : (x0 :: x1 :: l).Sublist (x0 :: x1 :: m) := (kp1 h).cons_cons _
theorem kp3 {x0 x1 x2 : α} (h : l.Sublist m) : (x0 :: x1 :: x2 :: l).Sublist (x0 :: x1 :: x2 :: m) := (kp2 h).cons_cons _
theorem kp4 {x0 x1 x2 x3 : α} (h : l.Sublist m) : (x0 :: x1 :: x2 :: x3 :: l).Sublist (x0 :: x1 :: x2 :: x3 :: m) := (kp3 h).cons_cons _
theorem kp5 {x0 x1 x2 x3 x4 : α} (h : l.Sublist m) : (x0 :: x1 :: x2 :: x3 :: x4 :: l).Sublist (x0 :: x1 :: x2 :: x3 :: x4 :: m) := (kp4 h).cons_cons _
theorem kp6 {x0 x1 x2 x3 x4 x5 : α} (h : l.Sublist m) : (x0 :: x1 :: x2 :: x3 :: x4 :: x5 :: l).Sublist (x0 :: x1 :: x2 :: x3 :: x4 :: x5 :: m) := (kp5 h).cons_cons _
theorem kp7 {x0 x1 x2 x3 x4 x5 x6 : α} (h : l.Sublist m) : (x0 :: x1 :: x2 :: x3 :: x4 :: x5 :: x6 :: l).Sublist (x0 :: x1 :: x2 :: x3 :: x4 :: x5 :: x6 :: m) := (kp6 h).cons_cons _
theorem kp8 {x0 x1 x2 x3 x4 x5 x6 x7 : α} (h : l.Sublist m) : (x0 :: x1 :: x2 :: x3 :: x4 :: x5 :: x6 :: x7 :: l).Sublist (x0 :: x1 :: x2 :: x3 :: x4 :: x5 :: x6 :: x7 :: m) := (kp7 h).cons_cons _
theorem kp9 {x0 x1 x2 x3 x4 x5 x6 x7 x8 : α} (h : l.Sublist m) : (x0 :: x1 :: x2 :: x3 :: x4 :: x5 :: x6 :: x7 :: x8 :: l).Sublist (x0 :: x1 :: x2 :: x3 :: x4 :: x5 :: x6 :: x7 :: x8 :: m) := (kp8 h).cons_cons _
theorem kp10 {x0 x1 x2 x3 x4 x5 x6 x7 x8 x9 : α} (h : l.Sublist m) : (x0 :: x1 :: x2 :: x3 :: x4 :: x5 :: x6 :: x7 :: x8 :: x9 :: l).Sublist (x0 :: x1 :: x2 :: x3 :: x4 :: x5 :: x6 :: x7 :: x8 :: x9 :: m) := (kp9 h).cons_cons _
theorem kp11 {x0 x1 x2 x3 x4 x5 x6 x7 x8 x9 x10 : α} (h : l.Sublist m) : (x0 :: x1 :: x2 :: x3 :: x4 :: x5 :: x6 :: x7 :: x8 :: x9 :: x10 :: l).Sublist (x0 :: x1 :: x2 :: x3 :: x4 :: x5 :: x6 :: x7 :: x8 :: x9 :: x10 :: m) := (kp10 h).cons_cons _
theorem kp12 {x0 x1 x2 x3 x4 x5 x6 x7 x8 x9 x10 x11 : α} (h : l.Sublist m) : (x0 :: x1 :: x2 :: x3 :: x4 :: x5 :: x6 :: x7 :: x8 :: x9 :: x10 :: x11 :: l).Sublist (x0 :: x1 :: x2 :: x3 :: x4 :: x5 :: x6 :: x7 :: x8 :: x9 :: x10 :: x11 :: m) := (kp11 h).cons_cons _
theorem kp13 {x0 x1 x2 x3 x4 x5 x6 x7 x8 x9 x10 x11 x12 : α} (h : l.Sublist m) : (x0 :: x1 :: x2 :: x3 :: x4 :: x5 :: x6 :: x7 :: x8 :: x9 :: x10 :: x11 :: x12 :: l).Sublist (x0 :: x1 :: x2 :: x3 :: x4 :: x5 :: x6 :: x7 :: x8 :: x9 :: x10 :: x11 :: x12 :: m) := (kp12 h).cons_cons _
theorem kp14 {x0 x1 x2 x3 x4 x5 x6 x7 x8 x9 x10 x11 x12 x13 : α} (h : l.Sublist m) : (x0 :: x1 :: x2 :: x3 :: x4 :: x5 :: x6 :: x7 :: x8 :: x9 :: x10 :: x11 :: x12 :: x13 :: l).Sublist (x0 :: x1 :: x2 :: x3 :: x4 :: x5 :: x6 :: x7 :: x8 :: x9 :: x10 :: x11 :: x12 :: x13 :: m) := (kp13 h).cons_cons _
theorem kp15 {x0 x1 x2 x3 x4 x5 x6 x7 x8 x9 x10 x11 x12 x13 x14 : α} (h : l.Sublist m) : (x0 :: x1 :: x2 :: x3 :: x4 :: x5 :: x6 :: x7 :: x8 :: x9 :: x10 :: x11 :: x12 :: x13 :: x14 :: l).Sublist (x0 :: x1 :: x2 :: x3 :: x4 :: x5 :: x6 :: x7 :: x8 :: x9 :: x10 :: x11 :: x12 :: x13 :: x14 :: m) := (kp14 h).cons_cons _
theorem kp16 {x0 x1 x2 x3 x4 x5 x6 x7 x8 x9 x10 x11 x12 x13 x14 x15 : α} (h : l.Sublist m) : (x0 :: x1 :: x2 :: x3 :: x4 :: x5 :: x6 :: x7 :: x8 :: x9 :: x10 :: x11 :: x12 :: x13 :: x14 :: x15 :: l).Sublist (x0 :: x1 :: x2 :: x3 :: x4 :: x5 :: x6 :: x7 :: x8 :: x9 :: x10 :: x11 :: x12 :: x13 :: x14 :: x15 :: m) := (kp15 h).cons_cons _
theorem kp17 {x0 x1 x2 x3 x4 x5 x6 x7 x8 x9 x10 x11 x12 x13 x14 x15 x16 : α} (h : l.Sublist m) : (x0 :: x1 :: x2 :: x3 :: x4 :: x5 :: x6 :: x7 :: x8 :: x9 :: x10 :: x11 :: x12 :: x13 :: x14 :: x15 :: x16 :: l).Sublist (x0 :: x1 :: x2 :: x3 :: x4 :: x5 :: x6 :: x7 :: x8 :: x9 :: x10 :: x11 :: x12 :: x13 :: x14 :: x15 :: x16 :: m) := (kp16 h).cons_cons _
theorem dr1 {x0 : α} (h : l.Sublist m) : l.Sublist (x0 :: m) := h.cons _
theorem dr2 {x0 x1 : α} (h : l.Sublist m) : l.Sublist (x0 :: x1 :: m) := (dr1 h).cons _
theorem dr3 {x0 x1 x2 : α} (h : l.Sublist m) : l.Sublist (x0 :: x1 :: x2 :: m) := (dr2 h).cons _
theorem dr4 {x0 x1 x2 x3 : α} (h : l.Sublist m) : l.Sublist (x0 :: x1 :: x2 :: x3 :: m) := (dr3 h).cons _
theorem dr5 {x0 x1 x2 x3 x4 : α} (h : l.Sublist m) : l.Sublist (x0 :: x1 :: x2 :: x3 :: x4 :: m) := (dr4 h).cons _
theorem dr6 {x0 x1 x2 x3 x4 x5 : α} (h : l.Sublist m) : l.Sublist (x0 :: x1 :: x2 :: x3 :: x4 :: x5 :: m) := (dr5 h).cons _
theorem dr7 {x0 x1 x2 x3 x4 x5 x6 : α} (h : l.Sublist m) : l.Sublist (x0 :: x1 :: x2 :: x3 :: x4 :: x5 :: x6 :: m) := (dr6 h).cons _
theorem dr8 {x0 x1 x2 x3 x4 x5 x6 x7 : α} (h : l.Sublist m) : l.Sublist (x0 :: x1 :: x2 :: x3 :: x4 :: x5 :: x6 :: x7 :: m) := (dr7 h).cons _
end
class Steady {α : Type} (E : Enc α) : Prop where
 st : ∀ V V' cs x, E.rep V cs x → E.rep V' cs x
instance : Steady (eK .i64) := ⟨fun _ _ _ _ h => h⟩
instance : Steady eBool := ⟨fun _ _ _ _ h => h⟩
instance : Steady eSpot := ⟨fun _ _ _ _ h => h⟩
instance : Steady eElem := ⟨fun _ _ _ _ h => h⟩
instance : Steady eHdr := ⟨fun _ _ _ _ h => h⟩
instance : Steady ebuild_low := ⟨fun _ _ _ _ h => h⟩
theorem ol0 : OldAll [] := OldAll.nil
theorem oB1 {b0 : Nat} {t0 : TypeId} {d0 : List Value} {H : List HObj} (h : OldAll H) : OldAll (box b0 t0 d0 :: H) := OldAll.box h
theorem oB2 {b0 : Nat} {t0 : TypeId} {d0 : List Value} {b1 : Nat} {t1 : TypeId} {d1 : List Value} {H : List HObj} (h : OldAll H) : OldAll (box b0 t0 d0 :: box b1 t1 d1 :: H) := OldAll.box (oB1 h)
theorem oB3 {b0 : Nat} {t0 : TypeId} {d0 : List Value} {b1 : Nat} {t1 : TypeId} {d1 : List Value} {b2 : Nat} {t2 : TypeId} {d2 : List Value} {H : List HObj} (h : OldAll H) : OldAll (box b0 t0 d0 :: box b1 t1 d1 :: box b2 t2 d2 :: H) := OldAll.box (oB2 h)
theorem oB4 {b0 : Nat} {t0 : TypeId} {d0 : List Value} {b1 : Nat} {t1 : TypeId} {d1 : List Value} {b2 : Nat} {t2 : TypeId} {d2 : List Value} {b3 : Nat} {t3 : TypeId} {d3 : List Value} {H : List HObj} (h : OldAll H) : OldAll (box b0 t0 d0 :: box b1 t1 d1 :: box b2 t2 d2 :: box b3 t3 d3 :: H) := OldAll.box (oB3 h)
theorem oB5 {b0 : Nat} {t0 : TypeId} {d0 : List Value} {b1 : Nat} {t1 : TypeId} {d1 : List Value} {b2 : Nat} {t2 : TypeId} {d2 : List Value} {b3 : Nat} {t3 : TypeId} {d3 : List Value} {b4 : Nat} {t4 : TypeId} {d4 : List Value} {H : List HObj} (h : OldAll H) : OldAll (box b0 t0 d0 :: box b1 t1 d1 :: box b2 t2 d2 :: box b3 t3 d3 :: box b4 t4 d4 :: H) := OldAll.box (oB4 h)
theorem oR1 {α0 : Type} {p0 : Bool} {t0 : TypeId} {E0 : Enc α0} [Steady E0] {A0 : Option Addr} {c0 : Nat} {l0 : List α0} {H : List HObj} (h : OldAll H) : OldAll (rowb p0 t0 E0 A0 c0 l0 :: H) := OldAll.row Steady.st h
theorem oR2 {α0 : Type} {p0 : Bool} {t0 : TypeId} {E0 : Enc α0} [Steady E0] {A0 : Option Addr} {c0 : Nat} {l0 : List α0} {α1 : Type} {p1 : Bool} {t1 : TypeId} {E1 : Enc α1} [Steady E1] {A1 : Option Addr} {c1 : Nat} {l1 : List α1} {H : List HObj} (h : OldAll H) : OldAll (rowb p0 t0 E0 A0 c0 l0 :: rowb p1 t1 E1 A1 c1 l1 :: H) := OldAll.row Steady.st (oR1 h)
theorem oR3 {α0 : Type} {p0 : Bool} {t0 : TypeId} {E0 : Enc α0} [Steady E0] {A0 : Option Addr} {c0 : Nat} {l0 : List α0} {α1 : Type} {p1 : Bool} {t1 : TypeId} {E1 : Enc α1} [Steady E1] {A1 : Option Addr} {c1 : Nat} {l1 : List α1} {α2 : Type} {p2 : Bool} {t2 : TypeId} {E2 : Enc α2} [Steady E2] {A2 : Option Addr} {c2 : Nat} {l2 : List α2} {H : List HObj} (h : OldAll H) : OldAll (rowb p0 t0 E0 A0 c0 l0 :: rowb p1 t1 E1 A1 c1 l1 :: rowb p2 t2 E2 A2 c2 l2 :: H) := OldAll.row Steady.st (oR2 h)
theorem oR4 {α0 : Type} {p0 : Bool} {t0 : TypeId} {E0 : Enc α0} [Steady E0] {A0 : Option Addr} {c0 : Nat} {l0 : List α0} {α1 : Type} {p1 : Bool} {t1 : TypeId} {E1 : Enc α1} [Steady E1] {A1 : Option Addr} {c1 : Nat} {l1 : List α1} {α2 : Type} {p2 : Bool} {t2 : TypeId} {E2 : Enc α2} [Steady E2] {A2 : Option Addr} {c2 : Nat} {l2 : List α2} {α3 : Type} {p3 : Bool} {t3 : TypeId} {E3 : Enc α3} [Steady E3] {A3 : Option Addr} {c3 : Nat} {l3 : List α3} {H : List HObj} (h : OldAll H) : OldAll (rowb p0 t0 E0 A0 c0 l0 :: rowb p1 t1 E1 A1 c1 l1 :: rowb p2 t2 E2 A2 c2 l2 :: rowb p3 t3 E3 A3 c3 l3 :: H) := OldAll.row Steady.st (oR3 h)
theorem oR5 {α0 : Type} {p0 : Bool} {t0 : TypeId} {E0 : Enc α0} [Steady E0] {A0 : Option Addr} {c0 : Nat} {l0 : List α0} {α1 : Type} {p1 : Bool} {t1 : TypeId} {E1 : Enc α1} [Steady E1] {A1 : Option Addr} {c1 : Nat} {l1 : List α1} {α2 : Type} {p2 : Bool} {t2 : TypeId} {E2 : Enc α2} [Steady E2] {A2 : Option Addr} {c2 : Nat} {l2 : List α2} {α3 : Type} {p3 : Bool} {t3 : TypeId} {E3 : Enc α3} [Steady E3] {A3 : Option Addr} {c3 : Nat} {l3 : List α3} {α4 : Type} {p4 : Bool} {t4 : TypeId} {E4 : Enc α4} [Steady E4] {A4 : Option Addr} {c4 : Nat} {l4 : List α4} {H : List HObj} (h : OldAll H) : OldAll (rowb p0 t0 E0 A0 c0 l0 :: rowb p1 t1 E1 A1 c1 l1 :: rowb p2 t2 E2 A2 c2 l2 :: rowb p3 t3 E3 A3 c3 l3 :: rowb p4 t4 E4 A4 c4 l4 :: H) := OldAll.row Steady.st (oR4 h)
theorem oR6 {α0 : Type} {p0 : Bool} {t0 : TypeId} {E0 : Enc α0} [Steady E0] {A0 : Option Addr} {c0 : Nat} {l0 : List α0} {α1 : Type} {p1 : Bool} {t1 : TypeId} {E1 : Enc α1} [Steady E1] {A1 : Option Addr} {c1 : Nat} {l1 : List α1} {α2 : Type} {p2 : Bool} {t2 : TypeId} {E2 : Enc α2} [Steady E2] {A2 : Option Addr} {c2 : Nat} {l2 : List α2} {α3 : Type} {p3 : Bool} {t3 : TypeId} {E3 : Enc α3} [Steady E3] {A3 : Option Addr} {c3 : Nat} {l3 : List α3} {α4 : Type} {p4 : Bool} {t4 : TypeId} {E4 : Enc α4} [Steady E4] {A4 : Option Addr} {c4 : Nat} {l4 : List α4} {α5 : Type} {p5 : Bool} {t5 : TypeId} {E5 : Enc α5} [Steady E5] {A5 : Option Addr} {c5 : Nat} {l5 : List α5} {H : List HObj} (h : OldAll H) : OldAll (rowb p0 t0 E0 A0 c0 l0 :: rowb p1 t1 E1 A1 c1 l1 :: rowb p2 t2 E2 A2 c2 l2 :: rowb p3 t3 E3 A3 c3 l3 :: rowb p4 t4 E4 A4 c4 l4 :: rowb p5 t5 E5 A5 c5 l5 :: H) := OldAll.row Steady.st (oR5 h)
theorem oR7 {α0 : Type} {p0 : Bool} {t0 : TypeId} {E0 : Enc α0} [Steady E0] {A0 : Option Addr} {c0 : Nat} {l0 : List α0} {α1 : Type} {p1 : Bool} {t1 : TypeId} {E1 : Enc α1} [Steady E1] {A1 : Option Addr} {c1 : Nat} {l1 : List α1} {α2 : Type} {p2 : Bool} {t2 : TypeId} {E2 : Enc α2} [Steady E2] {A2 : Option Addr} {c2 : Nat} {l2 : List α2} {α3 : Type} {p3 : Bool} {t3 : TypeId} {E3 : Enc α3} [Steady E3] {A3 : Option Addr} {c3 : Nat} {l3 : List α3} {α4 : Type} {p4 : Bool} {t4 : TypeId} {E4 : Enc α4} [Steady E4] {A4 : Option Addr} {c4 : Nat} {l4 : List α4} {α5 : Type} {p5 : Bool} {t5 : TypeId} {E5 : Enc α5} [Steady E5] {A5 : Option Addr} {c5 : Nat} {l5 : List α5} {α6 : Type} {p6 : Bool} {t6 : TypeId} {E6 : Enc α6} [Steady E6] {A6 : Option Addr} {c6 : Nat} {l6 : List α6} {H : List HObj} (h : OldAll H) : OldAll (rowb p0 t0 E0 A0 c0 l0 :: rowb p1 t1 E1 A1 c1 l1 :: rowb p2 t2 E2 A2 c2 l2 :: rowb p3 t3 E3 A3 c3 l3 :: rowb p4 t4 E4 A4 c4 l4 :: rowb p5 t5 E5 A5 c5 l5 :: rowb p6 t6 E6 A6 c6 l6 :: H) := OldAll.row Steady.st (oR6 h)
theorem oR8 {α0 : Type} {p0 : Bool} {t0 : TypeId} {E0 : Enc α0} [Steady E0] {A0 : Option Addr} {c0 : Nat} {l0 : List α0} {α1 : Type} {p1 : Bool} {t1 : TypeId} {E1 : Enc α1} [Steady E1] {A1 : Option Addr} {c1 : Nat} {l1 : List α1} {α2 : Type} {p2 : Bool} {t2 : TypeId} {E2 : Enc α2} [Steady E2] {A2 : Option Addr} {c2 : Nat} {l2 : List α2} {α3 : Type} {p3 : Bool} {t3 : TypeId} {E3 : Enc α3} [Steady E3] {A3 : Option Addr} {c3 : Nat} {l3 : List α3} {α4 : Type} {p4 : Bool} {t4 : TypeId} {E4 : Enc α4} [Steady E4] {A4 : Option Addr} {c4 : Nat} {l4 : List α4} {α5 : Type} {p5 : Bool} {t5 : TypeId} {E5 : Enc α5} [Steady E5] {A5 : Option Addr} {c5 : Nat} {l5 : List α5} {α6 : Type} {p6 : Bool} {t6 : TypeId} {E6 : Enc α6} [Steady E6] {A6 : Option Addr} {c6 : Nat} {l6 : List α6} {α7 : Type} {p7 : Bool} {t7 : TypeId} {E7 : Enc α7} [Steady E7] {A7 : Option Addr} {c7 : Nat} {l7 : List α7} {H : List HObj} (h : OldAll H) : OldAll (rowb p0 t0 E0 A0 c0 l0 :: rowb p1 t1 E1 A1 c1 l1 :: rowb p2 t2 E2 A2 c2 l2 :: rowb p3 t3 E3 A3 c3 l3 :: rowb p4 t4 E4 A4 c4 l4 :: rowb p5 t5 E5 A5 c5 l5 :: rowb p6 t6 E6 A6 c6 l6 :: rowb p7 t7 E7 A7 c7 l7 :: H) := OldAll.row Steady.st (oR7 h)
section
variable {α : Type _} {l m n : List α}
theorem pz : l.Perm l := List.Perm.refl _
theorem pt (h : l.Perm m) (k : m.Perm n) : l.Perm n := List.Perm.trans h k
theorem sw0 {a b : α} : (b :: a :: l).Perm (a :: b :: l) := List.Perm.swap _ _ _
theorem sw1 {x0 a b : α} : (x0 :: b :: a :: l).Perm (x0 :: a :: b :: l) := (sw0).cons _
theorem sw2 {x0 x1 a b : α} : (x0 :: x1 :: b :: a :: l).Perm (x0 :: x1 :: a :: b :: l) := (sw1).cons _
theorem sw3 {x0 x1 x2 a b : α} : (x0 :: x1 :: x2 :: b :: a :: l).Perm (x0 :: x1 :: x2 :: a :: b :: l) := (sw2).cons _
theorem sw4 {x0 x1 x2 x3 a b : α} : (x0 :: x1 :: x2 :: x3 :: b :: a :: l).Perm (x0 :: x1 :: x2 :: x3 :: a :: b :: l) := (sw3).cons _
theorem sw5 {x0 x1 x2 x3 x4 a b : α} : (x0 :: x1 :: x2 :: x3 :: x4 :: b :: a :: l).Perm (x0 :: x1 :: x2 :: x3 :: x4 :: a :: b :: l) := (sw4).cons _
theorem sw6 {x0 x1 x2 x3 x4 x5 a b : α} : (x0 :: x1 :: x2 :: x3 :: x4 :: x5 :: b :: a :: l).Perm (x0 :: x1 :: x2 :: x3 :: x4 :: x5 :: a :: b :: l) := (sw5).cons _
theorem sw7 {x0 x1 x2 x3 x4 x5 x6 a b : α} : (x0 :: x1 :: x2 :: x3 :: x4 :: x5 :: x6 :: b :: a :: l).Perm (x0 :: x1 :: x2 :: x3 :: x4 :: x5 :: x6 :: a :: b :: l) := (sw6).cons _
theorem sw8 {x0 x1 x2 x3 x4 x5 x6 x7 a b : α} : (x0 :: x1 :: x2 :: x3 :: x4 :: x5 :: x6 :: x7 :: b :: a :: l).Perm (x0 :: x1 :: x2 :: x3 :: x4 :: x5 :: x6 :: x7 :: a :: b :: l) := (sw7).cons _
theorem sw9 {x0 x1 x2 x3 x4 x5 x6 x7 x8 a b : α} : (x0 :: x1 :: x2 :: x3 :: x4 :: x5 :: x6 :: x7 :: x8 :: b :: a :: l).Perm (x0 :: x1 :: x2 :: x3 :: x4 :: x5 :: x6 :: x7 :: x8 :: a :: b :: l) := (sw8).cons _
theorem sw10 {x0 x1 x2 x3 x4 x5 x6 x7 x8 x9 a b : α} : (x0 :: x1 :: x2 :: x3 :: x4 :: x5 :: x6 :: x7 :: x8 :: x9 :: b :: a :: l).Perm (x0 :: x1 :: x2 :: x3 :: x4 :: x5 :: x6 :: x7 :: x8 :: x9 :: a :: b :: l) := (sw9).cons _
theorem pc1 {x0 : α} (h : l.Perm m) : (x0 :: l).Perm (x0 :: m) := h.cons _
theorem pc2 {x0 x1 : α} (h : l.Perm m) : (x0 :: x1 :: l).Perm (x0 :: x1 :: m) := (pc1 h).cons _
theorem pc3 {x0 x1 x2 : α} (h : l.Perm m) : (x0 :: x1 :: x2 :: l).Perm (x0 :: x1 :: x2 :: m) := (pc2 h).cons _
theorem pc4 {x0 x1 x2 x3 : α} (h : l.Perm m) : (x0 :: x1 :: x2 :: x3 :: l).Perm (x0 :: x1 :: x2 :: x3 :: m) := (pc3 h).cons _
end
theorem vr {V : View} : View.le V V := View.le_refl _
theorem vt {V V' V'' : View} (h : View.le V V') (k : View.le V' V'') : View.le V V'' := View.le_trans h k
section
variable {P : Program} {N : Sz} {w0 : World} {V V0 : View} {H H0 : List HObj} {M : List (Nat × Value)} {ops : Array Oper} {Q : Exit → Act → World → Prop} {o : Oper} {fuel : Nat} {listed : Array Bool} {j0 : Nat}
theorem TA.tk (i : Nat) (v : Value) (hi : ops[i]? = some o) (hb : (Region.noSelect ops && Region.free .any ops listed i && (Region.ready .any ops listed).contains i && okO N ops M o) = true) (hQ : ∀ c a w, Q (.panic c) (a.put o.dst v) w → Q (.panic c) a w)
 (hS : ∀ w, Hp w0 V H w → Hp w0 V0 H0 w) (hv : ∀ w, Hp w0 V0 H0 w → (execOp (evM M) o).run P w = .ok (.value v) w)
 (h : T N w0 V H (putM o.dst v M) (wpAnyH P .any ops Q (Hp w0 V0 H0) fuel (listed.setIfInBounds i true))) :
 T N w0 V H M (wpAnyH P .any ops Q (Hp w0 V0 H0) (fuel + 1) listed) := by
 simp only [Bool.and_eq_true] at hb
 exact TA.take i v hi hb.1.1.1 hb.1.1.2 hb.1.2 hQ hS hb.2 hv h
theorem TL.tk (i : Nat) (v : Value) (c : List Nat) (hi : ops[i]? = some o) (hb : (Region.noSelect ops && Region.free .any ops listed i && (Region.ready .any ops listed).contains i && !(i == j0) && chainB .any ops j0 c i && closedB .any ops listed && okO N ops M o) = true) (hQ : ∀ c a w, Q (.panic c) (a.put o.dst v) w → Q (.panic c) a w)
 (hS : ∀ w, Hp w0 V H w → Hp w0 V0 H0 w) (hv : ∀ w, Hp w0 V0 H0 w → (execOp (evM M) o).run P w = .ok (.value v) w)
 (h : T N w0 V H (putM o.dst v M) (wpAnyL P .any ops Q j0 (Hp w0 V0 H0) fuel (listed.setIfInBounds i true))) :
 T N w0 V H M (wpAnyL P .any ops Q j0 (Hp w0 V0 H0) (fuel + 1) listed) := by
 simp only [Bool.and_eq_true, Bool.not_eq_true'] at hb
 exact TL.take i v c hi hb.1.1.1.1.1.1 hb.1.1.1.1.1.2 hb.1.1.1.1.2 hQ hb.1.1.1.2 hb.1.1.2 hb.1.2 hS hb.2 hv h
theorem TL.tp (i : Nat) (v : Value) (hi : ops[i]? = some o) (hb : (Region.noSelect ops && Region.free .any ops listed i && (Region.ready .any ops listed).contains i && !(i == j0) && okO N ops M o) = true) (hQ : ∀ c a w, Q (.panic c) (a.put o.dst v) w → Q (.panic c) a w)
 (hS : ∀ w, Hp w0 V H w → Hp w0 V0 H0 w) (hv : ∀ w, (execOp (evM M) o).run P w = .ok (.value v) w) (h : T N w0 V H (putM o.dst v M) (wpAnyL P .any ops Q j0 (Hp w0 V0 H0) fuel (listed.setIfInBounds i true))) :
 T N w0 V H M (wpAnyL P .any ops Q j0 (Hp w0 V0 H0) (fuel + 1) listed) := by
 simp only [Bool.and_eq_true, Bool.not_eq_true'] at hb
 exact TL.takeP i v hi hb.1.1.1.1 hb.1.1.1.2 hb.1.1.2 hQ hb.1.2 hS hb.2 hv h
theorem TA.tp (i : Nat) (v : Value) (hi : ops[i]? = some o) (hb : ∀ w, ((Region.noSelect ops && Region.free .any ops listed i && (Region.ready .any ops listed).contains i && okO N ops M o), (execOp (evM M) o).run P w) = (true, .ok (.value v) w)) (hQ : ∀ c a w, Q (.panic c) (a.put o.dst v) w → Q (.panic c) a w)
 (hS : ∀ w, Hp w0 V H w → Hp w0 V0 H0 w) (h : T N w0 V H (putM o.dst v M) (wpAnyH P .any ops Q (Hp w0 V0 H0) fuel (listed.setIfInBounds i true))) :
 T N w0 V H M (wpAnyH P .any ops Q (Hp w0 V0 H0) (fuel + 1) listed) := TA.tk i v hi (congrArg Prod.fst (hb w0)) hQ hS (fun w _ => congrArg Prod.snd (hb w)) h
theorem TL.tv (i : Nat) (v : Value) (hi : ops[i]? = some o) (hb : ∀ w, ((Region.noSelect ops && Region.free .any ops listed i && (Region.ready .any ops listed).contains i && !(i == j0) && okO N ops M o), (execOp (evM M) o).run P w) = (true, .ok (.value v) w)) (hQ : ∀ c a w, Q (.panic c) (a.put o.dst v) w → Q (.panic c) a w)
 (hS : ∀ w, Hp w0 V H w → Hp w0 V0 H0 w) (h : T N w0 V H (putM o.dst v M) (wpAnyL P .any ops Q j0 (Hp w0 V0 H0) fuel (listed.setIfInBounds i true))) :
 T N w0 V H M (wpAnyL P .any ops Q j0 (Hp w0 V0 H0) (fuel + 1) listed) := TL.tp i v hi (congrArg Prod.fst (hb w0)) hQ hS (fun w => congrArg Prod.snd (hb w)) h
theorem TA.keep (hS : ∀ w, Hp w0 V H w → Hp w0 V0 H0 w) (h : (∀ w, Hp w0 V H w → Hp w0 V0 H0 w) → T N w0 V H M (wpAnyH P .any ops Q (Hp w0 V0 H0) fuel listed)) : T N w0 V H M (wpAnyH P .any ops Q (Hp w0 V0 H0) fuel listed) := h hS
theorem TL.keep (hS : ∀ w, Hp w0 V H w → Hp w0 V0 H0 w) (h : (∀ w, Hp w0 V H w → Hp w0 V0 H0 w) → T N w0 V H M (wpAnyL P .any ops Q j0 (Hp w0 V0 H0) fuel listed)) : T N w0 V H M (wpAnyL P .any ops Q j0 (Hp w0 V0 H0) fuel listed) := h hS
theorem TA.onk {ψ : Act → World → Prop} (hS : ∀ w, Hp w0 V H w → Hp w0 V0 H0 w) (h : (∀ w, Hp w0 V H w → Hp w0 V0 H0 w) → T N w0 V H M ψ) : T N w0 V H M (fun a w => Hp w0 V0 H0 w ∧ ψ a w) := TA.on hS (h hS)
theorem TL.onk {b : Bool} {ψ : Act → World → Prop} (hS : ∀ w, Hp w0 V H w → Hp w0 V0 H0 w) (h : (∀ w, Hp w0 V H w → Hp w0 V0 H0 w) → T N w0 V H M ψ) : T N w0 V H M (fun a w => (b = false → Hp w0 V0 H0 w) ∧ ψ a w) := TL.on hS (h hS)
end
section
variable {rl : Option Nat} {P : Program} {N : Sz} {w0 : World} {V : View} {H : List HObj} {M : List (Nat × Value)} {ops : Array Oper} {Q : Exit → Act → World → Prop} {rest : List Oper} {o : Oper}
theorem T.pk (v : Value) (hb : ∀ w, ((okO N ops M o && noDefer o.op), (execOp (evM M) o).run P w) = (true, .ok (.value v) w)) (h : T N w0 V H (putM o.dst v M) (wpListIn (RF rl) 0 P ops Q rest)) :
 T N w0 V H M (wpListIn (RF rl) 0 P ops Q (o :: rest)) := by
 have h1 := congrArg Prod.fst (hb w0)
 simp only [Bool.and_eq_true] at h1
 exact T.pure v h1.1 (fun w => congrArg Prod.snd (hb w)) h h1.2
end
section
variable {P : Program} {N : Sz} {w0 : World} {V : View} {H : List HObj} {M : List (Nat × Value)} {ops : Array Oper} {Q : Exit → Act → World → Prop} {o : Oper} {K : Act → World → Prop}
theorem W1.st (i : Nat) {b : Nat} {t t2 : TypeId} {cs : List Value} {x y : Operand} {off : Nat} {v : Value} (cs' : List Value) (H' : List HObj) (vs : List Value) (hi : nth H i = some (box b t cs)) (hH : H.set i (box b t cs') = H')
 (ho : o.op = .store t2 x y) (hx : evM M x = .pointer (some ⟨b, off, none⟩)) (hy : evM M y = v) (hvs : v.cells = vs.toArray) (hcs : cs.take off ++ vs ++ cs.drop (off + vs.length) = cs')
 (hb : ∀ w, (okO N ops M o, vs.all Value.oneCell', Nat.ble (off + vs.length) cs.length, (sizeOf t2).run P w) = (true, true, true, .ok vs.length w)) (h : T N w0 V H' (putM o.dst undef M) K) : W1 P Q ops o N w0 V H M K := by
 have h1 : ∀ u ∈ vs, u.oneCell' = true := List.all_eq_true.1 (congrArg (fun q => q.2.1) (hb w0))
 have h2 : off + vs.length ≤ cs.length := Nat.le_of_ble_eq_true (congrArg (fun q => q.2.2.1) (hb w0))
 exact W1.store i cs' H' hi hH (congrArg Prod.fst (hb w0)) (fun w hw => exec_store ho hx hy hvs (congrArg (fun q => q.2.2.2) (hb w)) h1 h2 hcs hw) h
theorem ld1 (i : Nat) {b j : Nat} {t t2 : TypeId} {cs : List Value} {x : Operand} {v : Value} (ho : o.op = .load t2 x) (hx : evM M x = .pointer (some ⟨b, j, none⟩)) (ht : ∀ w, (isAgg t2).run P w = .ok false w) (hi : nth H i = some (box b t cs)) (hc : cs[j]? = some v) :
 ∀ w, Hp w0 V H w → (execOp (evM M) o).run P w = .ok (.value v) w := fun w hh => exec_load1 ho hx (ht w) ((hh.cellBox hi j).trans hc)
theorem W1.np (t : TypeId) (cs : List Value) (hb : ∀ w : World, (okO N ops M o, (execOp (evM M) o).run P w) = (true, .ok (.value (.pointer (some ⟨w.heap.size, 0, none⟩))) { w with heap := w.heap.push (.cells cs.toArray t) }))
 (h : ∀ b, T N w0 V (box b t cs :: H) (putM o.dst (.pointer (some ⟨b, 0, none⟩)) M) K) : W1 P Q ops o N w0 V H M K :=
 W1.new t cs (fun b => .pointer (some ⟨b, 0, none⟩)) (congrArg Prod.fst (hb w0)) (fun w => congrArg Prod.snd (hb w)) h
end
end Go.Proofs.Ytcmkdoahkncakaa
